import PyProof.Rows.All
import Wide.All
import OpenK.AllK
import Wide.FinOn
import HandS.ForMost
import HandS.TupAny
import HandS.Conv
import HandS.IsInst
import HandS.Defaults
import HandS.TupMul
import HandS.TupLe
import HandS.Text
import KE.DataEq
import KE.LtData
import KE.DataCmp
import KE.SortData
import HandS.Codes
import KE.KIndexOf
import KE.KTupSum
import HandS.Zip
import KE.GoesNew
import KE.KDictZip
import HandS.ListItems
import HandS.HeadHook1
import HandS.HeadHook2
import HandS.HeadHook3
import HandS.HeadHook4
import PyProof.Rows.StrMul
import PyProof.Rows.StrJoinRep
import HandS.Style
import HandS.Head2
import HandS.HeadEnd
import PySem.Challenge.RW_truthtold_k73_whole_even_sums
set_option Elab.async false
set_option linter.all false
set_option maxRecDepth 100000
set_option maxHeartbeats 4000000
namespace TT
open PySem PySem.Spec PyProof.Rows L2

/-! ### data: python values as trees -/
inductive D where
  | non | bl (b : Bool) | int (i : Int) | str (s : List Nat) | tup (xs : List D) | lst (xs : List D)
  | dk (ks : List Key) (vs : List D) | dt (ks : List (List Key)) (vs : List D) | fn (i : Nat) | cup | scr (ns : List Int)
instance : Inhabited D := ⟨.non⟩

structure Wd where
  K : PySem.W.Frag
  fa : Nat → Addr

abbrev Pc := Option Addr
abbrev Fb := Addr → Prop
abbrev Cup := Int × Int

/-- a tuple of the written part -/
def KTup (K : PySem.W.Frag) (a : Addr) (xs : List V) : Prop := ∃ (o : Obj) (its : Array Value) (n : Nat), K.lookup a = some o ∧ o.cls = .type "tuple" ∧ o.data = .seq its n ∧ its.size ≤ sizeLine ∧ Vals xs its.toList
def KLst (K : PySem.W.Frag) (a : Addr) (xs : List V) : Prop := ∃ (o : Obj) (its : Array Value) (n : Nat), K.lookup a = some o ∧ o.cls = .type "list" ∧ o.dict = none ∧ o.data = .seq its n ∧ its.size ≤ sizeLine ∧ Vals xs its.toList
mutual
/-- v stands for d in the heap H; no list or tuple of it lies at an address of F -/
inductive Rep (W : Wd) (pc : Pc) (F : Fb) (H : Hp) : D → V → Prop
  | non : Rep W pc F H .non .non
  | bl (b : Bool) : Rep W pc F H (.bl b) (.bl b)
  | int (i : Int) : Rep W pc F H (.int i) (.int i)
  | str (s : List Nat) (h : s.length ≤ sizeLine) : Rep W pc F H (.str s) (.str ⟨s.toArray⟩)
  | tup {a : Addr} {xs : List V} {ds : List D} (nf : ¬ F a) (sq : Rd H a (.tup xs)) (len : ds.length ≤ sizeLine) (rs : Reps W pc F H ds xs) : Rep W pc F H (.tup ds) (.ref a)
  | tupK {a : Addr} {xs : List V} {ds : List D} (sq : KTup W.K a xs) (len : ds.length ≤ sizeLine) (rs : Reps W pc F H ds xs) : Rep W pc F H (.tup ds) (.ref a)
  | lst {a : Addr} {xs : List V} {ds : List D} (nf : ¬ F a) (sq : H a = some (.lst xs)) (len : ds.length ≤ sizeLine) (rs : Reps W pc F H ds xs) : Rep W pc F H (.lst ds) (.ref a)
  | dk {a : Addr} {kvs : List (Key × V)} {ks : List Key} {ds : List D} (nf : ¬ F a) (sq : H a = some (.dK kvs)) (ke : kvs.map (·.1) = ks) (rs : Reps W pc F H ds (kvs.map (·.2))) : Rep W pc F H (.dk ks ds) (.ref a)
  | dt {a : Addr} {kvs : List (List Key × V)} {ks : List (List Key)} {ds : List D} (nf : ¬ F a) (sq : H a = some (.dT kvs)) (ke : kvs.map (·.1) = ks) (rs : Reps W pc F H ds (kvs.map (·.2))) : Rep W pc F H (.dt ks ds) (.ref a)
  | fn (i : Nat) : Rep W pc F H (.fn i) (.ref (W.fa i))
  | cup {p : Addr} (h : pc = some p) : Rep W pc F H .cup (.ref p)
  | scr {a : Addr} {ns : List Int} (nf : ¬ F a) (sq : Rd H a (.lst (ns.map V.int))) (len : ns.length ≤ 63) : Rep W pc F H (.scr ns) (.ref a)
  | scrK {a : Addr} {ns : List Int} (sq : KLst W.K a (ns.map V.int)) (len : ns.length ≤ 63) : Rep W pc F H (.scr ns) (.ref a)
inductive Reps (W : Wd) (pc : Pc) (F : Fb) (H : Hp) : List D → List V → Prop
  | nil : Reps W pc F H [] []
  | cons {d : D} {ds : List D} {v : V} {vs : List V} (r : Rep W pc F H d v) (rs : Reps W pc F H ds vs) : Reps W pc F H (d :: ds) (v :: vs)
end

def Grow (pc : Pc) (H H' : Hp) : Prop := ∀ a o, pc ≠ some a → H a = some o → H' a = some o
/-- what is not forbidden stands -/
def GrowF (F : Fb) (H H' : Hp) : Prop := ∀ a o, ¬ F a → H a = some o → H' a = some o
def CupIs (pc : Pc) (c : Cup) (H : Hp) : Prop := ∀ p, pc = some p → H p = some (.lst [.int c.1, .int c.2])

section
variable {W : Wd} {pc : Pc} {F F' : Fb} {H H' H'' : Hp}
theorem Grow.refl : Grow pc H H := fun _ _ _ h => h
theorem Grow.trans (g : Grow pc H H') (g' : Grow pc H' H'') : Grow pc H H'' := fun a o n h => g' a o n (g a o n h)
theorem Grow.new {p : Addr} {o : HO} (h : H p = none) : Grow pc H (upd H p o) := fun a u _ e => by
  rw [upd_ne (ne_of_none e h)]; exact e
theorem Grow.rd (g : Grow pc H H') {a : Addr} {u : HO} (n : pc ≠ some a) (h : Rd H a u) : Rd H' a u := by
  rcases h with h | ⟨o, h⟩
  · exact .inl (g _ _ n h)
  · exact .inr ⟨o, g _ _ n h⟩
theorem Grow.gf (g : Grow pc H H') (hp : ∀ p, pc = some p → F p) : GrowF F H H' := fun a o n e => g a o (fun z => n (hp _ z)) e
theorem GrowF.rd (g : GrowF F H H') {a : Addr} {u : HO} (n : ¬ F a) (h : Rd H a u) : Rd H' a u := by
  rcases h with h | ⟨o, h⟩
  · exact .inl (g _ _ n h)
  · exact .inr ⟨o, g _ _ n h⟩
theorem Grow.sql (g : Grow pc H H') {a : Addr} {xs : List V} (n : pc ≠ some a) (h : SqL W.K H a xs) : SqL W.K H' a xs := by
  rcases h with h | h
  · exact .inl (g.rd n h)
  · exact .inr h
theorem Grow.sqt (g : Grow pc H H') {a : Addr} {xs : List V} (n : pc ≠ some a) (h : SqT W.K H a xs) : SqT W.K H' a xs := by
  rcases h with h | h
  · exact .inl (g.rd n h)
  · exact .inr h
theorem Grow.none (g : Grow pc H H') {a : Addr} (n : pc ≠ some a) (h : H' a = Option.none) : H a = Option.none := by
  cases e : H a with
  | none => rfl
  | some o => rw [g a o n e] at h; cases h
mutual
theorem Rep.mono (g : GrowF F H H') (hF : ∀ a, F' a → F a) : ∀ {d : D} {v : V}, Rep W pc F H d v → Rep W pc F' H' d v
  | _, _, .non => .non
  | _, _, .bl b => .bl b
  | _, _, .int i => .int i
  | _, _, .str s h => .str s h
  | _, _, .tup nf sq len rs => .tup (fun z => nf (hF _ z)) (g.rd nf sq) len (Reps.mono g hF rs)
  | _, _, .tupK sq len rs => .tupK sq len (Reps.mono g hF rs)
  | _, _, .lst nf sq len rs => .lst (fun z => nf (hF _ z)) (g _ _ nf sq) len (Reps.mono g hF rs)
  | _, _, .dk nf sq ke rs => .dk (fun z => nf (hF _ z)) (g _ _ nf sq) ke (Reps.mono g hF rs)
  | _, _, .dt nf sq ke rs => .dt (fun z => nf (hF _ z)) (g _ _ nf sq) ke (Reps.mono g hF rs)
  | _, _, .fn i => .fn i
  | _, _, .cup h => .cup h
  | _, _, .scr nf sq len => .scr (fun z => nf (hF _ z)) (g.rd nf sq) len
  | _, _, .scrK sq len => .scrK sq len
theorem Reps.mono (g : GrowF F H H') (hF : ∀ a, F' a → F a) : ∀ {ds : List D} {vs : List V}, Reps W pc F H ds vs → Reps W pc F' H' ds vs
  | _, _, .nil => .nil
  | _, _, .cons r rs => .cons (Rep.mono g hF r) (Reps.mono g hF rs)
end
mutual
/-- a new address may be forbidden as well -/
theorem Rep.forbid {p : Addr} (hn : H p = none) : ∀ {d : D} {v : V}, Rep W pc F H d v → Rep W pc (fun a => F a ∨ a = p) H d v
  | _, _, .non => .non
  | _, _, .bl b => .bl b
  | _, _, .int i => .int i
  | _, _, .str s h => .str s h
  | _, _, .tup nf sq len rs => .tup (fun z => z.elim nf fun e => by
      rcases sq with q | ⟨o, q⟩
      · rw [e, hn] at q; cases q
      · rw [e, hn] at q; cases q) sq len (Reps.forbid hn rs)
  | _, _, .tupK sq len rs => .tupK sq len (Reps.forbid hn rs)
  | _, _, .lst nf sq len rs => .lst (fun z => z.elim nf fun e => by rw [e, hn] at sq; cases sq) sq len (Reps.forbid hn rs)
  | _, _, .dk nf sq ke rs => .dk (fun z => z.elim nf fun e => by rw [e, hn] at sq; cases sq) sq ke (Reps.forbid hn rs)
  | _, _, .dt nf sq ke rs => .dt (fun z => z.elim nf fun e => by rw [e, hn] at sq; cases sq) sq ke (Reps.forbid hn rs)
  | _, _, .fn i => .fn i
  | _, _, .cup h => .cup h
  | _, _, .scrK sq len => .scrK sq len
  | _, _, .scr nf sq len => .scr (fun z => z.elim nf fun e => by
      rcases sq with q | ⟨o, q⟩
      · rw [e, hn] at q; cases q
      · rw [e, hn] at q; cases q) sq len
theorem Reps.forbid {p : Addr} (hn : H p = none) : ∀ {ds : List D} {vs : List V}, Reps W pc F H ds vs → Reps W pc (fun a => F a ∨ a = p) H ds vs
  | _, _, .nil => .nil
  | _, _, .cons r rs => .cons (Rep.forbid hn r) (Reps.forbid hn rs)
end
theorem Rep.tupS {ds : List D} {v : V} (r : Rep W pc F H (.tup ds) v) : ∃ a xs, v = .ref a ∧ SqT W.K H a xs ∧ ds.length ≤ sizeLine ∧ Reps W pc F H ds xs := by
  cases r with
  | tup nf sq len rs => exact ⟨_, _, rfl, .inl sq, len, rs⟩
  | tupK sq len rs => exact ⟨_, _, rfl, .inr sq, len, rs⟩
theorem Rep.lstS {ds : List D} {v : V} (r : Rep W pc F H (.lst ds) v) : ∃ a xs, v = .ref a ∧ ¬ F a ∧ SqL W.K H a xs ∧ ds.length ≤ sizeLine ∧ Reps W pc F H ds xs := by
  cases r with
  | lst nf sq len rs => exact ⟨_, _, rfl, nf, .inl (.inl sq), len, rs⟩
theorem Reps.length : ∀ {ds : List D} {vs : List V}, Reps W pc F H ds vs → ds.length = vs.length
  | _, _, .nil => rfl
  | _, _, .cons _ rs => by simp [Reps.length rs]
theorem Reps.get : ∀ {ds : List D} {vs : List V} {i : Nat} {d : D}, Reps W pc F H ds vs → ds[i]? = some d → ∃ v, vs[i]? = some v ∧ Rep W pc F H d v
  | _, _, _, _, .nil, h => by simp at h
  | _, _, 0, _, .cons r _, h => by simp at h; subst h; exact ⟨_, rfl, r⟩
  | _, _, i + 1, _, .cons _ rs, h => by
    obtain ⟨v, e, r⟩ := Reps.get (i := i) rs (by simpa using h)
    exact ⟨v, by simpa using e, r⟩
theorem Reps.get' : ∀ {ds : List D} {vs : List V} {i : Nat} {v : V}, Reps W pc F H ds vs → vs[i]? = some v → ∃ d, ds[i]? = some d ∧ Rep W pc F H d v
  | _, _, _, _, .nil, h => by simp at h
  | _, _, 0, _, .cons r _, h => by simp at h; subst h; exact ⟨_, rfl, r⟩
  | _, _, i + 1, _, .cons _ rs, h => by
    obtain ⟨v, e, r⟩ := Reps.get' (i := i) rs (by simpa using h)
    exact ⟨v, by simpa using e, r⟩
theorem Reps.append : ∀ {ds es : List D} {vs us : List V}, Reps W pc F H ds vs → Reps W pc F H es us → Reps W pc F H (ds ++ es) (vs ++ us)
  | _, _, _, _, .nil, s => s
  | _, _, _, _, .cons r rs, s => .cons r (Reps.append rs s)
theorem Reps.set {d : D} {v : V} (r : Rep W pc F H d v) : ∀ {ds : List D} {vs : List V} (i : Nat), Reps W pc F H ds vs → Reps W pc F H (ds.set i d) (vs.set i v)
  | _, _, _, .nil => .nil
  | _, _, 0, .cons _ rs => .cons r rs
  | _, _, i + 1, .cons q rs => .cons q (Reps.set r i rs)
theorem Reps.take : ∀ {ds : List D} {vs : List V} (n : Nat), Reps W pc F H ds vs → Reps W pc F H (ds.take n) (vs.take n)
  | _, _, 0, _ => .nil
  | _, _, _ + 1, .nil => .nil
  | _, _, n + 1, .cons r rs => .cons r (Reps.take n rs)
theorem Reps.drop : ∀ {ds : List D} {vs : List V} (n : Nat), Reps W pc F H ds vs → Reps W pc F H (ds.drop n) (vs.drop n)
  | _, _, 0, s => s
  | _, _, _ + 1, .nil => .nil
  | _, _, n + 1, .cons _ rs => Reps.drop n rs
end

/-! ### frames -/
inductive Sl where
  | fz (d : D) | ow (d : D)
abbrev En := List (Option Sl)

def OwnIs (W : Wd) (pc : Pc) (F : Fb) (H : Hp) : D → Addr → Prop
  | .lst ds, a => ∃ xs, H a = some (.lst xs) ∧ ds.length ≤ sizeLine ∧ Reps W pc F H ds xs
  | .dk ks ds, a => ∃ kvs : List (Key × V), H a = some (.dK kvs) ∧ kvs.map (·.1) = ks ∧ ks.length ≤ sizeLine ∧ Reps W pc F H ds (kvs.map (·.2))
  | .dt ks ds, a => ∃ kvs : List (List Key × V), H a = some (.dT kvs) ∧ kvs.map (·.1) = ks ∧ ks.length ≤ sizeLine ∧ Reps W pc F H ds (kvs.map (·.2))
  | _, _ => False
/-- the forbidden addresses: those of the callers, and the owned ones -/
def Fo (F0 : Fb) (ε : En) (σ : L2.St) : Fb := fun a => F0 a ∨ ∃ (i : Nat) (d : D), ε[i]? = some (some (.ow d)) ∧ σ[i]? = some (some (.ref a))

structure Rl (W : Wd) (pc : Pc) (F0 : Fb) (H0 : Hp) (ps : List (D × V)) (ε : En) (c : Cup) (σ : L2.St) (H : Hp) : Prop where
  len : σ.length = ε.length
  dom : ∀ a, F0 a → H a ≠ none
  pcF : ∀ p, pc = some p → F0 p
  grow : Grow pc H0 H
  cup : CupIs pc c H
  fz : ∀ (i : Nat) (d : D), ε[i]? = some (some (.fz d)) → ∃ v, σ[i]? = some (some v) ∧ Rep W pc (Fo F0 ε σ) H d v
  ow : ∀ (i : Nat) (d : D), ε[i]? = some (some (.ow d)) → ∃ a, σ[i]? = some (some (.ref a)) ∧ ¬ F0 a ∧ H0 a = none ∧ OwnIs W pc (Fo F0 ε σ) H d a
  pin : ∀ p ∈ ps, Rep W pc (Fo F0 ε σ) H p.1 p.2
  inj : ∀ (i j : Nat) (d e : D) (a : Addr), ε[i]? = some (some (.ow d)) → ε[j]? = some (some (.ow e)) → σ[i]? = some (some (.ref a)) → σ[j]? = some (some (.ref a)) → i = j

section
variable {W : Wd} {pc : Pc} {F0 F : Fb} {H0 H H' : Hp} {ps : List (D × V)} {ε : En} {c c' : Cup} {σ : L2.St}
theorem OwnIs.mono {d : D} {a : Addr} {F' : Fb} (g : GrowF F H H') (n : ∀ o, H a = some o → H' a = some o) (hF : ∀ a, F' a → F a) (h : OwnIs W pc F H d a) : OwnIs W pc F' H' d a := by
  cases d with
  | lst ds => obtain ⟨xs, e, l, rs⟩ := h; exact ⟨xs, n _ e, l, rs.mono g hF⟩
  | dk ks ds => obtain ⟨xs, e, k, l, rs⟩ := h; exact ⟨xs, n _ e, k, l, rs.mono g hF⟩
  | dt ks ds => obtain ⟨xs, e, k, l, rs⟩ := h; exact ⟨xs, n _ e, k, l, rs.mono g hF⟩
  | _ => exact h.elim
theorem OwnIs.there {d : D} {a : Addr} (h : OwnIs W pc F H d a) : ∃ o, H a = some o ∧ Mut (some o) := by
  cases d with
  | lst ds => obtain ⟨xs, e, _⟩ := h; exact ⟨_, e, True.intro⟩
  | dk ks ds => obtain ⟨xs, e, _⟩ := h; exact ⟨_, e, True.intro⟩
  | dt ks ds => obtain ⟨xs, e, _⟩ := h; exact ⟨_, e, True.intro⟩
  | _ => exact h.elim
theorem Rl.foP (R : Rl W pc F0 H0 ps ε c σ H) : ∀ p, pc = some p → Fo F0 ε σ p := fun p h => .inl (R.pcF p h)
theorem Rl.foDom (R : Rl W pc F0 H0 ps ε c σ H) : ∀ a, Fo F0 ε σ a → H a ≠ none := fun a h => by
  rcases h with h | ⟨i, d, e, s⟩
  · exact R.dom a h
  · obtain ⟨b, sb, _, _, ob⟩ := R.ow i d e
    rw [s] at sb; cases sb
    obtain ⟨o, ho, _⟩ := ob.there
    rw [ho]; simp
/-- the heap grows, the cup may have turned -/
theorem Rl.step (R : Rl W pc F0 H0 ps ε c σ H) (g : Grow pc H H') (cu : CupIs pc c' H') : Rl W pc F0 H0 ps ε c' σ H' where
  len := R.len
  dom := fun a h => by
    by_cases e : pc = some a
    · rw [cu a e]; simp
    · cases q : H a with
      | none => exact absurd q (R.dom a h)
      | some o => rw [g a o e q]; simp
  pcF := R.pcF
  grow := R.grow.trans g
  cup := cu
  fz := fun i d e => by
    obtain ⟨v, s, r⟩ := R.fz i d e
    exact ⟨v, s, r.mono (g.gf R.foP) fun _ h => h⟩
  ow := fun i d e => by
    obtain ⟨a, s, n, h0, o⟩ := R.ow i d e
    exact ⟨a, s, n, h0, o.mono (g.gf R.foP) (fun u => g a u fun z => n (R.pcF a z)) fun _ h => h⟩
  pin := fun p h => (R.pin p h).mono (g.gf R.foP) fun _ h => h
  inj := R.inj
theorem Rl.fresh (R : Rl W pc F0 H0 ps ε c σ H) {p : Addr} (h : H p = none) : ¬ Fo F0 ε σ p ∧ pc ≠ some p ∧ H0 p = none := by
  have h1 : ¬ Fo F0 ε σ p := fun z => R.foDom p z h
  have h2 : pc ≠ some p := fun z => h1 (R.foP p z)
  exact ⟨h1, h2, R.grow.none h2 h⟩
end

/-! ### readings -/
abbrev SE := En → Cup → Option (D × Cup)
abbrev SL := En → Cup → Option (List D × Cup)
inductive Out where
  | nx (ε : En) (c : Cup) | rt (d : D) (c : Cup) | bk (ε : En) (c : Cup) | ct (ε : En) (c : Cup)
abbrev SS := En → Cup → Option Out

/-- a value that may be an owned one: its items are read, it is not kept -/
inductive Sh (W : Wd) (pc : Pc) (F : Fb) (H : Hp) : D → V → Prop
  | of {d : D} {v : V} (r : Rep W pc F H d v) : Sh W pc F H d v
  | own {d : D} {a : Addr} (n : pc ≠ some a) (o : OwnIs W pc F H d a) : Sh W pc F H d (.ref a)

def tE (W : Wd) (f : SE) : TE := fun σ H Q => ∃ pc F0 H0 ps ε c d c', Rl W pc F0 H0 ps ε c σ H ∧ f ε c = some (d, c') ∧ ∀ v H', Grow pc H H' → CupIs pc c' H' → Rep W pc (Fo F0 ε σ) H' d v → Q v H'
/-- what is read, not kept -/
def tP (W : Wd) (f : SE) : TE := fun σ H Q => ∃ pc F0 H0 ps ε c d c', Rl W pc F0 H0 ps ε c σ H ∧ f ε c = some (d, c') ∧ ∀ v H', Grow pc H H' → CupIs pc c' H' → Sh W pc (Fo F0 ε σ) H' d v → Q v H'
/-- a new object -/
def tN (W : Wd) (f : SE) : TE := fun σ H Q => ∃ pc F0 H0 ps ε c d c', Rl W pc F0 H0 ps ε c σ H ∧ f ε c = some (d, c') ∧ ∀ a H', Grow pc H H' → CupIs pc c' H' → H a = none → OwnIs W pc (fun b => Fo F0 ε σ b ∨ b = a) H' d a → Q (.ref a) H'
def tA (W : Wd) (f : SL) : TA := fun σ H Q => ∃ pc F0 H0 ps ε c ds c', Rl W pc F0 H0 ps ε c σ H ∧ f ε c = some (ds, c') ∧ ∀ vs H', Grow pc H H' → CupIs pc c' H' → Reps W pc (Fo F0 ε σ) H' ds vs → Q vs H'
def tT (W : Wd) (f : En → Cup → Option (Bool × Cup)) : TT := fun σ H Q => ∃ pc F0 H0 ps ε c b c', Rl W pc F0 H0 ps ε c σ H ∧ f ε c = some (b, c') ∧ ∀ H', Grow pc H H' → CupIs pc c' H' → Q b H'
def endOf (W : Wd) (pc : Pc) (F0 : Fb) (H0 : Hp) (ps : List (D × V)) (E : Ends) : Out → Prop
  | .nx ε c => ∀ σ H, Rl W pc F0 H0 ps ε c σ H → E.nx σ H
  | .bk ε c => ∀ σ H, Rl W pc F0 H0 ps ε c σ H → E.bk σ H
  | .ct ε c => ∀ σ H, Rl W pc F0 H0 ps ε c σ H → E.ct σ H
  | .rt d c => ∀ v H, Grow pc H0 H → CupIs pc c H → Rep W pc F0 H d v → E.rt v H
def tS (W : Wd) (f : SS) : TS := fun E σ H => ∃ pc F0 H0 ps ε c o, Rl W pc F0 H0 ps ε c σ H ∧ f ε c = some o ∧ endOf W pc F0 H0 ps E o

section
variable {X : Cx} {W : Wd} {e : Expr} {t t' : TE}
theorem PE.imp (h : PE X e t) (i : ∀ σ H Q, t' σ H Q → t σ H Q) : PE X e t' := ⟨fun pins s σ H Q I hw => h.run pins s σ H Q I (i σ H Q hw)⟩
theorem PT.imp {t t' : TT} (h : PT X e t) (i : ∀ σ H Q, t' σ H Q → t σ H Q) : PT X e t' := ⟨fun pins s σ H Q I hw => h.run pins s σ H Q I (i σ H Q hw)⟩
theorem PA.imp {es : List Expr} {t t' : TA} (h : PA X es t) (i : ∀ σ H Q, t' σ H Q → t σ H Q) : PA X es t' := ⟨fun pos pins s σ H Q I hw => h.run pos pins s σ H Q I (i σ H Q hw)⟩
theorem PS.imp {st : Stmt} {t t' : TS} (h : PS X st t) (i : ∀ E σ H, t' E σ H → t E σ H) : PS X st t' := ⟨fun pins s σ H E I hw => h.run pins s σ H E I (i E σ H hw)⟩
theorem PSs.imp {st : List Stmt} {t t' : TS} (h : PSs X st t) (i : ∀ E σ H, t' E σ H → t E σ H) : PSs X st t' := ⟨fun pins s σ H E I hw => h.run pins s σ H E I (i E σ H hw)⟩
/-- a rule may use the state's invariant -/
theorem PE.inv {t : TE} (h : ∀ pins s σ H, L2.Inv X pins σ H s → ∀ Q, t' σ H Q → t σ H Q) (p : PE X e t) : PE X e t' := ⟨fun pins s σ H Q I hw => p.run pins s σ H Q I (h pins s σ H I Q hw)⟩
end
end TT

set_option Elab.async false
set_option linter.all false
set_option maxRecDepth 100000
set_option maxHeartbeats 4000000
namespace TT
open PySem PySem.Spec PyProof.Rows L2
section
variable {X : Cx} {W : Wd} {pc : Pc} {F0 F : Fb} {H0 H H' : Hp} {ps : List (D × V)} {ε : En} {c c' : Cup} {σ : L2.St} {e e2 : Expr} {es : List Expr} {pos : Pos} {i : Nat} {x : Str} {f g : SE} {fs : SL}

/-! ### names, constants -/
def eVar (i : Nat) : SE := fun ε c => match ε[i]? with
  | some (some (.fz d)) => some (d, c)
  | _ => none
def ePk (i : Nat) : SE := fun ε c => match ε[i]? with
  | some (some (.fz d)) => some (d, c)
  | some (some (.ow d)) => some (d, c)
  | _ => none
theorem eVar_some {d : D} (h : eVar i ε c = some (d, c')) : ε[i]? = some (some (.fz d)) ∧ c' = c := by
  unfold eVar at h
  split at h
  · next d' e => cases h; exact ⟨e, rfl⟩
  · cases h
theorem d_var (i : Nat) {x : Str} (hN : X.N[i]? = some x := by rfl) (hv : Vis X.env.scope x := by first | exact Or.inl rfl | exact Or.inr (Or.inl rfl) | exact Or.inr (Or.inr rfl)) (hd : (x == ("__debug__" : Str)) = false := by decide)
    (hcd : (x == ("__classdict__" : Str)) = false := by decide) : PE X (.Name x pos) (tE W (eVar i)) :=
  PE.imp (pe_var hN hv hd hcd) fun σ H Q ⟨pc, F0, H0, ps, ε, c, d, c', R, ef, k⟩ => by
    obtain ⟨e1, rfl⟩ := eVar_some ef
    obtain ⟨v, s, r⟩ := R.fz i d e1
    exact ⟨v, s, k v H Grow.refl R.cup r⟩
theorem d_pk (i : Nat) {x : Str} (hN : X.N[i]? = some x := by rfl) (hv : Vis X.env.scope x := by first | exact Or.inl rfl | exact Or.inr (Or.inl rfl) | exact Or.inr (Or.inr rfl)) (hd : (x == ("__debug__" : Str)) = false := by decide)
    (hcd : (x == ("__classdict__" : Str)) = false := by decide) : PE X (.Name x pos) (tP W (ePk i)) :=
  PE.imp (pe_var hN hv hd hcd) fun σ H Q ⟨pc, F0, H0, ps, ε, c, d, c', R, ef, k⟩ => by
    unfold ePk at ef
    split at ef
    · next d' e1 =>
      cases ef
      obtain ⟨v, s, r⟩ := R.fz i d e1
      exact ⟨v, s, k v H Grow.refl R.cup (.of r)⟩
    · next d' e1 =>
      cases ef
      obtain ⟨a, s, n, h0, o⟩ := R.ow i d e1
      exact ⟨.ref a, s, k _ H Grow.refl R.cup (.own (fun z => n (R.pcF a z)) o)⟩
    · cases ef
theorem d_up (h : PE X e (tE W f)) : PE X e (tP W f) :=
  PE.imp h fun σ H Q ⟨pc, F0, H0, ps, ε, c, d, c', R, ef, k⟩ => ⟨pc, F0, H0, ps, ε, c, d, c', R, ef, fun v H' g cu r => k v H' g cu (.of r)⟩
theorem OwnIs.rep {d : D} {a : Addr} (h : OwnIs W pc (fun b => F b ∨ b = a) H d a) (n : ¬ F a) : Rep W pc F H d (.ref a) := by
  have g : GrowF (fun b => F b ∨ b = a) H H := fun _ _ _ e => e
  cases d with
  | lst ds => obtain ⟨xs, e, l, rs⟩ := h; exact .lst n e l (rs.mono g fun _ z => .inl z)
  | dk ks ds => obtain ⟨xs, e, k, l, rs⟩ := h; exact .dk n e k (rs.mono g fun _ z => .inl z)
  | dt ks ds => obtain ⟨xs, e, k, l, rs⟩ := h; exact .dt n e k (rs.mono g fun _ z => .inl z)
  | _ => exact h.elim
theorem d_new (h : PE X e (tN W f)) : PE X e (tE W f) :=
  PE.imp h fun σ H Q ⟨pc, F0, H0, ps, ε, c, d, c', R, ef, k⟩ => ⟨pc, F0, H0, ps, ε, c, d, c', R, ef, fun a H' g cu n o => k _ H' g cu (o.rep (R.fresh n).1)⟩
def eC (d : D) : SE := fun _ c => some (d, c)
theorem d_c {v : V} {d : D} (h : PE X e (tC v)) (r : ∀ pc F H, Rep W pc F H d v) : PE X e (tE W (eC d)) :=
  PE.imp h fun σ H Q ⟨pc, F0, H0, ps, ε, c, d', c', R, ef, k⟩ => by cases ef; exact k v H Grow.refl R.cup (r _ _ _)
theorem d_int {i : Int} {j : Nat} : PE X (.Constant (.int i) j pos) (tE W (eC (.int i))) := d_c pe_int fun _ _ _ => .int i
theorem d_bl {b : Bool} {j : Nat} : PE X (.Constant (.bool b) j pos) (tE W (eC (.bl b))) := d_c pe_bl fun _ _ _ => .bl b
theorem d_non {j : Nat} : PE X (.Constant .none j pos) (tE W (eC .non)) := d_c pe_non fun _ _ _ => .non
theorem d_str {s : Str} {j : Nat} (l : List Nat) (he : s = ⟨l.toArray⟩ := by decide +kernel) (hl : l.length ≤ sizeLine := by decide) : PE X (.Constant (.str s) j pos) (tE W (eC (.str l))) :=
  d_c pe_str fun _ _ _ => by rw [he]; exact .str l hl
theorem d_glob {v : V} {d : D} {u : Value} (hg : Gl X x) (hm : X.mg x = some u) (rv : RelV v u) (r : ∀ pc F H, Rep W pc F H d v) (hd : (x == ("__debug__" : Str)) = false := by decide) : PE X (.Name x pos) (tE W (eC d)) :=
  d_c (pe_glob hg hm rv hd) r

/-! ### lists of expressions -/
def lNil : SL := fun _ c => some ([], c)
def lCons (f : SE) (fs : SL) : SL := fun ε c => match f ε c with
  | some (d, c1) => (match fs ε c1 with
    | some (ds, c2) => some (d :: ds, c2)
    | none => none)
  | none => none
theorem lCons_some {ds : List D} (h : lCons f fs ε c = some (ds, c')) : ∃ d c1 r, f ε c = some (d, c1) ∧ fs ε c1 = some (r, c') ∧ ds = d :: r := by
  unfold lCons at h
  split at h
  · next d c1 e1 =>
    split at h
    · next r c2 e2 => cases h; exact ⟨d, c1, r, e1, e2, rfl⟩
    · cases h
  · cases h
theorem a_nil : PA X [] (tA W lNil) := PA.imp pa_nil fun σ H Q ⟨pc, F0, H0, ps, ε, c, ds, c', R, ef, k⟩ => by cases ef; exact k [] H Grow.refl R.cup .nil
theorem a_cons (h : PE X e (tE W f)) (hs : PA X es (tA W fs)) (he : starEach (e :: es) X.env = (false, eval e X.env) :: starEach es X.env := by rfl) : PA X (e :: es) (tA W (lCons f fs)) :=
  PA.imp (pa_cons h hs he) fun σ H Q ⟨pc, F0, H0, ps, ε, c, ds, c', R, ef, k⟩ => by
    obtain ⟨d, c1, r, e1, e2, rfl⟩ := lCons_some ef
    refine ⟨pc, F0, H0, ps, ε, c, d, c1, R, e1, fun v H1 g1 cu1 r1 => ?_⟩
    have R1 := R.step g1 cu1
    refine ⟨pc, F0, H0, ps, ε, c1, r, c', R1, e2, fun vs H2 g2 cu2 rs => ?_⟩
    exact k (v :: vs) H2 (g1.trans g2) cu2 (.cons (r1.mono (g2.gf R1.foP) fun _ z => z) rs)
def Al (n : Nat) (fs : SL) : Prop := ∀ ε c ds c', fs ε c = some (ds, c') → ds.length = n
theorem al_nil : Al 0 lNil := fun _ _ _ _ h => by cases h; rfl
theorem al_cons {n : Nat} (h : Al n fs) : Al (n + 1) (lCons f fs) := fun _ _ _ _ e => by
  obtain ⟨d, c1, r, _, e2, rfl⟩ := lCons_some e
  simp [h _ _ _ _ e2]
theorem cup_new {p : Addr} {o : HO} (cu : CupIs pc c H) (h : H p = none) : CupIs pc c (upd H p o) := fun q e => by
  rw [upd_ne (ne_of_none (cu q e) h)]; exact cu q e

def eTup (fs : SL) : SE := fun ε c => match fs ε c with
  | some (ds, c1) => some (.tup ds, c1)
  | none => none
def eLst (fs : SL) : SE := fun ε c => match fs ε c with
  | some (ds, c1) => some (.lst ds, c1)
  | none => none
theorem d_tup {n k : Nat} (hs : PA X es (tA W fs)) (al : Al n fs) (hn : n ≤ 1000 := by decide) : PE X (.Tuple es k pos) (tE W (eTup fs)) :=
  PE.imp (pe_tup hs) fun σ H Q ⟨pc, F0, H0, ps, ε, c, d, c', R, ef, k⟩ => by
    unfold eTup at ef
    split at ef
    · next ds c1 e1 =>
      cases ef
      have hl : ds.length ≤ sizeLine := by rw [al _ _ _ _ e1]; exact Nat.le_trans hn (by decide)
      refine ⟨pc, F0, H0, ps, ε, c, ds, c', R, e1, fun vs H1 g1 cu1 rs => ⟨by rw [← rs.length]; exact hl, fun p hp => ?_⟩⟩
      have R1 := R.step g1 cu1
      have fr := R1.fresh hp
      refine k _ _ (g1.trans (Grow.new hp)) (cup_new cu1 hp) (.tup fr.1 (.inl upd_same) hl (rs.mono ((Grow.new (pc := pc) hp).gf R1.foP) fun _ z => z))
    · cases ef
theorem d_lst {n : Nat} (hs : PA X es (tA W fs)) (al : Al n fs) (hn : n ≤ 1000 := by decide) : PE X (.List es pos) (tN W (eLst fs)) :=
  PE.imp (pe_lst hs) fun σ H Q ⟨pc, F0, H0, ps, ε, c, d, c', R, ef, k⟩ => by
    unfold eLst at ef
    split at ef
    · next ds c1 e1 =>
      cases ef
      have hl : ds.length ≤ sizeLine := by rw [al _ _ _ _ e1]; exact Nat.le_trans hn (by decide)
      refine ⟨pc, F0, H0, ps, ε, c, ds, c', R, e1, fun vs H1 g1 cu1 rs => ⟨by rw [← rs.length]; exact hl, fun p hp => ?_⟩⟩
      have R1 := R.step g1 cu1
      have fr := R1.fresh hp
      have hp0 : H p = none := g1.none fr.2.1 hp
      refine k _ _ (g1.trans (Grow.new hp)) (cup_new cu1 hp) hp0 ⟨vs, upd_same, hl, ?_⟩
      exact (rs.forbid hp).mono (fun a o n q => by rw [upd_ne (fun z => n (.inr z))]; exact q) fun _ z => z
    · cases ef

/-! ### calls of defs -/
abbrev Mi := List D → Cup → Option (D × Cup)
/-- the promise of a def: it hands back the mirror's value, what stood stands (but the cup) -/
def spM (W : Wd) (m : Mi) (n : Nat) : Sp := fun vs H Q _ => ∃ pc F c ds d c', ds.length = n ∧ Reps W pc F H ds vs ∧ (∀ a, F a → H a ≠ none) ∧ (∀ p, pc = some p → F p) ∧ CupIs pc c H ∧ m ds c = some (d, c') ∧
  ∀ v H', Grow pc H H' → CupIs pc c' H' → Rep W pc F H' d v → Q v H'
def eCall (m : Mi) (fs : SL) : SE := fun ε c => match fs ε c with
  | some (ds, c1) => m ds c1
  | none => none
theorem tCall_of {m : Mi} {n : Nat} (al : Al n fs) : ∀ σ H Q, tE W (eCall m fs) σ H Q → tCall (spM W m n) [] E0 (tA W fs) σ H Q := fun σ H Q ⟨pc, F0, H0, ps, ε, c, d, c', R, ef, k⟩ => by
  unfold eCall at ef
  split at ef
  · next ds c1 e1 =>
    refine ⟨pc, F0, H0, ps, ε, c, ds, c1, R, e1, fun vs H1 g1 cu1 rs => ?_⟩
    have R1 := R.step g1 cu1
    show spM W m n (vs ++ []) H1 Q E0
    rw [List.append_nil]
    exact ⟨pc, Fo F0 ε σ, c1, ds, d, c', al _ _ _ _ e1, rs, R1.foDom, R1.foP, cu1, ef, fun v H' g cu r => k v H' (g1.trans g) cu r⟩
  · cases ef
theorem d_call {m : Mi} {n k : Nat} {f : Addr} {fd : FuncData} {pms : List Str} {p : Pos} (G : FnOk X.prog X.w X.K X.mg X.base CX0 k f fd pms (spM W m n)) (hr : Room k X.A) (hg : Gl X x) (hm : X.mg x = some (.ref f))
    (hk : PySem.W.keepIn X.K (.ref f) = true) (hb : Binds X.K fd pms []) (ha : PA X (e :: es) (tA W fs)) (al : Al n fs) (hdb : (x == ("__debug__" : Str)) = false := by decide)
    (he : starEach (e :: es) X.env = (false, eval e X.env) :: starEach es X.env := by rfl) (hpl : (backTo pos (starEach es X.env)).any (·.1) = false := by rfl) : PE X (.Call (.Name x p) (e :: es) [] pos) (tE W (eCall m fs)) :=
  PE.imp (pe_call G hr hg hm hk hb .nil pass0 ha hdb he hpl) (tCall_of al)
theorem d_call0 {m : Mi} {k : Nat} {f : Addr} {fd : FuncData} {pms : List Str} {p : Pos} (G : FnOk X.prog X.w X.K X.mg X.base CX0 k f fd pms (spM W m 0)) (hr : Room k X.A) (hg : Gl X x) (hm : X.mg x = some (.ref f))
    (hk : PySem.W.keepIn X.K (.ref f) = true) (hb : Binds X.K fd pms []) (hdb : (x == ("__debug__" : Str)) = false := by decide) : PE X (.Call (.Name x p) [] [] pos) (tE W (eCall m lNil)) :=
  PE.imp (pe_call0 G hr hg hm hk hb .nil pass0 hdb) fun σ H Q ⟨pc, F0, H0, ps, ε, c, d, c', R, ef, k⟩ => by
    show spM W m 0 [] H Q E0
    exact ⟨pc, Fo F0 ε σ, c, [], d, c', rfl, .nil, R.foDom, R.foP, R.cup, ef, k⟩

/-! ### tests -/
abbrev SB := En → Cup → Option (Bool × Cup)
/-- a value that is a bool -/
def bOf (f : SE) : SB := fun ε c => match f ε c with
  | some (.bl b, c1) => some (b, c1)
  | _ => none
def truD : D → Bool
  | .non => false
  | .bl b => b
  | .int i => i != 0
  | .str s => !s.isEmpty
  | .tup xs => !xs.isEmpty
  | .lst xs => !xs.isEmpty
  | .dk ks _ => !ks.isEmpty
  | _ => false
def hasTru : D → Bool
  | .dt _ _ => false
  | .fn _ => false
  | .cup => false
  | .scr _ => false
  | _ => true
/-- a value's truth -/
def bTru (f : SE) : SB := fun ε c => match f ε c with
  | some (d, c1) => if hasTru d then some (truD d, c1) else none
  | none => none
theorem bOf_some {b : Bool} (h : bOf f ε c = some (b, c')) : f ε c = some (.bl b, c') := by
  unfold bOf at h
  split at h
  · next b' c1 e => cases h; exact e
  · cases h
theorem tTest_of : ∀ σ H Q, tT W (bOf f) σ H Q → tTest (tE W f) σ H Q := fun σ H Q ⟨pc, F0, H0, ps, ε, c, b, c', R, ef, k⟩ =>
  ⟨pc, F0, H0, ps, ε, c, .bl b, c', R, bOf_some ef, fun v H' g cu r => by cases r; exact ⟨b, rfl, k H' g cu⟩⟩
theorem q_val (h : PE X e (tE W f)) (he : ∀ whole, isTrue e X.env whole = (do let v ← whole; standAt e.pos; holding [v] (truthy v)) := by intro _; rfl) : PT X e (tT W (bOf f)) :=
  PT.imp (pt_val h he) tTest_of
theorem q_cmp {a b : Expr} {op : CmpOp} (h : PE X (.Compare a [op] [b] pos) (tE W f)) (h1 : ∀ t, PE X (.Compare a [op] [b] pos) t → PT X (.Compare a [op] [b] pos) (tTest t)) : PT X (.Compare a [op] [b] pos) (tT W (bOf f)) :=
  PT.imp (h1 _ h) tTest_of
def qNot (q : SB) : SB := fun ε c => match q ε c with
  | some (b, c1) => some (!b, c1)
  | none => none
def qAnd (q r : SB) : SB := fun ε c => match q ε c with
  | some (true, c1) => r ε c1
  | some (false, c1) => some (false, c1)
  | none => none
def qOr (q r : SB) : SB := fun ε c => match q ε c with
  | some (true, c1) => some (true, c1)
  | some (false, c1) => r ε c1
  | none => none
variable {q r : SB}
theorem q_not (h : PT X e (tT W q)) : PT X (.UnaryOp .Not e pos) (tT W (qNot q)) :=
  PT.imp (pt_not h) fun σ H Q ⟨pc, F0, H0, ps, ε, c, b, c', R, ef, k⟩ => by
    unfold qNot at ef
    split at ef
    · next b' c1 e1 => cases ef; exact ⟨pc, F0, H0, ps, ε, c, b', c', R, e1, k⟩
    · cases ef
theorem pw_of {t t' : TT} (h : PW X e t) (i : ∀ σ H Q, t' σ H Q → t σ H Q) : PW X e t' := ⟨fun wh pins s σ H Q I hw => h.run wh pins s σ H Q I (i σ H Q hw)⟩
theorem w_and1 (h : PT X e (tT W q)) : PW X (.BoolOp .And [e] pos) (tT W q) := pw_and1 h
theorem w_or1 (h : PT X e (tT W q)) : PW X (.BoolOp .Or [e] pos) (tT W q) := pw_or1 h
theorem tAnd_of : ∀ σ H Q, tT W (qAnd q r) σ H Q → tAnd (tT W q) (tT W r) σ H Q := fun σ H Q ⟨pc, F0, H0, ps, ε, c, b, c', R, ef, k⟩ => by
  unfold qAnd at ef
  split at ef
  · next c1 e1 =>
    refine ⟨pc, F0, H0, ps, ε, c, true, c1, R, e1, fun H1 g cu => ?_⟩
    exact iteT (⟨pc, F0, H0, ps, ε, c1, b, c', R.step g cu, ef, fun H2 g2 cu2 => k H2 (g.trans g2) cu2⟩)
  · next c1 e1 =>
    cases ef
    refine ⟨pc, F0, H0, ps, ε, c, false, c', R, e1, fun H1 g cu => ?_⟩
    exact iteF (k H1 g cu)
  · cases ef
theorem tOr_of : ∀ σ H Q, tT W (qOr q r) σ H Q → tOr (tT W q) (tT W r) σ H Q := fun σ H Q ⟨pc, F0, H0, ps, ε, c, b, c', R, ef, k⟩ => by
  unfold qOr at ef
  split at ef
  · next c1 e1 =>
    cases ef
    refine ⟨pc, F0, H0, ps, ε, c, true, c', R, e1, fun H1 g cu => ?_⟩
    exact iteT (k H1 g cu)
  · next c1 e1 =>
    refine ⟨pc, F0, H0, ps, ε, c, false, c1, R, e1, fun H1 g cu => ?_⟩
    exact iteF (⟨pc, F0, H0, ps, ε, c1, b, c', R.step g cu, ef, fun H2 g2 cu2 => k H2 (g.trans g2) cu2⟩)
  · cases ef
theorem w_and {rest : List Expr} (h : PT X e (tT W q)) (h2 : PW X (.BoolOp .And (e2 :: rest) pos) (tT W r)) : PW X (.BoolOp .And (e :: e2 :: rest) pos) (tT W (qAnd q r)) := pw_of (pw_and h h2) tAnd_of
theorem w_or {rest : List Expr} (h : PT X e (tT W q)) (h2 : PW X (.BoolOp .Or (e2 :: rest) pos) (tT W r)) : PW X (.BoolOp .Or (e :: e2 :: rest) pos) (tT W (qOr q r)) := pw_of (pw_or h h2) tOr_of
/-- as values: bools -/
def eAnd (f g : SE) : SE := fun ε c => match f ε c with
  | some (.bl true, c1) => g ε c1
  | some (.bl false, c1) => some (.bl false, c1)
  | _ => none
def eOr (f g : SE) : SE := fun ε c => match f ε c with
  | some (.bl true, c1) => some (.bl true, c1)
  | some (.bl false, c1) => g ε c1
  | _ => none
def eNot (f : SE) : SE := fun ε c => match f ε c with
  | some (.bl b, c1) => some (.bl (!b), c1)
  | _ => none
theorem d_one {op : PySem.BoolOp} (h : PE X e (tE W f)) : PE X (.BoolOp op [e] pos) (tE W f) := pe_one h
theorem d_and {rest : List Expr} (h : PE X e (tE W f)) (h2 : PE X (.BoolOp .And (e2 :: rest) pos) (tE W g)) : PE X (.BoolOp .And (e :: e2 :: rest) pos) (tE W (eAnd f g)) :=
  PE.imp (pe_and h h2) fun σ H Q ⟨pc, F0, H0, ps, ε, c, d, c', R, ef, k⟩ => by
    unfold eAnd at ef
    split at ef
    · next c1 e1 =>
      refine ⟨pc, F0, H0, ps, ε, c, .bl true, c1, R, e1, fun v H1 g cu r => ?_⟩
      cases r
      exact ⟨true, rfl, iteT (⟨pc, F0, H0, ps, ε, c1, d, c', R.step g cu, ef, fun v H2 g2 cu2 r2 => k v H2 (g.trans g2) cu2 r2⟩)⟩
    · next c1 e1 =>
      cases ef
      refine ⟨pc, F0, H0, ps, ε, c, .bl false, c', R, e1, fun v H1 g cu r => ?_⟩
      cases r
      exact ⟨false, rfl, iteF (k _ H1 g cu (.bl false))⟩
    · cases ef
theorem d_or {rest : List Expr} (h : PE X e (tE W f)) (h2 : PE X (.BoolOp .Or (e2 :: rest) pos) (tE W g)) : PE X (.BoolOp .Or (e :: e2 :: rest) pos) (tE W (eOr f g)) :=
  PE.imp (pe_or h h2) fun σ H Q ⟨pc, F0, H0, ps, ε, c, d, c', R, ef, k⟩ => by
    unfold eOr at ef
    split at ef
    · next c1 e1 =>
      cases ef
      refine ⟨pc, F0, H0, ps, ε, c, .bl true, c', R, e1, fun v H1 g cu r => ?_⟩
      cases r
      exact ⟨true, rfl, iteT (k _ H1 g cu (.bl true))⟩
    · next c1 e1 =>
      refine ⟨pc, F0, H0, ps, ε, c, .bl false, c1, R, e1, fun v H1 g cu r => ?_⟩
      cases r
      exact ⟨false, rfl, iteF (⟨pc, F0, H0, ps, ε, c1, d, c', R.step g cu, ef, fun v H2 g2 cu2 r2 => k v H2 (g.trans g2) cu2 r2⟩)⟩
    · cases ef
theorem d_not (h : PE X e (tE W f)) : PE X (.UnaryOp .Not e pos) (tE W (eNot f)) :=
  PE.imp (pe_not h) fun σ H Q ⟨pc, F0, H0, ps, ε, c, d, c', R, ef, k⟩ => by
    unfold eNot at ef
    split at ef
    · next b c1 e1 =>
      cases ef
      refine ⟨pc, F0, H0, ps, ε, c, .bl b, c', R, e1, fun v H1 g cu r => ?_⟩
      cases r
      exact ⟨b, rfl, k _ H1 g cu (.bl _)⟩
    · cases ef
def eIf (q : SB) (f g : SE) : SE := fun ε c => match q ε c with
  | some (true, c1) => f ε c1
  | some (false, c1) => g ε c1
  | none => none
theorem d_if {t : Expr} (hq : PT X t (tT W q)) (h : PE X e (tE W f)) (h2 : PE X e2 (tE W g)) : PE X (.IfExp t e e2 pos) (tE W (eIf q f g)) :=
  PE.imp (pe_ifExp hq h h2) fun σ H Q ⟨pc, F0, H0, ps, ε, c, d, c', R, ef, k⟩ => by
    unfold eIf at ef
    split at ef
    · next c1 e1 =>
      refine ⟨pc, F0, H0, ps, ε, c, true, c1, R, e1, fun H1 g cu => ?_⟩
      exact iteT (⟨pc, F0, H0, ps, ε, c1, d, c', R.step g cu, ef, fun v H2 g2 cu2 r2 => k v H2 (g.trans g2) cu2 r2⟩)
    · next c1 e1 =>
      refine ⟨pc, F0, H0, ps, ε, c, false, c1, R, e1, fun H1 g cu => ?_⟩
      exact iteF (⟨pc, F0, H0, ps, ε, c1, d, c', R.step g cu, ef, fun v H2 g2 cu2 r2 => k v H2 (g.trans g2) cu2 r2⟩)
    · cases ef
end
end TT

set_option Elab.async false
set_option linter.all false
set_option maxRecDepth 100000
set_option maxHeartbeats 4000000
namespace TT
open PySem PySem.Spec PyProof.Rows L2
section
variable {W : Wd} {pc : Pc} {F0 F : Fb} {H0 H H' : Hp} {ps : List (D × V)} {ε : En} {c c' : Cup} {σ : L2.St} {i : Nat}

theorem set_at {α : Type} {l : List α} {i j : Nat} {a b : α} (h : (l.set i a)[j]? = some b) : (i = j ∧ b = a ∧ i < l.length) ∨ (i ≠ j ∧ l[j]? = some b) := by
  rw [List.getElem?_set] at h
  split at h
  · next e =>
    split at h
    · next hl => exact .inl ⟨e, (Option.some.inj h).symm, hl⟩
    · cases h
  · next e => exact .inr ⟨e, h⟩
theorem set_ne {α : Type} {l : List α} {i j : Nat} {a : α} (n : i ≠ j) : (l.set i a)[j]? = l[j]? := List.getElem?_set_ne n
theorem set_eq {α : Type} {l : List α} {i : Nat} {a : α} (h : i < l.length) : (l.set i a)[i]? = some a := by
  rw [List.getElem?_set_self h]

/-- fewer owned slots -/
theorem fo_fz {d : D} {v : V} : ∀ a, Fo F0 (ε.set i (some (.fz d))) (σ.set i (some v)) a → Fo F0 ε σ a := fun a h => by
  rcases h with h | ⟨j, e, h1, h2⟩
  · exact .inl h
  · rcases set_at h1 with ⟨_, q, _⟩ | ⟨n, q⟩
    · cases q
    · exact .inr ⟨j, e, q, by rw [set_ne n] at h2; exact h2⟩
theorem Rl.setFz (R : Rl W pc F0 H0 ps ε c σ H) {d : D} {v : V} (r : Rep W pc (Fo F0 ε σ) H d v) : Rl W pc F0 H0 ps (ε.set i (some (.fz d))) c (σ.set i (some v)) H where
  len := by rw [List.length_set, List.length_set]; exact R.len
  dom := R.dom
  pcF := R.pcF
  grow := R.grow
  cup := R.cup
  fz := fun j e h => by
    rcases set_at h with ⟨rfl, q, hl⟩ | ⟨n, q⟩
    · cases q
      exact ⟨v, set_eq (by rw [R.len]; exact hl), r.mono (fun _ _ _ z => z) fo_fz⟩
    · obtain ⟨u, s, ru⟩ := R.fz j e q
      exact ⟨u, by rw [set_ne n]; exact s, ru.mono (fun _ _ _ z => z) fo_fz⟩
  ow := fun j e h => by
    rcases set_at h with ⟨rfl, q, hl⟩ | ⟨n, q⟩
    · cases q
    · obtain ⟨a, s, n0, h0, o⟩ := R.ow j e q
      exact ⟨a, by rw [set_ne n]; exact s, n0, h0, o.mono (fun _ _ _ z => z) (fun _ z => z) fo_fz⟩
  pin := fun p h => (R.pin p h).mono (fun _ _ _ z => z) fo_fz
  inj := fun j k e e' a h1 h2 h3 h4 => by
    rcases set_at h1 with ⟨_, q, _⟩ | ⟨n1, q1⟩
    · cases q
    · rcases set_at h2 with ⟨_, q, _⟩ | ⟨n2, q2⟩
      · cases q
      · rw [set_ne n1] at h3
        rw [set_ne n2] at h4
        exact R.inj j k e e' a q1 q2 h3 h4

theorem fo_ow {d : D} {a : Addr} : ∀ b, Fo F0 (ε.set i (some (.ow d))) (σ.set i (some (.ref a))) b → Fo F0 ε σ b ∨ b = a := fun b h => by
  rcases h with h | ⟨j, e, h1, h2⟩
  · exact .inl (.inl h)
  · rcases set_at h1 with ⟨rfl, q, hl⟩ | ⟨n, q⟩
    · rcases set_at h2 with ⟨_, q2, _⟩ | ⟨n2, _⟩
      · injection q2 with q3
        injection q3 with q4
        exact .inr q4
      · exact absurd rfl n2
    · exact .inl (.inr ⟨j, e, q, by rw [set_ne n] at h2; exact h2⟩)
/-- a new object is owned -/
theorem Rl.setOw (R : Rl W pc F0 H0 ps ε c σ H) {d : D} {a : Addr} (g : Grow pc H H') (cu : CupIs pc c' H') (hn : H a = none) (o : OwnIs W pc (fun b => Fo F0 ε σ b ∨ b = a) H' d a) :
    Rl W pc F0 H0 ps (ε.set i (some (.ow d))) c' (σ.set i (some (.ref a))) H' := by
  have R1 := R.step g cu
  have fr := R.fresh hn
  have gf : GrowF (fun b => Fo F0 ε σ b ∨ b = a) H H' := g.gf fun p z => .inl (R.foP p z)
  have nown : ∀ (j : Nat) (e : D), ε[j]? = some (some (.ow e)) → σ[j]? ≠ some (some (.ref a)) := fun j e h z => fr.1 (.inr ⟨j, e, h, z⟩)
  refine ⟨by rw [List.length_set, List.length_set]; exact R.len, R1.dom, R.pcF, R1.grow, cu, fun j e h => ?_, fun j e h => ?_, fun p h => ?_, fun j k e e' b h1 h2 h3 h4 => ?_⟩
  · rcases set_at h with ⟨rfl, q, hl⟩ | ⟨n, q⟩
    · cases q
    · obtain ⟨u, s, ru⟩ := R.fz j e q
      exact ⟨u, by rw [set_ne n]; exact s, (ru.forbid hn).mono gf fo_ow⟩
  · rcases set_at h with ⟨rfl, q, hl⟩ | ⟨n, q⟩
    · injection q with q
      injection q with q
      subst q
      exact ⟨a, set_eq (by rw [R.len]; exact hl), fun z => fr.1 (.inl z), fr.2.2, o.mono (fun _ _ _ z => z) (fun _ z => z) fo_ow⟩
    · obtain ⟨b, s, n0, h0, ob⟩ := R.ow j e q
      refine ⟨b, by rw [set_ne n]; exact s, n0, h0, ?_⟩
      cases e with
      | lst ds => obtain ⟨xs, e1, l, rs⟩ := ob; exact ⟨xs, g _ _ (fun z => n0 (R.pcF b z)) e1, l, (rs.forbid hn).mono gf fo_ow⟩
      | dk ks ds => obtain ⟨xs, e1, k, l, rs⟩ := ob; exact ⟨xs, g _ _ (fun z => n0 (R.pcF b z)) e1, k, l, (rs.forbid hn).mono gf fo_ow⟩
      | dt ks ds => obtain ⟨xs, e1, k, l, rs⟩ := ob; exact ⟨xs, g _ _ (fun z => n0 (R.pcF b z)) e1, k, l, (rs.forbid hn).mono gf fo_ow⟩
      | _ => exact ob.elim
  · exact ((R.pin p h).forbid hn).mono gf fo_ow
  · rcases set_at h1 with ⟨e1, q1, l1⟩ | ⟨n1, q1⟩
    · rcases set_at h2 with ⟨e2, q2, _⟩ | ⟨n2, q2⟩
      · exact e1.symm.trans e2
      · rw [set_ne n2] at h4
        subst e1
        rcases set_at h3 with ⟨_, q3, _⟩ | ⟨n3, _⟩
        · injection q3 with q3
          injection q3 with q3
          subst q3
          exact absurd h4 (nown k e' q2)
        · exact absurd rfl n3
    · rw [set_ne n1] at h3
      rcases set_at h2 with ⟨e2, q2, _⟩ | ⟨n2, q2⟩
      · subst e2
        rcases set_at h4 with ⟨_, q3, _⟩ | ⟨n3, _⟩
        · injection q3 with q3
          injection q3 with q3
          subst q3
          exact absurd h3 (nown j e q1)
        · exact absurd rfl n3
      · rw [set_ne n2] at h4
        exact R.inj j k e e' b q1 q2 h3 h4
theorem fo_frz {d : D} (h : ε[i]? = some (some (.ow d))) : ∀ a, Fo F0 (ε.set i (some (.fz d))) σ a → Fo F0 ε σ a := fun a h => by
  rcases h with h | ⟨j, e, h1, h2⟩
  · exact .inl h
  · rcases set_at h1 with ⟨_, q, _⟩ | ⟨n, q⟩
    · cases q
    · exact .inr ⟨j, e, q, h2⟩
/-- an owned object is kept as a value from now on -/
theorem Rl.freeze (R : Rl W pc F0 H0 ps ε c σ H) {d : D} (h : ε[i]? = some (some (.ow d))) : Rl W pc F0 H0 ps (ε.set i (some (.fz d))) c σ H := by
  obtain ⟨a, s, n0, h0, o⟩ := R.ow i d h
  have nf : ¬ Fo F0 (ε.set i (some (.fz d))) σ a := fun z => by
    rcases z with z | ⟨j, e, h1, h2⟩
    · exact n0 z
    · rcases set_at h1 with ⟨_, q, _⟩ | ⟨n, q⟩
      · cases q
      · exact n (R.inj i j d e a h q s h2)
  have hs := fo_frz (F0 := F0) (σ := σ) h
  refine ⟨by rw [List.length_set]; exact R.len, R.dom, R.pcF, R.grow, R.cup, fun j e q => ?_, fun j e q => ?_, fun p q => (R.pin p q).mono (fun _ _ _ z => z) hs, fun j k e e' b h1 h2 h3 h4 => ?_⟩
  · rcases set_at q with ⟨rfl, q, hl⟩ | ⟨n, q⟩
    · injection q with q
      injection q with q
      subst q
      refine ⟨.ref a, s, ?_⟩
      have g : GrowF (Fo F0 ε σ) H H := fun _ _ _ e => e
      cases e with
      | lst ds => obtain ⟨xs, e, l, rs⟩ := o; exact .lst nf e l (rs.mono g hs)
      | dk ks ds => obtain ⟨xs, e, k, l, rs⟩ := o; exact .dk nf e k (rs.mono g hs)
      | dt ks ds => obtain ⟨xs, e, k, l, rs⟩ := o; exact .dt nf e k (rs.mono g hs)
      | _ => exact o.elim
    · obtain ⟨u, s, ru⟩ := R.fz j e q
      exact ⟨u, s, ru.mono (fun _ _ _ z => z) hs⟩
  · rcases set_at q with ⟨rfl, q, hl⟩ | ⟨n, q⟩
    · cases q
    · obtain ⟨b, s, m0, k0, o⟩ := R.ow j e q
      exact ⟨b, s, m0, k0, o.mono (fun _ _ _ z => z) (fun _ z => z) hs⟩
  · rcases set_at h1 with ⟨_, q, _⟩ | ⟨n1, q1⟩
    · cases q
    · rcases set_at h2 with ⟨_, q, _⟩ | ⟨n2, q2⟩
      · cases q
      · exact R.inj j k e e' b q1 q2 h3 h4
theorem fo_wr {d d' : D} (h : ε[i]? = some (some (.ow d))) : ∀ a, Fo F0 (ε.set i (some (.ow d'))) σ a ↔ Fo F0 ε σ a := fun a => by
  have hl : i < ε.length := (List.getElem?_eq_some_iff.mp h).1
  constructor
  · rintro (z | ⟨j, e, h1, h2⟩)
    · exact .inl z
    · rcases set_at h1 with ⟨rfl, q, _⟩ | ⟨n, q⟩
      · exact .inr ⟨_, d, h, h2⟩
      · exact .inr ⟨j, e, q, h2⟩
  · rintro (z | ⟨j, e, h1, h2⟩)
    · exact .inl z
    · by_cases n : i = j
      · subst n; exact .inr ⟨_, d', set_eq hl, h2⟩
      · exact .inr ⟨j, e, by rw [set_ne n]; exact h1, h2⟩
/-- an owned object is changed -/
theorem Rl.write (R : Rl W pc F0 H0 ps ε c σ H) {d d' : D} {a : Addr} {u : HO} (h : ε[i]? = some (some (.ow d))) (s : σ[i]? = some (some (.ref a))) (o : OwnIs W pc (Fo F0 ε σ) (upd H a u) d' a) :
    Rl W pc F0 H0 ps (ε.set i (some (.ow d'))) c σ (upd H a u) := by
  obtain ⟨a', s', n0, h0, oa⟩ := R.ow i d h
  rw [s] at s'; cases s'
  have fa : Fo F0 ε σ a := .inr ⟨i, d, h, s⟩
  have gf : GrowF (Fo F0 ε σ) H (upd H a u) := fun b z n e => by
    rw [upd_ne (fun q => n (by rw [q]; exact fa))]; exact e
  have hs : ∀ b, Fo F0 (ε.set i (some (.ow d'))) σ b → Fo F0 ε σ b := fun b z => (fo_wr h b).mp z
  have hl : i < ε.length := (List.getElem?_eq_some_iff.mp h).1
  have nca : ∀ p, pc = some p → p ≠ a := fun p z q => n0 (q ▸ R.pcF p z)
  refine ⟨by rw [List.length_set]; exact R.len, fun b z => ?_, R.pcF, fun b z n e => ?_, fun p z => ?_, fun j e q => ?_, fun j e q => ?_, fun p q => (R.pin p q).mono gf hs, fun j k e e' b h1 h2 h3 h4 => ?_⟩
  · by_cases q : b = a
    · subst q; rw [upd_same]; simp
    · rw [upd_ne q]; exact R.dom b z
  · rw [upd_ne (ne_of_none e h0)]; exact R.grow b z n e
  · rw [upd_ne (nca p z)]; exact R.cup p z
  · rcases set_at q with ⟨rfl, q, hl⟩ | ⟨n, q⟩
    · cases q
    · obtain ⟨v, sv, rv⟩ := R.fz j e q
      exact ⟨v, sv, rv.mono gf hs⟩
  · rcases set_at q with ⟨rfl, q, hl⟩ | ⟨n, q⟩
    · injection q with q
      injection q with q
      subst q
      exact ⟨a, s, n0, h0, o.mono (fun _ _ _ z => z) (fun _ z => z) hs⟩
    · obtain ⟨b, sb, m0, k0, ob⟩ := R.ow j e q
      refine ⟨b, sb, m0, k0, ob.mono gf (fun z w => ?_) hs⟩
      rw [upd_ne (fun z => n (R.inj i j d e a h q s (by rw [← z]; exact sb)))]; exact w
  · have old : ∀ {j : Nat} {e : D}, (ε.set i (some (.ow d')))[j]? = some (some (.ow e)) → ∃ e0, ε[j]? = some (some (.ow e0)) := fun {j e} q => by
      rcases set_at q with ⟨rfl, _, _⟩ | ⟨n, q⟩
      · exact ⟨d, h⟩
      · exact ⟨e, q⟩
    obtain ⟨_, q1⟩ := old h1
    obtain ⟨_, q2⟩ := old h2
    exact R.inj j k _ _ b q1 q2 h3 h4
/-- the cup is turned -/
theorem Rl.turn (R : Rl W pc F0 H0 ps ε c σ H) {p : Addr} (hp : pc = some p) : Rl W pc F0 H0 ps ε c' σ (upd H p (.lst [.int c'.1, .int c'.2])) := by
  refine R.step (fun b z n e => ?_) fun q z => ?_
  · rw [upd_ne (fun q => n (by rw [q]; exact hp))]; exact e
  · rw [hp] at z; cases z; exact upd_same
end

section
variable {X : Cx} {W : Wd} {e e2 : Expr} {es : List Expr} {pos pos' : Pos} {i : Nat} {x : Str} {f g : SE} {fs : SL} {st : Stmt} {rest : List Stmt} {u v : SS} {q : SB}
/-! ### statements -/
def sNop : SS := fun ε c => some (.nx ε c)
def sSeq (u v : SS) : SS := fun ε c => match u ε c with
  | some (.nx ε1 c1) => v ε1 c1
  | o => o
theorem s_nil : PSs X [] (tS W sNop) := PSs.imp pss_nil fun E σ H ⟨pc, F0, H0, ps, ε, c, o, R, ef, k⟩ => by cases ef; exact k σ H R
theorem s_cons (h : PS X st (tS W u)) (hr : PSs X rest (tS W v)) : PSs X (st :: rest) (tS W (sSeq u v)) :=
  PSs.imp (pss_cons h hr) fun E σ H ⟨pc, F0, H0, ps, ε, c, o, R, ef, k⟩ => by
    unfold sSeq at ef
    cases e1 : u ε c with
    | none => rw [e1] at ef; cases ef
    | some o1 =>
      rw [e1] at ef
      cases o1 with
      | nx ε1 c1 => exact ⟨pc, F0, H0, ps, ε, c, _, R, e1, fun σ1 H1 R1 => ⟨pc, F0, H0, ps, ε1, c1, o, R1, ef, k⟩⟩
      | rt d c1 => cases ef; exact ⟨pc, F0, H0, ps, ε, c, _, R, e1, k⟩
      | bk ε1 c1 => cases ef; exact ⟨pc, F0, H0, ps, ε, c, _, R, e1, k⟩
      | ct ε1 c1 => cases ef; exact ⟨pc, F0, H0, ps, ε, c, _, R, e1, k⟩
theorem s_one (h : PS X st (tS W u)) : PSs X [st] (tS W u) := pss_one h
/-- slot i is kept as a value from here on -/
def sFz (i : Nat) (u : SS) : SS := fun ε c => match ε[i]? with
  | some (some (.ow d)) => u (ε.set i (some (.fz d))) c
  | _ => u ε c
theorem s_fz (i : Nat) (h : PSs X rest (tS W u)) : PSs X rest (tS W (sFz i u)) :=
  PSs.imp h fun E σ H ⟨pc, F0, H0, ps, ε, c, o, R, ef, k⟩ => by
    unfold sFz at ef
    split at ef
    · next d e1 => exact ⟨pc, F0, H0, ps, _, c, o, R.freeze e1, ef, k⟩
    · exact ⟨pc, F0, H0, ps, ε, c, o, R, ef, k⟩
def sSet (i : Nat) (f : SE) : SS := fun ε c => match f ε c with
  | some (d, c1) => some (.nx (ε.set i (some (.fz d))) c1)
  | none => none
def sOwn (i : Nat) (f : SE) : SS := fun ε c => match f ε c with
  | some (d, c1) => some (.nx (ε.set i (some (.ow d))) c1)
  | none => none
theorem tAsg_of : ∀ E σ H, tS W (sSet i f) E σ H → tAsg (tE W f) (gName i) E σ H := fun E σ H ⟨pc, F0, H0, ps, ε, c, o, R, ef, k⟩ => by
  unfold sSet at ef
  split at ef
  · next d c1 e1 =>
    cases ef
    exact ⟨pc, F0, H0, ps, ε, c, d, c1, R, e1, fun v H1 g cu r => k _ _ ((R.step g cu).setFz r)⟩
  · cases ef
theorem s_set (i : Nat) (hN : X.N.Nodup) (h : PE X e (tE W f)) (hi : X.N[i]? = some x := by rfl) (hx : Loc X.env.scope x := by first | exact Or.inl rfl | exact Or.inr rfl) (hs : swapsWith e (some (.Name x pos')) pos.line X.env = pure false := by rfl)
    (hf : X.fn x = true ∨ X.env.scope.names.lookup x = some .local := by first | exact .inl rfl | exact .inr rfl) : PS X (.Assign [.Name x pos'] e pos) (tS W (sSet i f)) :=
  PS.imp (ps_set hN hi hx h hs hf) tAsg_of
theorem tAsgN_of : ∀ E σ H, tS W (sOwn i f) E σ H → tAsg (tN W f) (gName i) E σ H := fun E σ H ⟨pc, F0, H0, ps, ε, c, o, R, ef, k⟩ => by
  unfold sOwn at ef
  split at ef
  · next d c1 e1 =>
    cases ef
    exact ⟨pc, F0, H0, ps, ε, c, d, c1, R, e1, fun a H1 g cu hn o => k _ _ (R.setOw g cu hn o)⟩
  · cases ef
theorem s_own (i : Nat) (hN : X.N.Nodup) (h : PE X e (tN W f)) (hi : X.N[i]? = some x := by rfl) (hx : Loc X.env.scope x := by first | exact Or.inl rfl | exact Or.inr rfl) (hs : swapsWith e (some (.Name x pos')) pos.line X.env = pure false := by rfl)
    (hf : X.fn x = true ∨ X.env.scope.names.lookup x = some .local := by first | exact .inl rfl | exact .inr rfl) : PS X (.Assign [.Name x pos'] e pos) (tS W (sOwn i f)) :=
  PS.imp (ps_set hN hi hx h hs hf) tAsgN_of
def sRet (f : SE) : SS := fun ε c => match f ε c with
  | some (d, c1) => some (.rt d c1)
  | none => none
theorem s_ret (h : PE X e (tE W f)) : PS X (.Return (some e) pos) (tS W (sRet f)) :=
  PS.imp (ps_ret h) fun E σ H ⟨pc, F0, H0, ps, ε, c, o, R, ef, k⟩ => by
    unfold sRet at ef
    split at ef
    · next d c1 e1 =>
      cases ef
      exact ⟨pc, F0, H0, ps, ε, c, d, c1, R, e1, fun v H1 g cu r => k v H1 (R.grow.trans g) cu (r.mono (fun _ _ _ z => z) fun _ z => .inl z)⟩
    · cases ef
def sDrop (f : SE) : SS := fun ε c => match f ε c with
  | some (_, c1) => some (.nx ε c1)
  | none => none
theorem s_expr (h : PE X e (tE W f)) (hs : swapsWith e none pos.line X.env = pure false := by rfl) : PS X (.Expr e pos) (tS W (sDrop f)) :=
  PS.imp (ps_expr h hs) fun E σ H ⟨pc, F0, H0, ps, ε, c, o, R, ef, k⟩ => by
    unfold sDrop at ef
    split at ef
    · next d c1 e1 =>
      cases ef
      exact ⟨pc, F0, H0, ps, ε, c, d, c1, R, e1, fun v H1 g cu r => k σ H1 (R.step g cu)⟩
    · cases ef
def sIf (q : SB) (u v : SS) : SS := fun ε c => match q ε c with
  | some (true, c1) => u ε c1
  | some (false, c1) => v ε c1
  | none => none
theorem s_if {a b : List Stmt} (hq : PT X e (tT W q)) (h : PSs X a (tS W u)) (h2 : PSs X b (tS W v)) : PS X (.If e a b pos) (tS W (sIf q u v)) :=
  PS.imp (ps_if hq h h2) fun E σ H ⟨pc, F0, H0, ps, ε, c, o, R, ef, k⟩ => by
    unfold sIf at ef
    split at ef
    · next c1 e1 =>
      exact ⟨pc, F0, H0, ps, ε, c, true, c1, R, e1, fun H1 g cu => iteT ⟨pc, F0, H0, ps, ε, c1, o, R.step g cu, ef, k⟩⟩
    · next c1 e1 =>
      exact ⟨pc, F0, H0, ps, ε, c, false, c1, R, e1, fun H1 g cu => iteF ⟨pc, F0, H0, ps, ε, c1, o, R.step g cu, ef, k⟩⟩
    · cases ef
/-- a place that is never come to -/
def sNo : SS := fun _ _ => none
theorem s_no : PS X st (tS W sNo) := PS.imp ps_never fun E σ H ⟨pc, F0, H0, ps, ε, c, o, R, ef, k⟩ => by cases ef
theorem s_break : PS X (.Break pos) (tS W fun ε c => some (.bk ε c)) := PS.imp ps_break fun E σ H ⟨pc, F0, H0, ps, ε, c, o, R, ef, k⟩ => by cases ef; exact k σ H R
theorem s_cont : PS X (.Continue pos) (tS W fun ε c => some (.ct ε c)) := PS.imp ps_continue fun E σ H ⟨pc, F0, H0, ps, ε, c, o, R, ef, k⟩ => by cases ef; exact k σ H R
theorem s_pass : PS X (.Pass pos) (tS W sNop) := PS.imp ps_pass fun E σ H ⟨pc, F0, H0, ps, ε, c, o, R, ef, k⟩ => by cases ef; exact k σ H R
end

/-! ### a def's body -/
def startD (n : Nat) (ds : List D) : En := ds.map (fun d => some (.fz d)) ++ List.replicate (n - ds.length) none
def runB (n : Nat) (u : SS) : Mi := fun ds c => match u (startD n ds) c with
  | some (.rt d c1) => some (d, c1)
  | some (.nx _ c1) => some (.non, c1)
  | _ => none
theorem start_rl {W : Wd} {pc : Pc} {F : Fb} {H : Hp} {N : List Str} {ds : List D} {vs : List V} {c : Cup} (rs : Reps W pc F H ds vs) (dm : ∀ a, F a → H a ≠ none) (pcF : ∀ p, pc = some p → F p) (cu : CupIs pc c H) :
    Rl W pc F H [] (startD N.length ds) c (L2.start N vs) H := by
  have hl := rs.length
  have noow : ∀ (j : Nat) (e : D), (startD N.length ds)[j]? ≠ some (some (.ow e)) := fun j e h => by
    unfold startD at h
    by_cases hj : j < ds.length
    · rw [List.getElem?_append_left (by simpa using hj), List.getElem?_map] at h
      cases q : ds[j]? with
      | none => rw [q] at h; cases h
      | some d => rw [q] at h; cases h
    · rw [List.getElem?_append_right (by simpa using hj), List.getElem?_replicate] at h
      split at h <;> cases h
  have fo : ∀ a, Fo F (startD N.length ds) (L2.start N vs) a → F a := fun a h => by
    rcases h with h | ⟨j, e, h1, _⟩
    · exact h
    · exact absurd h1 (noow j e)
  refine ⟨by unfold startD L2.start; simp [hl], dm, pcF, Grow.refl, cu, fun j e h => ?_, fun j e h => absurd h (noow j e), fun p h => absurd h (by simp), fun j k e e' a h1 => absurd h1 (noow j e)⟩
  unfold startD at h
  by_cases hj : j < ds.length
  · rw [List.getElem?_append_left (by simpa using hj), List.getElem?_map] at h
    cases q : ds[j]? with
    | none => rw [q] at h; cases h
    | some d =>
      rw [q] at h
      cases h
      obtain ⟨v, sv, rv⟩ := rs.get q
      refine ⟨v, ?_, rv.mono (fun _ _ _ z => z) fo⟩
      unfold L2.start
      rw [List.getElem?_append_left (by simp; omega), List.getElem?_map, sv]
      rfl
  · rw [List.getElem?_append_right (by simpa using hj), List.getElem?_replicate] at h
    split at h <;> cases h
/-- THE RULE for a def: its body's reading -/
theorem def_ok {P : Program} {w : World} {mg : Str → Option Value} {base : Heap} {W : Wd} {x qual : Str} {params : Arguments} {body : List Stmt} {scope : Scope} {f : Addr} {fd : FuncData} {N pms : List Str} {k : Nat} {u : SS}
    (F : FunD W.K x qual params body scope [] [] f fd) (S : FnScope N pms scope)
    (hb : ∀ (cdv : Value) (A : Around) (outer : List Env) (s : Shared) (H : Hp) (E : XK), Room k (A.deeper (envOfC qual scope s.heap.objs.size f cdv)) → PSs (cxOf CX0 P w W.K mg base N qual scope f cdv A outer s H E).nox body (tS W u)) :
    FnOk P w W.K mg base CX0 (k + 1) f fd pms (spM W (runB N.length u) pms.length) := by
  refine F.ok S (fun vs H Q E h => ?_) (fun cdv A outer s H vs Q E hr h => ⟨_, PSs.nox (hb cdv A outer s H E hr), ?_⟩)
  · obtain ⟨pc, F, c, ds, d, c', hl, rs, _⟩ := h
    rw [← rs.length, hl]
  · obtain ⟨pc, F, c, ds, d, c', hl, rs, dm, pcF, cu, ef, q⟩ := h
    have R := start_rl (N := N) rs dm pcF cu
    unfold runB at ef
    split at ef
    · next d1 c1 e1 => cases ef; exact ⟨pc, F, H, [], _, c, _, R, e1, fun v H' g cu r => q v H' g cu r⟩
    · next ε1 c1 e1 => cases ef; exact ⟨pc, F, H, [], _, c, _, R, e1, fun σ' H' R' => q .non H' R'.grow R'.cup .non⟩
    · cases ef
end TT

set_option Elab.async false
set_option linter.all false
set_option maxRecDepth 100000
set_option maxHeartbeats 4000000
namespace TT
open PySem PySem.Spec PyProof.Rows L2

/-! ### targets -/
abbrev Tg := D → En → Option En
abbrev Tgs := List D → En → Option En
theorem wipe_get (σ : L2.St) : ∀ (vs : List Nat) (j : Nat), (wipe σ vs)[j]? = if j ∈ vs then (if j < σ.length then some none else none) else σ[j]?
  | [], j => by simp [wipe]
  | v :: vs, j => by
    unfold wipe
    rw [List.getElem?_set]
    by_cases h : v = j
    · subst h
      simp [wipe_length]
    · rw [if_neg h, wipe_get σ vs j]
      have : (j ∈ v :: vs) ↔ j ∈ vs := by
        simp [Ne.symm h]
      simp [this]
theorem wipe_set (σ : L2.St) {i : Nat} {x : Option V} {vs : List Nat} (h : i ∈ vs) : wipe (σ.set i x) vs = wipe σ vs := by
  apply List.ext_getElem?
  intro j
  rw [wipe_get, wipe_get]
  by_cases hj : j ∈ vs
  · rw [if_pos hj, if_pos hj, List.length_set]
  · rw [if_neg hj, if_neg hj, set_ne (fun z => hj (by rw [← z]; exact h))]
def Touch (is : List Nat) (σ σ' : L2.St) : Prop := ∀ vs : List Nat, (∀ i ∈ is, i ∈ vs) → wipe σ' vs = wipe σ vs
def gN (i : Nat) : Tg := fun d ε => match ε[i]? with
  | some (some (.ow _)) => none
  | _ => some (ε.set i (some (.fz d)))
def GOk (W : Wd) (g : TG) (tg : Tg) (is : List Nat) : Prop := ∀ pc F0 H0 ps ε c σ H d v ε' (Q : L2.St → Hp → Prop), Rl W pc F0 H0 ps ε c σ H → Rep W pc (Fo F0 ε σ) H d v → tg d ε = some ε' →
  (∀ σ', Rl W pc F0 H0 ps ε' c σ' H → Touch is σ σ' → (∀ a, Fo F0 ε' σ' a ↔ Fo F0 ε σ a) → Q σ' H) → g v σ H Q
def GsOk (W : Wd) (g : TGs) (tg : Tgs) (is : List Nat) : Prop := ∀ pc F0 H0 ps ε c σ H ds vs ε' (Q : L2.St → Hp → Prop), Rl W pc F0 H0 ps ε c σ H → Reps W pc (Fo F0 ε σ) H ds vs → tg ds ε = some ε' →
  (∀ σ', Rl W pc F0 H0 ps ε' c σ' H → Touch is σ σ' → (∀ a, Fo F0 ε' σ' a ↔ Fo F0 ε σ a) → Q σ' H) → g vs σ H Q
section
variable {W : Wd} {g : TG} {gs : TGs} {tg : Tg} {tgs : Tgs} {is js : List Nat} {i : Nat}
theorem gN_ok : GOk W (gName i) (gN i) [i] := fun pc F0 H0 ps ε c σ H d v ε' Q R r e k => by
  unfold gN at e
  have no : ∀ x, ε[i]? ≠ some (some (.ow x)) := fun x z => by rw [z] at e; cases e
  have e' : ε' = ε.set i (some (.fz d)) := by
    split at e
    · next x z => exact absurd z (no x)
    · cases e; rfl
  subst e'
  refine k _ (R.setFz r) (fun vs h => wipe_set σ (h i (by simp))) fun a => ⟨fo_fz a, fun z => ?_⟩
  rcases z with z | ⟨j, x, h1, h2⟩
  · exact .inl z
  · have n : i ≠ j := fun q => by subst q; exact no x h1
    exact .inr ⟨j, x, by rw [set_ne n]; exact h1, by rw [set_ne n]; exact h2⟩
def gsNil : Tgs := fun ds ε => match ds with
  | [] => some ε
  | _ => none
def gsCons (t : Tg) (ts : Tgs) : Tgs := fun ds ε => match ds with
  | d :: r => (match t d ε with
    | some ε1 => ts r ε1
    | none => none)
  | [] => none
theorem gsNil_ok : GsOk W gNil gsNil [] := fun pc F0 H0 ps ε c σ H ds vs ε' Q R rs e k => by
  cases rs with
  | nil => cases e; exact ⟨rfl, k σ R (fun _ _ => rfl) fun _ => Iff.rfl⟩
  | cons r rs => cases e
theorem gsCons_ok (h : GOk W g tg is) (hs : GsOk W gs tgs js) : GsOk W (gCons g gs) (gsCons tg tgs) (is ++ js) := fun pc F0 H0 ps ε c σ H ds vs ε' Q R rs e k => by
  cases rs with
  | nil => cases e
  | @cons d ds v vs r rs =>
    unfold gsCons at e
    cases e1 : tg d ε with
    | none => simp only [e1] at e; cases e
    | some ε1 =>
      simp only [e1] at e
      refine ⟨v, vs, rfl, h pc F0 H0 ps ε c σ H d v ε1 _ R r e1 fun σ1 R1 t1 f1 => ?_⟩
      refine hs pc F0 H0 ps ε1 c σ1 H ds vs ε' _ R1 (rs.mono (fun _ _ _ z => z) fun a z => (f1 a).mp z) e fun σ2 R2 t2 f2 => k σ2 R2 (fun vs hv => ?_) fun a => (f2 a).trans (f1 a)
      rw [t2 vs fun i hi => hv i (by simp [hi]), t1 vs fun i hi => hv i (by simp [hi])]
def gT (n : Nat) (ts : Tgs) : Tg := fun d ε => match d with
  | .tup ds => if ds.length = n then ts ds ε else none
  | _ => none
theorem gT_ok {K : PySem.W.Frag} {n : Nat} (hK : K = W.K) (h : GsOk W gs tgs is) : GOk W (gTup K n gs) (gT n tgs) is := fun pc F0 H0 ps ε c σ H d v ε' Q R r e k => by
  subst hK
  unfold gT at e
  cases d with
  | tup ds =>
    obtain ⟨a, xs, rfl, sq, hl, rs⟩ := r.tupS
    simp only at e
    split at e
    · next hn => exact ⟨a, xs, rfl, sq, by rw [← rs.length]; exact hn, h pc F0 H0 ps ε c σ H ds xs ε' Q R rs e k⟩
    · cases e
  | _ => cases e
end
section
variable {X : Cx} {W : Wd} {g : TG} {gs : TGs} {tg : Tg} {tgs : Tgs} {is js : List Nat} {e e2 tgt : Expr} {es : List Expr} {pos : Pos} {f : SE} {b : SS}
/-- a target: how it is stored, and its reading -/
structure DG (X : Cx) (W : Wd) (e : Expr) (g : TG) (tg : Tg) (is : List Nat) : Prop where
  pg : PG X e g
  ok : GOk W g tg is
structure DGs (X : Cx) (W : Wd) (es : List Expr) (g : TGs) (tg : Tgs) (is : List Nat) : Prop where
  pg : PGs X es g
  ok : GsOk W g tg is
theorem g_name (i : Nat) {x : Str} (hN : X.N.Nodup) (hi : X.N[i]? = some x := by rfl) (hx : Loc X.env.scope x := by first | exact Or.inl rfl | exact Or.inr rfl) (hf : X.fn x = true ∨ X.env.scope.names.lookup x = some .local := by first | exact .inl rfl | exact .inr rfl) : DG X W (.Name x pos) (gName i) (gN i) [i] :=
  ⟨pg_name hN hi hx hf, gN_ok⟩
theorem gs_nil : DGs X W [] gNil gsNil [] := ⟨pgs_nil, gsNil_ok⟩
theorem gs_cons (h : DG X W e g tg is) (hs : DGs X W es gs tgs js) (he : (assignEach (e :: es) X.env).map (·.2) = assign e X.env :: (assignEach es X.env).map (·.2) := by rfl) : DGs X W (e :: es) (gCons g gs) (gsCons tg tgs) (is ++ js) :=
  ⟨pgs_cons h.pg hs.pg he, gsCons_ok h.ok hs.ok⟩
theorem g_tup {k n : Nat} (hK : X.K = W.K) (hc : X.calm = true) (hs : DGs X W es gs tgs is) (hn : (assignEach es X.env).length = n := by rfl) (hst : (assignEach es X.env).findIdx? (·.1) = none := by rfl) : DG X W (.Tuple es k pos) (gTup X.K n gs) (gT n tgs) is :=
  ⟨pg_tup hc hs.pg hn hst, gT_ok hK hs.ok⟩
/-- target = value -/
def sAsg (tg : Tg) (f : SE) : SS := fun ε c => match f ε c with
  | some (d, c1) => (match tg d ε with
    | some ε1 => some (.nx ε1 c1)
    | none => none)
  | none => none
theorem s_asg (h : PE X e (tE W f)) (hg : DG X W tgt g tg is) (hs : swapsWithSole [tgt] e pos.line X.env = pure false := by rfl) (hw : swappedStores [tgt] e X.env = pure none := by rfl)
    (h1 : (assignEach [tgt] X.env).map (·.2) = [assign tgt X.env] := by rfl) : PS X (.Assign [tgt] e pos) (tS W (sAsg tg f)) := by
  refine PS.imp (ps_asg h hg.pg hs hw h1) fun E σ H ⟨pc, F0, H0, ps, ε, c, o, R, ef, k⟩ => ?_
  unfold sAsg at ef
  split at ef
  · next d c1 e1 =>
    split at ef
    · next ε1 e2 =>
      cases ef
      refine ⟨pc, F0, H0, ps, ε, c, d, c1, R, e1, fun v H1 g cu r => ?_⟩
      exact hg.ok pc F0 H0 ps ε c1 σ H1 d v ε1 _ (R.step g cu) r e2 fun σ2 R2 _ _ => k σ2 H1 R2
    · cases ef
  · cases ef

/-! ### what is walked -/
def Pins (W : Wd) (pc : Pc) (F : Fb) (H : Hp) (ps : List (D × V)) : Prop := ∀ p ∈ ps, Rep W pc F H p.1 p.2
structure WkD (W : Wd) (ps : List (D × V)) (J : It) (ds : List D) : Prop where
  few : ds.length ≤ sizeLine
  goes : ∀ (i : Nat) (H : Hp) (pc : Pc) (F : Fb), Pins W pc F H ps → i < ds.length → J.go i H
  stops : ∀ (H : Hp) (pc : Pc) (F : Fb), Pins W pc F H ps → J.stop ds.length H
  yields : ∀ (i : Nat) (H H' : Hp) (x : V) (d : D) (pc : Pc) (F : Fb), Pins W pc F H ps → (∀ a, F a → H a ≠ none) → ds[i]? = some d → J.yld i H x H' → Same H H' ∧ Rep W pc F H' d x
abbrev SI := En → Cup → Option (List D × Cup)
def iS (W : Wd) (src : SI) : TI := fun σ H R => ∃ pc F0 H0 ps ε c ds c', Rl W pc F0 H0 ps ε c σ H ∧ src ε c = some (ds, c') ∧
  ∀ J H1 qs, Grow pc H H1 → CupIs pc c' H1 → Pins W pc (Fo F0 ε σ) H1 qs → WkD W qs J ds → R J H1
theorem PI.imp {w w' : TI} (h : PI X tgt e w) (i : ∀ σ H R, w' σ H R → w σ H R) : PI X tgt e w' := ⟨fun pins s σ H R I hw => h.run pins s σ H R I (i σ H R hw)⟩
theorem PI.inv {w' : TI} (h : ∀ σ H R, w' σ H R → ∃ w, PI X tgt e w ∧ w σ H R) : PI X tgt e w' := ⟨fun pins s σ H R I hw => by
  obtain ⟨w, p, q⟩ := h σ H R hw
  exact p.run pins s σ H R I q⟩
def itemsOf : D → Option (List D)
  | .lst ds => some ds
  | .tup ds => some ds
  | .str s => some (s.map fun c => .str [c])
  | _ => none
def iVal (f : SE) : SI := fun ε c => match f ε c with
  | some (d, c1) => (match itemsOf d with
    | some ds => some (ds, c1)
    | none => none)
  | none => none
theorem wk_list {ds : List D} {a : Addr} (hl : ds.length ≤ sizeLine) : WkD W [(.lst ds, .ref a)] (Itl W.K a) ds where
  few := hl
  goes := fun i H pc F p hi => by
    obtain ⟨b, xs, e, _, sq, _, rs⟩ := (p _ (List.mem_singleton.mpr rfl)).lstS
    cases e
    have h2 : i < xs.length := by rw [← rs.length]; exact hi
    exact ⟨xs, xs[i], sq, by simp [h2]⟩
  stops := fun H pc F p => by
    obtain ⟨b, xs, e, _, sq, _, rs⟩ := (p _ (List.mem_singleton.mpr rfl)).lstS
    cases e
    exact ⟨xs, sq, by rw [rs.length]; exact Nat.le_refl _⟩
  yields := fun i H H' x d pc F p dm hd y => by
    obtain ⟨b, xs, e, _, sq, _, rs⟩ := (p _ (List.mem_singleton.mpr rfl)).lstS
    cases e
    obtain ⟨rfl, y⟩ := y
    obtain ⟨v, hv, r⟩ := rs.get hd
    have := y xs sq
    rw [hv] at this
    cases this
    exact ⟨Same.refl _, r⟩
theorem wk_tup {ds : List D} {a : Addr} (hl : ds.length ≤ sizeLine) : WkD W [(.tup ds, .ref a)] (Itt W.K a) ds where
  few := hl
  goes := fun i H pc F p hi => by
    obtain ⟨b, xs, e, sq, _, rs⟩ := (p _ (List.mem_singleton.mpr rfl)).tupS
    cases e
    have h2 : i < xs.length := by rw [← rs.length]; exact hi
    exact ⟨xs, xs[i], sq, by simp [h2]⟩
  stops := fun H pc F p => by
    obtain ⟨b, xs, e, sq, _, rs⟩ := (p _ (List.mem_singleton.mpr rfl)).tupS
    cases e
    exact ⟨xs, sq, by rw [rs.length]; exact Nat.le_refl _⟩
  yields := fun i H H' x d pc F p dm hd y => by
    obtain ⟨b, xs, e, sq, _, rs⟩ := (p _ (List.mem_singleton.mpr rfl)).tupS
    cases e
    obtain ⟨rfl, y⟩ := y
    obtain ⟨v, hv, r⟩ := rs.get hd
    have := y xs sq
    rw [hv] at this
    cases this
    exact ⟨Same.refl _, r⟩
theorem wk_str {s : List Nat} (hl : s.length ≤ sizeLine) : WkD W [] (Its ⟨s.toArray⟩) (s.map fun c => .str [c]) where
  few := by simpa using hl
  goes := fun i H pc F p hi => by
    show i < s.toArray.size
    simpa using hi
  stops := fun H pc F p => by
    show s.toArray.size ≤ _
    simp
  yields := fun i H H' x d pc F p dm hd y => by
    obtain ⟨rfl, c, hc, rfl⟩ := y
    rw [List.getElem?_map] at hd
    have hc' : s[i]? = some c := by simpa using hc
    rw [hc'] at hd
    cases hd
    exact ⟨Same.refl _, .str [c] (by show 1 ≤ sizeLine; decide)⟩
/-- over a list, a tuple, a text -/
theorem i_val (hK : X.K = W.K) (h : PE X e (tE W f)) : PI X tgt e (iS W (iVal f)) := PI.inv fun σ H R ⟨pc, F0, H0, ps, ε, c, ds, c', Rr, ef, k⟩ => by
  unfold iVal at ef
  split at ef
  · next d c1 e1 =>
    split at ef
    · next ds1 e2 =>
      cases ef
      cases d with
      | lst xs =>
        cases e2
        refine ⟨_, pi_list h, pc, F0, H0, ps, ε, c, _, c', Rr, e1, fun v H1 g cu r => ?_⟩
        obtain ⟨a, vs, rfl, nf, sq, hl, rs⟩ := r.lstS
        rw [hK]
        exact ⟨a, rfl, ⟨vs, sq⟩, k _ H1 [(.lst ds, .ref a)] g cu (fun p hp => by simp at hp; subst hp; exact r) (wk_list hl)⟩
      | tup xs =>
        cases e2
        refine ⟨_, pi_tup h, pc, F0, H0, ps, ε, c, _, c', Rr, e1, fun v H1 g cu r => ?_⟩
        obtain ⟨a, vs, rfl, sq, hl, rs⟩ := r.tupS
        rw [hK]
        exact ⟨a, rfl, ⟨vs, sq⟩, k _ H1 [(.tup ds, .ref a)] g cu (fun p hp => by simp at hp; subst hp; exact r) (wk_tup hl)⟩
      | str s =>
        cases e2
        refine ⟨_, pi_str h, pc, F0, H0, ps, ε, c, _, c', Rr, e1, fun v H1 g cu r => ?_⟩
        cases r with
        | str _ hl => exact ⟨_, rfl, k _ H1 [] g cu (fun p hp => by simp at hp) (wk_str hl)⟩
      | _ => cases e2
    · cases ef
  · cases ef
/-- lo, lo + 1, .. (n of them) -/
def rangeD (lo : Int) (n : Nat) : List D := (List.range n).map fun (i : Nat) => .int (lo + (i : Int))
theorem wk_range {lo : Int} {n : Nat} (hn : n ≤ 1000000) : WkD W [] (Itr lo n) (rangeD lo n) where
  few := by simp [rangeD]; exact Nat.le_trans hn (by decide)
  goes := fun i H pc F p hi => by
    show i < n
    simpa [rangeD] using hi
  stops := fun H pc F p => by
    show n ≤ _
    simp [rangeD]
  yields := fun i H H' x d pc F p dm hd y => by
    obtain ⟨rfl, rfl⟩ := y
    unfold rangeD at hd
    rw [List.getElem?_map] at hd
    by_cases hi : i < n
    · rw [List.getElem?_range hi] at hd
      cases hd
      exact ⟨Same.refl _, .int _⟩
    · rw [List.getElem?_eq_none (by simpa using hi)] at hd
      cases hd
def iRange1 (f : SE) : SI := fun ε c => match f ε c with
  | some (.int j, c1) => if j ≤ 1000000 ∧ -1000000 ≤ j then some (rangeD 0 j.toNat, c1) else none
  | _ => none
theorem i_range1 {a : Expr} {p : Pos} (hg : Gl X "range") (hm : X.mg "range" = none) (h : PE X a (tE W f)) (hs : starEach [a] X.env = [(false, eval a X.env)] := by rfl) : PI X tgt (.Call (.Name "range" p) [a] [] pos) (iS W (iRange1 f)) :=
  PI.imp (pi_range1 hg hm (pa_cons h pa_nil hs) hs) fun σ H R ⟨pc, F0, H0, ps, ε, c, ds, c', Rr, ef, k⟩ => by
    unfold iRange1 at ef
    split at ef
    · next j c1 e1 =>
      split at ef
      · next hj =>
        cases ef
        refine ⟨pc, F0, H0, ps, ε, c, _, c', Rr, e1, fun v H1 g cu r => ?_⟩
        cases r
        exact ⟨j, rfl, by omega, by omega, k _ H1 [] g cu (fun p hp => by simp at hp) (wk_range (by omega))⟩
      · cases ef
    · cases ef
def iRange2 (f g : SE) : SI := fun ε c => match f ε c with
  | some (.int i, c1) => (match g ε c1 with
    | some (.int j, c2) => if (j ≤ 1000000 ∧ -1000000 ≤ j) ∧ i ≤ 1000000 ∧ 0 ≤ i then some (rangeD i (j - i).toNat, c2) else none
    | _ => none)
  | _ => none
theorem i_range2 {a a2 : Expr} {p : Pos} {f2 : SE} (hg : Gl X "range") (hm : X.mg "range" = none) (h : PE X a (tE W f)) (h2 : PE X a2 (tE W f2)) (hs : starEach [a, a2] X.env = [(false, eval a X.env), (false, eval a2 X.env)] := by rfl) (hs2 : starEach [a2] X.env = [(false, eval a2 X.env)] := by rfl) :
    PI X tgt (.Call (.Name "range" p) [a, a2] [] pos) (iS W (iRange2 f f2)) :=
  PI.imp (pi_range2 hg hm (pa_cons h (pa_cons h2 pa_nil hs2) (by rw [hs, hs2])) hs hs2) fun σ H R ⟨pc, F0, H0, ps, ε, c, ds, c', Rr, ef, k⟩ => by
    unfold iRange2 at ef
    split at ef
    · next i c1 e1 =>
      split at ef
      · next j c2 e2 =>
        split at ef
        · next hj =>
          cases ef
          refine ⟨pc, F0, H0, ps, ε, c, _, c1, Rr, e1, fun v H1 g cu r => ?_⟩
          cases r
          refine ⟨pc, F0, H0, ps, ε, c1, _, c', Rr.step g cu, e2, fun v2 H2 g2 cu2 r2 => ?_⟩
          cases r2
          exact ⟨i, j, rfl, by omega, k _ H2 [] (g.trans g2) cu2 (fun p hp => by simp at hp) (wk_range (by omega))⟩
        · cases ef
      · cases ef
    · cases ef
end
end TT

set_option Elab.async false
set_option linter.all false
set_option maxRecDepth 100000
set_option maxHeartbeats 4000000
namespace TT
open PySem PySem.Spec PyProof.Rows L2
section
variable {W : Wd} {pc : Pc} {F0 F : Fb} {H0 H H' : Hp} {ps qs : List (D × V)} {ε : En} {c c' : Cup} {σ : L2.St} {i : Nat}
theorem Rl.pins (R : Rl W pc F0 H0 ps ε c σ H) (p : Pins W pc (Fo F0 ε σ) H qs) : Rl W pc F0 H0 (qs ++ ps) ε c σ H :=
  { R with pin := fun x hx => (List.mem_append.mp hx).elim (p x) (R.pin x) }
theorem Rl.unpin (R : Rl W pc F0 H0 (qs ++ ps) ε c σ H) : Rl W pc F0 H0 ps ε c σ H := { R with pin := fun x hx => R.pin x (List.mem_append_right _ hx) }
theorem Rl.pinned (R : Rl W pc F0 H0 (qs ++ ps) ε c σ H) : Pins W pc (Fo F0 ε σ) H qs := fun x hx => R.pin x (List.mem_append_left _ hx)
theorem Rl.same (R : Rl W pc F0 H0 ps ε c σ H) (s : Same H H') : Rl W pc F0 H0 ps ε c σ H' := R.step (fun a o _ e => s a o e) fun p e => s _ _ (R.cup p e)
end

/-! ### for -/
def forGo (tg : Tg) (b : SS) : List D → En → Cup → Option Out
  | [], ε, c => some (.nx ε c)
  | d :: ds, ε, c => match tg d ε with
    | none => none
    | some ε1 => match b ε1 c with
      | some (.nx ε2 c2) => forGo tg b ds ε2 c2
      | some (.ct ε2 c2) => forGo tg b ds ε2 c2
      | some (.bk ε2 c2) => some (.nx ε2 c2)
      | some (.rt d c2) => some (.rt d c2)
      | none => none
def sFor (src : SI) (tg : Tg) (b : SS) : SS := fun ε c => match src ε c with
  | some (ds, c1) => forGo tg b ds ε c1
  | none => none
section
variable {X : Cx} {W : Wd} {g g1 : TG} {tg tg1 : Tg} {is is1 : List Nat} {e tgt elt iter tgt1 iter1 : Expr} {es : List Expr} {body : List Stmt} {pos : Pos} {f : SE} {b : SS} {src src1 : SI} {q q1 : SB}
theorem s_for (hc : X.calm = true) (hi : PI X tgt e (iS W src)) (hg : DG X W tgt g tg is) (hb : PSs X body (tS W b)) (hp : PassesOwn (model X.prog X.w) X.A X.env X.xe := by exact PassesOwn.never)
    (hs : ∀ x, foldedSetIterable e X.env x = pure x := by intro _; rfl) : PS X (.For tgt e body [] pos) (tS W (sFor src tg b)) :=
  PS.imp (ps_for hp hc hi hg.pg hb hs) fun E σ H ⟨pc, F0, H0, ps, ε, c, o, R, ef, k⟩ => by
    unfold sFor at ef
    split at ef
    · next ds c1 e1 =>
      refine ⟨pc, F0, H0, ps, ε, c, ds, c1, R, e1, fun J H1 qs gr cu pn wk => ?_⟩
      have R1 := (R.step gr cu).pins pn
      refine ⟨fun i m σ H => m = ds.length - i ∧ i ≤ ds.length ∧ ∃ ε c, Rl W pc F0 H0 (qs ++ ps) ε c σ H ∧ forGo tg b (ds.drop i) ε c = some o, ⟨ds.length, by simp, Nat.zero_le _, ε, c1, R1, by simpa using ef⟩, ?_⟩
      rintro i m σ2 H2 ⟨rfl, hi2, ε2, c2, R2, ef2⟩
      by_cases hlt : i < ds.length
      · refine .inr ⟨wk.goes i H2 pc _ R2.pinned hlt, fun σ' H' => ∃ ε c, Rl W pc F0 H0 (qs ++ ps) ε c σ' H' ∧ forGo tg b (ds.drop (i + 1)) ε c = some o, fun σ' H' ⟨ε', c', R', e'⟩ => ⟨ds.length - (i + 1), by omega, rfl, hlt, ε', c', R', e'⟩, fun x H' y => ?_⟩
        have hd : ds[i]? = some ds[i] := List.getElem?_eq_getElem hlt
        obtain ⟨sm, rx⟩ := wk.yields i H2 H' x _ pc _ R2.pinned R2.foDom hd y
        have R3 := R2.same sm
        rw [List.drop_eq_getElem_cons hlt] at ef2
        unfold forGo at ef2
        cases e3 : tg ds[i] ε2 with
        | none => rw [e3] at ef2; cases ef2
        | some ε3 =>
          rw [e3] at ef2
          simp only at ef2
          refine hg.ok pc F0 H0 (qs ++ ps) ε2 c2 σ2 H' _ x ε3 _ R3 rx e3 fun σ3 R4 _ _ => ?_
          cases e4 : b ε3 c2 with
          | none => rw [e4] at ef2; cases ef2
          | some o4 =>
            rw [e4] at ef2
            refine ⟨pc, F0, H0, qs ++ ps, ε3, c2, o4, R4, e4, ?_⟩
            cases o4 with
            | nx ε5 c5 => exact fun σ5 H5 R5 => ⟨ε5, c5, R5, ef2⟩
            | ct ε5 c5 => exact fun σ5 H5 R5 => ⟨ε5, c5, R5, ef2⟩
            | bk ε5 c5 => cases ef2; exact fun σ5 H5 R5 => k σ5 H5 R5.unpin
            | rt d c5 => cases ef2; exact k
      · have e0 : i = ds.length := by omega
        subst e0
        rw [List.drop_length] at ef2
        cases ef2
        exact .inl ⟨wk.stops H2 pc _ R2.pinned, k σ2 H2 R2.unpin⟩
    · cases ef

/-! ### while -/
def whileGo (q : SB) (b : SS) : Nat → En → Cup → Option Out
  | 0, _, _ => none
  | n + 1, ε, c => match q ε c with
    | none => none
    | some (false, c1) => some (.nx ε c1)
    | some (true, c1) => match b ε c1 with
      | some (.nx ε2 c2) => whileGo q b n ε2 c2
      | some (.ct ε2 c2) => whileGo q b n ε2 c2
      | some (.bk ε2 c2) => some (.nx ε2 c2)
      | some (.rt d c2) => some (.rt d c2)
      | none => none
theorem s_while (n : Nat) (hq : PT X e (tT W q)) (hb : PSs X body (tS W b)) (hp : PassesOwn (model X.prog X.w) X.A X.env X.xe := by exact PassesOwn.never) : PS X (.While e body [] pos) (tS W (whileGo q b n)) :=
  PS.imp (ps_while hp hq hb) fun E σ H ⟨pc, F0, H0, ps, ε, c, o, R, ef, k⟩ => by
    refine ⟨fun m σ H => ∃ ε c, Rl W pc F0 H0 ps ε c σ H ∧ whileGo q b m ε c = some o, ⟨n, ε, c, R, ef⟩, ?_⟩
    rintro m σ2 H2 ⟨ε2, c2, R2, ef2⟩
    cases m with
    | zero => cases ef2
    | succ m =>
      unfold whileGo at ef2
      cases e3 : q ε2 c2 with
      | none => rw [e3] at ef2; cases ef2
      | some p =>
        obtain ⟨bb, c3⟩ := p
        rw [e3] at ef2
        refine ⟨pc, F0, H0, ps, ε2, c2, bb, c3, R2, e3, fun H3 g3 cu3 => ?_⟩
        have R3 := R2.step g3 cu3
        cases bb with
        | false => cases ef2; exact iteF (k σ2 H3 R3)
        | true =>
          simp only at ef2
          refine iteT ⟨fun σ' H' => ∃ ε c, Rl W pc F0 H0 ps ε c σ' H' ∧ whileGo q b m ε c = some o, fun σ' H' h => ⟨m, Nat.lt_succ_self _, h⟩, ?_⟩
          cases e4 : b ε2 c3 with
          | none => rw [e4] at ef2; cases ef2
          | some o4 =>
            rw [e4] at ef2
            refine ⟨pc, F0, H0, ps, ε2, c3, o4, R3, e4, ?_⟩
            cases o4 with
            | nx ε5 c5 => exact fun σ5 H5 R5 => ⟨ε5, c5, R5, ef2⟩
            | ct ε5 c5 => exact fun σ5 H5 R5 => ⟨ε5, c5, R5, ef2⟩
            | bk ε5 c5 => cases ef2; exact fun σ5 H5 R5 => k σ5 H5 R5
            | rt d c5 => cases ef2; exact k

/-! ### comprehensions -/
def wipeE (ε : En) (vs : List Nat) : Option En := if vs.any (fun v => match ε[v]? with | some (some (.ow _)) => true | _ => false) then none else some (vs.foldr (fun v l => l.set v none) ε)
def compGo (tg : Tg) (q : SB) (f : SE) (ε : En) : List D → Cup → Option (List D × Cup)
  | [], c => some ([], c)
  | d :: ds, c => match tg d ε with
    | none => none
    | some ε1 => match q ε1 c with
      | none => none
      | some (false, c1) => compGo tg q f ε ds c1
      | some (true, c1) => match f ε1 c1 with
        | none => none
        | some (x, c2) => match compGo tg q f ε ds c2 with
          | none => none
          | some (xs, c3) => some (x :: xs, c3)
def eComp (vs : List Nat) (src : SI) (tg : Tg) (q : SB) (f : SE) : SE := fun ε c => match src ε c with
  | none => none
  | some (ds, c1) => match wipeE ε vs with
    | none => none
    | some ε0 => match compGo tg q f ε0 ds c1 with
      | none => none
      | some (xs, c2) => some (.lst xs, c2)
theorem foldr_get (vs : List Nat) (ε : En) (j : Nat) : (vs.foldr (fun v l => l.set v none) ε)[j]? = if j ∈ vs then (if j < ε.length then some none else none) else ε[j]? := by
  induction vs with
  | nil => simp
  | cons v vs ih =>
    rw [List.foldr_cons, List.getElem?_set]
    have hlen : ∀ l : List Nat, (l.foldr (fun v l => l.set v none) ε).length = ε.length := by
      intro l
      induction l with
      | nil => rfl
      | cons a l ih => rw [List.foldr_cons, List.length_set, ih]
    by_cases h : v = j
    · subst h
      simp [hlen]
    · rw [if_neg h, ih]
      have : (j ∈ v :: vs) ↔ j ∈ vs := by simp [Ne.symm h]
      simp [this]
theorem wipeE_some {ε ε0 : En} {vs : List Nat} (h : wipeE ε vs = some ε0) : (∀ v ∈ vs, ∀ d, ε[v]? ≠ some (some (.ow d))) ∧ ∀ j, ε0[j]? = if j ∈ vs then (if j < ε.length then some none else none) else ε[j]? := by
  unfold wipeE at h
  split at h
  · cases h
  · next hn =>
    cases h
    refine ⟨fun v hv d e => hn ?_, foldr_get vs ε⟩
    exact List.any_eq_true.mpr ⟨v, hv, by rw [e]⟩
theorem wipeE_len {ε ε0 : En} {vs : List Nat} (h : wipeE ε vs = some ε0) : ε0.length = ε.length := by
  unfold wipeE at h
  split at h
  · cases h
  · cases h
    have hlen : ∀ l : List Nat, (l.foldr (fun v l => l.set v none) ε).length = ε.length := by
      intro l
      induction l with
      | nil => rfl
      | cons a l ih => rw [List.foldr_cons, List.length_set, ih]
    exact hlen vs
theorem fo_wipe {F0 : Fb} {ε ε0 : En} {σ : L2.St} {vs : List Nat} (h : wipeE ε vs = some ε0) (hl : σ.length = ε.length) : ∀ a, Fo F0 ε0 (wipe σ vs) a ↔ Fo F0 ε σ a := fun a => by
  obtain ⟨h1, h2⟩ := wipeE_some h
  constructor
  · rintro (z | ⟨j, d, e1, e2⟩)
    · exact .inl z
    · rw [h2] at e1
      split at e1
      · split at e1 <;> cases e1
      · next hj => exact .inr ⟨j, d, e1, by rw [wipe_get, if_neg hj] at e2; exact e2⟩
  · rintro (z | ⟨j, d, e1, e2⟩)
    · exact .inl z
    · have hj : j ∉ vs := fun z => h1 j z d e1
      exact .inr ⟨j, d, by rw [h2, if_neg hj]; exact e1, by rw [wipe_get, if_neg hj]; exact e2⟩
theorem Rl.wipe {pc : Pc} {F0 : Fb} {H0 H : Hp} {ps : List (D × V)} {ε ε0 : En} {c : Cup} {σ : L2.St} {vs : List Nat} (R : Rl W pc F0 H0 ps ε c σ H) (h : wipeE ε vs = some ε0) : Rl W pc F0 H0 ps ε0 c (wipe σ vs) H := by
  obtain ⟨h1, h2⟩ := wipeE_some h
  have fo := fo_wipe (F0 := F0) h R.len
  have out : ∀ {j : Nat} {x : Sl}, ε0[j]? = some (some x) → j ∉ vs ∧ ε[j]? = some (some x) := fun {j x} e => by
    rw [h2] at e
    split at e
    · split at e <;> cases e
    · next hj => exact ⟨hj, e⟩
  have sg : ∀ {j : Nat}, j ∉ vs → (L2.wipe σ vs)[j]? = σ[j]? := fun {j} hj => by rw [wipe_get, if_neg hj]
  refine ⟨?_, R.dom, R.pcF, R.grow, R.cup, fun j d e => ?_, fun j d e => ?_, fun p hp => (R.pin p hp).mono (fun _ _ _ z => z) fun a z => (fo a).mp z, fun j k d e a e1 e2 e3 e4 => ?_⟩
  · rw [wipe_length, R.len, wipeE_len h]
  · obtain ⟨hj, e'⟩ := out e
    obtain ⟨v, sv, rv⟩ := R.fz j d e'
    exact ⟨v, by rw [sg hj]; exact sv, rv.mono (fun _ _ _ z => z) fun a z => (fo a).mp z⟩
  · obtain ⟨hj, e'⟩ := out e
    obtain ⟨a, sa, n0, h0, o⟩ := R.ow j d e'
    exact ⟨a, by rw [sg hj]; exact sa, n0, h0, o.mono (fun _ _ _ z => z) (fun _ z => z) fun a z => (fo a).mp z⟩
  · obtain ⟨hj, e1'⟩ := out e1
    obtain ⟨hk, e2'⟩ := out e2
    exact R.inj j k d e a e1' e2' (by rw [sg hj] at e3; exact e3) (by rw [sg hk] at e4; exact e4)
/-- one more forbidden address: a new object -/
theorem Rl.plus {pc : Pc} {F0 : Fb} {H0 H : Hp} {ps : List (D × V)} {ε : En} {c : Cup} {σ : L2.St} {a : Addr} {o : HO} (R : Rl W pc F0 H0 ps ε c σ H) (h : H a = none) : Rl W pc (fun b => F0 b ∨ b = a) H0 ps ε c σ (upd H a o) := by
  have g : Grow pc H (upd H a o) := Grow.new h
  have gf : GrowF (fun b => Fo F0 ε σ b ∨ b = a) H (upd H a o) := g.gf fun p z => .inl (R.foP p z)
  have fo : ∀ b, Fo (fun b => F0 b ∨ b = a) ε σ b → Fo F0 ε σ b ∨ b = a := fun b z => by
    rcases z with (z | z) | z
    · exact .inl (.inl z)
    · exact .inr z
    · exact .inl (.inr z)
  have fr := R.fresh h
  refine ⟨R.len, fun b z => ?_, fun p z => .inl (R.pcF p z), R.grow.trans g, cup_new R.cup h, fun j d e => ?_, fun j d e => ?_, fun p hp => ((R.pin p hp).forbid h).mono gf fo, R.inj⟩
  · by_cases q : b = a
    · subst q; rw [upd_same]; simp
    · rw [upd_ne q]; exact R.dom b (z.elim id fun w => absurd w q)
  · obtain ⟨v, sv, rv⟩ := R.fz j d e
    exact ⟨v, sv, (rv.forbid h).mono gf fo⟩
  · obtain ⟨b, sb, n0, h0, ob⟩ := R.ow j d e
    have hba : b ≠ a := fun q => by
      obtain ⟨o', ho, _⟩ := ob.there
      rw [q, h] at ho; cases ho
    refine ⟨b, sb, fun z => z.elim n0 hba, h0, ?_⟩
    cases d with
    | lst ds => obtain ⟨xs, e1, l, rs⟩ := ob; exact ⟨xs, by rw [upd_ne hba]; exact e1, l, (rs.forbid h).mono gf fo⟩
    | dk ks ds => obtain ⟨xs, e1, k, l, rs⟩ := ob; exact ⟨xs, by rw [upd_ne hba]; exact e1, k, l, (rs.forbid h).mono gf fo⟩
    | dt ks ds => obtain ⟨xs, e1, k, l, rs⟩ := ob; exact ⟨xs, by rw [upd_ne hba]; exact e1, k, l, (rs.forbid h).mono gf fo⟩
    | _ => exact ob.elim
/-- the object at a forbidden new address is changed -/
theorem Rl.turnF {pc : Pc} {F0 : Fb} {H0 H : Hp} {ps : List (D × V)} {ε : En} {c : Cup} {σ : L2.St} {a : Addr} {o : HO} (R : Rl W pc F0 H0 ps ε c σ H) (hf : F0 a) (hpc : pc ≠ some a) (h0 : H0 a = none) : Rl W pc F0 H0 ps ε c σ (upd H a o) := by
  have gf : GrowF (Fo F0 ε σ) H (upd H a o) := fun b z n e => by
    rw [upd_ne (fun q => n (by rw [q]; exact .inl hf))]; exact e
  refine ⟨R.len, fun b z => ?_, R.pcF, fun b z n e => ?_, fun p z => ?_, fun j d e => ?_, fun j d e => ?_, fun p hp => (R.pin p hp).mono gf fun _ z => z, R.inj⟩
  · by_cases q : b = a
    · subst q; rw [upd_same]; simp
    · rw [upd_ne q]; exact R.dom b z
  · rw [upd_ne (ne_of_none e h0)]; exact R.grow b z n e
  · rw [upd_ne (fun q => hpc (by rw [← q]; exact z))]; exact R.cup p z
  · obtain ⟨v, sv, rv⟩ := R.fz j d e
    exact ⟨v, sv, rv.mono gf fun _ z => z⟩
  · obtain ⟨b, sb, n0, k0, ob⟩ := R.ow j d e
    exact ⟨b, sb, n0, k0, ob.mono gf (fun u hu => by rw [upd_ne (fun q => n0 (by rw [q]; exact hf))]; exact hu) fun _ z => z⟩
theorem t_nil : PTs X [] (tT W fun _ c => some (true, c)) := ⟨fun pins s σ H Q I ⟨pc, F0, H0, ps, ε, c, b, c', R, ef, k⟩ => by
  cases ef
  exact pts_nil.run pins s σ H Q I (k H Grow.refl R.cup)⟩
theorem t_one (h : PT X e (tT W q)) : PTs X [e] (tT W q) := pts_one h
theorem compGo_len {tg : Tg} {q : SB} {f : SE} {ε : En} : ∀ {ds : List D} {c : Cup} {xs : List D} {c' : Cup}, compGo tg q f ε ds c = some (xs, c') → xs.length ≤ ds.length
  | [], _, _, _, h => by cases h; exact Nat.le_refl _
  | d :: ds, c, xs, c', h => by
    unfold compGo at h
    split at h
    · cases h
    · split at h
      · cases h
      · exact Nat.le_succ_of_le (compGo_len h)
      · split at h
        · cases h
        · split at h
          · cases h
          · next h3 => cases h; exact Nat.succ_le_succ (compGo_len h3)
/-- the invariant of a comprehension's loop, ahead of turn i -/
structure LcI (W : Wd) (pc : Pc) (F0 : Fb) (H0 H1 : Hp) (ps : List (D × V)) (a : Addr) (ε0 : En) (σ0 : L2.St) (es : List D) (c2 : Cup) (go : Cup → Option (List D × Cup)) (n : Nat) (H : Hp) : Prop where
  ex : ∃ c acc vacc rest, Rl W pc (fun b => F0 b ∨ b = a) H0 ps ε0 c σ0 H ∧ go c = some (rest, c2) ∧ H a = some (.lst vacc) ∧ Reps W pc (Fo (fun b => F0 b ∨ b = a) ε0 σ0) H acc vacc ∧ acc ++ rest = es ∧ acc.length ≤ n ∧ Grow pc H1 H
theorem PE.calm {t' : TE} (h : X.calm = true → PE X e t') (hc : X.calm = true) : PE X e t' := h hc
theorem tLc_of {vs : List Nat} (hv : ∀ i ∈ is, i ∈ vs) (ok : GOk W g tg is) : ∀ σ H Q, tN W (eComp vs src tg q f) σ H Q → tLc (iS W src) g (tT W q) (tE W f) vs σ H Q := fun σ H Q ⟨pc, F0, H0, ps, ε, c, d, c2, R, ef, k⟩ => by
  unfold eComp at ef
  split at ef
  · cases ef
  · next ds c1 e1 =>
    split at ef
    · cases ef
    · next ε0 e2 =>
      split at ef
      · cases ef
      · next xs c3 e3 =>
        cases ef
        refine ⟨pc, F0, H0, ps, ε, c, ds, c1, R, e1, fun J H1 qs gr cu pn wk a ha => ?_⟩
        have R1 : Rl W pc F0 H0 (qs ++ ps) ε c1 σ H1 := (R.step gr cu).pins pn
        have fr := R1.fresh ha
        have hap : H a = none := gr.none fr.2.1 ha
        have Ra : Rl W pc (fun b => F0 b ∨ b = a) H0 (qs ++ ps) ε0 c1 (wipe σ vs) (upd H1 a (.lst [])) := (R1.wipe e2).plus ha
        have fo0 : ∀ b, (Fo F0 ε σ b ∨ b = a) → Fo (fun b => F0 b ∨ b = a) ε0 (wipe σ vs) b := fun b z => by
          rcases z with z | z
          · rcases (fo_wipe (F0 := F0) e2 R.len b).mpr z with z | z
            · exact .inl (.inl z)
            · exact .inr z
          · exact .inl (.inr z)
        refine ⟨fun i m H => m = ds.length - i ∧ i ≤ ds.length ∧ LcI W pc F0 H0 H1 (qs ++ ps) a ε0 (wipe σ vs) xs c2 (compGo tg q f ε0 (ds.drop i)) i H, ⟨ds.length, by simp, Nat.zero_le _, ⟨c1, [], [], xs, Ra, by simpa using e3, upd_same, .nil, rfl, Nat.le_refl _, Grow.new ha⟩⟩, ?_⟩
        rintro i m H2 ⟨rfl, hi2, ⟨c4, acc, vacc, rest, R2, ef2, ea, rsa, el, hacc, g2⟩⟩
        by_cases hlt : i < ds.length
        · have hd : ds[i]? = some ds[i] := List.getElem?_eq_getElem hlt
          refine .inr ⟨wk.goes i H2 pc _ R2.pinned hlt, fun H' => LcI W pc F0 H0 H1 (qs ++ ps) a ε0 (wipe σ vs) xs c2 (compGo tg q f ε0 (ds.drop (i + 1))) (i + 1) H', fun H' l => ⟨ds.length - (i + 1), by omega, rfl, hlt, l⟩, fun x H' y => ?_⟩
          obtain ⟨sm, rx⟩ := wk.yields i H2 H' x _ pc _ R2.pinned R2.foDom hd y
          have R3 := R2.same sm
          rw [List.drop_eq_getElem_cons hlt] at ef2
          unfold compGo at ef2
          cases e4 : tg ds[i] ε0 with
          | none => rw [e4] at ef2; cases ef2
          | some ε1 =>
            rw [e4] at ef2
            simp only at ef2
            refine ok pc _ H0 (qs ++ ps) ε0 c4 (wipe σ vs) H' _ x ε1 _ R3 rx e4 fun σ1 R4 tch fo1 => ⟨?_, ?_⟩
            · have := tch vs hv
              rw [this]
              apply List.ext_getElem?
              intro j
              rw [wipe_get, wipe_get, wipe_length]
              by_cases hj : j ∈ vs
              · rw [if_pos hj, if_pos hj]
              · rw [if_neg hj, if_neg hj]
            · cases e5 : q ε1 c4 with
              | none => rw [e5] at ef2; cases ef2
              | some p =>
                obtain ⟨bb, c5⟩ := p
                rw [e5] at ef2
                refine ⟨pc, _, H0, qs ++ ps, ε1, c4, bb, c5, R4, e5, fun H3 g3 cu3 => ?_⟩
                have R5 := R4.step g3 cu3
                have g23 : Grow pc H2 H3 := fun b o n z => g3 b o n (sm b o z)
                cases bb with
                | false =>
                  exact iteF ⟨c5, acc, vacc, rest, R2.step g23 cu3, ef2, g23 _ _ fr.2.1 ea, rsa.mono (g23.gf R2.foP) fun _ z => z, el, Nat.le_succ_of_le hacc, g2.trans g23⟩
                | true =>
                  simp only at ef2
                  cases e6 : f ε1 c5 with
                  | none => rw [e6] at ef2; cases ef2
                  | some p =>
                    obtain ⟨y', c6⟩ := p
                    rw [e6] at ef2
                    simp only at ef2
                    cases e7 : compGo tg q f ε0 (ds.drop (i + 1)) c6 with
                    | none => rw [e7] at ef2; cases ef2
                    | some p =>
                      obtain ⟨rest2, c7⟩ := p
                      rw [e7] at ef2
                      cases ef2
                      refine iteT ⟨pc, _, H0, qs ++ ps, ε1, c5, y', c6, R5, e6, fun v H4 g4 cu4 rv => ?_⟩
                      have g24 : Grow pc H2 H4 := g23.trans g4
                      have ea4 := g24 _ _ fr.2.1 ea
                      have hl := rsa.length
                      refine ⟨vacc, ea4, ?_, ?_⟩
                      · have := wk.few
                        omega
                      · have R6 := R2.step g24 cu4
                        have R7 := R6.turnF (o := .lst (vacc ++ [v])) (.inr rfl) fr.2.1 fr.2.2
                        have gf : GrowF (Fo (fun b => F0 b ∨ b = a) ε0 (wipe σ vs)) H4 (upd H4 a (.lst (vacc ++ [v]))) := fun b z n e => by
                          rw [upd_ne (fun q => n (by rw [q]; exact .inl (.inr rfl)))]; exact e
                        refine ⟨c6, acc ++ [y'], vacc ++ [v], rest2, R7, e7, upd_same, ?_, by rw [List.append_assoc]; exact el, by rw [List.length_append]; exact Nat.succ_le_succ hacc, fun b o n z => ?_⟩
                        · refine .append ((rsa.mono (g24.gf R2.foP) fun _ z => z).mono gf fun _ z => z) (.cons (rv.mono (F' := Fo (fun b => F0 b ∨ b = a) ε0 (wipe σ vs)) (fun b z n e => ?_) fun b z => (fo1 b).mpr z) .nil)
                          rw [upd_ne (fun q => n (by rw [q]; exact .inl (.inr rfl)))]; exact e
                        · rw [upd_ne (ne_of_none z ha)]; exact (g2.trans g24) b o n z
        · have e0 : i = ds.length := by omega
          subst e0
          rw [List.drop_length] at ef2
          cases ef2
          refine .inl ⟨wk.stops H2 pc _ R2.pinned, ?_⟩
          rw [List.append_nil] at el
          subst el
          exact k a H2 (gr.trans g2) R2.cup hap ⟨vacc, ea, by have := wk.few; omega, rsa.mono (fun _ _ _ z => z) fo0⟩
/-- [elt for tgt in iter if ..] -/
theorem d_comp {ifs : List Expr} {scope : Scope} {own : List (Str × Nat)} (hc : X.calm = true) (hN : X.N.Nodup) (hi : PI X tgt iter (iS W src)) (ok : BlkOk X.N X.env.scope scope own)
    (hg : ∀ (s : Shared) (H : Hp) (C : Addr) (cl : List (Str × Addr)) (fp : List Addr), DG (X.blk s H scope (compEnvC scope cl C X.env) fp) W tgt g tg is) (ht : ∀ (s : Shared) (H : Hp) (C : Addr) (cl : List (Str × Addr)) (fp : List Addr), PTs (X.blk s H scope (compEnvC scope cl C X.env) fp) ifs (tT W q))
    (he : ∀ (s : Shared) (H : Hp) (C : Addr) (cl : List (Str × Addr)) (fp : List Addr), PE (X.blk s H scope (compEnvC scope cl C X.env) fp) elt (tE W f)) (hv : ∀ i ∈ is, i ∈ own.map (·.2) := by decide) (hs : ∀ x, foldedSetIterable iter X.env x = pure x := by intro _; rfl) :
    PE X (.ListComp elt [⟨tgt, iter, ifs, 0⟩] scope pos) (tN W (eComp (own.map (·.2)) src tg q f)) := by
  refine ⟨fun pins s σ H Q I hw => ?_⟩
  have og : GOk W g tg is := (hg s H 0 [] []).ok
  exact (pe_lc hc hN hi ok (fun s H C cl fp => (hg s H C cl fp).pg) ht he hs).run pins s σ H Q I (tLc_of hv og σ H Q hw)
/-- name = [..] on one line -/
theorem s_comp (i : Nat) {y : Str} {py spos : Pos} {ifs : List Expr} {scope : Scope} {own : List (Str × Nat)} (hc : X.calm = true) (hN : X.N.Nodup) (hsw : swapsWith (.ListComp elt [⟨tgt, iter, ifs, 0⟩] scope pos) (some (.Name y py)) spos.line X.env = pure true) (hi : PI X tgt iter (iS W src)) (ok : BlkOk X.N X.env.scope scope own)
    (hg : ∀ (s : Shared) (H : Hp) (C : Addr) (cl : List (Str × Addr)) (fp : List Addr), DG (X.blk s H scope (compEnvC scope cl C X.env) fp) W tgt g tg is) (ht : ∀ (s : Shared) (H : Hp) (C : Addr) (cl : List (Str × Addr)) (fp : List Addr), PTs (X.blk s H scope (compEnvC scope cl C X.env) fp) ifs (tT W q))
    (he : ∀ (s : Shared) (H : Hp) (C : Addr) (cl : List (Str × Addr)) (fp : List Addr), PE (X.blk s H scope (compEnvC scope cl C X.env) fp) elt (tE W f)) (hy : X.N[i]? = some y := by rfl) (hyl : X.env.scope.names.lookup y = some .local := by rfl) (hv : ∀ i ∈ is, i ∈ own.map (·.2) := by decide) (hs : ∀ x, foldedSetIterable iter X.env x = pure x := by intro _; rfl) :
    PS X (.Assign [.Name y py] (.ListComp elt [⟨tgt, iter, ifs, 0⟩] scope pos) spos) (tS W (sOwn i (eComp (own.map (·.2)) src tg q f))) := by
  refine ⟨fun pins s σ H E I hw => ?_⟩
  have og : GOk W g tg is := (hg s H 0 [] []).ok
  refine (PS.imp (ps_setLc hc hN hy hyl hsw hi ok (fun s H C cl fp => (hg s H C cl fp).pg) ht he hs) (t' := tS W (sOwn i (eComp (own.map (·.2)) src tg q f))) fun E σ H h => ?_).run pins s σ H E I hw
  have h2 := tAsgN_of E σ H h
  exact tLc_of hv og σ H _ h2
end
end TT

set_option Elab.async false
set_option linter.all false
set_option maxRecDepth 100000
set_option maxHeartbeats 4000000
namespace TT
open PySem PySem.Spec PyProof.Rows L2
section
variable {W : Wd} {pc : Pc} {F F' : Fb} {H H' : Hp}
theorem Sh.mono {d : D} {v : V} (hp : ∀ p, pc = some p → F p) (g : Grow pc H H') (s : Sh W pc F H d v) : Sh W pc F H' d v := by
  cases s with
  | of r => exact .of (r.mono (g.gf hp) fun _ z => z)
  | own n o => exact .own n (o.mono (g.gf hp) (fun u => g _ u n) fun _ z => z)
theorem Sh.int {i : Int} {v : V} (s : Sh W pc F H (.int i) v) : v = .int i := by
  cases s with
  | of r => cases r; rfl
  | own n o => exact o.elim
theorem Sh.bl {b : Bool} {v : V} (s : Sh W pc F H (.bl b) v) : v = .bl b := by
  cases s with
  | of r => cases r; rfl
  | own n o => exact o.elim
theorem Sh.non {v : V} (s : Sh W pc F H .non v) : v = .non := by
  cases s with
  | of r => cases r; rfl
  | own n o => exact o.elim
theorem Sh.str {t : List Nat} {v : V} (s : Sh W pc F H (.str t) v) : v = .str ⟨t.toArray⟩ ∧ t.length ≤ sizeLine := by
  cases s with
  | of r => cases r with | str _ h => exact ⟨rfl, h⟩
  | own n o => exact o.elim
theorem Sh.tup {ds : List D} {v : V} (s : Sh W pc F H (.tup ds) v) : ∃ a xs, v = .ref a ∧ SqT W.K H a xs ∧ ds.length ≤ sizeLine ∧ Reps W pc F H ds xs ∧ Rep W pc F H (.tup ds) v := by
  cases s with
  | of r => obtain ⟨a, xs, e, sq, l, rs⟩ := r.tupS; exact ⟨a, xs, e, sq, l, rs, r⟩
  | own n o => exact o.elim
theorem Sh.lst {ds : List D} {v : V} (s : Sh W pc F H (.lst ds) v) : ∃ a xs, v = .ref a ∧ H a = some (.lst xs) ∧ ds.length ≤ sizeLine ∧ Reps W pc F H ds xs := by
  cases s with
  | of r => cases r with | lst nf sq l rs => exact ⟨_, _, rfl, sq, l, rs⟩
  | own n o => obtain ⟨xs, e, l, rs⟩ := o; exact ⟨_, _, rfl, e, l, rs⟩
theorem same_new {p : Addr} {o : HO} (h : H p = none) : Same H (upd H p o) := fun b u e => by rw [upd_ne (ne_of_none e h)]; exact e
theorem Reps.up {ds : List D} {xs : List V} {p : Addr} {o : HO} (rs : Reps W pc F H ds xs) (h : H p = none) : Reps W pc F (upd H p o) ds xs := rs.mono (fun a u _ e => same_new h a u e) fun _ z => z
/-- a new list's items, the list itself forbidden -/
theorem Reps.upN {ds : List D} {xs : List V} {p : Addr} {o : HO} (rs : Reps W pc F H ds xs) (h : H p = none) : Reps W pc (fun b => F b ∨ b = p) (upd H p o) ds xs := (rs.forbid h).mono (fun a u _ e => same_new h a u e) fun _ z => z
theorem tup_new {ds : List D} {xs : List V} {p : Addr} (dm : ∀ a, F a → H a ≠ none) (rs : Reps W pc F H ds xs) (hl : ds.length ≤ sizeLine) (h : H p = none) : Rep W pc F (upd H p (.tup xs)) (.tup ds) (.ref p) :=
  .tup (fun z => dm p z h) (.inl upd_same) hl (rs.up h)
theorem lst_new {ds : List D} {xs : List V} {p : Addr} (rs : Reps W pc F H ds xs) (hl : ds.length ≤ sizeLine) (h : H p = none) : OwnIs W pc (fun b => F b ∨ b = p) (upd H p (.lst xs)) (.lst ds) p :=
  ⟨xs, upd_same, hl, rs.upN h⟩
theorem same_grow (s : Same H H') : Grow pc H H' := fun a o _ e => s a o e
theorem same_cup {c : Cup} (s : Same H H') (cu : CupIs pc c H) : CupIs pc c H' := fun p e => s _ _ (cu p e)
theorem same_gf (s : Same H H') : GrowF F H H' := fun a o _ e => s a o e
end
section
variable {X : Cx} {W : Wd} {e a b : Expr} {es : List Expr} {pos : Pos} {f g : SE} {fs : SL} {op : D → D → Option D} {op1 : D → Option D}
theorem PE.cases {t' : TE} (h : ∀ σ H Q, t' σ H Q → ∃ t, PE X e t ∧ t σ H Q) : PE X e t' := ⟨fun pins s σ H Q I hw => by
  obtain ⟨t, p, q⟩ := h σ H Q hw
  exact p.run pins s σ H Q I q⟩
/-- what a rule leaves: a value, all that stood standing -/
abbrev K1 (W : Wd) (pc : Pc) (F : Fb) (H : Hp) (d : D) (Q : VK) : Prop := ∀ v H', Same H H' → Rep W pc F H' d v → Q v H'
/-- a new list or dict -/
abbrev KN (W : Wd) (pc : Pc) (F : Fb) (H : Hp) (d : D) (Q : VK) : Prop := ∀ a H', Same H H' → H a = none → OwnIs W pc (fun b => F b ∨ b = a) H' d a → Q (.ref a) H'
structure Cond (pc : Pc) (F : Fb) (H : Hp) : Prop where
  p : ∀ p, pc = some p → F p
  d : ∀ a, F a → H a ≠ none
structure Op2 (X : Cx) (W : Wd) (fn : Value → Value → Sem Value) (op : D → D → Option D) : Prop where
  ok : ∀ d1 d2 d, op d1 d2 = some d → ∃ r : R2, OpR X fn r ∧ ∀ pc F H x y Q, Cond pc F H → Sh W pc F H d1 x → Sh W pc F H d2 y → K1 W pc F H d Q → r x y H Q
structure Op2N (X : Cx) (W : Wd) (fn : Value → Value → Sem Value) (op : D → D → Option D) : Prop where
  ok : ∀ d1 d2 d, op d1 d2 = some d → ∃ r : R2, OpR X fn r ∧ ∀ pc F H x y Q, Cond pc F H → Sh W pc F H d1 x → Sh W pc F H d2 y → KN W pc F H d Q → r x y H Q
def e2 (op : D → D → Option D) (f g : SE) : SE := fun ε c => match f ε c with
  | none => none
  | some (d1, c1) => match g ε c1 with
    | none => none
    | some (d2, c2) => match op d1 d2 with
      | none => none
      | some d => some (d, c2)
theorem e2_some {ε : En} {c c' : Cup} {d : D} (h : e2 op f g ε c = some (d, c')) : ∃ d1 c1 d2, f ε c = some (d1, c1) ∧ g ε c1 = some (d2, c') ∧ op d1 d2 = some d := by
  unfold e2 at h
  split at h
  · cases h
  · next d1 c1 e1 =>
    split at h
    · cases h
    · next d2 c2 e2 =>
      split at h
      · cases h
      · next d e3 => cases h; exact ⟨d1, c1, d2, e1, e2, e3⟩
theorem Rl.cond {pc : Pc} {F0 : Fb} {H0 H : Hp} {ps : List (D × V)} {ε : En} {c : Cup} {σ : L2.St} (R : Rl W pc F0 H0 ps ε c σ H) : Cond pc (Fo F0 ε σ) H := ⟨R.foP, R.foDom⟩
theorem tOp_of {r : R2} {d1 d2 d : D} {σ : L2.St} {H : Hp} {Q : VK} {pc : Pc} {F0 : Fb} {H0 : Hp} {ps : List (D × V)} {ε : En} {c c1 c' : Cup}
    (hr : ∀ pc F H x y Q, Cond pc F H → Sh W pc F H d1 x → Sh W pc F H d2 y → K1 W pc F H d Q → r x y H Q) (R : Rl W pc F0 H0 ps ε c σ H) (e1 : f ε c = some (d1, c1)) (e2 : g ε c1 = some (d2, c'))
    (k : ∀ v H', Grow pc H H' → CupIs pc c' H' → Rep W pc (Fo F0 ε σ) H' d v → Q v H') : tOp r (tP W f) (tP W g) σ H Q := by
  refine ⟨pc, F0, H0, ps, ε, c, d1, c1, R, e1, fun x H1 g1 cu1 s1 => ?_⟩
  have R1 := R.step g1 cu1
  refine ⟨pc, F0, H0, ps, ε, c1, d2, c', R1, e2, fun y H2 g2 cu2 s2 => ?_⟩
  exact hr pc _ H2 x y Q (R1.step g2 cu2).cond (s1.mono R1.foP g2) s2 fun v H3 sm rv => k v H3 (g1.trans (g2.trans (same_grow sm))) (same_cup sm cu2) rv
theorem tOpN_of {r : R2} {d1 d2 d : D} {σ : L2.St} {H : Hp} {Q : VK} {pc : Pc} {F0 : Fb} {H0 : Hp} {ps : List (D × V)} {ε : En} {c c1 c' : Cup}
    (hr : ∀ pc F H x y Q, Cond pc F H → Sh W pc F H d1 x → Sh W pc F H d2 y → KN W pc F H d Q → r x y H Q) (R : Rl W pc F0 H0 ps ε c σ H) (e1 : f ε c = some (d1, c1)) (e2 : g ε c1 = some (d2, c'))
    (k : ∀ a H', Grow pc H H' → CupIs pc c' H' → H a = none → OwnIs W pc (fun b => Fo F0 ε σ b ∨ b = a) H' d a → Q (.ref a) H') : tOp r (tP W f) (tP W g) σ H Q := by
  refine ⟨pc, F0, H0, ps, ε, c, d1, c1, R, e1, fun x H1 g1 cu1 s1 => ?_⟩
  have R1 := R.step g1 cu1
  refine ⟨pc, F0, H0, ps, ε, c1, d2, c', R1, e2, fun y H2 g2 cu2 s2 => ?_⟩
  have R2 := R1.step g2 cu2
  exact hr pc _ H2 x y Q R2.cond (s1.mono R1.foP g2) s2 fun a H3 sm ha o => k a H3 (g1.trans (g2.trans (same_grow sm))) (same_cup sm cu2) ((g1.trans g2).none (R2.fresh ha).2.1 ha) o
theorem d_bin {o : Operator} (ho : Op2 X W (binaryOp o) op) (h1 : PE X a (tP W f)) (h2 : PE X b (tP W g)) : PE X (.BinOp a o b pos) (tE W (e2 op f g)) :=
  PE.cases fun σ H Q ⟨pc, F0, H0, ps, ε, c, d, c', R, ef, k⟩ => by
    obtain ⟨d1, c1, d2, q1, q2, q3⟩ := e2_some ef
    obtain ⟨r, hr, hq⟩ := ho.ok d1 d2 d q3
    exact ⟨_, pe_op hr h1 h2, tOp_of hq R q1 q2 k⟩
theorem d_binN {o : Operator} (ho : Op2N X W (binaryOp o) op) (h1 : PE X a (tP W f)) (h2 : PE X b (tP W g)) : PE X (.BinOp a o b pos) (tN W (e2 op f g)) :=
  PE.cases fun σ H Q ⟨pc, F0, H0, ps, ε, c, d, c', R, ef, k⟩ => by
    obtain ⟨d1, c1, d2, q1, q2, q3⟩ := e2_some ef
    obtain ⟨r, hr, hq⟩ := ho.ok d1 d2 d q3
    exact ⟨_, pe_op hr h1 h2, tOpN_of hq R q1 q2 k⟩
theorem d_cmp {o : CmpOp} (ho : Op2 X W (compareOp o) op) (h1 : PE X a (tP W f)) (h2 : PE X b (tP W g)) (hm : behindInMarks o b = false := by first | exact nomark _ (by decide) (by decide) | rfl | with_unfolding_all rfl) : PE X (.Compare a [o] [b] pos) (tE W (e2 op f g)) :=
  PE.cases fun σ H Q ⟨pc, F0, H0, ps, ε, c, d, c', R, ef, k⟩ => by
    obtain ⟨d1, c1, d2, q1, q2, q3⟩ := e2_some ef
    obtain ⟨r, hr, hq⟩ := ho.ok d1 d2 d q3
    exact ⟨_, pe_cmpR hr h1 h2 hm, tOp_of hq R q1 q2 k⟩
theorem PT.cases {t' : TT} (h : ∀ σ H Q, t' σ H Q → ∃ t, PT X e t ∧ t σ H Q) : PT X e t' := ⟨fun pins s σ H Q I hw => by
  obtain ⟨t, p, q⟩ := h σ H Q hw
  exact p.run pins s σ H Q I q⟩
theorem q_bin {o : CmpOp} (ho : Op2 X W (compareOp o) op) (h1 : PE X a (tP W f)) (h2 : PE X b (tP W g)) (hm : behindInMarks o b = false := by first | exact nomark _ (by decide) (by decide) | rfl | with_unfolding_all rfl) : PT X (.Compare a [o] [b] pos) (tT W (bOf (e2 op f g))) :=
  PT.cases fun σ H Q ⟨pc, F0, H0, ps, ε, c, d, c', R, ef, k⟩ => by
    obtain ⟨d1, c1, d2, q1, q2, q3⟩ := e2_some (bOf_some ef)
    obtain ⟨r, hr, hq⟩ := ho.ok d1 d2 _ q3
    refine ⟨_, pt_cmpR hr h1 h2 hm, tOp_of hq R q1 q2 fun v H' g cu rv => ?_⟩
    cases rv
    exact ⟨_, rfl, k H' g cu⟩

/-! ### operators -/
def pAdd : D → D → Option D
  | .int i, .int j => some (.int (i + j))
  | .str s, .str t => if s.length + t.length ≤ sizeLine then some (.str (s ++ t)) else none
  | .tup xs, .tup ys => if xs.length + ys.length ≤ sizeLine then some (.tup (xs ++ ys)) else none
  | _, _ => none
def pCat : D → D → Option D
  | .lst xs, .lst ys => if xs.length + ys.length ≤ sizeLine then some (.lst (xs ++ ys)) else none
  | _, _ => none
theorem str_append (s t : List Nat) : ((⟨s.toArray⟩ : Str) ++ ⟨t.toArray⟩) = ⟨(s ++ t).toArray⟩ := by
  show Str.append _ _ = _
  unfold Str.append
  simp
theorem o_add (hK : X.K = W.K) : Op2 X W (binaryOp .Add) pAdd := ⟨fun d1 d2 d h => by
  cases d1 <;> cases d2 <;> try (simp [pAdd] at h; done)
  · cases h
    refine ⟨_, op_add, fun pc F H x y Q cd s1 s2 k => ?_⟩
    exact ⟨_, _, s1.int, s2.int, k _ H (Same.refl _) (.int _)⟩
  · rename_i s t
    simp only [pAdd] at h
    split at h
    · next hl =>
      cases h
      refine ⟨_, op_add_str, fun pc F H x y Q cd s1 s2 k => ?_⟩
      refine ⟨_, _, s1.str.1, s2.str.1, ?_, ?_⟩
      · show s.toArray.size + t.toArray.size ≤ sizeLine
        simpa using hl
      · rw [str_append]
        exact k _ H (Same.refl _) (.str _ (by rw [List.length_append]; exact hl))
    · cases h
  · rename_i xs ys
    simp only [pAdd] at h
    split at h
    · next hl =>
      cases h
      refine ⟨_, op_catA, fun pc F H x y Q cd s1 s2 k => ?_⟩
      obtain ⟨a, us, rfl, q1, l1, r1, p1⟩ := s1.tup
      obtain ⟨b, vs, rfl, q2, l2, r2, p2⟩ := s2.tup
      rw [hK]
      refine ⟨a, b, us, vs, rfl, rfl, q1, q2, by rw [← r1.length, ← r2.length]; exact hl, fun e => ?_, fun _ e => ?_, fun _ _ p hp => ?_⟩
      · have : xs = [] := by
          have := r1.length
          rw [e] at this
          exact List.eq_nil_of_length_eq_zero this
        subst this
        exact k _ H (Same.refl _) p2
      · have : ys = [] := by
          have := r2.length
          rw [e] at this
          exact List.eq_nil_of_length_eq_zero this
        subst this
        rw [List.append_nil] at k
        exact k _ H (Same.refl _) p1
      · exact k _ _ (same_new hp) (tup_new cd.d (r1.append r2) (by rw [List.length_append]; exact hl) hp)
    · cases h⟩
theorem o_cat : Op2N X W (binaryOp .Add) pCat := ⟨fun d1 d2 d h => by
  cases d1 <;> cases d2 <;> try (simp [pCat] at h; done)
  rename_i xs ys
  simp only [pCat] at h
  split at h
  · next hl =>
    cases h
    refine ⟨_, op_cat, fun pc F H x y Q cd s1 s2 k => ?_⟩
    obtain ⟨a, us, rfl, q1, l1, r1⟩ := s1.lst
    obtain ⟨b, vs, rfl, q2, l2, r2⟩ := s2.lst
    refine ⟨a, b, us, vs, rfl, rfl, q1, q2, by rw [← r1.length, ← r2.length]; exact hl, fun p hp => ?_⟩
    exact k p _ (same_new hp) hp (lst_new (r1.append r2) (by rw [List.length_append]; exact hl) hp)
  · cases h⟩
def pSub : D → D → Option D
  | .int i, .int j => some (.int (i - j))
  | _, _ => none
theorem o_sub : Op2 X W (binaryOp .Sub) pSub := ⟨fun d1 d2 d h => by
  cases d1 <;> cases d2 <;> try (simp [pSub] at h; done)
  cases h
  exact ⟨_, op_sub, fun pc F H x y Q cd s1 s2 k => ⟨_, _, s1.int, s2.int, k _ H (Same.refl _) (.int _)⟩⟩⟩
/-- a product, one factor below 2 ^ 64 -/
def pMul : D → D → Option D
  | .int i, .int j => if (-18446744073709551616 < i ∧ i < 18446744073709551616) ∨ (-18446744073709551616 < j ∧ j < 18446744073709551616) then some (.int (i * j)) else none
  | _, _ => none
theorem o_mul : Op2 X W (binaryOp .Mult) pMul := ⟨fun d1 d2 d h => by
  cases d1 <;> cases d2 <;> try (simp [pMul] at h; done)
  simp only [pMul] at h
  split at h
  · next hc =>
    cases h
    exact ⟨_, op_mul, fun pc F H x y Q cd s1 s2 k => ⟨_, _, s1.int, s2.int, hc, k _ H (Same.refl _) (.int _)⟩⟩
  · cases h⟩
def pDiv : D → D → Option D
  | .int i, .int j => if 0 < j ∧ j < 1073741824 then some (.int (i / j)) else none
  | _, _ => none
theorem o_div : Op2 X W (binaryOp .FloorDiv) pDiv := ⟨fun d1 d2 d h => by
  cases d1 <;> cases d2 <;> try (simp [pDiv] at h; done)
  simp only [pDiv] at h
  split at h
  · next hc =>
    cases h
    exact ⟨_, op_fdiv, fun pc F H x y Q cd s1 s2 k => ⟨_, _, s1.int, s2.int, hc, k _ H (Same.refl _) (.int _)⟩⟩
  · cases h⟩
def pMod : D → D → Option D
  | .int i, .int j => if 0 < j then some (.int (i % j)) else none
  | _, _ => none
theorem o_mod : Op2 X W (binaryOp .Mod) pMod := ⟨fun d1 d2 d h => by
  cases d1 <;> cases d2 <;> try (simp [pMod] at h; done)
  simp only [pMod] at h
  split at h
  · next hc =>
    cases h
    exact ⟨_, op_mod, fun pc F H x y Q cd s1 s2 k => ⟨_, _, s1.int, s2.int, hc, k _ H (Same.refl _) (.int _)⟩⟩
  · cases h⟩
def pPow : D → D → Option D
  | .int i, .int j => if 0 ≤ j ∧ j ≤ 1000000 ∧ i.natAbs < 2 ^ 64 then some (.int (i ^ j.toNat)) else none
  | _, _ => none
theorem o_pow : Op2 X W (binaryOp .Pow) pPow := ⟨fun d1 d2 d h => by
  cases d1 <;> cases d2 <;> try (simp [pPow] at h; done)
  simp only [pPow] at h
  split at h
  · next hc =>
    cases h
    exact ⟨_, op_pow, fun pc F H x y Q cd s1 s2 k => ⟨_, _, s1.int, s2.int, hc, k _ H (Same.refl _) (.int _)⟩⟩
  · cases h⟩
def pShl : D → D → Option D
  | .int i, .int j => if 0 ≤ j ∧ j ≤ 1000000 ∧ i.natAbs < 2 ^ 64 then some (.int (i * 2 ^ j.toNat)) else none
  | _, _ => none
theorem o_shl : Op2 X W (binaryOp .LShift) pShl := ⟨fun d1 d2 d h => by
  cases d1 <;> cases d2 <;> try (simp [pShl] at h; done)
  simp only [pShl] at h
  split at h
  · next hc =>
    cases h
    exact ⟨_, op_shl, fun pc F H x y Q cd s1 s2 k => ⟨_, _, s1.int, s2.int, hc, k _ H (Same.refl _) (.int _)⟩⟩
  · cases h⟩
def pShr : D → D → Option D
  | .int i, .int j => if 0 ≤ j then some (.int (i / 2 ^ j.toNat)) else none
  | _, _ => none
theorem o_shr : Op2 X W (binaryOp .RShift) pShr := ⟨fun d1 d2 d h => by
  cases d1 <;> cases d2 <;> try (simp [pShr] at h; done)
  simp only [pShr] at h
  split at h
  · next hc =>
    cases h
    exact ⟨_, op_shr, fun pc F H x y Q cd s1 s2 k => ⟨_, _, s1.int, s2.int, hc, k _ H (Same.refl _) (.int _)⟩⟩
  · cases h⟩
def pBit (g : Int → Int → Int) : D → D → Option D
  | .int i, .int j => some (.int (g i j))
  | _, _ => none
theorem o_bit {fn : Value → Value → Sem Value} {g : Int → Int → Int} (h0 : OpR X fn (rI0 fun i j => .int (g i j))) : Op2 X W fn (pBit g) := ⟨fun d1 d2 d h => by
  cases d1 <;> cases d2 <;> try (simp [pBit] at h; done)
  cases h
  exact ⟨_, h0, fun pc F H x y Q cd s1 s2 k => ⟨_, _, s1.int, s2.int, k _ H (Same.refl _) (.int _)⟩⟩⟩
theorem o_and : Op2 X W (binaryOp .BitAnd) (pBit Builtin.bitAnd) := o_bit op_and
theorem o_or : Op2 X W (binaryOp .BitOr) (pBit Builtin.bitOr) := o_bit op_or
theorem o_xor : Op2 X W (binaryOp .BitXor) (pBit Builtin.bitXor) := o_bit op_xor
/-- is None, True, False -/
def pIs : D → D → Option D
  | .non, .non => some (.bl true)
  | .bl a, .bl b => some (.bl (decide (a = b)))
  | .cup, .non => none
  | _, .non => some (.bl false)
  | _, _ => none
def pIsNot (x y : D) : Option D := match pIs x y with
  | some (.bl b) => some (.bl (!b))
  | _ => none
theorem sh_non_iff {pc : Pc} {F : Fb} {H : Hp} {d : D} {v : V} (s : Sh W pc F H d v) (h : d ≠ .non) : v ≠ .non := by
  intro e
  subst e
  cases s with
  | of r => cases r; exact h rfl
def isNonD : D → Bool
  | .non => true
  | _ => false
theorem isNon_v {pc : Pc} {F : Fb} {H : Hp} {d : D} {v : V} (s : Sh W pc F H d v) : decide (v = V.non) = isNonD d := by
  cases d with
  | non => rw [s.non]; rfl
  | _ => exact decide_eq_false (sh_non_iff s (fun z => nomatch z))
theorem pIs_non {d r : D} (h : pIs d .non = some r) : r = .bl (isNonD d) := by
  cases d <;> simp [pIs] at h <;> exact h.symm
theorem o_is : Op2 X W (compareOp .Is) pIs := ⟨fun d1 d2 d h => by
  cases d2 with
  | non =>
    have e := pIs_non h
    subst e
    exact ⟨_, op_isN, fun pc F H x y Q cd s1 s2 k => ⟨s2.non, by rw [isNon_v s1]; exact k _ H (Same.refl _) (.bl _)⟩⟩
  | bl b =>
    cases d1 <;> simp [pIs] at h
    rename_i b1
    subst h
    exact ⟨_, op_is_bl, fun pc F H x y Q cd s1 s2 k => ⟨b1, b, s1.bl, s2.bl, k _ H (Same.refl _) (.bl _)⟩⟩
  | _ => cases d1 <;> simp [pIs] at h⟩
theorem o_isnot : Op2 X W (compareOp .IsNot) pIsNot := ⟨fun d1 d2 d h => by
  unfold pIsNot at h
  split at h
  · next b0 e0 =>
    cases h
    cases d2 with
    | non =>
      have e := pIs_non e0
      injection e with e
      subst e
      exact ⟨_, op_notN, fun pc F H x y Q cd s1 s2 k => ⟨s2.non, by rw [isNon_v s1]; exact k _ H (Same.refl _) (.bl _)⟩⟩
    | bl b =>
      cases d1 <;> simp [pIs] at e0
      rename_i b1
      subst e0
      exact ⟨_, op_isnot_bl, fun pc F H x y Q cd s1 s2 k => ⟨b1, b, s1.bl, s2.bl, k _ H (Same.refl _) (.bl _)⟩⟩
    | _ => cases d1 <;> simp [pIs] at e0
  · cases h⟩
/-- one-place operators -/
def e1 (op : D → Option D) (f : SE) : SE := fun ε c => match f ε c with
  | none => none
  | some (d1, c1) => match op d1 with
    | none => none
    | some d => some (d, c1)
theorem e1_some {ε : En} {c c' : Cup} {d : D} (h : e1 op1 f ε c = some (d, c')) : ∃ d1, f ε c = some (d1, c') ∧ op1 d1 = some d := by
  unfold e1 at h
  split at h
  · cases h
  · next d1 c1 e1 =>
    split at h
    · cases h
    · next d e3 => cases h; exact ⟨d1, e1, e3⟩
def pNeg : D → Option D
  | .int i => some (.int (-i))
  | _ => none
theorem d_neg (h : PE X a (tP W f)) : PE X (.UnaryOp .USub a pos) (tE W (e1 pNeg f)) :=
  PE.imp (pe_un un_neg h) fun σ H Q ⟨pc, F0, H0, ps, ε, c, d, c', R, ef, k⟩ => by
    obtain ⟨d1, q1, q2⟩ := e1_some ef
    cases d1 <;> simp [pNeg] at q2
    cases q2
    exact ⟨pc, F0, H0, ps, ε, c, _, c', R, q1, fun v H1 g cu s => ⟨_, s.int, k _ H1 g cu (.int _)⟩⟩
end
end TT

set_option Elab.async false
set_option linter.all false
set_option maxRecDepth 100000
set_option maxHeartbeats 4000000
namespace TT
open PySem PySem.Spec PyProof.Rows L2 PySem.W PySem.SeqAt
/-! ### data without dicts -/
mutual
def toPy : D → PyData
  | .non => .none
  | .bl b => .bool b
  | .int i => .int i
  | .str s => .str ⟨s.toArray⟩
  | .tup xs => .tuple (toPys xs)
  | .lst xs => .list (toPys xs)
  | .dk _ _ => .none
  | .dt _ _ => .none
  | .fn _ => .none
  | .cup => .none
  | .scr _ => .none
def toPys : List D → List PyData
  | [] => []
  | x :: xs => toPy x :: toPys xs
end
mutual
def plainD : D → Bool
  | .non => true
  | .bl _ => true
  | .int _ => true
  | .str _ => true
  | .tup xs => plainDs xs
  | .lst xs => plainDs xs
  | .dk _ _ => false
  | .dt _ _ => false
  | .fn _ => false
  | .cup => false
  | .scr _ => false
def plainDs : List D → Bool
  | [] => true
  | x :: xs => plainD x && plainDs xs
end
mutual
def depthD : D → Nat
  | .tup xs => depthDs xs + 1
  | .lst xs => depthDs xs + 1
  | _ => 0
def depthDs : List D → Nat
  | [] => 0
  | x :: xs => max (depthD x) (depthDs xs)
end
mutual
def eqD : D → D → Bool
  | .non, b => (match b with | .non => true | _ => false)
  | .bl a, b => (match b with | .bl b => a == b | .int j => (if a then 1 else 0) == j | _ => false)
  | .int i, b => (match b with | .int j => i == j | .bl b => i == (if b then 1 else 0) | _ => false)
  | .str s, b => (match b with | .str t => s == t | _ => false)
  | .tup xs, b => (match b with | .tup ys => eqDs xs ys | _ => false)
  | .lst xs, b => (match b with | .lst ys => eqDs xs ys | _ => false)
  | .dk _ _, _ => false
  | .dt _ _, _ => false
  | .fn _, _ => false
  | .cup, _ => false
  | .scr _, _ => false
def eqDs : List D → List D → Bool
  | [], ys => ys.isEmpty
  | x :: xs, ys => (match ys with | [] => false | y :: ys => eqD x y && eqDs xs ys)
end
theorem toPys_map : ∀ xs : List D, toPys xs = xs.map toPy
  | [] => rfl
  | x :: xs => by rw [toPys, toPys_map xs, List.map_cons]
mutual
theorem plain_toPy : ∀ d : D, (toPy d).plain = true
  | .non => rfl
  | .bl _ => rfl
  | .int _ => rfl
  | .str _ => rfl
  | .tup xs => by rw [toPy, PyData.plain]; exact plain_toPys xs
  | .lst xs => by rw [toPy, PyData.plain]; exact plain_toPys xs
  | .dk _ _ => rfl
  | .dt _ _ => rfl
  | .fn _ => rfl
  | .cup => rfl
  | .scr _ => rfl
theorem plain_toPys : ∀ ds : List D, PyData.plainAll (toPys ds) = true
  | [] => rfl
  | x :: xs => by rw [toPys, PyData.plainAll, plain_toPy x, plain_toPys xs]; rfl
end
mutual
theorem depth_toPy : ∀ d : D, (toPy d).depth = depthD d
  | .non => rfl
  | .bl _ => rfl
  | .int _ => rfl
  | .str _ => rfl
  | .tup xs => by rw [toPy, PyData.depth, depthD, depth_toPys xs]
  | .lst xs => by rw [toPy, PyData.depth, depthD, depth_toPys xs]
  | .dk _ _ => rfl
  | .dt _ _ => rfl
  | .fn _ => rfl
  | .cup => rfl
  | .scr _ => rfl
theorem depth_toPys : ∀ ds : List D, PyData.depthAll (toPys ds) = depthDs ds
  | [] => rfl
  | x :: xs => by rw [toPys, PyData.depthAll, depthDs, depth_toPy x, depth_toPys xs]
end
theorem str_beq (s t : List Nat) : ((⟨s.toArray⟩ : Str) == ⟨t.toArray⟩) = (s == t) := by
  rw [Bool.eq_iff_iff]
  simp
mutual
theorem eqv_toPy : ∀ a b : D, plainD a = true → plainD b = true → PyData.eqv (toPy a) (toPy b) = eqD a b
  | .non, b, _, hb => by cases b <;> first | rfl | (simp [plainD] at hb; done) | simp [toPy, PyData.eqv, eqD]
  | .bl x, b, _, hb => by cases b <;> first | rfl | (simp [plainD] at hb; done) | simp [toPy, PyData.eqv, eqD]
  | .int i, b, _, hb => by cases b <;> first | rfl | (simp [plainD] at hb; done) | simp [toPy, PyData.eqv, eqD]
  | .str s, b, _, hb => by cases b <;> first | rfl | (simp [plainD] at hb; done) | (simp only [toPy, PyData.eqv, eqD, str_beq])
  | .tup xs, b, ha, hb => by
    rw [plainD] at ha
    cases b with
    | tup ys =>
      rw [plainD] at hb
      simp only [toPy, PyData.eqv, eqD]
      exact eqv_toPys xs ys ha hb
    | _ => first | (simp [plainD] at hb; done) | simp [toPy, PyData.eqv, eqD]
  | .lst xs, b, ha, hb => by
    rw [plainD] at ha
    cases b with
    | lst ys =>
      rw [plainD] at hb
      simp only [toPy, PyData.eqv, eqD]
      exact eqv_toPys xs ys ha hb
    | _ => first | (simp [plainD] at hb; done) | simp [toPy, PyData.eqv, eqD]
  | .dk _ _, _, ha, _ => by simp [plainD] at ha
  | .dt _ _, _, ha, _ => by simp [plainD] at ha
  | .fn _, _, ha, _ => by simp [plainD] at ha
  | .cup, _, ha, _ => by simp [plainD] at ha
  | .scr _, _, ha, _ => by simp [plainD] at ha
theorem eqv_toPys : ∀ a b : List D, plainDs a = true → plainDs b = true → PyData.eqvAll (toPys a) (toPys b) = eqDs a b
  | [], [], _, _ => rfl
  | [], y :: ys, _, _ => by simp [toPys, PyData.eqvAll, eqDs]
  | x :: xs, [], _, _ => by simp [toPys, PyData.eqvAll, eqDs]
  | x :: xs, y :: ys, ha, hb => by
    rw [plainDs, Bool.and_eq_true] at ha hb
    simp only [toPys, PyData.eqvAll, eqDs]
    rw [eqv_toPy x y ha.1 hb.1, eqv_toPys xs ys ha.2 hb.2]
end
section
variable {W : Wd} {pc : Pc} {F : Fb} {H : Hp}
mutual
theorem Rep.dp : ∀ (d : D) (v : V), plainD d = true → Rep W pc F H d v → Dp W.K H v (toPy d)
  | .non, _, _, r => by cases r; exact .non
  | .bl b, _, _, r => by cases r; exact .bl b
  | .int i, _, _, r => by cases r; exact .int i
  | .str s, _, _, r => by cases r; exact .str _
  | .tup ds, _, h, r => by
    rw [plainD] at h
    obtain ⟨a, xs, rfl, sq, l, rs⟩ := r.tupS
    exact .tup sq (Reps.dp ds xs h rs)
  | .lst ds, _, h, r => by
    rw [plainD] at h
    obtain ⟨a, xs, rfl, nf, sq, l, rs⟩ := r.lstS
    exact .lst sq (Reps.dp ds xs h rs)
  | .dk _ _, _, ha, _ => by simp [plainD] at ha
  | .dt _ _, _, ha, _ => by simp [plainD] at ha
  | .fn _, _, ha, _ => by simp [plainD] at ha
  | .cup, _, ha, _ => by simp [plainD] at ha
  | .scr _, _, ha, _ => by simp [plainD] at ha
theorem Reps.dp : ∀ (ds : List D) (vs : List V), plainDs ds = true → Reps W pc F H ds vs → DpAll W.K H vs (toPys ds)
  | [], _, _, r => by cases r; exact .nil
  | d :: ds, _, h, r => by
    rw [plainDs, Bool.and_eq_true] at h
    cases r with
    | cons r rs => exact .cons (Rep.dp d _ h.1 r) (Reps.dp ds _ h.2 rs)
end
theorem Sh.dp {d : D} {v : V} (h : plainD d = true) (s : Sh W pc F H d v) : Dp W.K H v (toPy d) := by
  cases s with
  | of r => exact r.dp d v h
  | own n o =>
    cases d with
    | lst ds =>
      rw [plainD] at h
      obtain ⟨xs, e, l, rs⟩ := o
      exact .lst (.of e) (rs.dp ds xs h)
    | dk _ _ => simp [plainD] at h
    | dt _ _ => simp [plainD] at h
    | _ => exact o.elim
end
/-! ### ==, != -/
def fewD (a b : D) : Bool := plainD a && plainD b && decide (min (depthD a) (depthD b) ≤ 60)
def pEq (a b : D) : Option D := if fewD a b then some (.bl (eqD a b)) else none
def pNe (a b : D) : Option D := if fewD a b then some (.bl (!eqD a b)) else none
theorem fewD_ok {a b : D} (h : fewD a b = true) : plainD a = true ∧ plainD b = true ∧ min (depthD a) (depthD b) ≤ 60 := by
  unfold fewD at h
  rw [Bool.and_eq_true, Bool.and_eq_true, decide_eq_true_iff] at h
  exact ⟨h.1.1, h.1.2, h.2⟩
section
variable {X : Cx} {W : Wd}
def rDat (K : PySem.W.Frag) (P : PyData → PyData → Prop) (g : PyData → PyData → Bool) : R2 := fun x y H Q => ∃ d e, Dp K H x d ∧ Dp K H y e ∧ P d e ∧ Q (.bl (g d e)) H
theorem op_dat {fn : Value → Value → Sem Value} {P : PyData → PyData → Prop} {g : PyData → PyData → Bool}
    (rule : ∀ (s : Shared) (a b : Value) (da db : PyData) (as bs : List Addr) (Q : Value → Shared → Prop), Reads s.heap a da as → Reads s.heap b db bs → P da db → Q (.bool (g da db)) s → wpAny (model X.prog X.w) X.A (fn a b) Q X.xe s) : OpR X fn (rDat X.K P g) := by
  intro pins s σ H x y v u Q I rx ry h
  obtain ⟨d, e, hd, he, hp, q⟩ := h
  obtain ⟨as, r1⟩ := Dp.reads I d x v hd rx
  obtain ⟨bs, r2⟩ := Dp.reads I e y u he ry
  exact rule s v u d e as bs _ r1 r2 hp ⟨.bl _, H, I, rfl, q⟩
def PPl (d e : PyData) : Prop := d.plain = true ∧ e.plain = true ∧ min d.depth e.depth ≤ 60
theorem op_eqP (hu : X.A.units + 64 < cLine) : OpR X (compareOp .Eq) (rDat X.K PPl PyData.eqv) := op_dat fun s a b da db as bs Q r1 r2 p q => eq_plain r1 r2 p.1 p.2.1 (by have := p.2.2; omega) q
theorem op_neP (hu : X.A.units + 64 < cLine) : OpR X (compareOp .NotEq) (rDat X.K PPl fun a b => !PyData.eqv a b) := op_dat fun s a b da db as bs Q r1 r2 p q => ne_plain r1 r2 p.1 p.2.1 (by have := p.2.2; omega) q
theorem o_dat {fn : Value → Value → Sem Value} {P : PyData → PyData → Prop} {g : PyData → PyData → Bool} {op : D → D → Option D} (hK : X.K = W.K) (ho : OpR X fn (rDat X.K P g))
    (h : ∀ a b d, op a b = some d → plainD a = true ∧ plainD b = true ∧ P (toPy a) (toPy b) ∧ d = .bl (g (toPy a) (toPy b))) : Op2 X W fn op := ⟨fun d1 d2 d e => by
  obtain ⟨p1, p2, p3, rfl⟩ := h d1 d2 d e
  refine ⟨_, ho, fun pc F H x y Q cd s1 s2 k => ?_⟩
  rw [hK]
  exact ⟨_, _, s1.dp p1, s2.dp p2, p3, k _ H (Same.refl _) (.bl _)⟩⟩
theorem ppl_of {a b : D} (h : min (depthD a) (depthD b) ≤ 60) : PPl (toPy a) (toPy b) := ⟨plain_toPy a, plain_toPy b, by rw [depth_toPy, depth_toPy]; exact h⟩
theorem o_eq (hK : X.K = W.K) (hu : X.A.units + 64 < cLine) : Op2 X W (compareOp .Eq) pEq := o_dat hK (op_eqP hu) fun a b d e => by
  unfold pEq at e
  split at e
  · next h =>
    cases e
    obtain ⟨h1, h2, h3⟩ := fewD_ok h
    exact ⟨h1, h2, ppl_of h3, by rw [eqv_toPy a b h1 h2]⟩
  · cases e
theorem o_ne (hK : X.K = W.K) (hu : X.A.units + 64 < cLine) : Op2 X W (compareOp .NotEq) pNe := o_dat hK (op_neP hu) fun a b d e => by
  unfold pNe at e
  split at e
  · next h =>
    cases e
    obtain ⟨h1, h2, h3⟩ := fewD_ok h
    exact ⟨h1, h2, ppl_of h3, by rw [eqv_toPy a b h1 h2]⟩
  · cases e
end

/-! ### <, <=, >, >= -/
mutual
def alikeD : D → D → Bool
  | .non, b => (match b with | .non => true | _ => false)
  | .bl _, b => (match b with | .bl _ => true | _ => false)
  | .int _, b => (match b with | .int _ => true | _ => false)
  | .str _, b => (match b with | .str _ => true | _ => false)
  | .tup xs, b => (match b with | .tup ys => alikeDs xs ys | _ => false)
  | .lst xs, b => (match b with | .lst ys => alikeDs xs ys | _ => false)
  | .dk _ _, _ => false
  | .dt _ _, _ => false
  | .fn _, _ => false
  | .cup, _ => false
  | .scr _, _ => false
def alikeDs : List D → List D → Bool
  | [], _ => true
  | x :: xs, ys => (match ys with | [] => true | y :: ys => alikeD x y && alikeDs xs ys)
end
mutual
def ltD : D → D → Bool
  | .bl a, b => (match b with | .bl b => !a && b | _ => false)
  | .int i, b => (match b with | .int j => decide (i < j) | _ => false)
  | .str s, b => (match b with | .str t => decide (s < t) | _ => false)
  | .tup xs, b => (match b with | .tup ys => ltDs xs ys | _ => false)
  | .lst xs, b => (match b with | .lst ys => ltDs xs ys | _ => false)
  | .non, _ => false
  | .dk _ _, _ => false
  | .dt _ _, _ => false
  | .fn _, _ => false
  | .cup, _ => false
  | .scr _, _ => false
def ltDs : List D → List D → Bool
  | [], ys => !ys.isEmpty
  | x :: xs, ys => (match ys with | [] => false | y :: ys => if eqD x y then ltDs xs ys else ltD x y)
end
mutual
theorem alike_toPy : ∀ a b : D, alikeD a b = true → plainD a = true → plainD b = true → alike (toPy a) (toPy b) = true
  | .non, b, h, _, _ => by cases b <;> simp [alikeD] at h <;> simp [toPy, alike]
  | .bl x, b, h, _, _ => by cases b <;> simp [alikeD] at h <;> simp [toPy, alike]
  | .int i, b, h, _, _ => by cases b <;> simp [alikeD] at h <;> simp [toPy, alike]
  | .str s, b, h, _, _ => by cases b <;> simp [alikeD] at h <;> simp [toPy, alike]
  | .tup xs, b, h, ha, hb => by
    cases b <;> simp only [alikeD, Bool.false_eq_true] at h
    rw [plainD] at ha hb
    simp only [toPy, alike]
    exact alike_toPys xs _ h ha hb
  | .lst xs, b, h, ha, hb => by
    cases b <;> simp only [alikeD, Bool.false_eq_true] at h
    rw [plainD] at ha hb
    simp only [toPy, alike]
    exact alike_toPys xs _ h ha hb
  | .dk _ _, _, h, _, _ => by simp [alikeD] at h
  | .dt _ _, _, h, _, _ => by simp [alikeD] at h
  | .fn _, _, h, _, _ => by simp [alikeD] at h
  | .cup, _, h, _, _ => by simp [alikeD] at h
  | .scr _, _, h, _, _ => by simp [alikeD] at h
theorem alike_toPys : ∀ a b : List D, alikeDs a b = true → plainDs a = true → plainDs b = true → alikeAll (toPys a) (toPys b) = true
  | [], _, _, _, _ => by simp [toPys, alikeAll]
  | x :: xs, [], _, _, _ => by simp [toPys, alikeAll]
  | x :: xs, y :: ys, h, ha, hb => by
    simp only [alikeDs, Bool.and_eq_true] at h
    rw [plainDs, Bool.and_eq_true] at ha hb
    simp only [toPys, alikeAll]
    rw [alike_toPy x y h.1 ha.1 hb.1, alike_toPys xs ys h.2 ha.2 hb.2]
    rfl
end
mutual
theorem dataLt_toPy : ∀ a b : D, alikeD a b = true → plainD a = true → plainD b = true → dataLt (toPy a) (toPy b) = ltD a b
  | .non, b, h, _, _ => by cases b <;> simp [alikeD] at h; exact lex_irrefl _
  | .bl x, b, h, _, _ => by
    cases b with
    | bl y =>
      rw [toPy, toPy, dataLt_bool, ltD]
      cases x <;> cases y <;> decide
    | _ => simp [alikeD] at h
  | .int i, b, h, _, _ => by
    cases b <;> simp [alikeD] at h
    rw [toPy, toPy, dataLt_int, ltD]
  | .str s, b, h, _, _ => by
    cases b <;> simp [alikeD] at h
    rw [toPy, toPy, dataLt_str, ltD]
  | .tup xs, b, h, ha, hb => by
    cases b <;> simp only [alikeD, Bool.false_eq_true] at h
    rw [plainD] at ha hb
    rw [toPy, toPy, dataLt_tuple, ltD]
    exact dataLt_toPys xs _ h ha hb
  | .lst xs, b, h, ha, hb => by
    cases b <;> simp only [alikeD, Bool.false_eq_true] at h
    rw [plainD] at ha hb
    rw [toPy, toPy, dataLt_list, ltD]
    exact dataLt_toPys xs _ h ha hb
  | .dk _ _, _, h, _, _ => by simp [alikeD] at h
  | .dt _ _, _, h, _, _ => by simp [alikeD] at h
  | .fn _, _, h, _, _ => by simp [alikeD] at h
  | .cup, _, h, _, _ => by simp [alikeD] at h
  | .scr _, _, h, _, _ => by simp [alikeD] at h
theorem dataLt_toPys : ∀ a b : List D, alikeDs a b = true → plainDs a = true → plainDs b = true → PyProof.Rows.lexLt itemOrd (keyToksAll (toPys a)) (keyToksAll (toPys b)) = ltDs a b
  | [], [], _, _, _ => lex_irrefl _
  | [], y :: ys, _, _, _ => by
    have := firstLt_toks [] (toPys (y :: ys)) (by simp [alikeAll])
    rw [toPys] at *
    rw [← this]
    simp [firstLt, ltDs, toPys]
  | x :: xs, [], _, _, _ => by
    have := firstLt_toks (toPys (x :: xs)) [] (by simp [toPys, alikeAll])
    rw [show toPys [] = [] from rfl, ← this]
    simp [firstLt, ltDs, toPys]
  | x :: xs, y :: ys, h, ha, hb => by
    simp only [alikeDs, Bool.and_eq_true] at h
    rw [plainDs, Bool.and_eq_true] at ha hb
    rw [toPys, toPys, dataLt_cons (alike_toPy x y h.1 ha.1 hb.1), eqv_toPy x y ha.1 hb.1, dataLt_toPys xs ys h.2 ha.2 hb.2, dataLt_toPy x y h.1 ha.1 hb.1]
    simp only [ltDs]
end
def fewLt (a b : D) : Bool := fewD a b && alikeD a b && !isNonD a
theorem fewLt_ok {a b : D} (h : fewLt a b = true) : plainD a = true ∧ plainD b = true ∧ min (depthD a) (depthD b) ≤ 60 ∧ alikeD a b = true ∧ a ≠ .non := by
  unfold fewLt at h
  rw [Bool.and_eq_true, Bool.and_eq_true] at h
  obtain ⟨h1, h2, h3⟩ := fewD_ok h.1.1
  refine ⟨h1, h2, h3, h.1.2, fun e => ?_⟩
  subst e
  exact absurd h.2 (by decide)
def pLt (a b : D) : Option D := if fewLt a b then some (.bl (ltD a b)) else none
def pGt (a b : D) : Option D := if fewLt a b && fewLt b a then some (.bl (ltD b a)) else none
def pLe (a b : D) : Option D := if fewLt a b && fewLt b a then some (.bl (!ltD b a)) else none
def pGe (a b : D) : Option D := if fewLt a b then some (.bl (!ltD a b)) else none
section
variable {X : Cx} {W : Wd}
def PAl (d e : PyData) : Prop := alike d e = true ∧ d ≠ .none ∧ min d.depth e.depth ≤ 60
theorem op_ltP (hu : X.A.units + 64 < cLine) : OpR X (compareOp .Lt) (rDat X.K PAl dataLt) := op_dat fun s a b da db as bs Q r1 r2 p q => lt_data r1 r2 p.1 p.2.1 (by have := p.2.2; omega) q
theorem op_gtP (hu : X.A.units + 64 < cLine) : OpR X (compareOp .Gt) (rDat X.K PAl fun a b => dataLt b a) := op_dat fun s a b da db as bs Q r1 r2 p q => gt_data r1 r2 p.1 p.2.1 (by have := p.2.2; omega) q
theorem op_leP (hu : X.A.units + 64 < cLine) : OpR X (compareOp .LtE) (rDat X.K PAl fun a b => !dataLt b a) := op_dat fun s a b da db as bs Q r1 r2 p q => le_data r1 r2 p.1 p.2.1 (by have := p.2.2; omega) q
theorem op_geP (hu : X.A.units + 64 < cLine) : OpR X (compareOp .GtE) (rDat X.K PAl fun a b => !dataLt a b) := op_dat fun s a b da db as bs Q r1 r2 p q => ge_data r1 r2 p.1 p.2.1 (by have := p.2.2; omega) q
theorem toPy_ne {a : D} (h : plainD a = true) (n : a ≠ .non) : toPy a ≠ .none := by
  cases a <;> simp [plainD] at h <;> simp [toPy] <;> first | exact absurd rfl n | skip
theorem pal_of {a b : D} (h : fewLt a b = true) : PAl (toPy a) (toPy b) := by
  obtain ⟨h1, h2, h3, h4, h5⟩ := fewLt_ok h
  exact ⟨alike_toPy a b h4 h1 h2, toPy_ne h1 h5, by rw [depth_toPy, depth_toPy]; exact h3⟩
theorem ltP_of {a b : D} (h : fewLt a b = true) : dataLt (toPy a) (toPy b) = ltD a b := by
  obtain ⟨h1, h2, h3, h4, h5⟩ := fewLt_ok h
  exact dataLt_toPy a b h4 h1 h2
theorem o_lt (hK : X.K = W.K) (hu : X.A.units + 64 < cLine) : Op2 X W (compareOp .Lt) pLt := o_dat hK (op_ltP hu) fun a b d e => by
  unfold pLt at e
  split at e
  · next h => cases e; exact ⟨(fewLt_ok h).1, (fewLt_ok h).2.1, pal_of h, by rw [ltP_of h]⟩
  · cases e
theorem o_ge (hK : X.K = W.K) (hu : X.A.units + 64 < cLine) : Op2 X W (compareOp .GtE) pGe := o_dat hK (op_geP hu) fun a b d e => by
  unfold pGe at e
  split at e
  · next h => cases e; exact ⟨(fewLt_ok h).1, (fewLt_ok h).2.1, pal_of h, by rw [ltP_of h]⟩
  · cases e
theorem o_gt (hK : X.K = W.K) (hu : X.A.units + 64 < cLine) : Op2 X W (compareOp .Gt) pGt := o_dat hK (op_gtP hu) fun a b d e => by
  unfold pGt at e
  split at e
  · next h => rw [Bool.and_eq_true] at h; cases e; exact ⟨(fewLt_ok h.1).1, (fewLt_ok h.1).2.1, pal_of h.1, by rw [ltP_of h.2]⟩
  · cases e
theorem o_le (hK : X.K = W.K) (hu : X.A.units + 64 < cLine) : Op2 X W (compareOp .LtE) pLe := o_dat hK (op_leP hu) fun a b d e => by
  unfold pLe at e
  split at e
  · next h => rw [Bool.and_eq_true] at h; cases e; exact ⟨(fewLt_ok h.1).1, (fewLt_ok h.1).2.1, pal_of h.1, by rw [ltP_of h.2]⟩
  · cases e
end
end TT

set_option Elab.async false
set_option linter.all false
set_option maxRecDepth 100000
set_option maxHeartbeats 4000000
namespace TT
open PySem PySem.Spec PyProof.Rows L2
section
variable {X : Cx} {W : Wd} {e a b : Expr} {es : List Expr} {pos p : Pos} {x : Str} {f g : SE} {fs : SL} {op : D → D → Option D} {op1 : D → Option D}

/-! ### in, not in -/
def keyOf : D → Option Key
  | .int i => some (.inl i)
  | .str s => some (.inr ⟨s.toArray⟩)
  | _ => none
def keysOf : List D → Option (List Key)
  | [] => some []
  | d :: ds => match keyOf d, keysOf ds with
    | some k, some ks => some (k :: ks)
    | _, _ => none
/-- the key of a dict with tuple keys -/
def tkeyOf : D → Option (List Key)
  | .tup ds => keysOf ds
  | _ => none
def memD (x : D) (ds : List D) : Option D := if plainD x && plainDs ds && decide (min (depthDs ds) (depthD x) ≤ 60) then some (.bl (ds.any fun y => eqD y x)) else none
def pIn : D → D → Option D
  | x, .lst ds => memD x ds
  | x, .tup ds => memD x ds
  | .str [c], .str s => some (.bl (decide (c ∈ s)))
  | _, _ => none
def pNotIn (x y : D) : Option D := match pIn x y with
  | some (.bl b) => some (.bl (!b))
  | _ => none
theorem memD_some {x d : D} {ds : List D} (h : memD x ds = some d) : plainD x = true ∧ plainDs ds = true ∧ min (depthDs ds) (depthD x) ≤ 60 ∧ d = .bl (ds.any fun y => eqD y x) := by
  unfold memD at h
  split at h
  · next q =>
    rw [Bool.and_eq_true, Bool.and_eq_true, decide_eq_true_iff] at q
    cases h
    exact ⟨q.1.1, q.1.2, q.2, rfl⟩
  · cases h
theorem any_toPys (x : D) (hx : plainD x = true) : ∀ ds : List D, plainDs ds = true → ((toPys ds).any fun y => PyData.eqv y (toPy x)) = ds.any fun y => eqD y x
  | [], _ => rfl
  | d :: ds, h => by
    rw [plainDs, Bool.and_eq_true] at h
    rw [toPys, List.any_cons, List.any_cons, any_toPys x hx ds h.2, eqv_toPy d x h.1 hx]
def PInL (d e : PyData) : Prop := ∃ xs, e = .list xs ∧ PyData.plainAll xs = true ∧ d.plain = true ∧ min (PyData.depthAll xs) d.depth ≤ 60
def PInT (d e : PyData) : Prop := ∃ xs, e = .tuple xs ∧ PyData.plainAll xs = true ∧ d.plain = true ∧ min (PyData.depthAll xs) d.depth ≤ 60
def inPy (d e : PyData) : Bool := match e with
  | .list xs => xs.any fun y => PyData.eqv y d
  | .tuple xs => xs.any fun y => PyData.eqv y d
  | _ => false
theorem op_inL (hu : X.A.units + 64 < cLine) : OpR X (compareOp .In) (rDat X.K PInL inPy) := op_dat fun s a b da db as bs Q r1 r2 ⟨xs, e, p1, p2, p3⟩ q => by
  subst e; exact SeqAt.in_list_data r2 r1 p1 p2 (by omega) q
theorem op_inT (hu : X.A.units + 64 < cLine) : OpR X (compareOp .In) (rDat X.K PInT inPy) := op_dat fun s a b da db as bs Q r1 r2 ⟨xs, e, p1, p2, p3⟩ q => by
  subst e; exact SeqAt.in_tuple_data r2 r1 p1 p2 (by omega) q
theorem op_ninL (hu : X.A.units + 64 < cLine) : OpR X (compareOp .NotIn) (rDat X.K PInL fun d e => !inPy d e) := op_dat fun s a b da db as bs Q r1 r2 ⟨xs, e, p1, p2, p3⟩ q => by
  subst e; exact SeqAt.notIn_list_data r2 r1 p1 p2 (by omega) q
theorem op_ninT (hu : X.A.units + 64 < cLine) : OpR X (compareOp .NotIn) (rDat X.K PInT fun d e => !inPy d e) := op_dat fun s a b da db as bs Q r1 r2 ⟨xs, e, p1, p2, p3⟩ q => by
  subst e; exact SeqAt.notIn_tuple_data r2 r1 p1 p2 (by omega) q
theorem in_case {x y d : D} (h : pIn x y = some d) : (∃ ds, y = .lst ds ∧ memD x ds = some d) ∨ (∃ ds, y = .tup ds ∧ memD x ds = some d) ∨ ∃ c s, x = .str [c] ∧ y = .str s ∧ d = .bl (decide (c ∈ s)) := by
  cases y with
  | lst ds => exact .inl ⟨ds, rfl, by cases x <;> exact h⟩
  | tup ds => exact .inr (.inl ⟨ds, rfl, by cases x <;> exact h⟩)
  | str s =>
    cases x with
    | str t =>
      match t, h with
      | [c], h => cases h; exact .inr (.inr ⟨c, s, rfl, rfl, rfl⟩)
      | [], h => simp [pIn] at h
      | _ :: _ :: _, h => simp [pIn] at h
    | _ => simp [pIn] at h
  | _ => cases x <;> simp [pIn] at h
theorem o_in (hK : X.K = W.K) (hu : X.A.units + 64 < cLine) : Op2 X W (compareOp .In) pIn := ⟨fun d1 d2 d h => by
  rcases in_case h with ⟨ds, rfl, m⟩ | ⟨ds, rfl, m⟩ | ⟨c, s, rfl, rfl, rfl⟩
  · obtain ⟨h1, h2, h3, rfl⟩ := memD_some m
    refine ⟨_, op_inL hu, fun pc F H x y Q cd s1 s2 k => ?_⟩
    rw [hK]
    refine ⟨_, _, s1.dp h1, s2.dp (by rw [plainD]; exact h2), ⟨toPys ds, rfl, plain_toPys ds, plain_toPy d1, by rw [depth_toPys, depth_toPy]; exact h3⟩, ?_⟩
    show Q (.bl ((toPys ds).any fun y => PyData.eqv y (toPy d1))) H
    rw [any_toPys d1 h1 ds h2]
    exact k _ H (Same.refl _) (.bl _)
  · obtain ⟨h1, h2, h3, rfl⟩ := memD_some m
    refine ⟨_, op_inT hu, fun pc F H x y Q cd s1 s2 k => ?_⟩
    rw [hK]
    refine ⟨_, _, s1.dp h1, s2.dp (by rw [plainD]; exact h2), ⟨toPys ds, rfl, plain_toPys ds, plain_toPy d1, by rw [depth_toPys, depth_toPy]; exact h3⟩, ?_⟩
    show Q (.bl ((toPys ds).any fun y => PyData.eqv y (toPy d1))) H
    rw [any_toPys d1 h1 ds h2]
    exact k _ H (Same.refl _) (.bl _)
  · refine ⟨_, op_in_str, fun pc F H x y Q cd s1 s2 k => ⟨_, _, s1.str.1, s2.str.1, ?_⟩⟩
    have := StrLaws.found_one (⟨s.toArray⟩ : Str) c
    rw [show (⟨[c].toArray⟩ : Str) = ⟨#[c]⟩ from rfl, this]
    exact k _ H (Same.refl _) (by simpa using Rep.bl _)⟩
theorem o_notin (hK : X.K = W.K) (hu : X.A.units + 64 < cLine) : Op2 X W (compareOp .NotIn) pNotIn := ⟨fun d1 d2 d h => by
  unfold pNotIn at h
  split at h
  · next b0 e0 =>
    cases h
    rcases in_case e0 with ⟨ds, rfl, m⟩ | ⟨ds, rfl, m⟩ | ⟨c, s, rfl, rfl, e1⟩
    · obtain ⟨h1, h2, h3, e1⟩ := memD_some m
      cases e1
      refine ⟨_, op_ninL hu, fun pc F H x y Q cd s1 s2 k => ?_⟩
      rw [hK]
      refine ⟨_, _, s1.dp h1, s2.dp (by rw [plainD]; exact h2), ⟨toPys ds, rfl, plain_toPys ds, plain_toPy d1, by rw [depth_toPys, depth_toPy]; exact h3⟩, ?_⟩
      show Q (.bl (!(toPys ds).any fun y => PyData.eqv y (toPy d1))) H
      rw [any_toPys d1 h1 ds h2]
      exact k _ H (Same.refl _) (.bl _)
    · obtain ⟨h1, h2, h3, e1⟩ := memD_some m
      cases e1
      refine ⟨_, op_ninT hu, fun pc F H x y Q cd s1 s2 k => ?_⟩
      rw [hK]
      refine ⟨_, _, s1.dp h1, s2.dp (by rw [plainD]; exact h2), ⟨toPys ds, rfl, plain_toPys ds, plain_toPy d1, by rw [depth_toPys, depth_toPy]; exact h3⟩, ?_⟩
      show Q (.bl (!(toPys ds).any fun y => PyData.eqv y (toPy d1))) H
      rw [any_toPys d1 h1 ds h2]
      exact k _ H (Same.refl _) (.bl _)
    · cases e1
      refine ⟨_, L2.op_notin_str, fun pc F H x y Q cd s1 s2 k => ⟨_, _, s1.str.1, s2.str.1, ?_⟩⟩
      have := StrLaws.found_one (⟨s.toArray⟩ : Str) c
      rw [show (⟨[c].toArray⟩ : Str) = ⟨#[c]⟩ from rfl, this]
      exact k _ H (Same.refl _) (by simpa using Rep.bl _)
  · cases h⟩

/-! ### a[i] -/
structure Ix2 (X : Cx) (W : Wd) (op : D → D → Option D) : Prop where
  ok : ∀ d1 d2 d, op d1 d2 = some d → ∃ r : R2, IxR X r ∧ ∀ pc F H x y Q, Cond pc F H → Sh W pc F H d1 x → Sh W pc F H d2 y → K1 W pc F H d Q → r x y H Q
def pIx : D → D → Option D
  | .lst ds, .int i => atI ds i
  | .tup ds, .int i => atI ds i
  | .str s, .int i => match atI s i with
    | some c => some (.str [c])
    | none => none
  | _, _ => none
theorem Reps.at {pc : Pc} {F : Fb} {H : Hp} {ds : List D} {xs : List V} {i : Int} {d : D} (rs : Reps W pc F H ds xs) (h : atI ds i = some d) : ∃ v, atI xs i = some v ∧ Rep W pc F H d v := by
  unfold atI at h ⊢
  rw [← rs.length]
  cases q : ixN ds.length i with
  | none => rw [q] at h; cases h
  | some j =>
    rw [q] at h
    exact rs.get (show ds[j]? = some d from h)
theorem ix_ok (hK : X.K = W.K) : Ix2 X W pIx := ⟨fun d1 d2 d h => by
  cases d1 <;> cases d2 <;> try (simp [pIx] at h; done)
  · rename_i s i
    simp only [pIx] at h
    split at h
    · next c hc =>
      cases h
      refine ⟨_, ix_str, fun pc F H x y Q cd s1 s2 k => ?_⟩
      refine ⟨_, i, c, s1.str.1, s2.int, ?_, ?_, k _ H (Same.refl _) (.str [c] (by show 1 ≤ sizeLine; decide))⟩
      · show s.toArray.size ≤ sizeLine
        simpa using s1.str.2
      · simpa using hc
    · cases h
  · rename_i ds i
    refine ⟨_, ix_tup, fun pc F H x y Q cd s1 s2 k => ?_⟩
    obtain ⟨a, xs, rfl, sq, hl, rs, _⟩ := s1.tup
    obtain ⟨v, hv, rv⟩ := rs.at (show atI ds i = some d from h)
    rw [hK]
    exact ⟨a, xs, i, v, rfl, s2.int, sq, hv, k _ H (Same.refl _) rv⟩
  · rename_i ds i
    refine ⟨_, ix_list, fun pc F H x y Q cd s1 s2 k => ?_⟩
    obtain ⟨a, xs, rfl, sq, hl, rs⟩ := s1.lst
    obtain ⟨v, hv, rv⟩ := rs.at (show atI ds i = some d from h)
    exact ⟨a, xs, i, v, rfl, s2.int, .of sq, hv, k _ H (Same.refl _) rv⟩⟩
theorem d_ix (hK : X.K = W.K) (h1 : PE X a (tP W f)) (h2 : PE X b (tP W g)) (hs : PlainIx b := by exact fun _ _ => rfl) : PE X (.Subscript a b pos) (tE W (e2 pIx f g)) :=
  PE.cases fun σ H Q ⟨pc, F0, H0, ps, ε, c, d, c', R, ef, k⟩ => by
    obtain ⟨d1, c1, d2, q1, q2, q3⟩ := e2_some ef
    obtain ⟨r, hr, hq⟩ := (ix_ok hK).ok d1 d2 d q3
    exact ⟨_, pe_ix hr h1 h2 hs, tOp_of hq R q1 q2 k⟩

/-! ### calls of built-ins with one argument -/
structure C1 (X : Cx) (W : Wd) (fv : Value) (op : D → Option D) : Prop where
  ok : ∀ d1 d, op d1 = some d → ∃ r, CallR X fv r ∧ ∀ pc F H x Q, Cond pc F H → Sh W pc F H d1 x → K1 W pc F H d Q → r [x] H Q
structure C1N (X : Cx) (W : Wd) (fv : Value) (op : D → Option D) : Prop where
  ok : ∀ d1 d, op d1 = some d → ∃ r, CallR X fv r ∧ ∀ pc F H x Q, Cond pc F H → Sh W pc F H d1 x → KN W pc F H d Q → r [x] H Q
theorem tCB_of {r : List V → Hp → VK → Prop} {d1 d : D} {σ : L2.St} {H : Hp} {Q : VK} {pc : Pc} {F0 : Fb} {H0 : Hp} {ps : List (D × V)} {ε : En} {c c' : Cup}
    (hr : ∀ pc F H x Q, Cond pc F H → Sh W pc F H d1 x → K1 W pc F H d Q → r [x] H Q) (R : Rl W pc F0 H0 ps ε c σ H) (e1 : f ε c = some (d1, c')) (k : ∀ v H', Grow pc H H' → CupIs pc c' H' → Rep W pc (Fo F0 ε σ) H' d v → Q v H') : tCB r (tCons (tP W f) tNil) σ H Q := by
  refine ⟨pc, F0, H0, ps, ε, c, d1, c', R, e1, fun x H1 g1 cu1 s1 => ?_⟩
  exact hr pc _ H1 x Q (R.step g1 cu1).cond s1 fun v H2 sm rv => k v H2 (g1.trans (same_grow sm)) (same_cup sm cu1) rv
theorem tCBN_of {r : List V → Hp → VK → Prop} {d1 d : D} {σ : L2.St} {H : Hp} {Q : VK} {pc : Pc} {F0 : Fb} {H0 : Hp} {ps : List (D × V)} {ε : En} {c c' : Cup}
    (hr : ∀ pc F H x Q, Cond pc F H → Sh W pc F H d1 x → KN W pc F H d Q → r [x] H Q) (R : Rl W pc F0 H0 ps ε c σ H) (e1 : f ε c = some (d1, c')) (k : ∀ a H', Grow pc H H' → CupIs pc c' H' → H a = none → OwnIs W pc (fun b => Fo F0 ε σ b ∨ b = a) H' d a → Q (.ref a) H') : tCB r (tCons (tP W f) tNil) σ H Q := by
  refine ⟨pc, F0, H0, ps, ε, c, d1, c', R, e1, fun x H1 g1 cu1 s1 => ?_⟩
  have R1 := R.step g1 cu1
  exact hr pc _ H1 x Q R1.cond s1 fun a H2 sm ha o => k a H2 (g1.trans (same_grow sm)) (same_cup sm cu1) (g1.none (R1.fresh ha).2.1 ha) o
theorem d_callB {id : String} (hc : C1 X W (.builtin id) op1) (hg : Gl X x) (hm : X.mg x = none) (hv : bootBuiltins x = some (.builtin id)) (h : PE X e (tP W f)) (hn : x ≠ "__name__" := by decide) (hdb : (x == ("__debug__" : Str)) = false := by decide)
    (he : starEach [e] X.env = (false, eval e X.env) :: starEach [] X.env := by rfl) : PE X (.Call (.Name x p) [e] [] pos) (tE W (e1 op1 f)) :=
  PE.cases fun σ H Q ⟨pc, F0, H0, ps, ε, c, d, c', R, ef, k⟩ => by
    obtain ⟨d1, q1, q2⟩ := e1_some ef
    obtain ⟨r, hr, hq⟩ := hc.ok d1 d q2
    exact ⟨_, pe_callB hr hg hm hv (pa_cons h pa_nil he) hn hdb he rfl, tCB_of hq R q1 k⟩
theorem d_callBN {id : String} (hc : C1N X W (.builtin id) op1) (hg : Gl X x) (hm : X.mg x = none) (hv : bootBuiltins x = some (.builtin id)) (h : PE X e (tP W f)) (hn : x ≠ "__name__" := by decide) (hdb : (x == ("__debug__" : Str)) = false := by decide)
    (he : starEach [e] X.env = (false, eval e X.env) :: starEach [] X.env := by rfl) : PE X (.Call (.Name x p) [e] [] pos) (tN W (e1 op1 f)) :=
  PE.cases fun σ H Q ⟨pc, F0, H0, ps, ε, c, d, c', R, ef, k⟩ => by
    obtain ⟨d1, q1, q2⟩ := e1_some ef
    obtain ⟨r, hr, hq⟩ := hc.ok d1 d q2
    exact ⟨_, pe_callB hr hg hm hv (pa_cons h pa_nil he) hn hdb he rfl, tCBN_of hq R q1 k⟩
theorem d_callT {T : String} (hc : C1 X W (.type T) op1) (hg : Gl X x) (hm : X.mg x = none) (hv : bootBuiltins x = some (.type T)) (h : PE X e (tP W f)) (hn : x ≠ "__name__" := by decide) (hdb : (x == ("__debug__" : Str)) = false := by decide)
    (he : starEach [e] X.env = (false, eval e X.env) :: starEach [] X.env := by rfl) : PE X (.Call (.Name x p) [e] [] pos) (tE W (e1 op1 f)) :=
  PE.cases fun σ H Q ⟨pc, F0, H0, ps, ε, c, d, c', R, ef, k⟩ => by
    obtain ⟨d1, q1, q2⟩ := e1_some ef
    obtain ⟨r, hr, hq⟩ := hc.ok d1 d q2
    exact ⟨_, pe_callTy hr hg hm hv (pa_cons h pa_nil he) hn hdb he rfl, tCB_of hq R q1 k⟩
theorem d_callTN {T : String} (hc : C1N X W (.type T) op1) (hg : Gl X x) (hm : X.mg x = none) (hv : bootBuiltins x = some (.type T)) (h : PE X e (tP W f)) (hn : x ≠ "__name__" := by decide) (hdb : (x == ("__debug__" : Str)) = false := by decide)
    (he : starEach [e] X.env = (false, eval e X.env) :: starEach [] X.env := by rfl) : PE X (.Call (.Name x p) [e] [] pos) (tN W (e1 op1 f)) :=
  PE.cases fun σ H Q ⟨pc, F0, H0, ps, ε, c, d, c', R, ef, k⟩ => by
    obtain ⟨d1, q1, q2⟩ := e1_some ef
    obtain ⟨r, hr, hq⟩ := hc.ok d1 d q2
    exact ⟨_, pe_callTy hr hg hm hv (pa_cons h pa_nil he) hn hdb he rfl, tCBN_of hq R q1 k⟩
def pLen : D → Option D
  | .str s => some (.int s.length)
  | .lst ds => some (.int ds.length)
  | .tup ds => some (.int ds.length)
  | .dk ks _ => some (.int ks.length)
  | _ => none
theorem Sh.dk {pc : Pc} {F : Fb} {H : Hp} {ks : List Key} {ds : List D} {v : V} (s : Sh W pc F H (.dk ks ds) v) : ∃ a kvs, v = .ref a ∧ H a = some (.dK kvs) ∧ kvs.map (·.1) = ks ∧ Reps W pc F H ds (kvs.map (·.2)) := by
  cases s with
  | of r => cases r with | dk nf sq ke rs => exact ⟨_, _, rfl, sq, ke, rs⟩
  | own n o => obtain ⟨kvs, e, k, l, rs⟩ := o; exact ⟨_, _, rfl, e, k, rs⟩
theorem Sh.dt {pc : Pc} {F : Fb} {H : Hp} {ks : List (List Key)} {ds : List D} {v : V} (s : Sh W pc F H (.dt ks ds) v) : ∃ a kvs, v = .ref a ∧ H a = some (.dT kvs) ∧ kvs.map (·.1) = ks ∧ Reps W pc F H ds (kvs.map (·.2)) := by
  cases s with
  | of r => cases r with | dt nf sq ke rs => exact ⟨_, _, rfl, sq, ke, rs⟩
  | own n o => obtain ⟨kvs, e, k, l, rs⟩ := o; exact ⟨_, _, rfl, e, k, rs⟩
theorem c_len (hK : X.K = W.K) : C1 X W (.builtin "len") pLen := ⟨fun d1 d h => by
  cases d1 <;> simp [pLen] at h <;> subst h
  · rename_i s
    refine ⟨_, L2.call_len, fun pc F H x Q cd s1 k => ?_⟩
    obtain ⟨rfl, hl⟩ := s1.str
    exact ⟨_, s.length, rfl, ⟨by show s.toArray.size ≤ sizeLine; simpa using hl, by show s.length = s.toArray.size; simp⟩, k _ H (Same.refl _) (.int _)⟩
  · rename_i ds
    refine ⟨_, L2.call_len, fun pc F H x Q cd s1 k => ?_⟩
    obtain ⟨a, xs, rfl, sq, hl, rs, _⟩ := s1.tup
    rw [hK]
    exact ⟨_, ds.length, rfl, .inr ⟨xs, sq, rs.length⟩, k _ H (Same.refl _) (.int _)⟩
  · rename_i ds
    refine ⟨_, L2.call_len, fun pc F H x Q cd s1 k => ?_⟩
    obtain ⟨a, xs, rfl, sq, hl, rs⟩ := s1.lst
    exact ⟨_, ds.length, rfl, .inl ⟨xs, .of sq, rs.length⟩, k _ H (Same.refl _) (.int _)⟩
  · rename_i ks ds
    refine ⟨_, call_lenD, fun pc F H x Q cd s1 k => ?_⟩
    obtain ⟨a, kvs, rfl, sq, ke, rs⟩ := s1.dk
    refine ⟨a, kvs, rfl, sq, ?_⟩
    have : kvs.length = ks.length := by rw [← ke, List.length_map]
    rw [this]
    exact k _ H (Same.refl _) (.int _)⟩
def digitOf (c : Nat) : Option Int := if 48 ≤ c ∧ c ≤ 57 then some ((c : Int) - 48) else none
def pInt : D → Option D
  | .int i => some (.int i)
  | .bl b => some (.int (if b then 1 else 0))
  | .str [c] => match digitOf c with
    | some i => some (.int i)
    | none => none
  | _ => none
theorem int_one {c : Nat} {i : Int} (h : digitOf c = some i) : PySem.intText? (⟨[c].toArray⟩ : Str) = some i := by
  unfold digitOf at h
  split at h
  · next hc =>
    cases h
    obtain ⟨h1, h2⟩ := hc
    have hcs : c = 48 ∨ c = 49 ∨ c = 50 ∨ c = 51 ∨ c = 52 ∨ c = 53 ∨ c = 54 ∨ c = 55 ∨ c = 56 ∨ c = 57 := by omega
    rcases hcs with rfl | rfl | rfl | rfl | rfl | rfl | rfl | rfl | rfl | rfl <;> decide +kernel
  · cases h
theorem c_int : C1 X W (.type "int") pInt := ⟨fun d1 d h => by
  cases d1 with
  | int i =>
    simp only [pInt, Option.some.injEq] at h
    subst h
    exact ⟨_, L2.call_int1, fun pc F H x Q cd s1 k => .inl ⟨i, by rw [s1.int], k _ H (Same.refl _) (.int _)⟩⟩
  | bl b =>
    simp only [pInt, Option.some.injEq] at h
    subst h
    exact ⟨_, L2.call_int1, fun pc F H x Q cd s1 k => .inr ⟨b, by rw [s1.bl], k _ H (Same.refl _) (.int _)⟩⟩
  | str s =>
    match s, h with
    | [c], h =>
      simp only [pInt] at h
      split at h
      · next i hi =>
        cases h
        exact ⟨_, L2.call_int_str, fun pc F H x Q cd s1 k => ⟨_, i, by rw [s1.str.1], int_one hi, by show 1 ≤ 640; decide, k _ H (Same.refl _) (.int _)⟩⟩
      · cases h
    | [], h => simp [pInt] at h
    | _ :: _ :: _, h => simp [pInt] at h
  | _ => simp [pInt] at h⟩
def pAbs : D → Option D
  | .int i => some (.int (if i < 0 then -i else i))
  | _ => none
theorem c_abs : C1 X W (.builtin "abs") pAbs := ⟨fun d1 d h => by
  cases d1 <;> simp [pAbs] at h
  subst h
  exact ⟨_, L2.call_abs, fun pc F H x Q cd s1 k => ⟨_, by rw [s1.int], k _ H (Same.refl _) (.int _)⟩⟩⟩
/-- str of a small int -/
def pStr : D → Option D
  | .int i => if 0 ≤ i ∧ i < 10 then some (.str [48 + i.toNat]) else none
  | _ => none
theorem c_str : C1 X W (.type "str") pStr := ⟨fun d1 d h => by
  cases d1 <;> simp only [pStr] at h <;> try (cases h; done)
  rename_i i
  split at h
  · next hi =>
    cases h
    refine ⟨_, L2.call_str_int, fun pc F H x Q cd s1 k => ⟨i, by rw [s1.int], ?_, ?_⟩⟩
    · have hcs : i = 0 ∨ i = 1 ∨ i = 2 ∨ i = 3 ∨ i = 4 ∨ i = 5 ∨ i = 6 ∨ i = 7 ∨ i = 8 ∨ i = 9 := by omega
      rcases hcs with rfl | rfl | rfl | rfl | rfl | rfl | rfl | rfl | rfl | rfl <;> decide
    · have e : (((toString i : String) : Str)) = ⟨[48 + i.toNat].toArray⟩ := by
        have hcs : i = 0 ∨ i = 1 ∨ i = 2 ∨ i = 3 ∨ i = 4 ∨ i = 5 ∨ i = 6 ∨ i = 7 ∨ i = 8 ∨ i = 9 := by omega
        rcases hcs with rfl | rfl | rfl | rfl | rfl | rfl | rfl | rfl | rfl | rfl <;> decide +kernel
      rw [e]
      exact k _ H (Same.refl _) (.str _ (by show 1 ≤ sizeLine; decide))
  · cases h⟩
def intsOf : List D → Option (List Int)
  | [] => some []
  | .int i :: ds => match intsOf ds with
    | some ns => some (i :: ns)
    | none => none
  | _ :: _ => none
def boolsOf : List D → Option (List Bool)
  | [] => some []
  | .bl b :: ds => match boolsOf ds with
    | some bs => some (b :: bs)
    | none => none
  | _ :: _ => none
def strsOf : List D → Option (List (List Nat))
  | [] => some []
  | .str s :: ds => match strsOf ds with
    | some ss => some (s :: ss)
    | none => none
  | _ :: _ => none
theorem intsOf_eq : ∀ {ds : List D} {ns : List Int}, intsOf ds = some ns → ds = ns.map D.int
  | [], ns, h => by cases h; rfl
  | d :: ds, ns, h => by
    cases d <;> simp only [intsOf] at h <;> try (cases h; done)
    split at h
    · next q => cases h; rw [List.map_cons, intsOf_eq q]
    · cases h
theorem intsOf_map : ∀ ns : List Int, intsOf (ns.map D.int) = some ns
  | [] => rfl
  | n :: ns => by simp [intsOf, intsOf_map ns]
theorem boolsOf_eq : ∀ {ds : List D} {ns : List Bool}, boolsOf ds = some ns → ds = ns.map D.bl
  | [], ns, h => by cases h; rfl
  | d :: ds, ns, h => by
    cases d <;> simp only [boolsOf] at h <;> try (cases h; done)
    split at h
    · next q => cases h; rw [List.map_cons, boolsOf_eq q]
    · cases h
theorem boolsOf_map : ∀ ns : List Bool, boolsOf (ns.map D.bl) = some ns
  | [] => rfl
  | n :: ns => by simp [boolsOf, boolsOf_map ns]
theorem strsOf_eq : ∀ {ds : List D} {ns : List (List Nat)}, strsOf ds = some ns → ds = ns.map D.str
  | [], ns, h => by cases h; rfl
  | d :: ds, ns, h => by
    cases d <;> simp only [strsOf] at h <;> try (cases h; done)
    split at h
    · next q => cases h; rw [List.map_cons, strsOf_eq q]
    · cases h
theorem strsOf_map : ∀ ns : List (List Nat), strsOf (ns.map D.str) = some ns
  | [] => rfl
  | n :: ns => by simp [strsOf, strsOf_map ns]
theorem Reps.ints {pc : Pc} {F : Fb} {H : Hp} : ∀ {ns : List Int} {xs : List V}, Reps W pc F H (ns.map D.int) xs → xs = ns.map V.int
  | [], _, .nil => rfl
  | n :: ns, _, .cons r rs => by cases r; rw [List.map_cons, Reps.ints rs]
theorem Reps.bls {pc : Pc} {F : Fb} {H : Hp} : ∀ {ns : List Bool} {xs : List V}, Reps W pc F H (ns.map D.bl) xs → xs = ns.map V.bl
  | [], _, .nil => rfl
  | n :: ns, _, .cons r rs => by cases r; rw [List.map_cons, Reps.bls rs]
theorem Reps.strs {pc : Pc} {F : Fb} {H : Hp} : ∀ {ns : List (List Nat)} {xs : List V}, Reps W pc F H (ns.map D.str) xs → xs = (ns.map fun s => (⟨s.toArray⟩ : Str)).map V.str
  | [], _, .nil => rfl
  | n :: ns, _, .cons r rs => by cases r; rw [Reps.strs rs]; rfl
def pAll : D → Option D
  | .lst ds => match boolsOf ds with
    | some bs => some (.bl (bs.all id))
    | none => none
  | _ => none
def pAny : D → Option D
  | .lst ds => match boolsOf ds with
    | some bs => some (.bl (bs.any id))
    | none => none
  | _ => none
theorem c_all (hc : X.calm = true) : C1 X W (.builtin "all") pAll := ⟨fun d1 d h => by
  cases d1 <;> simp only [pAll] at h <;> try (cases h; done)
  split at h
  · next bs q =>
    cases h
    have := boolsOf_eq q
    subst this
    refine ⟨_, cr_all hc, fun pc F H x Q cd s1 k => ?_⟩
    obtain ⟨a, xs, rfl, sq, hl, rs⟩ := s1.lst
    rw [rs.bls] at sq
    exact ⟨a, bs, rfl, .of sq, k _ H (Same.refl _) (.bl _)⟩
  · cases h⟩
theorem c_any (hc : X.calm = true) : C1 X W (.builtin "any") pAny := ⟨fun d1 d h => by
  cases d1 <;> simp only [pAny] at h <;> try (cases h; done)
  split at h
  · next bs q =>
    cases h
    have := boolsOf_eq q
    subst this
    refine ⟨_, cr_any hc, fun pc F H x Q cd s1 k => ?_⟩
    obtain ⟨a, xs, rfl, sq, hl, rs⟩ := s1.lst
    rw [rs.bls] at sq
    exact ⟨a, bs, rfl, .of sq, k _ H (Same.refl _) (.bl _)⟩
  · cases h⟩
def pSum : D → Option D
  | .lst ds => match intsOf ds with
    | some ns => some (.int ns.sum)
    | none => none
  | .tup ds => match intsOf ds with
    | some ns => some (.int ns.sum)
    | none => none
  | _ => none
/-- sum(t) of a tuple of ints -/
theorem cr_sumT (hc : X.calm = true) : CallR X (.builtin "sum") (fun vs H Q => ∃ (a : Addr) (ns : List Int), vs = [V.ref a] ∧ SqT X.K H a (ns.map V.int) ∧ Q (.int ns.sum) H) := by
  intro pins s σ H vs us Q I r h
  obtain ⟨a, ns, rfl, hs, q⟩ := h
  obtain ⟨its, rv, hl, _⟩ := I.tuple hs
  rw [Vals.ref1 r]
  have hi := rv.ints
  obtain ⟨xs, hx⟩ := hi.allInts.items
  have hn : numsOf its.toArray.toList = ns := by rw [show its.toArray.toList = its from rfl, hi.numsOf]
  have hl2 : s.heap.IsTuple a its.toArray := hl
  rw [hx] at hl2 hn
  rw [PySem.nums_intItems] at hn
  refine PySem.W.ktm_sumG (I.ok.hd hc) hl2 fun h' tk t' hk => ?_
  rw [preSum_eq, List.take_of_length_le (by simp), hn]
  exact ⟨.int ns.sum, H, I.kept hk, ⟨_, rfl⟩, q⟩
theorem c_sum (hK : X.K = W.K) (hc : X.calm = true) : C1 X W (.builtin "sum") pSum := ⟨fun d1 d h => by
  cases d1 <;> simp only [pSum] at h <;> try (cases h; done)
  · split at h
    · next ns q =>
      cases h
      have := intsOf_eq q
      subst this
      refine ⟨_, cr_sumT hc, fun pc F H x Q cd s1 k => ?_⟩
      obtain ⟨a, xs, rfl, sq, hl, rs, _⟩ := s1.tup
      rw [rs.ints] at sq
      rw [hK]
      exact ⟨a, ns, rfl, sq, k _ H (Same.refl _) (.int _)⟩
    · cases h
  · split at h
    · next ns q =>
      cases h
      have := intsOf_eq q
      subst this
      refine ⟨_, cr_sum hc, fun pc F H x Q cd s1 k => ?_⟩
      obtain ⟨a, xs, rfl, sq, hl, rs⟩ := s1.lst
      rw [rs.ints] at sq
      exact ⟨a, ns, rfl, .of sq, k _ H (Same.refl _) (.int _)⟩
    · cases h⟩
def pTuple : D → Option D
  | .lst ds => some (.tup ds)
  | .tup ds => some (.tup ds)
  | _ => none
theorem c_tuple (hK : X.K = W.K) : C1 X W (.type "tuple") pTuple := ⟨fun d1 d h => by
  cases d1 <;> simp [pTuple] at h <;> subst h
  · refine ⟨_, L2.call_tuple_of, fun pc F H x Q cd s1 k => ?_⟩
    obtain ⟨a, xs, rfl, sq, hl, rs, r⟩ := s1.tup
    rw [hK]
    exact ⟨a, xs, rfl, .inr ⟨sq, k _ H (Same.refl _) r⟩⟩
  · refine ⟨_, L2.call_tuple_of, fun pc F H x Q cd s1 k => ?_⟩
    obtain ⟨a, xs, rfl, sq, hl, rs⟩ := s1.lst
    exact ⟨a, xs, rfl, .inl ⟨.of sq, fun l hl' => k _ _ (same_new hl') (tup_new cd.d rs hl hl')⟩⟩⟩
def pList : D → Option D
  | .lst ds => some (.lst ds)
  | .tup ds => some (.lst ds)
  | .scr ns => some (.lst (ns.map D.int))
  | _ => none
theorem reps_ints {pc : Pc} {F : Fb} {H : Hp} : ∀ ns : List Int, Reps W pc F H (ns.map D.int) (ns.map V.int)
  | [] => .nil
  | n :: ns => .cons (.int n) (reps_ints ns)
theorem c_list (hK : X.K = W.K) : C1N X W (.type "list") pList := ⟨fun d1 d h => by
  cases d1 <;> simp [pList] at h <;> subst h
  · refine ⟨_, L2.call_list_of, fun pc F H x Q cd s1 k => ?_⟩
    obtain ⟨a, xs, rfl, sq, hl, rs, r⟩ := s1.tup
    rw [hK]
    exact ⟨a, xs, rfl, .inr sq, fun l hl' => k l _ (same_new hl') hl' (lst_new rs hl hl')⟩
  · refine ⟨_, L2.call_list_of, fun pc F H x Q cd s1 k => ?_⟩
    obtain ⟨a, xs, rfl, sq, hl, rs⟩ := s1.lst
    exact ⟨a, xs, rfl, .inl (.of sq), fun l hl' => k l _ (same_new hl') hl' (lst_new rs hl hl')⟩
  · refine ⟨_, L2.call_list_of, fun pc F H x Q cd s1 k => ?_⟩
    cases s1 with
    | of r => cases r with
      | scr nf sq hl => exact ⟨_, _, rfl, .inl (.inl sq), fun l hl' => k l _ (same_new hl') hl' (lst_new (reps_ints _) (by rw [List.length_map]; exact Nat.le_trans hl (by decide)) hl')⟩
      | scrK sq hl =>
        rw [hK]
        exact ⟨_, _, rfl, .inl (.inr sq), fun l hl' => k l _ (same_new hl') hl' (lst_new (reps_ints _) (by rw [List.length_map]; exact Nat.le_trans hl (by decide)) hl')⟩
    | own n o => exact o.elim⟩
end
end TT

set_option Elab.async false
set_option linter.all false
set_option maxRecDepth 100000
set_option maxHeartbeats 4000000
namespace TT
open PySem PySem.Spec PyProof.Rows L2

/-! ### enumerate, zip: of lists, tuples, texts in any mix -/
inductive Src where
  | l (a : Addr) | t (a : Addr) | s (x : Str)
def Src.adr : Src → List Addr
  | .l a => [a]
  | .t a => [a]
  | .s _ => []
def Src.has (K : PySem.W.Frag) (H : Hp) : Src → List V → Prop
  | .l a, xs => SqL K H a xs
  | .t a, xs => SqT K H a xs
  | .s x, xs => xs = x.cps.toList.map fun c => V.str ⟨#[c]⟩
def Src.its (it : Addr) : Src → Nat → Heap → Prop
  | .l a, i, h => h.IsListIter it a i
  | .t a, i, h => h.IsTupleIter it a i
  | .s x, i, h => ∃ t, h.IsStrIter it (strIterType x) x t i
theorem Src.its_obj {it : Addr} {src : Src} {i : Nat} {h : Heap} (s : src.its it i h) : ∃ o, h.get? it = some o ∧ ∀ v, o.data ≠ .cell v := by
  cases src with
  | l a => obtain ⟨o, e, c, d⟩ := s; exact ⟨o, e, fun v z => by rw [d] at z; cases z⟩
  | t a => obtain ⟨o, e, c, d⟩ := s; exact ⟨o, e, fun v z => by rw [d] at z; cases z⟩
  | s x => obtain ⟨t, o, e, c, d⟩ := s; exact ⟨o, e, fun v z => by rw [d] at z; cases z⟩
theorem Src.its_keep {it : Addr} {src : Src} {i : Nat} {h h' : Heap} (k : ∀ o, h.get? it = some o → h'.get? it = some o) (s : src.its it i h) : src.its it i h' := by
  cases src with
  | l a => exact s.at k
  | t a => exact s.at k
  | s x => obtain ⟨t, o, e, r⟩ := s; exact ⟨t, o, k o e, r⟩
theorem Src.has_inj {X : Cx} {pins : List (Addr × Obj)} {σ : L2.St} {H : Hp} {s : Shared} (I : Inv X pins σ H s) {src : Src} {xs ys : List V} (h : src.has X.K H xs) (h' : src.has X.K H ys) : xs = ys := by
  cases src with
  | l a => exact I.list_inj h h'
  | t a => exact I.tuple_inj h h'
  | s x => exact h.trans h'.symm
theorem Src.draws {X : Cx} {pins : List (Addr × Obj)} {σ : L2.St} {H : Hp} {s : Shared} {A : Around} (I : Inv X pins σ H s) (hh : A.handled = none) {src : Src} {it : Addr} {i : Nat} {xs : List V} (n : ∀ a ∈ src.adr, a ≠ it) (h : src.has X.K H xs) (st : src.its it i s.heap) :
    ∃ P St, Draws X.prog X.w A it (it :: src.adr) xs.length P St ∧ St i s.heap ∧ (∀ i h, St i h → src.its it i h) ∧ ∀ i v, P i v → ∃ x, xs[i]? = some x ∧ RelV x v := by
  cases src with
  | l a =>
    obtain ⟨its, rv, p, _⟩ := I.list h
    have hl := rv.length
    have D := Draws.list (prog := X.prog) (w := X.w) hh it a (n a (by simp [Src.adr])) its.toArray
    have e : its.toArray.size = xs.length := by simp [hl]
    rw [e] at D
    refine ⟨_, _, D, ⟨st, p.isList⟩, fun _ _ z => z.1, fun j v hv => ?_⟩
    have hjl : j < xs.length := by
      have : j < its.length := by
        have := Array.getElem?_eq_some_iff.mp hv
        simpa using this.1
      omega
    obtain ⟨u, hu, ru⟩ := rv.get (List.getElem?_eq_getElem hjl)
    have hv' : its[j]? = some v := by simpa using hv
    rw [hu] at hv'
    cases hv'
    exact ⟨_, List.getElem?_eq_getElem hjl, ru⟩
  | t a =>
    obtain ⟨its, rv, p, _⟩ := I.tuple h
    have hl := rv.length
    have D := Draws.tuple (prog := X.prog) (w := X.w) hh it a (n a (by simp [Src.adr])) its.toArray
    have e : its.toArray.size = xs.length := by simp [hl]
    rw [e] at D
    refine ⟨_, _, D, ⟨st, p⟩, fun _ _ z => z.1, fun j v hv => ?_⟩
    have hjl : j < xs.length := by
      have : j < its.length := by
        have := Array.getElem?_eq_some_iff.mp hv
        simpa using this.1
      omega
    obtain ⟨u, hu, ru⟩ := rv.get (List.getElem?_eq_getElem hjl)
    have hv' : its[j]? = some v := by simpa using hv
    rw [hu] at hv'
    cases hv'
    exact ⟨_, List.getElem?_eq_getElem hjl, ru⟩
  | s x =>
    obtain ⟨t, st⟩ := st
    have h' : xs = x.cps.toList.map fun c => V.str ⟨#[c]⟩ := h
    subst h'
    have D := Draws.text (prog := X.prog) (w := X.w) hh it x t
    have e : x.cps.size = (x.cps.toList.map fun c => V.str ⟨#[c]⟩).length := by simp
    rw [e] at D
    refine ⟨_, _, D, st, fun _ _ z => ⟨t, z⟩, fun j v ⟨c, u, hc, hv⟩ => ⟨.str ⟨#[c]⟩, by simp [hc], ⟨u, hv⟩⟩⟩
/-- a pair (i, x) at each turn -/
def ItE (K : PySem.W.Frag) (src : Src) : It :=
  ⟨fun i H => ∃ xs, src.has K H xs ∧ i < xs.length, fun i H v H' => ∃ T x, v = .ref T ∧ H T = none ∧ H' = upd H T (.tup [.int (i : Nat), x]) ∧ ∀ xs, src.has K H xs → xs[i]? = some x, fun i H => ∃ xs, src.has K H xs ∧ xs.length = i⟩
theorem turn_en {P : Program} {w : World} {K : PySem.W.Frag} {elts : List Expr} {kk : Nat} {tpos : Pos} (src : Src) (e it : Addr) (hei : e ≠ it) (hef : e ∉ src.adr) (hif : it ∉ src.adr) :
    Turn P w K (.Tuple elts kk tpos) (ItE K src) [e, it] e (fun i h => (∃ old, IsEnum h e it (0 + (i : Int)) old) ∧ src.its it i h) where
  mem := by simp
  obj := fun i h st b hb => by
    obtain ⟨⟨old, he⟩, hs⟩ := st
    have e' : b = e ∨ b = it := by simpa using hb
    rcases e' with z | z
    · rw [z]; exact ⟨_, he, fun v q => nomatch q⟩
    · rw [z]; exact Src.its_obj hs
  keep := fun i h h' st k => let ⟨⟨old, he⟩, hi⟩ := st; ⟨⟨old, k e (by simp) _ he⟩, Src.its_keep (fun o q => k it (by simp) o q) hi⟩
  item := by
    intro X hP hw hK hc i pins s σ H E I hf st hg
    subst hP hw hK
    obtain ⟨he, hs⟩ := st
    obtain ⟨xs, hq, hlt⟩ := hg
    obtain ⟨P, St, D, st0, back, val⟩ := Src.draws (A := X.A.in1) I (I.ok.hd hc) (fun a ha z => hif (by rw [← z]; exact ha)) hq hs
    have hef2 : e ∉ it :: src.adr := fun z => by
      rcases List.mem_cons.mp z with z | z
      · exact hei z
      · exact hef z
    have G := GoesN.enumFrom (A := X.A) (elts := elts) (x1 := kk) (pos := tpos) 0 D e hei hef2 (by simp)
    refine G.goes i s _ _ hlt ⟨he, st0⟩ fun v h' tk hY st' hk htk => ?_
    obtain ⟨T, t, u, rfl, hT, hP, o, ho, hcl, n, hd⟩ := hY
    obtain ⟨x, hx, rx⟩ := val i u hP
    have new : ObjOk X.prog X.w (upd H T (.tup [.int (i : Nat), x])) h' T (.tup [.int (i : Nat), x]) :=
      ⟨by show 2 ≤ sizeLine; decide, [.int (0 + (i : Int)) t, u], .cons ⟨t, by rw [Int.zero_add]⟩ (.cons rx .nil), ⟨o, ho, hcl, n, hd⟩⟩
    have I1 : Inv X pins σ (upd H T (.tup [.int (i : Nat), x])) { s with heap := h', toks := tk } := I.turnedNew (ch := [e, it]) hk hf hT new
    refine ⟨.ref T, _, I1, rfl, ⟨T, x, rfl, I.hok.fresh hT, rfl, fun ys hy => by rw [Src.has_inj I hy hq]; exact hx⟩, ⟨st'.1, back _ _ st'.2⟩, fun b hb => ?_⟩
    have hb' : b < s.heap.objs.size := by
      have e' : b = e ∨ b = it := by simpa using hb
      rcases e' with z | z
      · rw [z]; obtain ⟨old, h⟩ := he; exact Heap.lt_size h
      · rw [z]; obtain ⟨o, h, _⟩ := Src.its_obj hs; exact Heap.lt_size h
    rw [upd_ne (Nat.ne_of_lt (Nat.lt_of_lt_of_le hb' hT))]
    exact (hf b hb).1
  done := by
    intro X hP hw hK hc i pins s σ H E I hf st hg
    subst hP hw hK
    obtain ⟨he, hs⟩ := st
    obtain ⟨xs, hq, rfl⟩ := hg
    obtain ⟨P, St, D, st0, back, val⟩ := Src.draws (A := X.A.in1) I (I.ok.hd hc) (fun a ha z => hif (by rw [← z]; exact ha)) hq hs
    have hef2 : e ∉ it :: src.adr := fun z => by
      rcases List.mem_cons.mp z with z | z
      · exact hei z
      · exact hef z
    have G := GoesN.enumFrom (A := X.A) (elts := elts) (x1 := kk) (pos := tpos) 0 D e hei hef2 (by simp)
    exact G.stops s _ _ ⟨he, st0⟩ fun h' tk hk htk => I.turnedL (t' := tk) (ch := [e, it]) hk hf
  self := fun A i s Q E st h => let ⟨⟨_, he⟩, _⟩ := st; wpAny_pyIter_enum he h

/-- a pair (x, y) at each turn -/
def ItZ (K : PySem.W.Frag) (s1 s2 : Src) : It :=
  ⟨fun i H => ∃ xs ys, s1.has K H xs ∧ s2.has K H ys ∧ i < min xs.length ys.length,
    fun i H v H' => ∃ T x y, v = .ref T ∧ H T = none ∧ H' = upd H T (.tup [x, y]) ∧ (∀ xs, s1.has K H xs → xs[i]? = some x) ∧ ∀ ys, s2.has K H ys → ys[i]? = some y,
    fun i H => ∃ xs ys, s1.has K H xs ∧ s2.has K H ys ∧ min xs.length ys.length = i⟩
theorem turn_zi {P : Program} {w : World} {K : PySem.W.Frag} {elts : List Expr} {kk : Nat} {tpos : Pos} (s1 s2 : Src) (z TI TO i1 i2 : Addr) (S : ZipSep2 z TI TO i1 i2 (i1 :: s1.adr) (i2 :: s2.adr)) (n1 : i1 ∉ s1.adr) (n2 : i2 ∉ s2.adr) :
    Turn P w K (.Tuple elts kk tpos) (ItZ K s1 s2) [z, TI, TO, i1, i2] z (fun i h => IsZip h z TI TO .none ∧ IsTupOf2 h TI (.ref i1) (.ref i2) ∧ (∃ a1 a2, IsTupOf2 h TO a1 a2) ∧ s1.its i1 i h ∧ s2.its i2 i h) where
  mem := by simp
  obj := fun i h st c hc => by
    obtain ⟨hz, hTI, ⟨x, y, hTO⟩, h1, h2⟩ := st
    have e' : c = z ∨ c = TI ∨ c = TO ∨ c = i1 ∨ c = i2 := by simpa using hc
    rcases e' with q | q | q | q | q
    · rw [q]; exact ⟨_, hz, fun v q => nomatch q⟩
    · rw [q]; exact ⟨_, hTI, fun v q => nomatch q⟩
    · rw [q]; exact ⟨_, hTO, fun v q => nomatch q⟩
    · rw [q]; exact Src.its_obj h1
    · rw [q]; exact Src.its_obj h2
  keep := fun i h h' st k => by
    obtain ⟨hz, hTI, ⟨x, y, hTO⟩, h1, h2⟩ := st
    exact ⟨k z (by simp) _ hz, k TI (by simp) _ hTI, ⟨x, y, k TO (by simp) _ hTO⟩, Src.its_keep (fun o q => k i1 (by simp) o q) h1, Src.its_keep (fun o q => k i2 (by simp) o q) h2⟩
  item := by
    intro X hP hw hK hc i pins s σ H E I hf st hg
    subst hP hw hK
    obtain ⟨hz, hTI, hTO, h1, h2⟩ := st
    obtain ⟨xs, ys, hq1, hq2, hlt⟩ := hg
    obtain ⟨P1, St1, D1, st1, back1, val1⟩ := Src.draws (A := X.A.in1) I (I.ok.hd hc) (fun a ha z => n1 (by rw [← z]; exact ha)) hq1 h1
    obtain ⟨P2, St2, D2, st2, back2, val2⟩ := Src.draws (A := X.A.in1) I (I.ok.hd hc) (fun a ha z => n2 (by rw [← z]; exact ha)) hq2 h2
    have G := GoesN.zip2 (A := X.A) (elts := elts) (x1 := kk) (pos := tpos) S D1 D2
    refine G.goes i s _ _ hlt ⟨hz, hTI, hTO, st1, st2⟩ fun v h' tk hY st' hk htk => ?_
    obtain ⟨T, u1, u2, rfl, hT, hP1, hP2, o, ho, hcl, n, hd⟩ := hY
    obtain ⟨x, hx, rx⟩ := val1 i u1 hP1
    obtain ⟨y, hy, ry⟩ := val2 i u2 hP2
    have new : ObjOk X.prog X.w (upd H T (.tup [x, y])) h' T (.tup [x, y]) := ⟨by show 2 ≤ sizeLine; decide, [u1, u2], .cons rx (.cons ry .nil), ⟨o, ho, hcl, n, hd⟩⟩
    have I1 : Inv X pins σ (upd H T (.tup [x, y])) { s with heap := h', toks := tk } := I.turnedNew (ch := [z, TI, TO, i1, i2]) (fun b o hb e => hk b o (fun q => hb (by
      have q' : b = z ∨ b = TO ∨ b = i1 ∨ b = i2 := by simpa using q
      rcases q' with q | q | q | q <;> simp [q])) e) hf hT new
    refine ⟨.ref T, _, I1, rfl, ⟨T, x, y, rfl, I.hok.fresh hT, rfl, fun l hl => by rw [Src.has_inj I hl hq1]; exact hx, fun l hl => by rw [Src.has_inj I hl hq2]; exact hy⟩, ⟨st'.1, st'.2.1, st'.2.2.1, back1 _ _ st'.2.2.2.1, back2 _ _ st'.2.2.2.2⟩, fun c hcm => ?_⟩
    have hlt : c < s.heap.objs.size := by
      have e' : c = z ∨ c = TI ∨ c = TO ∨ c = i1 ∨ c = i2 := by simpa using hcm
      obtain ⟨a1, a2, hTO⟩ := hTO
      rcases e' with q | q | q | q | q
      · rw [q]; exact Heap.lt_size hz
      · rw [q]; exact Heap.lt_size hTI
      · rw [q]; exact Heap.lt_size hTO
      · rw [q]; obtain ⟨_, e1, _⟩ := Src.its_obj h1; exact Heap.lt_size e1
      · rw [q]; obtain ⟨_, e1, _⟩ := Src.its_obj h2; exact Heap.lt_size e1
    rw [upd_ne (Nat.ne_of_lt (Nat.lt_of_lt_of_le hlt hT))]
    exact (hf c hcm).1
  done := by
    intro X hP hw hK hc i pins s σ H E I hf st hg
    subst hP hw hK
    obtain ⟨hz, hTI, hTO, h1, h2⟩ := st
    obtain ⟨xs, ys, hq1, hq2, rfl⟩ := hg
    obtain ⟨P1, St1, D1, st1, back1, val1⟩ := Src.draws (A := X.A.in1) I (I.ok.hd hc) (fun a ha z => n1 (by rw [← z]; exact ha)) hq1 h1
    obtain ⟨P2, St2, D2, st2, back2, val2⟩ := Src.draws (A := X.A.in1) I (I.ok.hd hc) (fun a ha z => n2 (by rw [← z]; exact ha)) hq2 h2
    have G := GoesN.zip2 (A := X.A) (elts := elts) (x1 := kk) (pos := tpos) S D1 D2
    exact G.stops s _ _ ⟨hz, hTI, hTO, st1, st2⟩ fun h' tk hk htk => I.turnedL (t' := tk) (ch := [z, TI, TO, i1, i2]) (fun b o hb e => hk b o (fun q => hb (by
      have q' : b = z ∨ b = TO ∨ b = i1 ∨ b = i2 := by simpa using q
      rcases q' with q | q | q | q <;> simp [q])) e) hf
  self := fun A i s Q E st h => wpAny_pyIter_zip st.1 h
/-- the new iterator object -/
def Src.obj (src : Src) (t : Tok) : Obj := match src with
  | .l a => { cls := .type "list_iterator", data := .fields #[.ref a, .int 0 0] }
  | .t a => { cls := .type "tuple_iterator", data := .fields #[.ref a, .int 0 0] }
  | .s x => { cls := .type (strIterType x), data := .fields #[.str x t, .int 0 0] }
def Src.val (src : Src) : V := match src with
  | .l a => .ref a
  | .t a => .ref a
  | .s x => .str x
theorem Src.begins {X : Cx} {pins : List (Addr × Obj)} {σ : L2.St} {H : Hp} {s : Shared} (I : Inv X pins σ H s) {src : Src} {xs : List V} {u : Value} (h : src.has X.K H xs) (r : RelV src.val u) :
    ∃ t P, Begins u (src.obj t) P ∧ P s.heap ∧ (∀ a ∈ src.adr, a < s.heap.objs.size) ∧ ∀ it h', h'.get? it = some (src.obj t) → src.its it 0 h' := by
  cases src with
  | l a =>
    cases r
    obtain ⟨its, rv, p, _⟩ := I.list h
    refine ⟨0, _, begins_list a its.toArray, p.isList, fun b hb => ?_, fun it h' e => ⟨_, e, rfl, rfl⟩⟩
    obtain rfl : b = a := by simpa [Src.adr] using hb
    exact p.lt
  | t a =>
    cases r
    obtain ⟨its, rv, p, _⟩ := I.tuple h
    refine ⟨0, _, begins_tuple a its.toArray, p, fun b hb => ?_, fun it h' e => ⟨_, e, rfl, rfl⟩⟩
    obtain rfl : b = a := by simpa [Src.adr] using hb
    obtain ⟨o, ho, _⟩ := id p
    exact Heap.lt_size ho
  | s x =>
    obtain ⟨t, rfl⟩ := r
    exact ⟨t, _, begins_text x t, True.intro, fun b hb => by simp [Src.adr] at hb, fun it h' e => ⟨t, _, e, rfl, rfl⟩⟩
theorem meets_enumerate_new1 {v : Value} {o : Obj} {H : Heap → Prop} (B : Begins v o H) :
    Meets (Builtin.«enumerate.__new__» ⟨[.type "enumerate", v], []⟩) (fun _ R s => H s.heap ∧
      R (.ok (.ret (.ref (s.heap.push o).objs.size))) { s with heap := (s.heap.push o).push { cls := .type "enumerate", data := .fields #[.none, .bool false, .ref s.heap.objs.size, rawInt 0, .none, .none] } }) :=
  .of_wp fun prog w A R s h => by
    obtain ⟨hp, g, d, tk, os⟩ := s; obtain ⟨h1, h⟩ := h
    have hsub := sub_enumerate
    have q1 : ∀ {A' : Around} {E : Value → Shared → Prop} {Q : Value → Shared → Prop}, Q (.ref hp.objs.size) ⟨hp.push o, g, d, tk, os⟩ → wpAny (model prog w) A' (pyIter v) Q E ⟨hp, g, d, tk, os⟩ :=
      fun q => B.iter prog w _ _ ⟨hp, g, d, tk, os⟩ _ h1 q
    wp_walk using q1
    refine wpAny_stack_any fun st => wpAny_pure ?_
    split
    · rename_i c _ _ _ _ _
      cases (c == Value.type "enumerate")
      · wp_walk using q1
        exact ⟨_, rfl, h⟩
      · wp_walk using q1
        exact ⟨_, rfl, h⟩
    · wp_walk using q1
      exact ⟨_, rfl, h⟩
theorem enum_begins1 {prog : Program} {w : World} {A : Around} {E : Value → Shared → Prop} {s : Shared} {v : Value} {o : Obj} {H : Heap → Prop} {Q : Value → Shared → Prop} (B : Begins v o H) (h1 : H s.heap)
    (h : ∀ h', IsEnum h' (s.heap.objs.size + 1) s.heap.objs.size 0 .none → h'.get? s.heap.objs.size = some o → h'.objs.size = s.heap.objs.size + 2 →
      (∀ b o, s.heap.get? b = some o → h'.get? b = some o) → Q (.ref (s.heap.objs.size + 1)) { s with heap := h' }) :
    wpAny (model prog w) A (call (.type "enumerate") [v]) Q E s := by
  refine callType_new F.called_enumerate (by decide) (F.typeCall_enumerate_1 _) (F.newCall_enumerate_1 _) (fun obj => F.args_object_init_2 obj _) F.entry_enumerate_new
    (meets_enumerate_new1 B) ⟨h1, ?_⟩
  have hz : (s.heap.push o).objs.size = s.heap.objs.size + 1 := Heap.size_push ..
  show _ ∧ _
  rw [hz]
  have he : IsEnum ((s.heap.push o).push { cls := .type "enumerate", data := .fields #[.none, .bool false, .ref s.heap.objs.size, rawInt 0, .none, .none] }) (s.heap.objs.size + 1) s.heap.objs.size 0 .none := by
    have := Heap.get?_push_size (s.heap.push o) (o := { cls := .type "enumerate", data := .fields #[.none, .bool false, .ref s.heap.objs.size, rawInt 0, .none, .none] }) rfl
    rw [hz] at this; exact this
  refine ⟨⟨_, he, rfl⟩, h _ he (Heap.get?_push_of_some _ (Heap.get?_push_size _ B.free)) (by rw [Heap.size_push, hz]) fun b o x => Heap.get?_push_of_some _ (Heap.get?_push_of_some _ x)⟩
def iEnS (K : PySem.W.Frag) (ta : TA) : TI := fun σ H R => ta σ H fun vs H1 => ∃ src xs, vs = [Src.val src] ∧ src.has K H1 xs ∧ R (ItE K src) H1
theorem pi_en {X : Cx} {e : Expr} {ta : TA} {p pos tpos : Pos} {elts : List Expr} {kk : Nat} (hg : Gl X "enumerate") (hm : X.mg "enumerate" = none) (ha : PA X [e] ta) (hs : starEach [e] X.env = [(false, eval e X.env)] := by rfl) :
    PI X (.Tuple elts kk tpos) (.Call (.Name "enumerate" p) [e] [] pos) (iEnS X.K ta) := by
  refine ⟨fun pins s σ H R I h => ?_⟩
  refine Call_ (ld_blt I hg hm boot_enumerate (PyProof.Rows.callWith_type1 (thn (ha.run pos pins s σ H _ I h) fun us s1 ⟨vs, H1, I1, r1, q1⟩ => ?_) hs rfl))
  obtain ⟨src, xs, rfl, hq, q⟩ := q1
  cases r1 with
  | cons r rr =>
    cases rr
    obtain ⟨t, P, B, hP, lt, its⟩ := Src.begins I1 hq r
    refine enum_begins1 B hP fun h' he hit hsz hk => wpAny_pyIter_enum he ?_
    have I2 : Inv X pins σ H1 { s1 with heap := h' } := I1.kept (t' := s1.toks) hk
    have na : s1.heap.objs.size + 1 ∉ src.adr := fun z => absurd (lt _ z) (Nat.not_lt_of_le (Nat.le_succ _))
    have nb : s1.heap.objs.size ∉ src.adr := fun z => absurd (lt _ z) (Nat.lt_irrefl _)
    refine ⟨s1.heap.objs.size + 1, [s1.heap.objs.size + 1, s1.heap.objs.size], _, _, H1, rfl, I2, turn_en src (s1.heap.objs.size + 1) s1.heap.objs.size (Nat.succ_ne_self _) na nb, ⟨⟨.none, he⟩, its _ _ hit⟩, fun b hb => ?_, q⟩
    have e' : b = s1.heap.objs.size + 1 ∨ b = s1.heap.objs.size := by simpa using hb
    have hle : s1.heap.objs.size ≤ b := by
      rcases e' with z | z
      · rw [z]; exact Nat.le_add_right _ _
      · rw [z]; exact Nat.le_refl _
    exact I1.fpOk hle (I1.hok.fresh hle)
def iZiS (K : PySem.W.Frag) (ta : TA) : TI := fun σ H R => ta σ H fun vs H1 => ∃ s1 s2 xs ys, vs = [Src.val s1, Src.val s2] ∧ s1.has K H1 xs ∧ s2.has K H1 ys ∧ R (ItZ K s1 s2) H1
theorem pi_zi {X : Cx} {e e2 : Expr} {ta : TA} {p pos tpos : Pos} {elts : List Expr} {kk : Nat} (hg : Gl X "zip") (hm : X.mg "zip" = none) (ha : PA X [e, e2] ta)
    (hs : starEach [e, e2] X.env = (false, eval e X.env) :: starEach [e2] X.env := by rfl) (hpl : (backTo pos (starEach [e2] X.env)).any (·.1) = false := by rfl) :
    PI X (.Tuple elts kk tpos) (.Call (.Name "zip" p) [e, e2] [] pos) (iZiS X.K ta) := by
  refine ⟨fun pins s σ H R I h => ?_⟩
  refine Call_ (ld_blt I hg hm PyProof.Rows.boot_zip (PyProof.Rows.callWith_type1 (thn (ha.run pos pins s σ H _ I h) fun us s1 ⟨vs, H1, I1, r1, q1⟩ => ?_) hs hpl))
  obtain ⟨src1, src2, xs, ys, rfl, hq1, hq2, q⟩ := q1
  cases r1 with
  | cons r rr =>
    cases rr with
    | cons r' rr =>
      cases rr
      obtain ⟨t1, P1, B1, hP1, lt1, its1⟩ := Src.begins I1 hq1 r
      obtain ⟨t2, P2, B2, hP2, lt2, its2⟩ := Src.begins I1 hq2 r'
      refine zip_begins2 B1 B2 hP1 hP2 fun h' hz hTI hTO g1 g2 hsz hk => wpAny_pyIter_zip hz ?_
      have I2 : Inv X pins σ H1 { s1 with heap := h' } := I1.kept (t' := s1.toks) hk
      refine ⟨s1.heap.objs.size + 4, [s1.heap.objs.size + 4, s1.heap.objs.size + 2, s1.heap.objs.size + 3, s1.heap.objs.size, s1.heap.objs.size + 1], _, _, H1, rfl, I2, turn_zi src1 src2 _ _ _ _ _ (zip_sep2 lt1 lt2) (fun z => absurd (lt1 _ z) (Nat.lt_irrefl _)) (fun z => absurd (lt2 _ z) (Nat.not_lt_of_le (Nat.le_succ _))), ⟨hz, hTI, ⟨_, _, hTO⟩, its1 _ _ g1, its2 _ _ g2⟩, fun c hcm => ?_, q⟩
      have e' : c = s1.heap.objs.size + 4 ∨ c = s1.heap.objs.size + 2 ∨ c = s1.heap.objs.size + 3 ∨ c = s1.heap.objs.size ∨ c = s1.heap.objs.size + 1 := by simpa using hcm
      have hle : s1.heap.objs.size ≤ c := by
        rcases e' with z | z | z | z | z
        · rw [z]; exact Nat.le_add_right _ _
        · rw [z]; exact Nat.le_add_right _ _
        · rw [z]; exact Nat.le_add_right _ _
        · rw [z]; exact Nat.le_refl _
        · rw [z]; exact Nat.le_add_right _ _
      exact I1.fpOk hle (I1.hok.fresh hle)

/-! ### as sources -/
def enumD (ds : List D) : List D := ds.mapIdx fun i d => .tup [.int (i : Nat), d]
def zipD (ds es : List D) : List D := List.zipWith (fun a b => .tup [a, b]) ds es
def srcOf : D → V → Option Src
  | .lst _, .ref a => some (.l a)
  | .tup _, .ref a => some (.t a)
  | .str _, .str x => some (.s x)
  | _, _ => none
section
variable {W : Wd} {pc : Pc} {F : Fb} {H : Hp}
theorem src_of {d : D} {v : V} {ds : List D} (r : Rep W pc F H d v) (h : itemsOf d = some ds) : ds.length ≤ sizeLine ∧ ∃ src, v = Src.val src ∧ ∀ H' pc F', Rep W pc F' H' d v → ∃ xs, src.has W.K H' xs ∧ Reps W pc F' H' ds xs := by
  cases d with
  | lst xs =>
    cases h
    obtain ⟨a, us, rfl, _, sq, hl, rs⟩ := r.lstS
    refine ⟨hl, .l a, rfl, fun H' pc' F' r' => ?_⟩
    obtain ⟨b, us', e, _, sq', _, rs'⟩ := r'.lstS
    cases e
    exact ⟨us', sq', rs'⟩
  | tup xs =>
    cases h
    obtain ⟨a, us, rfl, sq, hl, rs⟩ := r.tupS
    refine ⟨hl, .t a, rfl, fun H' pc' F' r' => ?_⟩
    obtain ⟨b, us', e, sq', _, rs'⟩ := r'.tupS
    cases e
    exact ⟨us', sq', rs'⟩
  | str s =>
    cases h
    cases r with
    | str _ hl =>
      refine ⟨by simpa using hl, .s ⟨s.toArray⟩, rfl, fun H' pc' F' r' => ⟨s.map fun c => V.str ⟨#[c]⟩, by simp [Src.has], ?_⟩⟩
      clear r' hl
      induction s with
      | nil => exact .nil
      | cons c s ih => exact .cons (.str [c] (by show 1 ≤ sizeLine; decide)) ih
  | _ => cases h
theorem wk_en {d : D} {v : V} {ds : List D} {src : Src} (hl : ds.length ≤ sizeLine) (hs : ∀ H' pc F', Rep W pc F' H' d v → ∃ xs, src.has W.K H' xs ∧ Reps W pc F' H' ds xs) : WkD W [(d, v)] (ItE W.K src) (enumD ds) where
  few := by simpa [enumD] using hl
  goes := fun i H pc F p hi => by
    obtain ⟨xs, h, rs⟩ := hs H pc F (p _ (List.mem_singleton.mpr rfl))
    exact ⟨xs, h, by rw [← rs.length]; simpa [enumD] using hi⟩
  stops := fun H pc F p => by
    obtain ⟨xs, h, rs⟩ := hs H pc F (p _ (List.mem_singleton.mpr rfl))
    exact ⟨xs, h, by rw [← rs.length]; simp [enumD]⟩
  yields := fun i H H' x d' pc F p dm hd y => by
    obtain ⟨xs, h, rs⟩ := hs H pc F (p _ (List.mem_singleton.mpr rfl))
    obtain ⟨T, u, rfl, hT, rfl, hu⟩ := y
    have hd' : ds[i]?.map (fun d => D.tup [.int (i : Nat), d]) = some d' := by simpa [enumD] using hd
    cases e : ds[i]? with
    | none => rw [e] at hd'; cases hd'
    | some d2 =>
      rw [e] at hd'
      cases hd'
      obtain ⟨v2, hv2, r2⟩ := rs.get e
      have := hu xs h
      rw [hv2] at this
      cases this
      exact ⟨same_new hT, tup_new dm (.cons (.int _) (.cons r2 .nil)) (by show 2 ≤ sizeLine; decide) hT⟩
theorem wk_zi {d1 d2 : D} {v1 v2 : V} {ds es : List D} {s1 s2 : Src} (hl : ds.length ≤ sizeLine) (h1 : ∀ H' pc F', Rep W pc F' H' d1 v1 → ∃ xs, s1.has W.K H' xs ∧ Reps W pc F' H' ds xs) (h2 : ∀ H' pc F', Rep W pc F' H' d2 v2 → ∃ xs, s2.has W.K H' xs ∧ Reps W pc F' H' es xs) :
    WkD W [(d1, v1), (d2, v2)] (ItZ W.K s1 s2) (zipD ds es) where
  few := by simp [zipD]; omega
  goes := fun i H pc F p hi => by
    obtain ⟨xs, h, rs⟩ := h1 H pc F (p (d1, v1) (by simp))
    obtain ⟨ys, k, ss⟩ := h2 H pc F (p (d2, v2) (by simp))
    exact ⟨xs, ys, h, k, by rw [← rs.length, ← ss.length]; simpa [zipD] using hi⟩
  stops := fun H pc F p => by
    obtain ⟨xs, h, rs⟩ := h1 H pc F (p (d1, v1) (by simp))
    obtain ⟨ys, k, ss⟩ := h2 H pc F (p (d2, v2) (by simp))
    exact ⟨xs, ys, h, k, by rw [← rs.length, ← ss.length]; simp [zipD]⟩
  yields := fun i H H' x d' pc F p dm hd y => by
    obtain ⟨xs, h, rs⟩ := h1 H pc F (p (d1, v1) (by simp))
    obtain ⟨ys, k, ss⟩ := h2 H pc F (p (d2, v2) (by simp))
    obtain ⟨T, u, w, rfl, hT, rfl, hu, hw⟩ := y
    unfold zipD at hd
    rw [List.getElem?_zipWith] at hd
    cases e : ds[i]? with
    | none => rw [e] at hd; cases hd
    | some a =>
      cases e' : es[i]? with
      | none => rw [e, e'] at hd; cases hd
      | some b =>
        rw [e, e'] at hd
        cases hd
        obtain ⟨va, hva, ra⟩ := rs.get e
        obtain ⟨vb, hvb, rb⟩ := ss.get e'
        have q1 := hu xs h
        rw [hva] at q1
        cases q1
        have q2 := hw ys k
        rw [hvb] at q2
        cases q2
        exact ⟨same_new hT, tup_new dm (.cons ra (.cons rb .nil)) (by show 2 ≤ sizeLine; decide) hT⟩
end
section
variable {X : Cx} {W : Wd} {e e2 : Expr} {p pos tpos : Pos} {elts : List Expr} {kk : Nat} {f g : SE}
def iEn (f : SE) : SI := fun ε c => match f ε c with
  | none => none
  | some (d, c1) => match itemsOf d with
    | none => none
    | some ds => some (enumD ds, c1)
theorem i_en (hK : X.K = W.K) (hg : Gl X "enumerate") (hm : X.mg "enumerate" = none) (h : PE X e (tE W f)) (hs : starEach [e] X.env = [(false, eval e X.env)] := by rfl) :
    PI X (.Tuple elts kk tpos) (.Call (.Name "enumerate" p) [e] [] pos) (iS W (iEn f)) :=
  PI.imp (pi_en hg hm (pa_cons h pa_nil hs) hs) fun σ H R ⟨pc, F0, H0, ps, ε, c, ds, c', Rr, ef, k⟩ => by
    unfold iEn at ef
    split at ef
    · cases ef
    · next d c1 e1 =>
      split at ef
      · cases ef
      · next ds1 e2 =>
        cases ef
        refine ⟨pc, F0, H0, ps, ε, c, d, c', Rr, e1, fun v H1 g cu r => ?_⟩
        obtain ⟨hl, src, rfl, hs⟩ := src_of r e2
        obtain ⟨xs, hx, rs⟩ := hs H1 pc _ r
        rw [hK]
        exact ⟨src, xs, rfl, hx, k _ H1 [(d, src.val)] g cu (fun p hp => by simp at hp; subst hp; exact r) (wk_en hl hs)⟩
def iZi (f g : SE) : SI := fun ε c => match f ε c with
  | none => none
  | some (d, c1) => match g ε c1 with
    | none => none
    | some (d2, c2) => match itemsOf d, itemsOf d2 with
      | some ds, some es => some (zipD ds es, c2)
      | _, _ => none
theorem i_zi (hK : X.K = W.K) (hg : Gl X "zip") (hm : X.mg "zip" = none) (h : PE X e (tE W f)) (h2 : PE X e2 (tE W g)) (hs : starEach [e, e2] X.env = (false, eval e X.env) :: starEach [e2] X.env := by rfl)
    (hs2 : starEach [e2] X.env = (false, eval e2 X.env) :: starEach [] X.env := by rfl) (hpl : (backTo pos (starEach [e2] X.env)).any (·.1) = false := by rfl) :
    PI X (.Tuple elts kk tpos) (.Call (.Name "zip" p) [e, e2] [] pos) (iS W (iZi f g)) :=
  PI.imp (pi_zi hg hm (pa_cons h (pa_cons h2 pa_nil hs2) hs) hs hpl) fun σ H R ⟨pc, F0, H0, ps, ε, c, ds, c', Rr, ef, k⟩ => by
    unfold iZi at ef
    split at ef
    · cases ef
    · next d c1 e1 =>
      split at ef
      · cases ef
      · next d2 c2 e2 =>
        split at ef
        · next ds1 es1 q1 q2 =>
          cases ef
          refine ⟨pc, F0, H0, ps, ε, c, d, c1, Rr, e1, fun v H1 g cu r => ?_⟩
          have R1 := Rr.step g cu
          refine ⟨pc, F0, H0, ps, ε, c1, d2, c', R1, e2, fun v2 H2 g2 cu2 r2 => ?_⟩
          have r' := r.mono (F' := Fo F0 ε σ) (g2.gf R1.foP) fun _ z => z
          obtain ⟨hl, src, rfl, hs⟩ := src_of r' q1
          obtain ⟨hl2, src2, rfl, hs2⟩ := src_of r2 q2
          obtain ⟨xs, hx, rs⟩ := hs H2 pc _ r'
          obtain ⟨ys, hy, ss⟩ := hs2 H2 pc _ r2
          rw [hK]
          refine ⟨src, src2, xs, ys, rfl, hx, hy, k _ H2 [(d, src.val), (d2, src2.val)] (g.trans g2) cu2 (fun p hp => ?_) (wk_zi hl hs hs2)⟩
          have hp' : p = (d, src.val) ∨ p = (d2, src2.val) := by simpa using hp
          rcases hp' with rfl | rfl
          · exact r'
          · exact r2
        · cases ef
end
end TT

set_option Elab.async false
set_option linter.all false
set_option maxRecDepth 100000
set_option maxHeartbeats 4000000
namespace TT
open PySem PySem.Spec PyProof.Rows L2
section
variable {X : Cx} {W : Wd} {e a b e3 : Expr} {es : List Expr} {pos p p2 : Pos} {x : Str} {f g h f1 f2 f3 : SE} {fs : SL} {op op' : D → D → Option D}

/-! ### a op b op' c -/
def eChain (op op' : D → D → Option D) (f g h : SE) : SE := fun ε c => match f ε c with
  | none => none
  | some (d1, c1) => match g ε c1 with
    | none => none
    | some (d2, c2) => match op d1 d2 with
      | some (.bl true) => (match h ε c2 with
        | none => none
        | some (d3, c3) => match op' d2 d3 with
          | none => none
          | some d => some (d, c3))
      | some (.bl false) => some (.bl false, c2)
      | _ => none
theorem opr_no {fn : Value → Value → Sem Value} : OpR X fn (fun _ _ _ _ => False) := fun pins s σ H x y v u Q I rx ry q => q.elim
theorem d_chain {o o' : CmpOp} (ho : Op2 X W (compareOp o) op) (ho' : Op2 X W (compareOp o') op') (h1 : PE X a (tP W f1)) (h2 : PE X b (tP W f2)) (h3 : PE X e3 (tP W f3)) (hm : lastMarks [o, o'] [b, e3] = false := by with_unfolding_all rfl) :
    PE X (.Compare a [o, o'] [b, e3] pos) (tE W (eChain op op' f1 f2 f3)) :=
  PE.cases fun σ H Q ⟨pc, F0, H0, ps, ε, c, d, c', R, ef, k⟩ => by
    unfold eChain at ef
    split at ef
    · cases ef
    · next d1 c1 q1 =>
      split at ef
      · cases ef
      · next d2 c2 q2 =>
        split at ef
        · next q3 =>
          split at ef
          · cases ef
          · next d3 c3 q4 =>
            split at ef
            · cases ef
            · next d' q5 =>
              cases ef
              obtain ⟨r, hr, hq⟩ := ho.ok d1 d2 _ q3
              obtain ⟨r', hr', hq'⟩ := ho'.ok d2 d3 _ q5
              refine ⟨_, pe_chain hr hr' h1 h2 h3 hm, pc, F0, H0, ps, ε, c, d1, c1, R, q1, fun x H1 g1 cu1 s1 => ?_⟩
              have R1 := R.step g1 cu1
              refine ⟨pc, F0, H0, ps, ε, c1, d2, c2, R1, q2, fun y H2 g2 cu2 s2 => ?_⟩
              have R2 := R1.step g2 cu2
              refine hq pc _ H2 x y _ R2.cond (s1.mono R1.foP g2) s2 fun v H3 sm rv => ?_
              cases rv
              have g3 := same_grow (pc := pc) sm
              have R3 := R2.step g3 (same_cup sm cu2)
              refine ⟨true, rfl, iteT ⟨pc, F0, H0, ps, ε, c2, d3, c', R3, q4, fun z H4 g4 cu4 s3 => ?_⟩⟩
              exact hq' pc _ H4 y z Q (R3.step g4 cu4).cond ((s2.mono R2.foP g3).mono R3.foP g4) s3 fun v H5 sm5 rv => k v H5 (g1.trans (g2.trans (g3.trans (g4.trans (same_grow sm5))))) (same_cup sm5 cu4) rv
        · next q3 =>
          cases ef
          obtain ⟨r, hr, hq⟩ := ho.ok d1 d2 _ q3
          refine ⟨_, pe_chain hr opr_no h1 h2 h3 hm, pc, F0, H0, ps, ε, c, d1, c1, R, q1, fun x H1 g1 cu1 s1 => ?_⟩
          have R1 := R.step g1 cu1
          refine ⟨pc, F0, H0, ps, ε, c1, d2, c', R1, q2, fun y H2 g2 cu2 s2 => ?_⟩
          have R2 := R1.step g2 cu2
          refine hq pc _ H2 x y _ R2.cond (s1.mono R1.foP g2) s2 fun v H3 sm rv => ?_
          cases rv
          exact ⟨false, rfl, iteF (k _ H3 (g1.trans (g2.trans (same_grow sm))) (same_cup sm cu2) (.bl false))⟩
        · cases ef
theorem q_chain {o o' : CmpOp} (ho : Op2 X W (compareOp o) op) (ho' : Op2 X W (compareOp o') op') (h1 : PE X a (tP W f1)) (h2 : PE X b (tP W f2)) (h3 : PE X e3 (tP W f3)) (hm : lastMarks [o, o'] [b, e3] = false := by with_unfolding_all rfl) :
    PT X (.Compare a [o, o'] [b, e3] pos) (tT W (bOf (eChain op op' f1 f2 f3))) :=
  PT.cases fun σ H Q ⟨pc, F0, H0, ps, ε, c, bb, c', R, ef0, k⟩ => by
    have ef := bOf_some ef0
    unfold eChain at ef
    split at ef
    · cases ef
    · next d1 c1 q1 =>
      split at ef
      · cases ef
      · next d2 c2 q2 =>
        split at ef
        · next q3 =>
          split at ef
          · cases ef
          · next d3 c3 q4 =>
            split at ef
            · cases ef
            · next d' q5 =>
              cases ef
              obtain ⟨r, hr, hq⟩ := ho.ok d1 d2 _ q3
              obtain ⟨r', hr', hq'⟩ := ho'.ok d2 d3 _ q5
              refine ⟨_, pt_chain hr hr' h1 h2 h3 hm, pc, F0, H0, ps, ε, c, d1, c1, R, q1, fun x H1 g1 cu1 s1 => ?_⟩
              have R1 := R.step g1 cu1
              refine ⟨pc, F0, H0, ps, ε, c1, d2, c2, R1, q2, fun y H2 g2 cu2 s2 => ?_⟩
              have R2 := R1.step g2 cu2
              refine hq pc _ H2 x y _ R2.cond (s1.mono R1.foP g2) s2 fun v H3 sm rv => ?_
              cases rv
              have g3 := same_grow (pc := pc) sm
              have R3 := R2.step g3 (same_cup sm cu2)
              refine ⟨true, rfl, iteT ⟨pc, F0, H0, ps, ε, c2, d3, c', R3, q4, fun z H4 g4 cu4 s3 => ?_⟩⟩
              refine hq' pc _ H4 y z _ (R3.step g4 cu4).cond ((s2.mono R2.foP g3).mono R3.foP g4) s3 fun v H5 sm5 rv => ?_
              cases rv
              exact ⟨_, rfl, k H5 (g1.trans (g2.trans (g3.trans (g4.trans (same_grow sm5))))) (same_cup sm5 cu4)⟩
        · next q3 =>
          cases ef
          obtain ⟨r, hr, hq⟩ := ho.ok d1 d2 _ q3
          refine ⟨_, pt_chain hr opr_no h1 h2 h3 hm, pc, F0, H0, ps, ε, c, d1, c1, R, q1, fun x H1 g1 cu1 s1 => ?_⟩
          have R1 := R.step g1 cu1
          refine ⟨pc, F0, H0, ps, ε, c1, d2, c', R1, q2, fun y H2 g2 cu2 s2 => ?_⟩
          have R2 := R1.step g2 cu2
          refine hq pc _ H2 x y _ R2.cond (s1.mono R1.foP g2) s2 fun v H3 sm rv => ?_
          cases rv
          exact ⟨false, rfl, iteF ⟨false, rfl, k H3 (g1.trans (g2.trans (same_grow sm))) (same_cup sm cu2)⟩⟩
        · cases ef

/-! ### isinstance(x, T) -/
def tyD : D → Option String
  | .non => some "NoneType"
  | .bl _ => some "bool"
  | .int _ => some "int"
  | .str _ => some "str"
  | .tup _ => some "tuple"
  | .lst _ => some "list"
  | .scr _ => some "list"
  | .dk _ _ => some "dict"
  | .dt _ _ => some "dict"
  | _ => none
def isiD (T : String) (t : String) : Bool := t == T || (t == "bool" && T == "int")
def kit4 (T : String) : Bool := ["NoneType", "bool", "int", "str", "tuple", "list", "dict"].all fun t => kitB t T == some (isiD T t)
theorem kit4_of {T t : String} (h : kit4 T = true) (ht : t ∈ ["NoneType", "bool", "int", "str", "tuple", "list", "dict"]) : kitB t T = some (isiD T t) := by
  unfold kit4 at h
  exact eq_of_beq (List.all_eq_true.mp h t ht)
theorem Sh.ty {pc : Pc} {F : Fb} {H : Hp} {d : D} {v : V} {t : String} (s : Sh W pc F H d v) (h : tyD d = some t) : TyX W.K H v (.type t) := by
  cases s with
  | of r =>
    cases r <;> simp only [tyD] at h <;> try (cases h; done)
    · cases h; exact .base .non
    · cases h; exact .base (.bl _)
    · cases h; exact .base (.int _)
    · cases h; exact .base (.str _)
    · next a xs ds nf sq len rs =>
      cases h
      rcases sq with q | ⟨o, q⟩
      · exact .base (.tup q)
      · exact .fTuple q
    · next a xs ds sq len rs =>
      cases h
      obtain ⟨o, its, n, e, c, _⟩ := sq
      exact .kTuple e c
    · next a xs ds nf sq len rs => cases h; exact .base (.lst sq)
    · next nf sq ke rs => cases h; exact .base (.dK sq)
    · next nf sq ke rs => cases h; exact .base (.dT sq)
    · next nf sq len =>
      cases h
      rcases sq with q | ⟨o, q⟩
      · exact .base (.lst q)
      · exact .base (.frz q)
    · next sq len =>
      cases h
      obtain ⟨o, its, n, e, c, _⟩ := sq
      exact .kList e c
  | own n o =>
    cases d with
    | lst ds => cases h; obtain ⟨xs, e, _⟩ := o; exact .base (.lst e)
    | dk ks ds => cases h; obtain ⟨xs, e, _⟩ := o; exact .base (.dK e)
    | dt ks ds => cases h; obtain ⟨xs, e, _⟩ := o; exact .base (.dT e)
    | _ => exact o.elim
def eIsi (T : String) (f : SE) : SE := fun ε c => match f ε c with
  | none => none
  | some (d, c1) => match tyD d with
    | none => none
    | some t => some (.bl (isiD T t), c1)
theorem tyD_mem {d : D} {t : String} (h : tyD d = some t) : t ∈ ["NoneType", "bool", "int", "str", "tuple", "list", "dict"] := by
  cases d <;> simp only [tyD] at h <;> cases h <;> decide
theorem d_isi {T : String} {y : Str} (hK : X.K = W.K) (hk : kit4 T = true) (hg : Gl X "isinstance") (hm : X.mg "isinstance" = none) (hg2 : Gl X y) (hm2 : X.mg y = none) (hv2 : bootBuiltins y = some (.type T)) (h : PE X e (tP W f))
    (hn2 : y ≠ "__name__" := by decide) (hd2 : (y == ("__debug__" : Str)) = false := by decide)
    (he : starEach [e, .Name y p2] X.env = (false, eval e X.env) :: starEach [.Name y p2] X.env := by rfl) (he2 : starEach [.Name y p2] X.env = (false, eval (.Name y p2) X.env) :: starEach [] X.env := by rfl)
    (hpl : (backTo pos (starEach [.Name y p2] X.env)).any (·.1) = false := by rfl) :
    PE X (.Call (.Name "isinstance" p) [e, .Name y p2] [] pos) (tE W (eIsi T f)) :=
  PE.imp (pe_callB call_isi hg hm PyProof.Rows.boot_isinstance (pa_cons h (pa_cons (pe_bltn hg2 hm2 hv2 (v := .ty T) rfl hn2 hd2) pa_nil he2) he) (by decide) (by decide) he hpl) fun σ H Q ⟨pc, F0, H0, ps, ε, c, d, c', R, ef, k⟩ => by
    unfold eIsi at ef
    split at ef
    · cases ef
    · next d1 c1 e1 =>
      split at ef
      · cases ef
      · next t e2 =>
        cases ef
        refine ⟨pc, F0, H0, ps, ε, c, d1, c', R, e1, fun v H1 g cu s => ?_⟩
        rw [hK]
        exact ⟨v, .ty T, _, _, _, rfl, .ty T, s.ty e2, kit_ty (kit4_of hk (tyD_mem e2)), k _ H1 g cu (.bl _)⟩

/-! ### "".join -/
def flatS : List (List Nat) → List Nat
  | [] => []
  | s :: r => s ++ flatS r
theorem joinL_nil : ∀ ss : List (List Nat), TL.joinL [] ss = flatS ss
  | [] => rfl
  | [p] => by simp [TL.joinL, flatS]
  | p :: q :: r => by
    have ih := joinL_nil (q :: r)
    show p ++ ([] ++ TL.joinL [] (q :: r)) = _
    rw [ih]
    rfl
def pJoin : D → Option D
  | .lst ds => match strsOf ds with
    | some ss => if (flatS ss).length ≤ 1000000 then some (.str (flatS ss)) else none
    | none => none
  | _ => none
def e1J (f : SE) : SE := fun ε c => match f ε c with
  | none => none
  | some (d, c1) => match pJoin d with
    | none => none
    | some d' => some (d', c1)
theorem flatS_len : ∀ ss : List (List Nat), (ss.map List.length).sum = (flatS ss).length
  | [] => rfl
  | s :: r => by simp [flatS, flatS_len r]
theorem d_join {j : Nat} {apos : Pos} {o : Expr} (ho : o = .Constant (.str "") j p) (h : PE X e (tP W f)) (hs : starEach [e] X.env = [(false, eval e X.env)] := by rfl) (hbase : attributeBase o "join" X.env (eval o X.env) = eval o X.env := by rfl) (hline : (apos.endLine == pos.line) = true := by rfl) :
    PE X (.Call (.Attribute o "join" apos) [e] [] pos) (tE W (e1J f)) := by
  subst ho
  refine PE.imp (pe_join pe_str h hs hbase hline) fun σ H Q ⟨pc, F0, H0, ps, ε, c, d, c', R, ef, k⟩ => ?_
  unfold e1J at ef
  split at ef
  · cases ef
  · next d1 c1 e1 =>
    split at ef
    · cases ef
    · next d' e2 =>
      cases ef
      refine ⟨⟨_, rfl⟩, pc, F0, H0, ps, ε, c, d1, c', R, e1, fun v H1 g cu s => ?_⟩
      cases d1 <;> simp only [pJoin] at e2 <;> try (cases e2; done)
      split at e2
      · next ss q =>
        split at e2
        · next hl =>
          cases e2
          have := strsOf_eq q
          subst this
          obtain ⟨a, xs, rfl, sq, hl2, rs⟩ := s.lst
          rw [rs.strs] at sq
          have hsum : ((ss.map fun s => (⟨s.toArray⟩ : Str)).map (·.length)).sum = (flatS ss).length := by
            have := SX.lens ss
            rw [← flatS_len]
            exact congrArg List.sum this
          refine ⟨"", a, ss.map fun s => ⟨s.toArray⟩, rfl, rfl, .inl (.of sq), ?_, ?_⟩
          · rw [hsum]
            have z : (("" : Str)).length = 0 := by decide +kernel
            rw [z]
            omega
          · have : Txt.join "" (ss.map fun s => (⟨s.toArray⟩ : Str)) = ⟨(flatS ss).toArray⟩ := by
              have q := SX.join_S [] ss
              rw [joinL_nil] at q
              exact q
            rw [this]
            exact k _ H1 g cu (.str _ (Nat.le_trans hl (by decide)))
        · cases e2
      · cases e2

/-! ### slices -/
def oI : Option SE → SE
  | none => fun _ c => some (.non, c)
  | some f => f
/-- a part of a slice -/
def partD : D → Option (Option Int)
  | .non => some none
  | .int i => some (some i)
  | _ => none
def cutL {α : Type} (xs : List α) (lo hi : Option Int) : List α := (xs.drop (HT.sIx xs.length 0 lo)).take (HT.sIx xs.length xs.length hi - HT.sIx xs.length 0 lo)
def pCut : D → Option Int → Option Int → Option D
  | .str s, lo, hi => some (.str (cutL s lo hi))
  | .tup s, lo, hi => some (.tup (cutL s lo hi))
  | _, _, _ => none
def pCutN : D → Option Int → Option Int → Option D
  | .lst s, lo, hi => some (.lst (cutL s lo hi))
  | _, _, _ => none
def eCut (pk : D → Option Int → Option Int → Option D) (f g h : SE) : SE := fun ε c => match f ε c with
  | none => none
  | some (d, c1) => match g ε c1 with
    | none => none
    | some (dl, c2) => match h ε c2 with
      | none => none
      | some (dh, c3) => match partD dl, partD dh with
        | some lo, some hi => (match pk d lo hi with
          | some d' => some (d', c3)
          | none => none)
        | _, _ => none
theorem eCut_some {pk : D → Option Int → Option Int → Option D} {ε : En} {c c' : Cup} {d' : D} (q : eCut pk f g h ε c = some (d', c')) :
    ∃ d c1 dl c2 dh lo hi, f ε c = some (d, c1) ∧ g ε c1 = some (dl, c2) ∧ h ε c2 = some (dh, c') ∧ partD dl = some lo ∧ partD dh = some hi ∧ pk d lo hi = some d' := by
  unfold eCut at q
  split at q
  · cases q
  · next d c1 e1 =>
    split at q
    · cases q
    · next dl c2 e2 =>
      split at q
      · cases q
      · next dh c3 e3 =>
        split at q
        · next lo hi e4 e5 =>
          split at q
          · next e6 => cases q; exact ⟨d, c1, dl, c2, dh, lo, hi, e1, e2, e3, e4, e5, e6⟩
          · cases q
        · cases q
/-- a part: its reading -/
def tO (W : Wd) (f : SE) : TO := fun σ H Q => ∃ pc F0 H0 ps ε c d c' i, Rl W pc F0 H0 ps ε c σ H ∧ f ε c = some (d, c') ∧ partD d = some i ∧ ∀ H', Grow pc H H' → CupIs pc c' H' → Q i H'
theorem PO.imp {o : Option Expr} {t t' : TO} (h : PO X o t) (i : ∀ σ H Q, t' σ H Q → t σ H Q) : PO X o t' := ⟨fun pins s σ H Q I hw => h.run pins s σ H Q I (i σ H Q hw)⟩
theorem o_none : PO X none (tO W (oI none)) := PO.imp po_none fun σ H Q ⟨pc, F0, H0, ps, ε, c, d, c', i, R, ef, ei, k⟩ => by
  cases ef
  cases ei
  exact k H Grow.refl R.cup
/-- the part is an int -/
def oSome (f : SE) : SE := fun ε c => match f ε c with
  | some (.int i, c1) => some (.int i, c1)
  | _ => none
theorem o_some (h : PE X e (tE W f)) : PO X (some e) (tO W (oSome f)) := PO.imp (po_some h) fun σ H Q ⟨pc, F0, H0, ps, ε, c, d, c', i, R, ef, ei, k⟩ => by
  unfold oSome at ef
  split at ef
  · next j c1 e1 =>
    cases ef
    cases ei
    refine ⟨pc, F0, H0, ps, ε, c, .int j, c', R, e1, fun v H1 g cu r => ?_⟩
    cases r
    exact ⟨j, rfl, k H1 g cu⟩
  · cases ef
theorem cutL_len {α : Type} (xs : List α) (lo hi : Option Int) : (cutL xs lo hi).length ≤ xs.length := by
  unfold cutL
  rw [List.length_take, List.length_drop]
  omega
theorem Reps.cut {pc : Pc} {F : Fb} {H : Hp} {ds : List D} {vs : List V} (r : Reps W pc F H ds vs) (lo hi : Option Int) : Reps W pc F H (cutL ds lo hi) (cutV vs lo hi) := by
  unfold cutL cutV
  rw [r.length]
  exact (r.drop _).take _
theorem sl_any (hK : X.K = W.K) (d : D) (lo hi : Option Int) (d' : D) (hp : pCut d lo hi = some d') : ∃ r, SlR X r ∧ ∀ pc F H v Q, Cond pc F H → Sh W pc F H d v → K1 W pc F H d' Q → r v lo hi H Q := by
  cases d <;> simp only [pCut] at hp <;> try (cases hp; done)
  · next s =>
    cases hp
    refine ⟨_, sl_str, fun pc F H v Q cd s1 k => ?_⟩
    obtain ⟨rfl, hl⟩ := s1.str
    refine ⟨_, rfl, by show s.toArray.size ≤ sizeLine; simpa using hl, ?_⟩
    have e : cutS ⟨s.toArray⟩ lo hi = ⟨(cutL s lo hi).toArray⟩ := rfl
    rw [e]
    exact k _ H (Same.refl _) (.str _ (Nat.le_trans (cutL_len s lo hi) hl))
  · next ds =>
    cases hp
    refine ⟨_, sl_tupA, fun pc F H v Q cd s1 k => ?_⟩
    obtain ⟨a, xs, rfl, sq, hl, rs, r⟩ := s1.tup
    rw [hK]
    refine ⟨a, xs, rfl, sq, fun ⟨w1, w2⟩ => ?_, fun _ p hp => ?_⟩
    · have e : cutL ds lo hi = ds := by
        unfold cutL
        rw [rs.length, w1, w2, List.drop_zero, Nat.sub_zero, ← rs.length, List.take_length]
      rw [e] at k
      exact k _ H (Same.refl _) r
    · exact k _ _ (same_new hp) (tup_new cd.d (rs.cut lo hi) (Nat.le_trans (cutL_len ds lo hi) hl) hp)
theorem sl_anyN (hK : X.K = W.K) (d : D) (lo hi : Option Int) (d' : D) (hp : pCutN d lo hi = some d') : ∃ r, SlR X r ∧ ∀ pc F H v Q, Cond pc F H → Sh W pc F H d v → KN W pc F H d' Q → r v lo hi H Q := by
  cases d <;> simp only [pCutN] at hp <;> try (cases hp; done)
  next ds =>
    cases hp
    refine ⟨_, sl_list, fun pc F H v Q cd s1 k => ?_⟩
    obtain ⟨a, xs, rfl, sq, hl, rs⟩ := s1.lst
    refine ⟨a, xs, rfl, .inl (.inl sq), fun p hp => k p _ (same_new hp) hp (lst_new (rs.cut lo hi) (Nat.le_trans (cutL_len ds lo hi) hl) hp)⟩
theorem d_cut {lo hi : Option Expr} (hK : X.K = W.K) (h1 : PE X e (tP W f1)) (h2 : PO X lo (tO W f2)) (h3 : PO X hi (tO W f3)) : PE X (.Subscript e (.Slice lo hi none p2) pos) (tE W (eCut pCut f1 f2 f3)) :=
  PE.cases fun σ H Q ⟨pc, F0, H0, ps, ε, c, d', c', R, ef, k⟩ => by
    obtain ⟨d, c1, dl, c2, dh, l, u, e1, e2, e3, e4, e5, e6⟩ := eCut_some ef
    obtain ⟨r, hr, hq⟩ := sl_any hK d l u d' e6
    refine ⟨_, pe_slice hr h1 h2 h3, pc, F0, H0, ps, ε, c, d, c1, R, e1, fun v H1 g1 cu1 s1 => ?_⟩
    have R1 := R.step g1 cu1
    refine ⟨pc, F0, H0, ps, ε, c1, dl, c2, l, R1, e2, e4, fun H2 g2 cu2 => ?_⟩
    have R2 := R1.step g2 cu2
    refine ⟨pc, F0, H0, ps, ε, c2, dh, c', u, R2, e3, e5, fun H3 g3 cu3 => ?_⟩
    exact hq pc _ H3 v Q (R2.step g3 cu3).cond (s1.mono R1.foP (g2.trans g3)) fun v' H4 sm rv => k v' H4 (g1.trans (g2.trans (g3.trans (same_grow sm)))) (same_cup sm cu3) rv
theorem d_cutN {lo hi : Option Expr} (hK : X.K = W.K) (h1 : PE X e (tP W f1)) (h2 : PO X lo (tO W f2)) (h3 : PO X hi (tO W f3)) : PE X (.Subscript e (.Slice lo hi none p2) pos) (tN W (eCut pCutN f1 f2 f3)) :=
  PE.cases fun σ H Q ⟨pc, F0, H0, ps, ε, c, d', c', R, ef, k⟩ => by
    obtain ⟨d, c1, dl, c2, dh, l, u, e1, e2, e3, e4, e5, e6⟩ := eCut_some ef
    obtain ⟨r, hr, hq⟩ := sl_anyN hK d l u d' e6
    refine ⟨_, pe_slice hr h1 h2 h3, pc, F0, H0, ps, ε, c, d, c1, R, e1, fun v H1 g1 cu1 s1 => ?_⟩
    have R1 := R.step g1 cu1
    refine ⟨pc, F0, H0, ps, ε, c1, dl, c2, l, R1, e2, e4, fun H2 g2 cu2 => ?_⟩
    have R2 := R1.step g2 cu2
    refine ⟨pc, F0, H0, ps, ε, c2, dh, c', u, R2, e3, e5, fun H3 g3 cu3 => ?_⟩
    have R3 := R2.step g3 cu3
    exact hq pc _ H3 v Q R3.cond (s1.mono R1.foP (g2.trans g3)) fun a H4 sm ha o => k a H4 (g1.trans (g2.trans (g3.trans (same_grow sm)))) (same_cup sm cu3) ((g1.trans (g2.trans g3)).none (R3.fresh ha).2.1 ha) o

/-! ### t.index(k), t a written tuple of ints -/
def KInts (K : PySem.W.Frag) (a : Addr) (ns : List Int) : Prop := ∃ (o : Obj) (its : Array Value) (n : Nat), K.lookup a = some o ∧ o.cls = .type "tuple" ∧ o.dict = none ∧ o.data = .seq its n ∧ its.size ≤ sizeLine ∧ Vals (ns.map V.int) its.toList
def eIdx (ns : List Int) (f : SE) : SE := fun ε c => match f ε c with
  | some (.int i, c1) => if i ∈ ns then some (.int (ns.idxOf i : Nat), c1) else none
  | _ => none
theorem mt_tupIdx : MtR X "tuple.index" (fun x xs H Q => ∃ (a : Addr) (ns : List Int) (i : Int), x = .ref a ∧ xs = [.int i] ∧ SqT X.K H a (ns.map V.int) ∧ i ∈ ns ∧ Q (.int (ns.idxOf i : Nat)) H) := by
  intro pins s σ H x xs v us Q I rx rs h
  obtain ⟨a, ns, i, rfl, rfl, sq, hi, q⟩ := h
  cases rx
  cases rs with
  | cons r1 rr =>
    cases rr
    obtain ⟨t, rfl⟩ := r1
    obtain ⟨its, rv, ht, _⟩ := I.tuple sq
    exact PySem.SeqAt.tuple_index_ints (vs := its) ht rv.ints hi ⟨.int (ns.idxOf i : Nat), H, I.tok _, ⟨_, rfl⟩, q⟩
theorem d_idx {ns : List Int} {a : Addr} {apos : Pos} (hg : Gl X x) (hm : X.mg x = some (.ref a)) (hk : KInts X.K a ns) (h : PE X e (tE W f)) (hd : (x == ("__debug__" : Str)) = false := by decide)
    (hbase : attributeBase (.Name x p) "index" X.env (eval (.Name x p) X.env) = eval (.Name x p) X.env := by rfl)
    (hfew : ((backTo pos (starEach (e :: []) X.env)).all (fun x => !x.1) && (backToKw pos (keywordEach [] X.env)).all (fun x => x.1.isSome)
      && decide ((e :: ([] : List Expr)).length + ([] : List Keyword).length + (if ([] : List Keyword).isEmpty then 0 else 1) < 30)) = true := by rfl)
    (hline : (apos.endLine == pos.line) = true := by rfl) (hs : starEach (e :: []) X.env = (false, eval e X.env) :: starEach [] X.env := by rfl) (hplain : (backTo pos (starEach [] X.env)).any (·.1) = false := by rfl) :
    PE X (.Call (.Attribute (.Name x p) "index" apos) [e] [] pos) (tE W (eIdx ns f)) :=
  PE.imp (pe_bm F.plainAttrs_tuple F.slot_tuple_index F.type_tuple_index mt_tupIdx (pe_glob hg hm (v := .ref a) rfl hd) (pa_cons h pa_nil hs) hbase hfew hline hs hplain) fun σ H Q ⟨pc, F0, H0, ps, ε, c, d, c', R, ef, k⟩ => by
    unfold eIdx at ef
    split at ef
    · next i c1 e1 =>
      split at ef
      · next hi =>
        cases ef
        obtain ⟨o, its, n, e2, e3, e4, e5, e6, e7⟩ := hk
        refine ⟨.inr (.inl ⟨rfl, o, e2, e3, e4⟩), pc, F0, H0, ps, ε, c, .int i, c', R, e1, fun v H1 g cu r => ?_⟩
        cases r
        exact ⟨a, ns, i, rfl, rfl, .inr ⟨o, its, n, e2, e3, e5, e6, e7⟩, hi, k _ H1 g cu (.int _)⟩
      · cases ef
    · cases ef

/-! ### a value's truth -/
theorem Sh.tru {pc : Pc} {F : Fb} {H : Hp} {d : D} {v : V} (s : Sh W pc F H d v) (h : hasTru d = true) : TruV W.K v H (truD d) := by
  have hne : ∀ {ds : List D} {xs : List V}, Reps W pc F H ds xs → (!ds.isEmpty) = !xs.isEmpty := fun r => by cases r <;> rfl
  cases d with
  | non => rw [s.non]; rfl
  | bl b => rw [s.bl]; rfl
  | int i => rw [s.int]; rfl
  | str t =>
    obtain ⟨rfl, hl⟩ := s.str
    refine ⟨by show t.toArray.size ≤ sizeLine; simpa using hl, ?_⟩
    show (!t.isEmpty) = (((t.toArray.size : Nat) : Int) != 0)
    cases t with
    | nil => rfl
    | cons c t =>
      show true = _
      symm
      simp
      omega
  | tup ds =>
    obtain ⟨a, xs, rfl, sq, hl, rs, _⟩ := s.tup
    exact .inr (.inl ⟨xs, sq, hne rs⟩)
  | lst ds =>
    obtain ⟨a, xs, rfl, sq, hl, rs⟩ := s.lst
    exact .inl ⟨xs, .inl (.inl sq), hne rs⟩
  | dk ks ds =>
    obtain ⟨a, kvs, rfl, sq, ke, rs⟩ := s.dk
    refine .inr (.inr ⟨kvs, sq, ?_⟩)
    rw [← ke]
    cases kvs <;> rfl
  | _ => cases h
theorem q_tru (hK : X.K = W.K) (h : PE X e (tP W f)) (he : ∀ whole, isTrue e X.env whole = (do let v ← whole; standAt e.pos; holding [v] (truthy v)) := by intro _; rfl) : PT X e (tT W (bTru f)) :=
  PT.imp (pt_truth h he) fun σ H Q ⟨pc, F0, H0, ps, ε, c, b, c', R, ef, k⟩ => by
    unfold bTru at ef
    split at ef
    · next d c1 e1 =>
      split at ef
      · next ht =>
        cases ef
        refine ⟨pc, F0, H0, ps, ε, c, d, c', R, e1, fun v H1 g cu s => ?_⟩
        rw [hK]
        exact ⟨truD d, s.tru ht, k H1 g cu⟩
      · cases ef
    · cases ef
end
end TT

set_option Elab.async false
set_option linter.all false
set_option maxRecDepth 100000
set_option maxHeartbeats 4000000
namespace TT
open PySem PySem.Spec PyProof.Rows L2
section
variable {X : Cx} {W : Wd} {tgt tgt1 iter iter1 elt : Expr} {pos : Pos} {g g1 : TG} {tg tg1 : Tg} {is is1 : List Nat} {src src1 : SI} {q q1 : SB} {f : SE}

/-! ### [elt for tgt in iter if .. for tgt1 in iter1 if ..] -/
def compGo2 (tg : Tg) (q : SB) (vs1 : List Nat) (src1 : SI) (tg1 : Tg) (q1 : SB) (f : SE) (ε : En) : List D → Cup → Option (List D × Cup)
  | [], c => some ([], c)
  | d :: ds, c => match tg d ε with
    | none => none
    | some ε1 => match q ε1 c with
      | none => none
      | some (false, c1) => compGo2 tg q vs1 src1 tg1 q1 f ε ds c1
      | some (true, c1) => match eComp vs1 src1 tg1 q1 f ε1 c1 with
        | some (.lst xs, c2) => (match compGo2 tg q vs1 src1 tg1 q1 f ε ds c2 with
          | none => none
          | some (ys, c3) => some (xs ++ ys, c3))
        | _ => none
def eComp2 (vs vs1 : List Nat) (src : SI) (tg : Tg) (q : SB) (src1 : SI) (tg1 : Tg) (q1 : SB) (f : SE) : SE := fun ε c => match src ε c with
  | none => none
  | some (ds, c1) => match wipeE ε vs with
    | none => none
    | some ε0 => match compGo2 tg q vs1 src1 tg1 q1 f ε0 ds c1 with
      | none => none
      | some (xs, c2) => if xs.length ≤ 1000000 then some (.lst xs, c2) else none
theorem wipe_wipe (σ : L2.St) (vs : List Nat) : wipe (wipe σ vs) vs = wipe σ vs := by
  apply List.ext_getElem?
  intro j
  rw [wipe_get, wipe_get, wipe_length]
  by_cases hj : j ∈ vs
  · rw [if_pos hj, if_pos hj]
  · rw [if_neg hj, if_neg hj]
/-- the outer invariant -/
structure LcO (W : Wd) (pc : Pc) (F0 : Fb) (H0 H1 : Hp) (ps : List (D × V)) (a : Addr) (ε0 : En) (σ0 : L2.St) (es : List D) (c2 : Cup) (go : Cup → Option (List D × Cup)) (H : Hp) : Prop where
  ex : ∃ c acc vacc rest, Rl W pc (fun b => F0 b ∨ b = a) H0 ps ε0 c σ0 H ∧ go c = some (rest, c2) ∧ H a = some (.lst vacc) ∧ Reps W pc (Fo (fun b => F0 b ∨ b = a) ε0 σ0) H acc vacc ∧ acc ++ rest = es ∧ Grow pc H1 H
/-- the inner one -/
structure LcN (W : Wd) (pc : Pc) (F0 : Fb) (H0 H1 : Hp) (ps ps1 : List (D × V)) (a : Addr) (ε0 ε2 : En) (σ0 σ2 : L2.St) (es ys : List D) (c7 : Cup) (go : Cup → Option (List D × Cup)) (H : Hp) : Prop where
  ex : ∃ c acc vacc rest, Rl W pc (fun b => F0 b ∨ b = a) H0 ps ε0 c σ0 H ∧ Rl W pc (fun b => F0 b ∨ b = a) H0 ps1 ε2 c σ2 H ∧ go c = some (rest, c7) ∧ H a = some (.lst vacc) ∧ Reps W pc (Fo (fun b => F0 b ∨ b = a) ε0 σ0) H acc vacc ∧ acc ++ (rest ++ ys) = es ∧ Grow pc H1 H
theorem tLc2_of {vs vs1 : List Nat} (hv : ∀ i ∈ is, i ∈ vs) (hv1 : ∀ i ∈ is1, i ∈ vs1) (hvv : ∀ i ∈ vs1, i ∈ vs) (ok : GOk W g tg is) (ok1 : GOk W g1 tg1 is1) :
    ∀ σ H Q, tN W (eComp2 vs vs1 src tg q src1 tg1 q1 f) σ H Q → tLc2 (iS W src) g (tT W q) (iS W src1) g1 (tT W q1) (tE W f) vs vs1 σ H Q := fun σ H Q ⟨pc, F0, H0, ps, ε, c, d, c2, R, ef, k⟩ => by
  unfold eComp2 at ef
  split at ef
  · cases ef
  · next ds c1 e1 =>
    split at ef
    · cases ef
    · next ε0 e2 =>
      split at ef
      · cases ef
      · next xs c3 e3 =>
        split at ef
        · next hxs =>
          cases ef
          refine ⟨pc, F0, H0, ps, ε, c, ds, c1, R, e1, fun J H1 qs gr cu pn wk a ha => ?_⟩
          have R1 : Rl W pc F0 H0 (qs ++ ps) ε c1 σ H1 := (R.step gr cu).pins pn
          have fr := R1.fresh ha
          have hap : H a = none := gr.none fr.2.1 ha
          have Ra : Rl W pc (fun b => F0 b ∨ b = a) H0 (qs ++ ps) ε0 c1 (wipe σ vs) (upd H1 a (.lst [])) := (R1.wipe e2).plus ha
          have fo0 : ∀ b, (Fo F0 ε σ b ∨ b = a) → Fo (fun b => F0 b ∨ b = a) ε0 (wipe σ vs) b := fun b z => by
            rcases z with z | z
            · rcases (fo_wipe (F0 := F0) e2 R.len b).mpr z with z | z
              · exact .inl (.inl z)
              · exact .inr z
            · exact .inl (.inr z)
          refine ⟨fun i m H => m = ds.length - i ∧ i ≤ ds.length ∧ LcO W pc F0 H0 H1 (qs ++ ps) a ε0 (wipe σ vs) xs c2 (compGo2 tg q vs1 src1 tg1 q1 f ε0 (ds.drop i)) H, ⟨ds.length, by simp, Nat.zero_le _, ⟨c1, [], [], xs, Ra, by simpa using e3, upd_same, .nil, rfl, Grow.new ha⟩⟩, ?_⟩
          rintro i m H2 ⟨rfl, hi2, ⟨c4, acc, vacc, rest, R2, ef2, ea, rsa, el, g2⟩⟩
          by_cases hlt : i < ds.length
          · have hd : ds[i]? = some ds[i] := List.getElem?_eq_getElem hlt
            refine .inr ⟨wk.goes i H2 pc _ R2.pinned hlt, fun H' => LcO W pc F0 H0 H1 (qs ++ ps) a ε0 (wipe σ vs) xs c2 (compGo2 tg q vs1 src1 tg1 q1 f ε0 (ds.drop (i + 1))) H', fun H' l => ⟨ds.length - (i + 1), by omega, rfl, hlt, l⟩, fun x H' y => ?_⟩
            obtain ⟨sm, rx⟩ := wk.yields i H2 H' x _ pc _ R2.pinned R2.foDom hd y
            have R3 := R2.same sm
            rw [List.drop_eq_getElem_cons hlt] at ef2
            unfold compGo2 at ef2
            cases e4 : tg ds[i] ε0 with
            | none => rw [e4] at ef2; cases ef2
            | some ε1 =>
              rw [e4] at ef2
              simp only at ef2
              refine ok pc _ H0 (qs ++ ps) ε0 c4 (wipe σ vs) H' _ x ε1 _ R3 rx e4 fun σ1 R4 tch fo1 => ⟨?_, ?_⟩
              · have := tch vs hv
                rw [this]
                exact wipe_wipe σ vs
              · cases e5 : q ε1 c4 with
                | none => rw [e5] at ef2; cases ef2
                | some p =>
                  obtain ⟨bb, c5⟩ := p
                  rw [e5] at ef2
                  refine ⟨pc, _, H0, qs ++ ps, ε1, c4, bb, c5, R4, e5, fun H3 g3 cu3 => ?_⟩
                  have R5 := R4.step g3 cu3
                  have g23 : Grow pc H2 H3 := fun b o n z => g3 b o n (sm b o z)
                  cases bb with
                  | false =>
                    exact iteF ⟨c5, acc, vacc, rest, R2.step g23 cu3, ef2, g23 _ _ fr.2.1 ea, rsa.mono (g23.gf R2.foP) fun _ z => z, el, g2.trans g23⟩
                  | true =>
                    simp only at ef2
                    cases e6 : eComp vs1 src1 tg1 q1 f ε1 c5 with
                    | none => rw [e6] at ef2; cases ef2
                    | some p =>
                      obtain ⟨y', c6⟩ := p
                      rw [e6] at ef2
                      cases y' with
                      | lst zs =>
                        simp only at ef2
                        cases e7 : compGo2 tg q vs1 src1 tg1 q1 f ε0 (ds.drop (i + 1)) c6 with
                        | none => rw [e7] at ef2; cases ef2
                        | some p =>
                          obtain ⟨ys, c7⟩ := p
                          rw [e7] at ef2
                          cases ef2
                          unfold eComp at e6
                          cases e8 : src1 ε1 c5 with
                          | none => rw [e8] at e6; cases e6
                          | some p =>
                            obtain ⟨ds1, c8⟩ := p
                            rw [e8] at e6
                            simp only at e6
                            cases e9 : wipeE ε1 vs1 with
                            | none => rw [e9] at e6; cases e6
                            | some ε2 =>
                              rw [e9] at e6
                              simp only at e6
                              cases e10 : compGo tg1 q1 f ε2 ds1 c8 with
                              | none => rw [e10] at e6; cases e6
                              | some p =>
                                obtain ⟨zs', c9⟩ := p
                                rw [e10] at e6
                                cases e6
                                refine iteT ⟨pc, _, H0, qs ++ ps, ε1, c5, ds1, c8, R5, e8, fun J1 H4 qs1 g4 cu4 pn1 wk1 => ?_⟩
                                have R6 : Rl W pc (fun b => F0 b ∨ b = a) H0 (qs1 ++ (qs ++ ps)) ε2 c8 (wipe σ1 vs1) H4 := ((R5.step g4 cu4).pins pn1).wipe e9
                                have g24 : Grow pc H2 H4 := g23.trans g4
                                have Ro := R2.step g24 cu4
                                refine ⟨fun j kk H => kk = ds1.length - j ∧ j ≤ ds1.length ∧ LcN W pc F0 H0 H1 (qs ++ ps) (qs1 ++ (qs ++ ps)) a ε0 ε2 (wipe σ vs) (wipe σ1 vs1) xs ys c6 (compGo tg1 q1 f ε2 (ds1.drop j)) H,
                                  ⟨ds1.length, by simp, Nat.zero_le _, ⟨c8, acc, vacc, zs, Ro, R6, by simpa using e10, g24 _ _ fr.2.1 ea, rsa.mono (g24.gf R2.foP) fun _ z => z, el, g2.trans g24⟩⟩, ?_⟩
                                rintro j kk H5 ⟨rfl, hj2, ⟨c10, acc2, vacc2, rest2, Ro2, Ri2, ef3, ea2, rsa2, el2, g25⟩⟩
                                by_cases hlt1 : j < ds1.length
                                · have hd1 : ds1[j]? = some ds1[j] := List.getElem?_eq_getElem hlt1
                                  refine .inr ⟨wk1.goes j H5 pc _ Ri2.pinned hlt1, fun H' => LcN W pc F0 H0 H1 (qs ++ ps) (qs1 ++ (qs ++ ps)) a ε0 ε2 (wipe σ vs) (wipe σ1 vs1) xs ys c6 (compGo tg1 q1 f ε2 (ds1.drop (j + 1))) H', fun H' l => ⟨ds1.length - (j + 1), by omega, rfl, hlt1, l⟩, fun x1 H6 y1 => ?_⟩
                                  obtain ⟨sm1, rx1⟩ := wk1.yields j H5 H6 x1 _ pc _ Ri2.pinned Ri2.foDom hd1 y1
                                  have R7 := Ri2.same sm1
                                  rw [List.drop_eq_getElem_cons hlt1] at ef3
                                  unfold compGo at ef3
                                  cases e11 : tg1 ds1[j] ε2 with
                                  | none => rw [e11] at ef3; cases ef3
                                  | some ε3 =>
                                    rw [e11] at ef3
                                    simp only at ef3
                                    refine ok1 pc _ H0 (qs1 ++ (qs ++ ps)) ε2 c10 (wipe σ1 vs1) H6 _ x1 ε3 _ R7 rx1 e11 fun σ3 R8 tch1 fo3 => ⟨?_, ?_⟩
                                    · have := tch1 vs1 hv1
                                      rw [this]
                                      exact wipe_wipe σ1 vs1
                                    · cases e12 : q1 ε3 c10 with
                                      | none => rw [e12] at ef3; cases ef3
                                      | some p =>
                                        obtain ⟨b1, c11⟩ := p
                                        rw [e12] at ef3
                                        refine ⟨pc, _, H0, qs1 ++ (qs ++ ps), ε3, c10, b1, c11, R8, e12, fun H7 g7 cu7 => ?_⟩
                                        have R9 := R8.step g7 cu7
                                        have g57 : Grow pc H5 H7 := fun b o n z => g7 b o n (sm1 b o z)
                                        cases b1 with
                                        | false =>
                                          exact iteF ⟨c11, acc2, vacc2, rest2, Ro2.step g57 cu7, Ri2.step g57 cu7, ef3, g57 _ _ fr.2.1 ea2, rsa2.mono (g57.gf Ro2.foP) fun _ z => z, el2, g25.trans g57⟩
                                        | true =>
                                          simp only at ef3
                                          cases e13 : f ε3 c11 with
                                          | none => rw [e13] at ef3; cases ef3
                                          | some p =>
                                            obtain ⟨y2, c12⟩ := p
                                            rw [e13] at ef3
                                            simp only at ef3
                                            cases e14 : compGo tg1 q1 f ε2 (ds1.drop (j + 1)) c12 with
                                            | none => rw [e14] at ef3; cases ef3
                                            | some p =>
                                              obtain ⟨rest3, c13⟩ := p
                                              rw [e14] at ef3
                                              cases ef3
                                              refine iteT ⟨pc, _, H0, qs1 ++ (qs ++ ps), ε3, c11, y2, c12, R9, e13, fun v H8 g8 cu8 rv => ?_⟩
                                              have g58 : Grow pc H5 H8 := g57.trans g8
                                              have ea8 := g58 _ _ fr.2.1 ea2
                                              have hl := rsa2.length
                                              refine ⟨vacc2, ea8, ?_, ?_⟩
                                              · have hz : acc2.length < xs.length := by
                                                  rw [← el2]
                                                  simp
                                                have : (1000000 : Nat) ≤ sizeLine := by decide
                                                omega
                                              · have Rp := (Ro2.step g58 cu8).turnF (o := .lst (vacc2 ++ [v])) (.inr rfl) fr.2.1 fr.2.2
                                                have Rq := (Ri2.step g58 cu8).turnF (o := .lst (vacc2 ++ [v])) (.inr rfl) fr.2.1 fr.2.2
                                                have gf : GrowF (Fo (fun b => F0 b ∨ b = a) ε0 (wipe σ vs)) H8 (upd H8 a (.lst (vacc2 ++ [v]))) := fun b z n e => by
                                                  rw [upd_ne (fun q => n (by rw [q]; exact .inl (.inr rfl)))]; exact e
                                                have eqF : ∀ b, Fo (fun b => F0 b ∨ b = a) ε0 (wipe σ vs) b → Fo (fun b => F0 b ∨ b = a) ε3 σ3 b := fun b z => by
                                                  have z1 := (fo1 b).mpr z
                                                  have z2 := (fo_wipe (F0 := fun b => F0 b ∨ b = a) e9 R5.len b).mpr z1
                                                  exact (fo3 b).mpr z2
                                                refine ⟨c12, acc2 ++ [y2], vacc2 ++ [v], rest3, Rp, Rq, e14, upd_same, ?_, by rw [← el2]; simp, fun b o n z => ?_⟩
                                                · refine .append ((rsa2.mono (g58.gf Ro2.foP) fun _ z => z).mono gf fun _ z => z) (.cons (rv.mono (F' := Fo (fun b => F0 b ∨ b = a) ε0 (wipe σ vs)) (fun b z n e => ?_) eqF) .nil)
                                                  rw [upd_ne (fun q => n (by rw [q]; exact .inl (.inr rfl)))]; exact e
                                                · rw [upd_ne (ne_of_none z ha)]; exact (g25.trans g58) b o n z
                                · have e0 : j = ds1.length := by omega
                                  subst e0
                                  rw [List.drop_length] at ef3
                                  cases ef3
                                  refine .inl ⟨wk1.stops H5 pc _ Ri2.pinned, ⟨_, acc2, vacc2, ys, Ro2, e7, ea2, rsa2, by rw [← el2]; simp, g25⟩⟩
                      | _ => cases ef2
          · have e0 : i = ds.length := by omega
            subst e0
            rw [List.drop_length] at ef2
            cases ef2
            refine .inl ⟨wk.stops H2 pc _ R2.pinned, ?_⟩
            rw [List.append_nil] at el
            subst el
            exact k a H2 (gr.trans g2) R2.cup hap ⟨vacc, ea, Nat.le_trans hxs (by decide), rsa.mono (fun _ _ _ z => z) fo0⟩
        · cases ef
theorem d_comp2 {ifs ifs1 : List Expr} {scope : Scope} {own : List (Str × Nat)} {vs1 : List Nat} (hc : X.calm = true) (hN : X.N.Nodup) (hi : PI X tgt iter (iS W src)) (ok : BlkOk X.N X.env.scope scope own)
    (hg : ∀ (s : Shared) (H : Hp) (C : Addr) (cl : List (Str × Addr)) (fp : List Addr), DG (X.blk s H scope (compEnvC scope cl C X.env) fp) W tgt g tg is) (ht : ∀ (s : Shared) (H : Hp) (C : Addr) (cl : List (Str × Addr)) (fp : List Addr), PTs (X.blk s H scope (compEnvC scope cl C X.env) fp) ifs (tT W q))
    (hi1 : ∀ (s : Shared) (H : Hp) (C : Addr) (cl : List (Str × Addr)) (fp : List Addr), PI (X.blk s H scope (compEnvC scope cl C X.env) fp) tgt1 iter1 (iS W src1))
    (hg1 : ∀ (s : Shared) (H : Hp) (C : Addr) (cl : List (Str × Addr)) (fp : List Addr), DG (X.blk s H scope (compEnvC scope cl C X.env) fp) W tgt1 g1 tg1 is1) (ht1 : ∀ (s : Shared) (H : Hp) (C : Addr) (cl : List (Str × Addr)) (fp : List Addr), PTs (X.blk s H scope (compEnvC scope cl C X.env) fp) ifs1 (tT W q1))
    (he : ∀ (s : Shared) (H : Hp) (C : Addr) (cl : List (Str × Addr)) (fp : List Addr), PE (X.blk s H scope (compEnvC scope cl C X.env) fp) elt (tE W f)) (hv : ∀ i ∈ is, i ∈ own.map (·.2) := by decide) (hv1 : ∀ i ∈ is1, i ∈ vs1 := by decide) (hvv : ∀ i ∈ vs1, i ∈ own.map (·.2) := by decide)
    (hs : ∀ x, foldedSetIterable iter X.env x = pure x := by intro _; rfl) (hs1 : ∀ env x, foldedSetIterable iter1 env x = pure x := by intro _ _; rfl) :
    PE X (.ListComp elt [⟨tgt, iter, ifs, 0⟩, ⟨tgt1, iter1, ifs1, 0⟩] scope pos) (tN W (eComp2 (own.map (·.2)) vs1 src tg q src1 tg1 q1 f)) := by
  refine ⟨fun pins s σ H Q I hw => ?_⟩
  have og : GOk W g tg is := (hg s H 0 [] []).ok
  have og1 : GOk W g1 tg1 is1 := (hg1 s H 0 [] []).ok
  exact (pe_lc2 hc hN hi ok hvv (fun s H C cl fp => (hg s H C cl fp).pg) ht hi1 (fun s H C cl fp => (hg1 s H C cl fp).pg) ht1 he hs hs1).run pins s σ H Q I (tLc2_of hv hv1 hvv og og1 σ H Q hw)
theorem s_comp2 (i : Nat) {y : Str} {py spos : Pos} {ifs ifs1 : List Expr} {scope : Scope} {own : List (Str × Nat)} {vs1 : List Nat} (hc : X.calm = true) (hN : X.N.Nodup)
    (hsw : swapsWith (.ListComp elt [⟨tgt, iter, ifs, 0⟩, ⟨tgt1, iter1, ifs1, 0⟩] scope pos) (some (.Name y py)) spos.line X.env = pure true) (hi : PI X tgt iter (iS W src)) (ok : BlkOk X.N X.env.scope scope own)
    (hg : ∀ (s : Shared) (H : Hp) (C : Addr) (cl : List (Str × Addr)) (fp : List Addr), DG (X.blk s H scope (compEnvC scope cl C X.env) fp) W tgt g tg is) (ht : ∀ (s : Shared) (H : Hp) (C : Addr) (cl : List (Str × Addr)) (fp : List Addr), PTs (X.blk s H scope (compEnvC scope cl C X.env) fp) ifs (tT W q))
    (hi1 : ∀ (s : Shared) (H : Hp) (C : Addr) (cl : List (Str × Addr)) (fp : List Addr), PI (X.blk s H scope (compEnvC scope cl C X.env) fp) tgt1 iter1 (iS W src1))
    (hg1 : ∀ (s : Shared) (H : Hp) (C : Addr) (cl : List (Str × Addr)) (fp : List Addr), DG (X.blk s H scope (compEnvC scope cl C X.env) fp) W tgt1 g1 tg1 is1) (ht1 : ∀ (s : Shared) (H : Hp) (C : Addr) (cl : List (Str × Addr)) (fp : List Addr), PTs (X.blk s H scope (compEnvC scope cl C X.env) fp) ifs1 (tT W q1))
    (he : ∀ (s : Shared) (H : Hp) (C : Addr) (cl : List (Str × Addr)) (fp : List Addr), PE (X.blk s H scope (compEnvC scope cl C X.env) fp) elt (tE W f)) (hy : X.N[i]? = some y := by rfl) (hyl : X.env.scope.names.lookup y = some .local := by rfl) (hv : ∀ i ∈ is, i ∈ own.map (·.2) := by decide) (hv1 : ∀ i ∈ is1, i ∈ vs1 := by decide) (hvv : ∀ i ∈ vs1, i ∈ own.map (·.2) := by decide)
    (hs : ∀ x, foldedSetIterable iter X.env x = pure x := by intro _; rfl) (hs1 : ∀ env x, foldedSetIterable iter1 env x = pure x := by intro _ _; rfl) :
    PS X (.Assign [.Name y py] (.ListComp elt [⟨tgt, iter, ifs, 0⟩, ⟨tgt1, iter1, ifs1, 0⟩] scope pos) spos) (tS W (sOwn i (eComp2 (own.map (·.2)) vs1 src tg q src1 tg1 q1 f))) := by
  refine ⟨fun pins s σ H E I hw => ?_⟩
  have og : GOk W g tg is := (hg s H 0 [] []).ok
  have og1 : GOk W g1 tg1 is1 := (hg1 s H 0 [] []).ok
  refine (PS.imp (ps_setLc2 hc hN hy hyl hsw hi ok hvv (fun s H C cl fp => (hg s H C cl fp).pg) ht hi1 (fun s H C cl fp => (hg1 s H C cl fp).pg) ht1 he hs hs1) (t' := tS W (sOwn i (eComp2 (own.map (·.2)) vs1 src tg q src1 tg1 q1 f))) fun E σ H h => ?_).run pins s σ H E I hw
  have h2 := tAsgN_of E σ H h
  exact tLc2_of hv hv1 hvv og og1 σ H _ h2
end
end TT

set_option Elab.async false
set_option linter.all false
set_option maxRecDepth 100000
set_option maxHeartbeats 4000000
namespace TT
open PySem PySem.Spec PyProof.Rows L2 PySem.W PySem.SeqAt

/-! ### sorted of alike data; lists of tuples whose first is empty -/
section
variable {prog : Program} {w : World} {A : Around} {s : Shared}
theorem call_tuple_lt {E : Value → Shared → Prop} {Q : Value → Shared → Prop} {l b : Addr} {items items2 : Array Value} {e r : Nat → Bool} (hl : s.heap.IsTuple l items) (hb : s.heap.IsTuple b items2)
    (he : ∀ j (h1 : j < items.size) (h2 : j < items2.size), EqAt A.in1 s items[j] items2[j] (e j)) (hr : ∀ j (h1 : j < items.size) (h2 : j < items2.size), e j = false → RcLt A.in1 s items[j] items2[j] (r j))
    (h : Q (.bool (firstLt e r (decide (items.size < items2.size)) (List.range (min items.size items2.size)))) s) : wpAny (model prog w) A (call (.builtin "tuple.__lt__") [.ref l, .ref b]) Q E s := by
  obtain ⟨⟨cls, dd, data, sl⟩, ho, hc, n, hd⟩ := id hl
  obtain ⟨⟨cls2, dd2, data2, sl2⟩, ho2, hc2, n2, hd2⟩ := id hb
  simp only at hc hd hc2 hd2
  subst hc hd hc2 hd2
  exact call_meets F.slot_tuple_lt ⟨_, ho, rfl⟩ F.entry_tuple_lt (F.args_tuple_lt_2 _ _) (tuple_ltAt l b items items2 n n2 dd dd2 sl sl2 e r) ⟨ho, ho2, he, hr, h⟩
theorem mapM_each {M : Model} {α β : Type} {f : α → Sem β} {E : Value → Shared → Prop} : ∀ {l : List α} {rs : List β} {Q : List β → Shared → Prop}, EachIs (fun v r => ∀ (Q' : β → Shared → Prop), Q' r s → wpAny M A (f v) Q' E s) l rs → Q rs s → wpAny M A (l.mapM f) Q E s
  | _, _, _, .nil, h => by rw [List.mapM_nil]; exact wpAny_pure h
  | x :: l, r :: rs, Q, .cons hf t, h => by
    rw [List.mapM_cons]
    exact wpAny_bind (hf _ (wpAny_bind (mapM_each t (Q := fun bs s' => wpAny M A (pure (r :: bs)) Q E s') (wpAny_pure h))))
theorem first_each {M : Model} {E : Value → Shared → Prop} : ∀ {vs : List Value} {ds : List PyData}, EachIs (fun v d => ∃ as, Reads s.heap v d as) vs ds → (∀ d ∈ ds, ∃ xs, d = .tuple xs) →
    ∃ rs : List (Option Value), EachIs (fun v r => ∀ (Q' : Option Value → Shared → Prop), Q' r s → wpAny M A (firstOfTuple' v) Q' E s) vs rs ∧ (∀ r, ds = .tuple [] :: r → ∃ rs', rs = none :: rs')
  | _, _, .nil, _ => ⟨[], .nil, fun r e => by cases e⟩
  | v :: vs, d :: ds, .cons ⟨as, r⟩ t, ht => by
    obtain ⟨rs, h1, h2⟩ := first_each (M := M) (E := E) t fun d hd => ht d (List.mem_cons_of_mem _ hd)
    obtain ⟨xs, rfl⟩ := ht d (List.mem_cons_self ..)
    cases r with
    | @tuple a o items n _ _ ho hc hd hr =>
      refine ⟨items[0]? :: rs, .cons (fun Q' hq => ?_) h1, fun r e => ?_⟩
      · rw [kas_first_eq]
        refine wpAny_bind (wpAny_typeOf (T := "tuple") ⟨o, ho, hc⟩ ?_)
        rw [if_neg (by decide)]
        refine wpAny_bind ?_
        unfold Builtin.List.listItems
        refine wpAny_bind (wpAny_seqItems ho hd (wpAny_pure ?_))
        exact wpAny_pure hq
      · injection e with e1 e2
        injection e1 with e1
        subst e1
        have hz : items.toList = [] := by
          cases q : items.toList with
          | nil => rfl
          | cons _ _ => rw [q] at hr; cases hr
        have : items[0]? = none := by rw [← Array.getElem?_toList, hz]; rfl
        exact ⟨rs, by rw [this]⟩
theorem SortsAt.tup0 {vs : List Value} {ds : List PyData} (e : EachIs (fun v d => ∃ as, Reads s.heap v d as) vs ds) (hal : AllAlike ds) (h0 : ∃ r, ds = .tuple [] :: r) (ht : ∀ d ∈ ds, ∃ xs, d = .tuple xs) (hu : ∀ d, d ∈ ds → A.units + d.depth < cLine) :
    SortsAt prog w A s (dataKind s.heap ds) vs := by
  have room : ∀ {d d' : PyData}, d ∈ ds → A.units + min d.depth d'.depth < cLine := fun {d d'} hd => Nat.lt_of_le_of_lt (Nat.add_le_add_left (Nat.min_le_left _ _) _) (hu d hd)
  refine ⟨fun v hv => ?_, oneType', ?_, fun h2 E Q hq => ?_⟩
  · obtain ⟨d, hd, as, r⟩ := e.left v hv
    exact ⟨_, dataKind_some hal hd r⟩
  · intro E x y a b Q ha hb hq
    obtain ⟨d, as, hd, ra, rfl⟩ := dataKind_inv ha
    obtain ⟨d', as', hd', rb, rfl⟩ := dataKind_inv hb
    rw [keyLt'_oneType]
    obtain ⟨xs, rfl⟩ := ht d hd
    obtain ⟨ys, rfl⟩ := ht d' hd'
    have hdd := hal _ hd _ hd'
    have hal2 : alikeAll xs ys = true := by simpa [alike] using hdd
    have hu2 := room (d' := .tuple ys) hd
    have hq' : Q (dataLt (.tuple xs) (.tuple ys)) s := hq
    cases ra with
    | @tuple l o vs n _ as₁ h1 h2 h3 h4 =>
      cases rb with
      | @tuple l' o' vs' n' _ bs₁ k1 k2 k3 k4 =>
        have n1 : vs.size = xs.length := by simpa using ReadsAll.length _ _ _ h4
        have n2 : vs'.size = ys.length := by simpa using ReadsAll.length _ _ _ k4
        rw [dataLt_tuple, ← firstLt_toks xs ys hal2, ← n1, ← n2] at hq'
        rw [oneLt'_eq]
        simp only [if_true]
        refine wpAny_bind (wpAny_cRoomFor (room_here hu2) ?_)
        refine wpAny_bind (wpAny_callSpecialIfBound?_slot (T := "tuple") ⟨_, h1, h2⟩ F.slot_tuple_lt (call_tuple_lt (e := pairEq xs ys) (r := fun j => dataLt (xs.getD j .none) (ys.getD j .none)) ⟨_, h1, h2, _, h3⟩ ⟨_, k1, k2, _, k3⟩ (fun j j1 j2 => ?_) (fun j j1 j2 hj => ?_) ?_))
        · have := eqAt_alikeAll xs ys A.in1 s vs.toList vs'.toList _ _ h4 k4 hal2 (room_in hu2) j (by simpa using j1) (by simpa using j2)
          simpa using this
        · have := rcLt_alikeAll xs ys A.in1 s vs.toList vs'.toList _ _ h4 k4 hal2 (room_in hu2) j (by simpa using j1) (by simpa using j2) hj
          simpa using this
        · exact wpAny_truthy_bool hq'
  · obtain ⟨r, rfl⟩ := h0
    obtain ⟨rs, hr, hn⟩ := first_each (M := model prog w) (A := A) (E := E) e ht
    obtain ⟨rs', rfl⟩ := hn r rfl
    rw [keyKind'_eq, List.mapM_toArray, map_eq_pure_bind]
    refine wpAny_bind (wpAny_bind (mapM_each hr (wpAny_pure ?_)))
    rw [if_neg (by simp), if_neg (by simp)]
    rw [oneTypeOnly'_eq, List.mapM_toArray, map_eq_pure_bind]
    have hT : ∀ v ∈ vs, Looks (model prog w) s.heap (typeOf v) (.type "tuple") := fun v hv => by
      obtain ⟨d, hd, as, rr⟩ := e.left v hv
      obtain ⟨xs, rfl⟩ := ht d hd
      exact looks_reads rr
    refine wpAny_bind (wpAny_bind (wpAny_bind (kas_mapM (r := Value.type "tuple") _ (fun v hv Q' hq => (hT v hv).here hq) (wpAny_pure ?_))))
    have hall : ((List.map (fun _ => Value.type "tuple") vs).toArray.all fun x => x == Value.type "tuple") = true := by
      simp only [List.all_toArray, List.all_map, List.all_eq_true]
      intro _ _
      rfl
    have h0 : (List.map (fun _ => Value.type "tuple") vs).toArray[0]? = some (Value.type "tuple") := by
      cases vs with
      | nil => simp at h2
      | cons v vs => simp
    rw [h0]
    simp only [hall, if_true]
    exact wpAny_pure (wpAny_pure hq)
end
def SortOk (ds : List PyData) : Prop := Sortable ds ∨ ((∃ r, ds = .tuple [] :: r) ∧ ∀ d ∈ ds, ∃ xs, d = .tuple xs)
section
variable {prog : Program} {w : World} {A : Around} {E : Value → Shared → Prop} {s : Shared} {β : Type} {vs : List Value} {bs : List β} {enc : β → PyData} {R : Value → β → Prop}
theorem sorted_dataA {l : Addr} {Q : Value → Shared → Prop} (hl : s.heap.IsList l vs.toArray) (e : EachIs R vs bs) (er : EachIs (fun v b => ∃ as, Reads s.heap v (enc b) as) vs bs) (hal : AllAlike (bs.map enc)) (hk : SortOk (bs.map enc)) (hL : bs.length ≤ sizeLine)
    (hu : ∀ b, b ∈ bs → A.units + 2 + (enc b).depth < cLine) (h : ∀ out, out.length = bs.length → EachIs R out (bs.mergeSort (dataLe false enc)) → Q (.ref (s.heap.objs.size + 1)) { s with heap := sortedAll s.heap vs (List.toArray out) }) :
    wpAny (model prog w) A (call (.builtin "sorted") [.ref l]) Q E s := by
  rcases hk with hk | ⟨hk, hk2⟩
  · exact sorted_data hl e er hal hk hL hu h
  · have er' : EachIs (fun v b => ∃ as, Reads (sortingHeap (copyHeap s.heap vs) (s.heap.objs.size + 1) vs) v (enc b) as) vs bs := er.mono fun _ _ ⟨as, r⟩ => ⟨as, PyProof.Rows.Reads.keeps (fun _ _ => sorting_copy_old) r⟩
    exact sorted_vals hl (SortsAt.tup0 (s := { s with heap := sortingHeap (copyHeap s.heap vs) (s.heap.objs.size + 1) vs }) (each_map (R := fun v d => ∃ as, Reads (sortingHeap (copyHeap s.heap vs) (s.heap.objs.size + 1) vs) v d as) enc er') hal hk hk2 (bound_map hu)) (by rw [e.length]; exact hL)
      (h _ (by rw [sortVals_length false rfl]; exact e.length) (sortVals_data false e er' hal))
end
def leD (a b : D) : Bool := !ltD b a
def insD (x : D) : List D → List D
  | [] => [x]
  | y :: ys => if leD x y then x :: y :: ys else y :: insD x ys
/-- by insertion: what mergeSort gives, and it computes -/
def sortD : List D → List D
  | [] => []
  | x :: xs => insD x (sortD xs)
def isTupD : D → Bool
  | .tup _ => true
  | _ => false
def fullTup : D → Bool
  | .tup (_ :: _) => true
  | _ => false
def headTup0 : List D → Bool
  | .tup [] :: _ => true
  | _ => false
def intD : D → Bool
  | .int _ => true
  | _ => false
def intTup : D → Bool
  | .tup xs => xs.all intD
  | _ => false
def okKind (ds : List D) : Bool := (ds.all fullTup) || (ds.all fun d => !isTupD d && !isNonD d) || (headTup0 ds && ds.all isTupD)
def okSort (ds : List D) : Bool := ((ds.all intTup) || (ds.all fun a => plainD a && decide (depthD a ≤ 60) && ds.all fun b => alikeD a b)) && okKind ds
def pSorted : D → Option D
  | .lst ds => if okSort ds then some (.lst (sortD ds)) else none
  | _ => none
theorem mergeSort_congr {α : Type} {le le' : α → α → Bool} : ∀ (l : List α), (∀ a ∈ l, ∀ b ∈ l, le a b = le' a b) → l.mergeSort le = l.mergeSort le' := fun l h => by
  have : ∀ (l : List {x // x ∈ l}), True := fun _ => True.intro
  have e1 := List.map_mergeSort (r := fun a b : {x // x ∈ l} => le a.1 b.1) (s := le) (f := Subtype.val) (l := l.attach) (fun _ _ _ _ => rfl)
  have e2 := List.map_mergeSort (r := fun a b : {x // x ∈ l} => le' a.1 b.1) (s := le') (f := Subtype.val) (l := l.attach) (fun _ _ _ _ => rfl)
  rw [List.attach_map_subtype_val] at e1 e2
  rw [← e1, ← e2]
  have : (fun a b : {x // x ∈ l} => le a.1 b.1) = fun a b : {x // x ∈ l} => le' a.1 b.1 := by
    funext a b
    exact h a.1 a.2 b.1 b.2
  rw [this]
section
variable {X : Cx} {W : Wd}
/-- sorted(xs): xs stands for ds -/
def rSortD (X : Cx) : List V → Hp → VK → Prop := fun vs H Q => ∃ (a : Addr) (bs : List (D × V)), vs = [.ref a] ∧ SqL X.K H a (bs.map (·.2)) ∧ (∀ b ∈ bs, Dp X.K H b.2 (toPy b.1)) ∧ okSort (bs.map (·.1)) = true ∧
  ∀ p, H p = none → Q (.ref p) (upd H p (.lst ((bs.mergeSort fun a b => leD a.1 b.1).map (·.2))))
theorem each_of_vals {pins : List (Addr × Obj)} {σ : L2.St} {H : Hp} {s : Shared} (I : Inv X pins σ H s) : ∀ {bs : List (D × V)} {its : List Value}, Vals (bs.map (·.2)) its → (∀ b ∈ bs, Dp X.K H b.2 (toPy b.1)) →
    EachIs (fun v (b : D × V) => RelV b.2 v) its bs ∧ EachIs (fun v (b : D × V) => ∃ as, Reads s.heap v (toPy b.1) as) its bs
  | [], its, h, _ => by cases h; exact ⟨.nil, .nil⟩
  | b :: bs, its, h, hd => by
    rw [List.map_cons] at h
    cases h with
    | cons r t =>
      obtain ⟨h1, h2⟩ := each_of_vals I t fun b hb => hd b (List.mem_cons_of_mem _ hb)
      exact ⟨.cons r h1, .cons (Dp.reads I _ _ _ (hd b (List.mem_cons_self ..)) r) h2⟩
theorem vals_of_each : ∀ {bs : List (D × V)} {its : List Value}, EachIs (fun v (b : D × V) => RelV b.2 v) its bs → Vals (bs.map (·.2)) its
  | [], _, .nil => .nil
  | b :: bs, _, .cons h t => .cons h (vals_of_each t)
end
theorem ints_plain : ∀ {xs : List D}, xs.all intD = true → plainDs xs = true ∧ depthDs xs = 0
  | [], _ => ⟨rfl, rfl⟩
  | x :: xs, h => by
    rw [List.all_cons, Bool.and_eq_true] at h
    obtain ⟨h1, h2⟩ := ints_plain h.2
    cases x with
    | int i => exact ⟨by rw [plainDs, h1]; rfl, by rw [depthDs, h2]; rfl⟩
    | _ => cases h.1
theorem ints_alike : ∀ {xs ys : List D}, xs.all intD = true → ys.all intD = true → alikeDs xs ys = true
  | [], _, _, _ => by rw [alikeDs]
  | x :: xs, [], _, _ => by rw [alikeDs]
  | x :: xs, y :: ys, h, h' => by
    rw [List.all_cons, Bool.and_eq_true] at h h'
    rw [alikeDs, ints_alike h.2 h'.2]
    cases x with
    | int i =>
      cases y with
      | int j => rfl
      | _ => cases h'.1
    | _ => cases h.1
/-- what okSort says -/
structure SrtD (ds : List D) : Prop where
  pl : ∀ a ∈ ds, plainD a = true
  dp : ∀ a ∈ ds, depthD a ≤ 60
  al : ∀ a ∈ ds, ∀ b ∈ ds, alikeD a b = true
  kd : okKind ds = true
theorem okSort_of {ds : List D} (h : okSort ds = true) : SrtD ds := by
  unfold okSort at h
  rw [Bool.and_eq_true, Bool.or_eq_true] at h
  obtain ⟨h1, h2⟩ := h
  rcases h1 with h1 | h1
  · rw [List.all_eq_true] at h1
    refine ⟨fun a ha => ?_, fun a ha => ?_, fun a ha b hb => ?_, h2⟩
    · have := h1 a ha
      cases a with
      | tup xs => rw [plainD]; exact (ints_plain this).1
      | _ => cases this
    · have := h1 a ha
      cases a with
      | tup xs => rw [depthD, (ints_plain this).2]; decide
      | _ => cases this
    · have h3 := h1 a ha
      have h4 := h1 b hb
      cases a with
      | tup xs =>
        cases b with
        | tup ys => rw [alikeD]; exact ints_alike h3 h4
        | _ => cases h4
      | _ => cases h3
  · rw [List.all_eq_true] at h1
    have k : ∀ a ∈ ds, plainD a = true ∧ depthD a ≤ 60 ∧ ∀ b ∈ ds, alikeD a b = true := fun a ha => by
      have := h1 a ha
      rw [Bool.and_eq_true, Bool.and_eq_true, decide_eq_true_iff, List.all_eq_true] at this
      exact ⟨this.1.1, this.1.2, this.2⟩
    exact ⟨fun a ha => (k a ha).1, fun a ha => (k a ha).2.1, fun a ha => (k a ha).2.2, h2⟩
theorem okSort_py {ds : List D} (h : okSort ds = true) : AllAlike (ds.map toPy) ∧ SortOk (ds.map toPy) ∧ (∀ d ∈ ds, depthD d ≤ 60) ∧ ∀ a ∈ ds, ∀ b ∈ ds, dataLt (toPy a) (toPy b) = ltD a b := by
  have k := okSort_of h
  have h2 := k.kd
  unfold okKind at h2
  refine ⟨fun d hd d' hd' => ?_, ?_, k.dp, fun a ha b hb => dataLt_toPy a b (k.al a ha b hb) (k.pl a ha) (k.pl b hb)⟩
  · obtain ⟨a, ha, rfl⟩ := List.mem_map.mp hd
    obtain ⟨b, hb, rfl⟩ := List.mem_map.mp hd'
    exact alike_toPy a b (k.al a ha b hb) (k.pl a ha) (k.pl b hb)
  · rw [Bool.or_eq_true, Bool.or_eq_true] at h2
    rcases h2 with (h2 | h2) | h2
    · refine .inl (.inl fun d hd => ?_)
      obtain ⟨a, ha, rfl⟩ := List.mem_map.mp hd
      have := List.all_eq_true.mp h2 a ha
      cases a with
      | tup xs =>
        cases xs with
        | nil => cases this
        | cons x xs => exact ⟨toPy x, toPys xs, by rw [toPy, toPys]⟩
      | _ => cases this
    · refine .inl (.inr fun d hd => ?_)
      obtain ⟨a, ha, rfl⟩ := List.mem_map.mp hd
      have := List.all_eq_true.mp h2 a ha
      have kp := k.pl a ha
      cases a <;> simp [isTupD, isNonD] at this <;> simp [plainD] at kp <;> simp [toPy]
    · rw [Bool.and_eq_true] at h2
      refine .inr ⟨?_, fun d hd => ?_⟩
      · cases ds with
        | nil => cases h2.1
        | cons d r =>
          cases d with
          | tup xs =>
            cases xs with
            | nil => exact ⟨r.map toPy, by rw [List.map_cons, toPy, toPys]⟩
            | cons _ _ => cases h2.1
          | _ => cases h2.1
      · obtain ⟨a, ha, rfl⟩ := List.mem_map.mp hd
        have := List.all_eq_true.mp h2.2 a ha
        cases a with
        | tup xs => exact ⟨toPys xs, by rw [toPy]⟩
        | _ => cases this
/-! sortD is mergeSort -/
mutual
theorem eqD_alike : ∀ a b : D, alikeD a b = true → eqD a b = true → a = b
  | .non, b, h, _ => by cases b <;> simp [alikeD] at h; rfl
  | .bl x, b, h, e => by cases b <;> simp [alikeD] at h; simp [eqD] at e; rw [e]
  | .int i, b, h, e => by cases b <;> simp [alikeD] at h; simp [eqD] at e; rw [e]
  | .str s, b, h, e => by cases b <;> simp [alikeD] at h; simp [eqD] at e; rw [e]
  | .tup xs, b, h, e => by
    cases b <;> simp only [alikeD, Bool.false_eq_true] at h
    rw [eqD] at e
    rw [eqDs_alike xs _ h e]
  | .lst xs, b, h, e => by
    cases b <;> simp only [alikeD, Bool.false_eq_true] at h
    rw [eqD] at e
    rw [eqDs_alike xs _ h e]
  | .dk _ _, _, h, _ => by simp [alikeD] at h
  | .dt _ _, _, h, _ => by simp [alikeD] at h
  | .fn _, _, h, _ => by simp [alikeD] at h
  | .cup, _, h, _ => by simp [alikeD] at h
  | .scr _, _, h, _ => by simp [alikeD] at h
theorem eqDs_alike : ∀ a b : List D, alikeDs a b = true → eqDs a b = true → a = b
  | [], [], _, _ => rfl
  | [], y :: ys, _, e => by simp [eqDs] at e
  | x :: xs, [], _, e => by simp [eqDs] at e
  | x :: xs, y :: ys, h, e => by
    simp only [alikeDs, Bool.and_eq_true] at h
    simp only [eqDs, Bool.and_eq_true] at e
    rw [eqD_alike x y h.1 e.1, eqDs_alike xs ys h.2 e.2]
end
mutual
theorem eqD_refl : ∀ a : D, plainD a = true → eqD a a = true
  | .non, _ => rfl
  | .bl _, _ => by simp [eqD]
  | .int _, _ => by simp [eqD]
  | .str _, _ => by simp [eqD]
  | .tup xs, h => by rw [plainD] at h; rw [eqD]; exact eqDs_refl xs h
  | .lst xs, h => by rw [plainD] at h; rw [eqD]; exact eqDs_refl xs h
  | .dk _ _, h => by simp [plainD] at h
  | .dt _ _, h => by simp [plainD] at h
  | .fn _, h => by simp [plainD] at h
  | .cup, h => by simp [plainD] at h
  | .scr _, h => by simp [plainD] at h
theorem eqDs_refl : ∀ a : List D, plainDs a = true → eqDs a a = true
  | [], _ => rfl
  | x :: xs, h => by
    rw [plainDs, Bool.and_eq_true] at h
    simp only [eqDs, eqD_refl x h.1, eqDs_refl xs h.2, Bool.and_self]
end
mutual
theorem ltD_anti : ∀ a b : D, alikeD a b = true → alikeD b a = true → plainD a = true → plainD b = true → ltD a b = false → ltD b a = false → a = b
  | .non, b, h, _, _, _, _, _ => by cases b <;> simp [alikeD] at h; rfl
  | .bl x, b, h, _, _, _, e, e' => by
    cases b with
    | bl y => cases x <;> cases y <;> first | rfl | (exact absurd e (by decide)) | (exact absurd e' (by decide))
    | _ => simp [alikeD] at h
  | .int i, b, h, _, _, _, e, e' => by
    cases b with
    | int j =>
      simp [ltD] at e e'
      rw [Int.le_antisymm e' e]
    | _ => simp [alikeD] at h
  | .str s, b, h, _, _, _, e, e' => by
    cases b with
    | str t =>
      have e1 : ¬ s < t := by simpa [ltD] using e
      have e2 : ¬ t < s := by simpa [ltD] using e'
      rw [List.le_antisymm (List.not_lt.mp e2) (List.not_lt.mp e1)]
    | _ => simp [alikeD] at h
  | .tup xs, b, h, h', ha, hb, e, e' => by
    cases b with
    | tup ys =>
      rw [alikeD] at h h'
      rw [plainD] at ha hb
      rw [ltD] at e e'
      rw [ltDs_anti xs ys h h' ha hb e e']
    | _ => simp [alikeD] at h
  | .lst xs, b, h, h', ha, hb, e, e' => by
    cases b with
    | lst ys =>
      rw [alikeD] at h h'
      rw [plainD] at ha hb
      rw [ltD] at e e'
      rw [ltDs_anti xs ys h h' ha hb e e']
    | _ => simp [alikeD] at h
  | .dk _ _, _, h, _, _, _, _, _ => by simp [alikeD] at h
  | .dt _ _, _, h, _, _, _, _, _ => by simp [alikeD] at h
  | .fn _, _, h, _, _, _, _, _ => by simp [alikeD] at h
  | .cup, _, h, _, _, _, _, _ => by simp [alikeD] at h
  | .scr _, _, h, _, _, _, _, _ => by simp [alikeD] at h
theorem ltDs_anti : ∀ a b : List D, alikeDs a b = true → alikeDs b a = true → plainDs a = true → plainDs b = true → ltDs a b = false → ltDs b a = false → a = b
  | [], [], _, _, _, _, _, _ => rfl
  | [], y :: ys, _, _, _, _, e, _ => by simp [ltDs] at e
  | x :: xs, [], _, _, _, _, _, e' => by simp [ltDs] at e'
  | x :: xs, y :: ys, h, h', ha, hb, e, e' => by
    simp only [alikeDs, Bool.and_eq_true] at h h'
    rw [plainDs, Bool.and_eq_true] at ha hb
    simp only [ltDs] at e e'
    by_cases q : eqD x y = true
    · have exy := eqD_alike x y h.1 q
      subst exy
      rw [if_pos q] at e e'
      rw [ltDs_anti xs ys h.2 h'.2 ha.2 hb.2 e e']
    · rw [if_neg q] at e
      by_cases q' : eqD y x = true
      · have exy := eqD_alike y x h'.1 q'
        subst exy
        exact absurd q' q
      · rw [if_neg q'] at e'
        have exy := ltD_anti x y h.1 h'.1 ha.1 hb.1 e e'
        subst exy
        exact absurd (eqD_refl x ha.1) q
end
def kD (a : D) : List (Int ⊕ List Nat) := keyToks (toPy a)
def leK (a b : D) : Bool := !(listOrd itemOrd).blt (kD b) (kD a)
theorem leK_total (a b : D) : (leK a b || leK b a) = true := by
  unfold leK
  cases h1 : (listOrd itemOrd).blt (kD b) (kD a) with
  | false => rfl
  | true =>
    cases h2 : (listOrd itemOrd).blt (kD a) (kD b) with
    | false => rfl
    | true =>
      have h3 := (listOrd itemOrd).trans _ _ _ h1 h2
      rw [(listOrd itemOrd).irrefl] at h3
      cases h3
theorem leK_trans (a b c : D) (h1 : leK a b = true) (h2 : leK b c = true) : leK a c = true := by
  unfold leK at h1 h2 ⊢
  cases h3 : (listOrd itemOrd).blt (kD c) (kD a) with
  | false => rfl
  | true =>
    rcases (listOrd itemOrd).negTrans _ (kD b) _ h3 with h | h
    · rw [h] at h2; cases h2
    · rw [h] at h1; cases h1
theorem insD_perm (x : D) : ∀ ys : List D, (insD x ys).Perm (x :: ys)
  | [] => List.Perm.refl _
  | y :: ys => by
    unfold insD
    split
    · exact List.Perm.refl _
    · exact ((insD_perm x ys).cons y).trans (List.Perm.swap x y ys)
theorem sortD_perm : ∀ xs : List D, (sortD xs).Perm xs
  | [] => List.Perm.refl _
  | x :: xs => by
    rw [sortD]
    exact (insD_perm x _).trans ((sortD_perm xs).cons x)
theorem insD_sorted {x : D} : ∀ {ys : List D}, (∀ y ∈ ys, leD x y = leK x y) → ys.Pairwise (fun a b => leK a b = true) → (insD x ys).Pairwise (fun a b => leK a b = true)
  | [], _, _ => List.pairwise_singleton _ _
  | y :: ys, hk, h => by
    unfold insD
    have h' := List.pairwise_cons.mp h
    split
    · next hx =>
      rw [hk y (List.mem_cons_self ..)] at hx
      refine List.pairwise_cons.mpr ⟨fun z hz => ?_, h⟩
      rcases List.mem_cons.mp hz with rfl | hz
      · exact hx
      · exact leK_trans _ _ _ hx (h'.1 z hz)
    · next hx =>
      rw [hk y (List.mem_cons_self ..)] at hx
      have hyx : leK y x = true := by
        have := leK_total x y
        rw [Bool.or_eq_true] at this
        exact this.resolve_left hx
      refine List.pairwise_cons.mpr ⟨fun z hz => ?_, insD_sorted (fun z hz => hk z (List.mem_cons_of_mem _ hz)) h'.2⟩
      rcases List.mem_cons.mp ((insD_perm x ys).mem_iff.mp hz) with rfl | hz
      · exact hyx
      · exact h'.1 z hz
theorem sortD_sorted : ∀ {xs : List D}, (∀ a ∈ xs, ∀ b ∈ xs, leD a b = leK a b) → (sortD xs).Pairwise (fun a b => leK a b = true)
  | [], _ => .nil
  | x :: xs, h => by
    rw [sortD]
    exact insD_sorted (fun y hy => h x (List.mem_cons_self ..) y (List.mem_cons_of_mem _ ((sortD_perm xs).mem_iff.mp hy))) (sortD_sorted fun a ha b hb => h a (List.mem_cons_of_mem _ ha) b (List.mem_cons_of_mem _ hb))
theorem sortD_merge {ds : List D} (h : okSort ds = true) : sortD ds = ds.mergeSort leD := by
  have k := okSort_of h
  have hk : ∀ a ∈ ds, ∀ b ∈ ds, leD a b = leK a b := fun a ha b hb => by
    unfold leD leK
    rw [show (listOrd itemOrd).blt (kD b) (kD a) = dataLt (toPy b) (toPy a) from rfl, dataLt_toPy b a (k.al b hb a ha) (k.pl b hb) (k.pl a ha)]
  rw [mergeSort_congr ds hk]
  refine List.Perm.eq_of_pairwise (le := fun a b => leK a b = true) (fun a b ha hb h1 h2 => ?_) (sortD_sorted hk) (List.pairwise_mergeSort leK_trans leK_total ds) ((sortD_perm ds).trans (List.mergeSort_perm ds leK).symm)
  have ha' := (sortD_perm ds).mem_iff.mp ha
  have hb' := (List.mergeSort_perm ds leK).mem_iff.mp hb
  rw [← hk a ha' b hb'] at h1
  rw [← hk b hb' a ha'] at h2
  unfold leD at h1 h2
  exact ltD_anti a b (k.al a ha' b hb') (k.al b hb' a ha') (k.pl a ha') (k.pl b hb') (by simpa using h2) (by simpa using h1)
section
variable {X : Cx} {W : Wd}
theorem cr_sortD (hu : X.A.units + 64 < cLine) : CallR X (.builtin "sorted") (rSortD X) := by
  intro pins s σ H vs us Q I r h
  obtain ⟨a, bs, rfl, hs, hd, hok, q⟩ := h
  obtain ⟨its, rv, hl, hz⟩ := I.list hs
  rw [Vals.ref1 r]
  obtain ⟨e1, e2⟩ := each_of_vals I rv hd
  obtain ⟨k1, k2, k3, k4⟩ := okSort_py hok
  rw [List.map_map] at k1 k2
  refine sorted_dataA (enc := fun b : D × V => toPy b.1) hl.isList e1 e2 k1 k2 (by rw [List.length_map] at hz; exact hz) (fun b hb => ?_) fun out ho eo => ?_
  · have := k3 b.1 (List.mem_map.mpr ⟨b, hb, rfl⟩)
    rw [depth_toPy]
    omega
  · obtain ⟨ep, he'⟩ := PyProof.Rows.sortedAll_at s.heap its out.toArray
    have ec : bs.mergeSort (dataLe false fun b : D × V => toPy b.1) = bs.mergeSort fun a b => leD a.1 b.1 := by
      refine mergeSort_congr bs fun x hx y hy => ?_
      show (!dataLt (toPy y.1) (toPy x.1)) = !ltD y.1 x.1
      rw [k4 y.1 (List.mem_map.mpr ⟨y, hy, rfl⟩) x.1 (List.mem_map.mpr ⟨x, hx, rfl⟩)]
    rw [ec] at eo
    have hlen : ((bs.mergeSort fun a b => leD a.1 b.1).map (·.2)).length ≤ sizeLine := by
      rw [List.length_map, List.length_mergeSort]
      rw [List.length_map] at hz
      exact hz
    exact ⟨.ref _, upd H (s.heap.objs.size + 1) (.lst ((bs.mergeSort fun a b => leD a.1 b.1).map (·.2))), I.laid (t' := s.toks) (fun _ _ => PyProof.Rows.sortedAll_old) (Nat.le_succ _) ⟨hlen, out, ep, vals_of_each eo, he'⟩, rfl, q _ (I.hok.fresh (Nat.le_succ _))⟩
theorem reps_zip {pc : Pc} {F : Fb} {H : Hp} : ∀ {ds : List D} {vs : List V}, Reps W pc F H ds vs → ∃ bs : List (D × V), bs.map (·.1) = ds ∧ bs.map (·.2) = vs ∧ ∀ b ∈ bs, Rep W pc F H b.1 b.2
  | _, _, .nil => ⟨[], rfl, rfl, fun b hb => absurd hb (by simp)⟩
  | d :: ds, v :: vs, .cons r rs => by
    obtain ⟨bs, h1, h2, h3⟩ := reps_zip rs
    refine ⟨(d, v) :: bs, by rw [List.map_cons, h1], by rw [List.map_cons, h2], fun b hb => ?_⟩
    rcases List.mem_cons.mp hb with rfl | hb
    · exact r
    · exact h3 b hb
theorem reps_unzip {pc : Pc} {F : Fb} {H : Hp} : ∀ {bs : List (D × V)}, (∀ b ∈ bs, Rep W pc F H b.1 b.2) → Reps W pc F H (bs.map (·.1)) (bs.map (·.2))
  | [], _ => .nil
  | b :: bs, h => .cons (h b (List.mem_cons_self ..)) (reps_unzip fun b hb => h b (List.mem_cons_of_mem _ hb))
theorem c_sorted (hK : X.K = W.K) (hu : X.A.units + 64 < cLine) : C1N X W (.builtin "sorted") pSorted := ⟨fun d1 d h => by
  cases d1 <;> simp only [pSorted] at h <;> try (cases h; done)
  rename_i ds
  split at h
  · next hok =>
    cases h
    refine ⟨_, cr_sortD hu, fun pc F H x Q cd s1 k => ?_⟩
    obtain ⟨a, xs, rfl, sq, hl, rs⟩ := s1.lst
    obtain ⟨bs, rfl, rfl, hb⟩ := reps_zip rs
    have hpl : ∀ b ∈ bs, plainD b.1 = true := fun b hb => (okSort_of hok).pl b.1 (List.mem_map.mpr ⟨b, hb, rfl⟩)
    refine ⟨a, bs, rfl, .of sq, fun b hb' => by rw [hK]; exact (hb b hb').dp _ _ (hpl b hb'), hok, fun p hp => ?_⟩
    have e : sortD (bs.map (·.1)) = (bs.mergeSort fun a b => leD a.1 b.1).map (·.1) := (sortD_merge hok).trans (List.map_mergeSort (f := fun b : D × V => b.1) (fun _ _ _ _ => rfl)).symm
    rw [e] at k
    refine k p _ (same_new hp) hp (lst_new (reps_unzip fun b hb' => hb b (List.mem_mergeSort.mp hb')) ?_ hp)
    rw [List.length_map, List.length_mergeSort]
    rw [List.length_map] at hl
    exact hl
  · cases h⟩
end
end TT

set_option Elab.async false
set_option linter.all false
set_option maxRecDepth 100000
set_option maxHeartbeats 4000000
namespace TT
open PySem PySem.Spec PyProof.Rows L2 PySem.W

/-! ### list(zip(a, b)) -/
section
variable {prog : Program} {w : World} {A : Around} {E : Value → Shared → Prop} {s : Shared} {z TI TO i1 i2 T : Addr} {fp1 fp2 : List Addr} {n1 n2 i : Nat} {P1 P2 : Nat → Value → Prop} {St1 St2 : Nat → Heap → Prop} {f : Bool}
theorem zipH_item {Q : Value → Shared → Prop} (S : ZipSep2 z TI TO i1 i2 fp1 fp2) (D1 : Draws prog w A i1 fp1 n1 P1 St1) (D2 : Draws prog w A i2 fp2 n2 P2 St2)
    (hz : IsZipHeld s.heap z TI TO T f) (hT : ∃ oT, s.heap.get? T = some oT) (hTI : IsTupOf2 s.heap TI (.ref i1) (.ref i2)) (st1 : St1 i s.heap) (st2 : St2 i s.heap) (hlt1 : i < n1) (hlt2 : i < n2)
    (hQ : ∀ x1 x2 h' tk, P1 i x1 → P2 i x2 → IsZipHeld h' z TI TO T true → St1 (i + 1) h' → St2 (i + 1) h' → IsTupOf2 h' s.heap.objs.size x1 x2 → h'.objs.size = s.heap.objs.size + 1 →
      (∀ c o, c ≠ z → c ≠ i1 → c ≠ i2 → s.heap.get? c = some o → h'.get? c = some o) → Q (.ref s.heap.objs.size) { s with heap := h', toks := tk }) :
    wpAny (model prog w) A (Builtin.«zip.__next__» ⟨[.ref z], []⟩) (fun fin s' => ∃ v, fin = .done (.ret v) ∧ Q v s') E s := by
  obtain ⟨oT, hT⟩ := hT
  obtain ⟨hp, g, d, tk0, os⟩ := s
  show wpAny _ _ (field (.ref z) 2 >>= _) _ _ _
  refine wpAny_bind (wpAny_field hz rfl (x := .bool false) rfl ?_)
  show wpAny _ _ (field (.ref z) 3 >>= _) _ _ _
  refine wpAny_bind (wpAny_field hz rfl (x := .ref TI) rfl ?_)
  refine wpAny_bind (wpAny_seqItems hTI rfl ?_)
  show wpAny _ _ (Builtin.SmallTypes.ownedTupleIsFree (.ref z) >>= _) _ _ _
  refine wpAny_bind (wpAny_tupleHeld_zip hz hT fun h₁ hz₁ hs₁ => ?_)
  replace hs₁ : Heap.SameBut z hp h₁ := hs₁
  simp only [Bool.false_eq_true, if_false]
  refine wpAny_bind ?_
  rw [← Array.forIn_toList]
  simp only [List.forIn_cons, List.forIn_nil]
  refine wpAny_bind (wpAny_bind (wpAny_holding ?_))
  show wpAny _ _ (Builtin.SmallTypes.nextOf (.ref i1) >>= _) _ _ ⟨h₁, g, d, tk0, os⟩
  refine wpAny_bind (D1.item i _ _ _ hlt1 (D1.over st1 hs₁ S.zf1) fun x1 p1 tk1 hx1 sn1 hp1 => wpAny_pure ?_)
  replace hp1 : Heap.SameBut i1 h₁ p1 := hp1
  refine wpAny_pure ?_
  refine wpAny_bind (wpAny_bind (wpAny_holding ?_))
  show wpAny _ _ (Builtin.SmallTypes.nextOf (.ref i2) >>= _) _ _ ⟨p1, g, d, tk1, os⟩
  refine wpAny_bind (D2.item i _ _ _ hlt2 (D2.over (D2.over st2 hs₁ S.zf2) hp1 S.sep1_2) fun x2 p2 tk2 hx2 sn2 hp2 => wpAny_pure ?_)
  replace hp2 : Heap.SameBut i2 p1 p2 := hp2
  refine wpAny_pure (wpAny_pure ?_)
  show wpAny _ _ (newTuple [x1, x2] >>= _) _ _ ⟨p2, g, d, tk2, os⟩
  refine wpAny_bind (wpAny_newTuple ?_)
  have hsz : p2.objs.size = hp.objs.size := by rw [hp2.1, hp1.1, hs₁.1]
  have hz₃ : IsZipHeld p2 z TI TO T true := hp2.extBut _ _ S.zi2 (hp1.extBut _ _ S.zi1 hz₁)
  have hk : ∀ c o, c ≠ z → c ≠ i1 → c ≠ i2 → hp.get? c = some o → p2.get? c = some o := fun c o c1 c2 c3 e => hp2.extBut _ _ c3 (hp1.extBut _ _ c2 (hs₁.extBut _ _ c1 e))
  have sn1' : St1 (i + 1) p2 := D1.over sn1 hp2 S.sep2_1
  refine wpAny_pure ⟨_, rfl, ?_⟩
  show Q (.ref p2.objs.size) _
  have hp3 : IsTupOf2 (p2.push { cls := .type "tuple", data := .seq #[x1, x2] }) p2.objs.size x1 x2 := Heap.get?_push_size _ rfl
  have hz4 : (p2.push { cls := .type "tuple", data := .seq #[x1, x2] }).objs.size = p2.objs.size + 1 := Heap.size_push ..
  rw [hsz] at hp3 hz4 ⊢
  exact hQ x1 x2 _ tk2 hx1 hx2 (Heap.get?_push_of_some _ hz₃) (D1.frame _ _ _ sn1' fun b _ o e => Heap.get?_push_of_some _ e) (D2.frame _ _ _ sn2 fun b _ o e => Heap.get?_push_of_some _ e) hp3 hz4 fun c o c1 c2 c3 e => Heap.get?_push_of_some _ (hk c o c1 c2 c3 e)
theorem zipH_end {Q : Fin → Shared → Prop} (S : ZipSep2 z TI TO i1 i2 fp1 fp2) (D1 : Draws prog w A i1 fp1 n1 P1 St1) (D2 : Draws prog w A i2 fp2 n2 P2 St2)
    (hz : IsZipHeld s.heap z TI TO T f) (hT : ∃ oT, s.heap.get? T = some oT) (hTI : IsTupOf2 s.heap TI (.ref i1) (.ref i2)) (st1 : St1 i s.heap) (st2 : St2 i s.heap) (hle1 : i ≤ n1) (hle2 : i ≤ n2) (hend : i = n1 ∨ i = n2)
    (hE : ∀ h' tk e, (∀ c o, c ≠ z → c ≠ i1 → c ≠ i2 → s.heap.get? c = some o → h'.get? c = some o) → (∃ o, h'.get? e = some o ∧ o.cls = .type "StopIteration") → E (.ref e) { s with heap := h', toks := tk }) :
    wpAny (model prog w) A (Builtin.«zip.__next__» ⟨[.ref z], []⟩) Q E s := by
  obtain ⟨oT, hT⟩ := hT
  obtain ⟨hp, g, d, tk0, os⟩ := s
  show wpAny _ _ (field (.ref z) 2 >>= _) _ _ _
  refine wpAny_bind (wpAny_field hz rfl (x := .bool false) rfl ?_)
  show wpAny _ _ (field (.ref z) 3 >>= _) _ _ _
  refine wpAny_bind (wpAny_field hz rfl (x := .ref TI) rfl ?_)
  refine wpAny_bind (wpAny_seqItems hTI rfl ?_)
  show wpAny _ _ (Builtin.SmallTypes.ownedTupleIsFree (.ref z) >>= _) _ _ _
  refine wpAny_bind (wpAny_tupleHeld_zip hz hT fun h₁ hz₁ hs₁ => ?_)
  replace hs₁ : Heap.SameBut z hp h₁ := hs₁
  simp only [Bool.false_eq_true, if_false]
  refine wpAny_bind ?_
  rw [← Array.forIn_toList]
  simp only [List.forIn_cons, List.forIn_nil]
  refine wpAny_bind (wpAny_bind (wpAny_holding ?_))
  show wpAny _ _ (Builtin.SmallTypes.nextOf (.ref i1) >>= _) _ _ ⟨h₁, g, d, tk0, os⟩
  by_cases hlt1 : i < n1
  · refine wpAny_bind (D1.item i _ _ _ hlt1 (D1.over st1 hs₁ S.zf1) fun x1 p1 tk1 hx1 sn1 hp1 => wpAny_pure ?_)
    replace hp1 : Heap.SameBut i1 h₁ p1 := hp1
    refine wpAny_pure ?_
    have hi2 : i = n2 := by omega
    refine wpAny_bind (wpAny_bind (wpAny_holding ?_))
    show wpAny _ _ (Builtin.SmallTypes.nextOf (.ref i2) >>= _) _ _ ⟨p1, g, d, tk1, os⟩
    refine wpAny_bind (D2.done ⟨p1, g, d, tk1, os⟩ _ _ (by rw [← hi2]; exact (D2.over (D2.over st2 hs₁ S.zf2) hp1 S.sep1_2)) fun q e hq he => ?_)
    replace hq : Heap.ExtBut i2 p1 q := hq
    exact hE q tk1 e (fun c o c1 c2 c3 x => hq _ _ c3 (hp1.extBut _ _ c2 (hs₁.extBut _ _ c1 x))) he
  · have hi1 : i = n1 := by omega
    refine wpAny_bind (D1.done ⟨h₁, g, d, tk0, os⟩ _ _ (by rw [← hi1]; exact (D1.over st1 hs₁ S.zf1)) fun q e hq he => ?_)
    replace hq : Heap.ExtBut i1 h₁ q := hq
    exact hE q tk0 e (fun c o c1 c2 c3 x => hq _ _ c2 (hs₁.extBut _ _ c1 x)) he
theorem pyNext_zipH_item {Q : Option Value → Shared → Prop} (S : ZipSep2 z TI TO i1 i2 fp1 fp2) (D1 : Draws prog w A.in1 i1 fp1 n1 P1 St1) (D2 : Draws prog w A.in1 i2 fp2 n2 P2 St2)
    (hz : IsZipHeld s.heap z TI TO T f) (hT : ∃ oT, s.heap.get? T = some oT) (hTI : IsTupOf2 s.heap TI (.ref i1) (.ref i2)) (st1 : St1 i s.heap) (st2 : St2 i s.heap) (hlt1 : i < n1) (hlt2 : i < n2)
    (hQ : ∀ x1 x2 h' tk, P1 i x1 → P2 i x2 → IsZipHeld h' z TI TO T true → St1 (i + 1) h' → St2 (i + 1) h' → IsTupOf2 h' s.heap.objs.size x1 x2 → h'.objs.size = s.heap.objs.size + 1 →
      (∀ c o, c ≠ z → c ≠ i1 → c ≠ i2 → s.heap.get? c = some o → h'.get? c = some o) → Q (some (.ref s.heap.objs.size)) { s with heap := h', toks := tk }) :
    wpAny (model prog w) A (pyNext (.ref z)) Q E s := by
  have hTy : s.TypeIs (.ref z) "zip" := ⟨_, hz, rfl⟩
  unfold pyNext
  exact wpAny_bind (wpAny_attempt (wpAny_callSpecial?_slot (name := Str.ofString "__next__") hTy F.slot_zip_next
    (wpAny_call_entry F.slot_zip_next hTy F.entry_zip_next
      (zipH_item S D1 D2 hz hT hTI st1 st2 hlt1 hlt2 fun x1 x2 h' tk y1 y2 b1 d1 d2 b5 b6 b7 => wpAny_pure (hQ x1 x2 h' tk y1 y2 b1 d1 d2 b5 b6 b7)) (F.args_zip_next_1 _))))
theorem pyNext_zipH_end {Q : Option Value → Shared → Prop} (S : ZipSep2 z TI TO i1 i2 fp1 fp2) (D1 : Draws prog w A.in1 i1 fp1 n1 P1 St1) (D2 : Draws prog w A.in1 i2 fp2 n2 P2 St2)
    (hz : IsZipHeld s.heap z TI TO T f) (hT : ∃ oT, s.heap.get? T = some oT) (hTI : IsTupOf2 s.heap TI (.ref i1) (.ref i2)) (st1 : St1 i s.heap) (st2 : St2 i s.heap) (hle1 : i ≤ n1) (hle2 : i ≤ n2) (hend : i = n1 ∨ i = n2)
    (hQ : ∀ h' tk, (∀ c o, c ≠ z → c ≠ i1 → c ≠ i2 → s.heap.get? c = some o → h'.get? c = some o) → Q none { s with heap := h', toks := tk }) : wpAny (model prog w) A (pyNext (.ref z)) Q E s := by
  have hTy : s.TypeIs (.ref z) "zip" := ⟨_, hz, rfl⟩
  unfold pyNext
  refine wpAny_bind (wpAny_attempt (wpAny_callSpecial?_slot (name := Str.ofString "__next__") hTy F.slot_zip_next
    (wpAny_call_entry F.slot_zip_next hTy F.entry_zip_next (zipH_end S D1 D2 hz hT hTI st1 st2 hle1 hle2 hend fun h' tk e hk he => ?_) (F.args_zip_next_1 _))))
  obtain ⟨o, ho, hc⟩ := he
  refine wpAny_bind (wpAny_isInstance (T := "StopIteration") (b := true) ⟨o, ho, hc⟩ isSubtype_stop ?_)
  exact wpAny_pure (hQ _ _ hk)
/-- the zip, ahead of a turn -/
def ZipAt (z TI TO i1 i2 : Addr) (h : Heap) : Prop := (IsZip h z TI TO .none ∧ ∃ a1 a2, IsTupOf2 h TO a1 a2) ∨ ∃ T f, IsZipHeld h z TI TO T f ∧ (∃ o, h.get? T = some o) ∧ T ≠ z ∧ T ≠ TO ∧ T ≠ i1 ∧ T ≠ i2
theorem ZipAt.keep {h h' : Heap} (hz : ZipAt z TI TO i1 i2 h) (k1 : ∀ o, h.get? z = some o → h'.get? z = some o) (k2 : ∀ o, h.get? TO = some o → h'.get? TO = some o) (k3 : ∀ T o, T ≠ z → T ≠ TO → T ≠ i1 → T ≠ i2 → h.get? T = some o → ∃ o', h'.get? T = some o') : ZipAt z TI TO i1 i2 h' := by
  rcases hz with ⟨hz, a1, a2, hTO⟩ | ⟨T, f, hz, ⟨o, ho⟩, n1, n2, n3, n4⟩
  · exact .inl ⟨k1 _ hz, a1, a2, k2 _ hTO⟩
  · exact .inr ⟨T, f, k1 _ hz, k3 T o n1 n2 n3 n4 ho, n1, n2, n3, n4⟩
theorem zipA_item {Q : Option Value → Shared → Prop} (S : ZipSep2 z TI TO i1 i2 fp1 fp2) (D1 : Draws prog w A.in1 i1 fp1 n1 P1 St1) (D2 : Draws prog w A.in1 i2 fp2 n2 P2 St2)
    (hz : ZipAt z TI TO i1 i2 s.heap) (hTI : IsTupOf2 s.heap TI (.ref i1) (.ref i2)) (st1 : St1 i s.heap) (st2 : St2 i s.heap) (hlt1 : i < n1) (hlt2 : i < n2)
    (hQ : ∀ x1 x2 h' tk, P1 i x1 → P2 i x2 → ZipAt z TI TO i1 i2 h' → St1 (i + 1) h' → St2 (i + 1) h' → IsTupOf2 h' s.heap.objs.size x1 x2 → h'.objs.size = s.heap.objs.size + 1 →
      (∀ c o, c ≠ z → c ≠ TO → c ≠ i1 → c ≠ i2 → s.heap.get? c = some o → h'.get? c = some o) → Q (some (.ref s.heap.objs.size)) { s with heap := h', toks := tk }) :
    wpAny (model prog w) A (pyNext (.ref z)) Q E s := by
  rcases hz with ⟨hz, a1, a2, hTO⟩ | ⟨T, f, hz, ⟨o, ho⟩, m1, m2, m3, m4⟩
  · obtain ⟨o1, e1⟩ := D1.live _ _ st1
    obtain ⟨o2, e2⟩ := D2.live _ _ st2
    exact wpAny_pyNext_zipD2_item S D1 D2 hz hTI hTO st1 st2 hlt1 hlt2 fun x1 x2 h' tk p1 p2 hz' hTO' s1 s2 ht hs hk => hQ x1 x2 h' tk p1 p2 (.inr ⟨_, false, hz', ⟨_, ht⟩, Nat.ne_of_gt (Heap.lt_size hz), Nat.ne_of_gt (Heap.lt_size hTO), Nat.ne_of_gt (Heap.lt_size e1), Nat.ne_of_gt (Heap.lt_size e2)⟩) s1 s2 ht hs hk
  · exact pyNext_zipH_item S D1 D2 hz ⟨o, ho⟩ hTI st1 st2 hlt1 hlt2 fun x1 x2 h' tk p1 p2 hz' s1 s2 ht hs hk => hQ x1 x2 h' tk p1 p2 (.inr ⟨T, true, hz', ⟨o, hk T o m1 m3 m4 ho⟩, m1, m2, m3, m4⟩) s1 s2 ht hs fun c o c1 c2 c3 c4 e => hk c o c1 c3 c4 e
theorem zipA_end {Q : Option Value → Shared → Prop} (S : ZipSep2 z TI TO i1 i2 fp1 fp2) (D1 : Draws prog w A.in1 i1 fp1 n1 P1 St1) (D2 : Draws prog w A.in1 i2 fp2 n2 P2 St2)
    (hz : ZipAt z TI TO i1 i2 s.heap) (hTI : IsTupOf2 s.heap TI (.ref i1) (.ref i2)) (st1 : St1 i s.heap) (st2 : St2 i s.heap) (hle1 : i ≤ n1) (hle2 : i ≤ n2) (hend : i = n1 ∨ i = n2)
    (hQ : ∀ h' tk, (∀ c o, c ≠ z → c ≠ TO → c ≠ i1 → c ≠ i2 → s.heap.get? c = some o → h'.get? c = some o) → Q none { s with heap := h', toks := tk }) : wpAny (model prog w) A (pyNext (.ref z)) Q E s := by
  rcases hz with ⟨hz, a1, a2, hTO⟩ | ⟨T, f, hz, ⟨o, ho⟩, m1, m2, m3, m4⟩
  · exact wpAny_pyNext_zipD2_end S D1 D2 hz hTI hTO st1 st2 hle1 hle2 hend hQ
  · exact pyNext_zipH_end S D1 D2 hz ⟨o, ho⟩ hTI st1 st2 hle1 hle2 hend fun h' tk hk => hQ h' tk fun c o c1 c2 c3 c4 e => hk c o c1 c3 c4 e
/-- the pairs that were collected -/
structure PairsAt (P1 P2 : Nat → Value → Prop) (N : Nat) (h : Heap) (as : List Addr) : Prop where
  prs : ∀ (j : Nat) (T : Addr), as[j]? = some T → ∃ (x1 x2 : Value), P1 j x1 ∧ P2 j x2 ∧ IsTupOf2 h T x1 x2
  low : ∀ T ∈ as, N ≤ T
  rise : as.Pairwise (· < ·)
theorem PairsAt.keep {N : Nat} {h h' : Heap} {as : List Addr} (p : PairsAt P1 P2 N h as) (k : ∀ T o, N ≤ T → h.get? T = some o → h'.get? T = some o) : PairsAt P1 P2 N h' as :=
  ⟨fun j T e => let ⟨x1, x2, p1, p2, t⟩ := p.prs j T e; ⟨x1, x2, p1, p2, k T _ (p.low T (List.mem_of_getElem? e)) t⟩, p.low, p.rise⟩
theorem zip_ext_loop {R : Result → Shared → Prop} {Sl : Addr} {res : Value} (S : ZipSep2 z TI TO i1 i2 fp1 fp2) (D1 : Draws prog w A.in1.in1 i1 fp1 n1 P1 St1) (D2 : Draws prog w A.in1.in1 i2 fp2 n2 P2 St2)
    (hf1 : Sl ∉ fp1) (hf2 : Sl ∉ fp2) (k1 : Sl ≠ z) (k2 : Sl ≠ TI) (k3 : Sl ≠ TO) (hn : min n1 n2 ≤ sizeLine) (N : Nat) :
    ∀ (k i : Nat) (s : Shared) (as : List Addr) (acc : Array Value) (c : Nat), min n1 n2 - i = k → i ≤ min n1 n2 → N ≤ s.heap.objs.size → (∀ b, b = z ∨ b = TO ∨ b = i1 ∨ b = i2 ∨ b = TI ∨ b = Sl → b < N) → ZipAt z TI TO i1 i2 s.heap → IsTupOf2 s.heap TI (.ref i1) (.ref i2) → St1 i s.heap → St2 i s.heap →
      s.heap.get? Sl = some { cls := .type "list", dict := none, data := .seq acc c, slots := #[] } → acc.toList = as.map Value.ref → as.length = i → PairsAt P1 P2 N s.heap as → (∀ T ∈ as, T < s.heap.objs.size) →
      (∀ h' tk as' acc' c', (∀ b o, b ≠ Sl → b ≠ z → b ≠ TO → b ≠ i1 → b ≠ i2 → s.heap.get? b = some o → h'.get? b = some o) → h'.get? Sl = some { cls := .type "list", dict := none, data := .seq acc' c', slots := #[] } → acc'.toList = as'.map Value.ref → as'.length = min n1 n2 → PairsAt P1 P2 N h' as' → R (.ok (.ret res)) { s with heap := h', toks := tk }) →
      codeAny (model prog w) A (.builtin "list.extend.loop" ⟨[.ref Sl, .ref z, res], []⟩) R s := by
  intro k
  have big : ∀ {T : Addr}, (∀ b, b = z ∨ b = TO ∨ b = i1 ∨ b = i2 ∨ b = TI ∨ b = Sl → b < N) → N ≤ T → ∀ b, b = z ∨ b = TO ∨ b = i1 ∨ b = i2 ∨ b = TI ∨ b = Sl → T ≠ b := fun {T} hlt hT b hb q => absurd (hlt b hb) (by rw [← q]; exact Nat.not_lt_of_le hT)
  have hSi1 : Sl ≠ i1 := fun q => hf1 (by rw [q]; exact S.mem1)
  have hSi2 : Sl ≠ i2 := fun q => hf2 (by rw [q]; exact S.mem2)
  induction k with
  | zero =>
    intro i s as acc c hk hi hN hlt hz hTI st1 st2 hS hacc hsz hp hnw hR
    refine codeAny_builtin F.entry_extend_loop ?_
    rw [Around.under_plainId F.plain_extend_loop _]
    show wpAny _ A.in1 (pyNext (.ref z) >>= _) _ _ s
    refine wpAny_bind (zipA_end S D1 D2 hz hTI st1 st2 (by omega) (by omega) (by omega) fun h' tk kk => ?_)
    exact wpAny_pure (hR h' tk as acc c (fun b o b1 b2 b3 b4 b5 e => kk b o b2 b3 b4 b5 e) (kk Sl _ k1 k3 hSi1 hSi2 hS) hacc (by omega) (hp.keep fun T o hT e => kk T o (big hlt hT z (by simp)) (big hlt hT TO (by simp)) (big hlt hT i1 (by simp)) (big hlt hT i2 (by simp)) e))
  | succ k ih =>
    intro i s as acc c hk hi hN hlt hz hTI st1 st2 hS hacc hsz hp hnw hR
    refine codeAny_builtin F.entry_extend_loop ?_
    rw [Around.under_plainId F.plain_extend_loop _]
    show wpAny _ A.in1 (pyNext (.ref z) >>= _) _ _ s
    refine wpAny_bind (zipA_item S D1 D2 hz hTI st1 st2 (by omega) (by omega) fun x1 x2 h' tk px1 px2 hz' s1 s2 ht hsz' kk => ?_)
    have hS' := kk Sl _ k1 k3 hSi1 hSi2 hS
    have hTI' := kk TI _ S.TIz S.TITO S.TIi1 S.TIi2 hTI
    have hal : acc.size = as.length := by rw [← Array.length_toList, hacc, List.length_map]
    show wpAny _ A.in1 (updateSeq Sl (·.push (.ref s.heap.objs.size)) >>= _) _ _ _
    refine wpAny_bind ?_
    have up : ∀ b o, b ≠ Sl → h'.get? b = some o → (h'.update Sl (Obj.mapSeq (·.push (.ref s.heap.objs.size)))).get? b = some o := fun b o hb e => (Heap.get?_update_other _ _ (Ne.symm hb)).trans e
    refine wpAny_updateSeq hS' rfl (wpAny_pure ⟨plainId_quiet F.plain_extend_loop _, ih (i + 1) _ (as ++ [s.heap.objs.size]) (acc.push (.ref s.heap.objs.size)) _ (by omega) (by omega) ?_ hlt (hz'.keep (fun o e => up _ _ k1.symm e) (fun o e => up _ _ k3.symm e) fun T o n1 n2 n3 n4 e => ?_) (up _ _ k2.symm hTI') (D1.frame _ _ _ s1 fun b hb o e => up b o (fun q => hf1 (by rw [← q]; exact hb)) e) (D2.frame _ _ _ s2 fun b hb o e => up b o (fun q => hf2 (by rw [← q]; exact hb)) e) (Heap.get?_update_self _ hS' rfl) (by rw [Array.toList_push, hacc, List.map_append] <;> rfl) (by rw [List.length_append, hsz] <;> rfl) ⟨fun j T e => ?_, fun T hT => ?_, ?_⟩ (fun T hT => ?_) fun h'' tk' as' acc' c' kk' hS'' hacc'' hsz'' hp'' => ?_⟩)
      (by omega) (by show (acc.push _).size ≤ sizeLine + 1; rw [Array.size_push]; omega)
    · rw [Heap.size_update]
      show N ≤ h'.objs.size
      rw [hsz']
      exact Nat.le_succ_of_le hN
    · by_cases q : T = Sl
      · subst q; exact ⟨_, Heap.get?_update_self _ hS' rfl⟩
      · exact ⟨o, up T o q e⟩
    · rw [List.getElem?_append] at e
      split at e
      · obtain ⟨y1, y2, p1, p2, ht'⟩ := hp.prs j T e
        have hT := hp.low T (List.mem_of_getElem? e)
        exact ⟨y1, y2, p1, p2, up T _ (big hlt hT Sl (by simp)) (kk T _ (big hlt hT z (by simp)) (big hlt hT TO (by simp)) (big hlt hT i1 (by simp)) (big hlt hT i2 (by simp)) ht')⟩
      · next hj =>
        have hj' : j - as.length = 0 := by
          obtain ⟨h1, _⟩ := List.getElem?_eq_some_iff.mp e
          rw [List.length_singleton] at h1
          omega
        rw [hj'] at e
        have e' : s.heap.objs.size = T := by simpa using e
        subst e'
        have hji : j = i := by omega
        subst hji
        exact ⟨x1, x2, px1, px2, up _ _ (big hlt hN Sl (by simp)) ht⟩
    · rcases List.mem_append.mp hT with hT | hT
      · exact hp.low T hT
      · rw [List.mem_singleton.mp hT]; exact hN
    · rw [List.pairwise_append]
      refine ⟨hp.rise, List.pairwise_singleton _ _, fun a ha b hb => ?_⟩
      rw [List.mem_singleton.mp hb]
      exact hnw a ha
    · rw [Heap.size_update]
      show T < h'.objs.size
      rw [hsz']
      rcases List.mem_append.mp hT with hT | hT
      · exact Nat.lt_succ_of_lt (hnw T hT)
      · rw [List.mem_singleton.mp hT]; exact Nat.lt_succ_self _
    · exact hR h'' tk' as' acc' c' (fun b o b1 b2 b3 b4 b5 e => kk' b o b1 b2 b3 b4 b5 (up b o b1 (kk b o b2 b3 b4 b5 e))) hS'' hacc'' hsz'' hp''
end
theorem zip_no_len : typeLookup (.type "zip") "__len__" = pure none := by rw [typeLookup_type, builtinLookup_eq_fast]; kernel_rfl
theorem zip_no_hint : typeLookup (.type "zip") "__length_hint__" = pure none := by rw [typeLookup_type, builtinLookup_eq_fast]; kernel_rfl
section
variable {prog : Program} {w : World} {A : Around} {E : Value → Shared → Prop} {s : Shared} {z TI TO i1 i2 : Addr} {fp1 fp2 : List Addr} {n1 n2 : Nat} {P1 P2 : Nat → Value → Prop} {St1 St2 : Nat → Heap → Prop}
/-- list(z), z a new zip -/
theorem call_list_zip {Q : Value → Shared → Prop} (S : ZipSep2 z TI TO i1 i2 fp1 fp2) (D1 : Draws prog w A.in1.in1.in1 i1 fp1 n1 P1 St1) (D2 : Draws prog w A.in1.in1.in1 i2 fp2 n2 P2 St2) (hn : min n1 n2 ≤ sizeLine)
    (hlt : ∀ b, b ∈ fp1 ∨ b ∈ fp2 → b < s.heap.objs.size) (hz : IsZip s.heap z TI TO .none) (hTI : IsTupOf2 s.heap TI (.ref i1) (.ref i2)) (hTO : ∃ a1 a2, IsTupOf2 s.heap TO a1 a2) (st1 : St1 0 s.heap) (st2 : St2 0 s.heap)
    (hQ : ∀ h' tk as' acc' c', (∀ b o, b ≠ z → b ≠ TO → b ≠ i1 → b ≠ i2 → s.heap.get? b = some o → h'.get? b = some o) → h'.get? s.heap.objs.size = some { cls := .type "list", dict := none, data := .seq acc' c', slots := #[] } → acc'.toList = as'.map Value.ref → as'.length = min n1 n2 →
      PairsAt P1 P2 (s.heap.objs.size + 1) h' as' → Q (.ref s.heap.objs.size) { s with heap := h', toks := tk }) :
    wpAny (model prog w) A (call (.type "list") [.ref z]) Q E s := by
  have hzl : z < s.heap.objs.size := Heap.lt_size hz
  have hTIl : TI < s.heap.objs.size := Heap.lt_size hTI
  obtain ⟨a1, a2, hTO⟩ := hTO
  have hTOl : TO < s.heap.objs.size := Heap.lt_size hTO
  refine callType_codes (Q₁ := fun obj s₁ => obj = .ref s.heap.objs.size ∧ s₁ = { s with heap := s.heap.push { cls := .type "list", data := .seq #[] } }) F.called_list (F.typeCall_list_1 _) F.entry_list_init
    (code_list_new _ ⟨rfl, rfl⟩) fun obj s₁ h₁ => ?_
  obtain ⟨rfl, rfl⟩ := h₁
  have hS : (s.heap.push { cls := .type "list", data := .seq #[] }).get? s.heap.objs.size = some { cls := .type "list", data := .seq #[] } := Heap.get?_push_size _ rfl
  have kp : ∀ b o, s.heap.get? b = some o → (s.heap.push { cls := .type "list", data := .seq #[] }).get? b = some o := fun b o e => Heap.get?_push_of_some _ e
  refine ⟨⟨_, hS, rfl⟩, F.args_list_init_2 _ _, ?_⟩
  show wpAny _ A.in1.in1 (do let old ← Builtin.List.listItems (.ref s.heap.objs.size); Builtin.List.listUpdate (.ref s.heap.objs.size) (fun _ => #[]); letGo old.toList.reverse; Builtin.List.listExtendWith (.ref s.heap.objs.size) (.ref z) .none) _ _ _
  refine wpAny_bind ?_
  unfold Builtin.List.listItems
  refine wpAny_bind (wpAny_seqItems hS rfl (wpAny_pure ?_))
  show wpAny _ A.in1.in1 (updateSeq s.heap.objs.size (fun _ => #[]) >>= fun _ => letGo (#[] : Array Value).toList.reverse >>= fun _ => Builtin.List.listExtendWith (.ref s.heap.objs.size) (.ref z) .none) _ _ _
  refine wpAny_bind (wpAny_updateSeq hS rfl ?_)
  have hS₂ := Heap.get?_update_self (Obj.mapSeq (fun _ => (#[] : Array Value))) hS rfl
  have oth : ∀ b o, b ≠ s.heap.objs.size → (s.heap.push { cls := .type "list", data := .seq #[] }).get? b = some o → ((s.heap.push { cls := .type "list", data := .seq #[] }).update s.heap.objs.size (Obj.mapSeq (fun _ => (#[] : Array Value)))).get? b = some o :=
    fun b o hb e => (Heap.get?_update_other _ _ (Ne.symm hb)).trans e
  have hsz2 : ((s.heap.push { cls := .type "list", data := .seq #[] }).update s.heap.objs.size (Obj.mapSeq (fun _ => (#[] : Array Value)))).objs.size = s.heap.objs.size + 1 := by rw [Heap.size_update, Heap.size_push]
  generalize hh2 : (s.heap.push { cls := .type "list", data := .seq #[] }).update s.heap.objs.size (Obj.mapSeq (fun _ => (#[] : Array Value))) = h2 at hS₂ oth hsz2
  have kp2 : ∀ b o, s.heap.get? b = some o → h2.get? b = some o := fun b o e => oth b o (Nat.ne_of_lt (Heap.lt_size e)) (kp b o e)
  refine wpAny_bind (wpAny_letGo ?_)
  unfold Builtin.List.listExtendWith
  refine wpAny_bind (wpAny_typeOf (T := "zip") ⟨_, kp2 _ _ hz, rfl⟩ ?_)
  have h1 : Builtin.List.listSameRef (.ref s.heap.objs.size) (.ref z) = false := by simp [Builtin.List.listSameRef, Nat.ne_of_gt hzl]
  have h2' : (Value.type "zip" == Value.type "list") = false := by decide
  have h3 : (Value.type "zip" == Value.type "tuple") = false := by decide
  simp only [h1, h2', h3, Bool.or_false, Bool.false_eq_true, if_false]
  refine wpAny_bind (wpAny_pyIter_zip (kp2 _ _ hz) ?_)
  refine wpAny_bind (wpAny_holding ?_)
  unfold Builtin.List.listLengthHint
  have hT2 : ∀ {tk : Nat}, ({ s with heap := h2, toks := tk } : Shared).TypeIs (.ref z) "zip" := ⟨_, kp2 _ _ hz, rfl⟩
  refine wpAny_bind (wpAny_specialOf hT2 zip_no_len ?_)
  show wpAny _ A.in1.in1 (specialOf (Value.ref z) (Str.ofString "__length_hint__") >>= _) _ _ _
  refine wpAny_bind (wpAny_specialOf hT2 zip_no_hint ?_)
  refine wpAny_pure ?_
  show wpAny _ A.in1.in1 (rule "list.extend.makes-room" >>= fun _ => Builtin.List.listTouch (.ref s.heap.objs.size) >>= fun _ =>
    again (.builtin "list.extend.loop" ⟨[.ref s.heap.objs.size, .ref z, .none], []⟩)) _ _ _
  refine wpAny_bind (wpAny_rule ?_)
  refine wpAny_bind ?_
  show wpAny _ A.in1.in1 (updateSeq s.heap.objs.size (·.push .none) >>= fun _ => updateSeq s.heap.objs.size (·.pop)) _ _ _
  refine wpAny_bind (wpAny_updateSeq hS₂ rfl ?_)
  have hS₃ := Heap.get?_update_self (Obj.mapSeq (·.push Value.none)) hS₂ rfl
  refine wpAny_updateSeq (hz := by seq_fits) hS₃ rfl ?_
  have hS₄ := Heap.get?_update_self (Obj.mapSeq (·.pop)) hS₃ rfl
  have oth2 : ∀ b o, b ≠ s.heap.objs.size → h2.get? b = some o → ((h2.update s.heap.objs.size (Obj.mapSeq (·.push .none))).update s.heap.objs.size (Obj.mapSeq (·.pop))).get? b = some o :=
    fun b o hb e => (Heap.get?_update_other _ _ (Ne.symm hb)).trans ((Heap.get?_update_other _ _ (Ne.symm hb)).trans e)
  have kp4 : ∀ b o, s.heap.get? b = some o → ((h2.update s.heap.objs.size (Obj.mapSeq (·.push .none))).update s.heap.objs.size (Obj.mapSeq (·.pop))).get? b = some o := fun b o e => oth2 b o (Nat.ne_of_lt (Heap.lt_size e)) (kp2 b o e)
  have hsz4 : ((h2.update s.heap.objs.size (Obj.mapSeq (·.push .none))).update s.heap.objs.size (Obj.mapSeq (·.pop))).objs.size = s.heap.objs.size + 1 := by rw [Heap.size_update, Heap.size_update, hsz2]
  refine wpAny_pure ⟨plainId_quiet F.plain_extend_loop _, ?_⟩
  have nf1 : s.heap.objs.size ∉ fp1 := fun q => Nat.lt_irrefl _ (hlt _ (.inl q))
  have nf2 : s.heap.objs.size ∉ fp2 := fun q => Nat.lt_irrefl _ (hlt _ (.inr q))
  refine zip_ext_loop S D1 D2 nf1 nf2 (Nat.ne_of_gt hzl) (Nat.ne_of_gt hTIl) (Nat.ne_of_gt hTOl) hn (s.heap.objs.size + 1) (min n1 n2) 0 _ [] _ _ (by omega) (Nat.zero_le _) (by
    show s.heap.objs.size + 1 ≤ _
    rw [hsz4]
    exact Nat.le_refl _) (fun b hb => ?_) (.inl ⟨kp4 _ _ hz, a1, a2, kp4 _ _ hTO⟩) (kp4 _ _ hTI) (D1.frame _ _ _ st1 fun b _ o e => kp4 b o e) (D2.frame _ _ _ st2 fun b _ o e => kp4 b o e) hS₄ rfl rfl ⟨fun j T e => by simp at e, fun T e => by simp at e, .nil⟩ (fun T e => by simp at e) fun h' tk as' acc' c' kk hS' ha hs hp => ?_
  · rcases hb with rfl | rfl | rfl | rfl | rfl | rfl
    · exact Nat.lt_succ_of_lt hzl
    · exact Nat.lt_succ_of_lt hTOl
    · exact Nat.lt_succ_of_lt (hlt _ (.inl S.mem1))
    · exact Nat.lt_succ_of_lt (hlt _ (.inr S.mem2))
    · exact Nat.lt_succ_of_lt hTIl
    · exact Nat.lt_succ_self _
  · exact ⟨rfl, hQ h' tk as' acc' c' (fun b o b2 b3 b4 b5 e => kk b o (Nat.ne_of_lt (Heap.lt_size e)) b2 b3 b4 b5 (kp4 b o e)) hS' ha hs hp⟩
end
end TT

set_option Elab.async false
set_option linter.all false
set_option maxRecDepth 100000
set_option maxHeartbeats 4000000
namespace TT
open PySem PySem.Spec PyProof.Rows L2 PySem.W

def putP : Hp → List Addr → List (V × V) → Hp
  | H, a :: as, p :: kvs => putP (upd H a (.tup [p.1, p.2])) as kvs
  | H, _, _ => H
theorem putP_off {b : Addr} : ∀ (as : List Addr) (kvs : List (V × V)) (H : Hp), b ∉ as → putP H as kvs b = H b
  | [], _, _, _ => rfl
  | _ :: _, [], _, _ => rfl
  | a :: as, p :: kvs, H, h => by
    show putP (upd H a (.tup [p.1, p.2])) as kvs b = H b
    rw [putP_off as kvs _ (fun z => h (List.mem_cons_of_mem _ z)), upd_ne (fun z => h (by rw [z]; exact List.mem_cons_self))]
theorem putP_at : ∀ (as : List Addr) (kvs : List (V × V)) (H : Hp), as.length = kvs.length → as.Nodup → Paired (fun (t : Addr) (p : V × V) => putP H as kvs t = some (.tup [p.1, p.2])) as kvs
  | [], [], _, _, _ => .nil
  | [], _ :: _, _, h, _ => by cases h
  | _ :: _, [], _, h, _ => by cases h
  | a :: as, p :: kvs, H, h, hn => by
    have hn' := List.nodup_cons.mp hn
    have ih := putP_at as kvs (upd H a (.tup [p.1, p.2])) (Nat.succ.inj h) hn'.2
    refine .cons ?_ ih
    show putP (upd H a (.tup [p.1, p.2])) as kvs a = some (.tup [p.1, p.2])
    rw [putP_off as kvs _ hn'.1, upd_same]
section
variable {X : Cx}
theorem zip_lay {pins : List (Addr × Obj)} {σ : L2.St} {H : Hp} {s : Shared} {h' : Heap} {tk : Nat} {kvs : List (V × V)} {P1 P2 : Nat → Value → Prop} {acc : Array Value} {c : Nat} {as : List Addr} {S0 : Addr} {ch : List Addr} (I : Inv X pins σ H s) (hz : kvs.length ≤ sizeLine)
    (hch : ∀ b ∈ ch, FpOk X pins H b) (hS0 : s.heap.objs.size ≤ S0)
    (hk : ∀ b o, b ∉ ch → s.heap.get? b = some o → h'.get? b = some o) (hS : h'.get? S0 = some { cls := .type "list", dict := none, data := .seq acc c, slots := #[] }) (hl : as.length = kvs.length) (hG : PairsAt P1 P2 (S0 + 1) h' as) (hacc : acc.toList = as.map Value.ref)
    (h1 : ∀ j x1 p, P1 j x1 → kvs[j]? = some p → RelV p.1 x1) (h2 : ∀ j x2 p, P2 j x2 → kvs[j]? = some p → RelV p.2 x2) :
    ∃ H' : Hp, (∀ b o, H b = some o → H' b = some o) ∧ H S0 = none ∧ (∀ t ∈ as, H t = none) ∧ S0 ∉ as ∧ H' S0 = some (.lst (as.map V.ref)) ∧ Paired (fun (t : Addr) (q : V × V) => H' t = some (.tup [q.1, q.2])) as kvs ∧ Inv X pins σ H' { s with heap := h', toks := tk } := by
  have hSn : S0 ∉ as := fun z => absurd (hG.low _ z) (Nat.not_le_of_lt (Nat.lt_succ_self _))
  have nd : as.Nodup := List.Pairwise.imp (fun {a b} (h : a < b) => Nat.ne_of_lt h) hG.rise
  have above : ∀ t ∈ as, s.heap.objs.size ≤ t := fun t ht => Nat.le_trans hS0 (Nat.le_of_succ_le (hG.low t ht))
  have new : ∀ t ∈ as, H t = none := fun t ht => I.hok.fresh (above t ht)
  have newS : H S0 = none := I.hok.fresh hS0
  have atP := putP_at as kvs (upd H S0 (.lst (as.map V.ref))) hl nd
  have off : ∀ b, b ∉ as → b ≠ S0 → putP (upd H S0 (.lst (as.map V.ref))) as kvs b = H b := fun b h1 h2 => by rw [putP_off as kvs _ h1, upd_ne h2]
  have low : ∀ b o, s.heap.get? b = some o → b ∉ as ∧ b ≠ S0 := fun b o e => ⟨fun z => absurd (Heap.lt_size e) (Nat.not_lt.mpr (above b z)), fun z => absurd (Heap.lt_size e) (Nat.not_lt.mpr (by rw [z]; exact hS0))⟩
  have kp : ∀ b u, H b = some u → (putP (upd H S0 (.lst (as.map V.ref))) as kvs) b = some u := fun b u e => by
    rw [off b (fun z => by rw [new b z] at e; cases e) (fun z => by rw [z, newS] at e; cases e)]
    exact e
  have eS : putP (upd H S0 (.lst (as.map V.ref))) as kvs S0 = some (.lst (as.map V.ref)) := by rw [putP_off as kvs _ hSn, upd_same]
  have nit : ∀ b u, H b = some u → b ∉ ch := fun b u e z => by
    have q := (hch b z).1
    rw [q] at e; cases e
  refine ⟨putP (upd H S0 (.lst (as.map V.ref))) as kvs, kp, newS, new, hSn, eS, atP, ?_⟩
  refine I.step (g' := s.gens) (d' := s.drawn) (ch := ch) (fun b hb => ⟨(hch b hb).2.2.2.1, (hch b hb).2.1, (hch b hb).2.2.2.2.1, (hch b hb).2.2.2.2.2⟩) (fun b o _ _ hc e _ => hk b o hc e) (fun b o _ _ hc e _ => ⟨o.slots, hk b o hc e⟩)
    (fun b o _ e n => ?_) (fun b o hc e => ⟨o, hk b o hc e⟩) (fun b xs e => kp b _ e) (fun b o u e => kp b _ e) (fun b ps e => ⟨#[], by rw [kp b _ e]; simp⟩) (fun m hm => ?_) (fun b u q => ?_) I.bare
  · obtain ⟨z1, z2⟩ := low b o e
    rw [off b z1 z2]
    exact n
  · obtain ⟨o, es, ep, ho, r⟩ := hm
    exact ⟨o, es, ep, hk _ o (fun z => (hch _ z).2.1 rfl) ho, r⟩
  · by_cases hb : b ∈ as
    · obtain ⟨j, pk, e1, e2, e3⟩ := LiI.paired_ix atP hb
      rw [e3] at q
      cases q
      obtain ⟨x1, x2, p1, p2, f3⟩ := hG.prs j b e1
      exact ⟨by show 2 ≤ sizeLine; decide, [x1, x2], .cons (h1 j x1 pk p1 e2) (.cons (h2 j x2 pk p2 e2) .nil), ⟨_, f3, rfl, _, rfl⟩⟩
    · by_cases hb2 : b = S0
      · rw [hb2] at q ⊢
        rw [eS] at q
        cases q
        refine ⟨by rw [List.length_map]; omega, acc.toList, c, by rw [hacc]; exact LiI.vals_refs as, ?_⟩
        rw [Array.toArray_toList]
        exact hS
      · rw [off b hb hb2] at q
        refine (I.hok b u q).stay (fun d v hc y => hk d v ?_ y) (fun d y => kp d _ y) fun d xs y => kp d _ y
        rcases hc with z | z
        · rw [z]; exact nit b u q
        · exact nit d _ z
def tLZ (K : PySem.W.Frag) (ta : TA) : TE := fun σ H Q => ta σ H fun vs H1 => ∃ s1 s2 xs ys, vs = [Src.val s1, Src.val s2] ∧ s1.has K H1 xs ∧ s2.has K H1 ys ∧ min xs.length ys.length ≤ sizeLine ∧
  ∀ (H' : Hp) (p : Addr) (ts : List Addr), (∀ b o, H1 b = some o → H' b = some o) → H1 p = none → (∀ t ∈ ts, H1 t = none) → p ∉ ts → H' p = some (.lst (ts.map V.ref)) → Paired (fun (t : Addr) (q : V × V) => H' t = some (.tup [q.1, q.2])) ts (xs.zip ys) → Q (.ref p) H'
theorem pe_lz {e e2 : Expr} {ta : TA} {p pos p2 q : Pos} (hc : X.calm = true) (hg : Gl X "list") (hm : X.mg "list" = none) (hgz : Gl X "zip") (hmz : X.mg "zip" = none) (ha : PA X [e, e2] ta)
    (na : starEach [.Call (.Name "zip" p2) [e, e2] [] q] X.env = (false, eval (.Call (.Name "zip" p2) [e, e2] [] q) X.env) :: starEach [] X.env := by rfl)
    (hs : starEach [e, e2] X.env = (false, eval e X.env) :: starEach [e2] X.env := by rfl) (hpl : (backTo q (starEach [e2] X.env)).any (·.1) = false := by rfl) :
    PE X (.Call (.Name "list" p) [.Call (.Name "zip" p2) [e, e2] [] q] [] pos) (tLZ X.K ta) := by
  refine ⟨fun pins s σ H Q I h => ?_⟩
  refine Call_ (ld_blt I hg hm boot_list (PyProof.Rows.callWith_type1 (PyProof.Rows.args_cons ?_ na) na rfl))
  refine Call_ (ld_blt I hgz hmz PyProof.Rows.boot_zip (PyProof.Rows.callWith_type1 (thn (ha.run q pins s σ H _ I h) fun us s1 ⟨vs, H1, I1, r1, q1⟩ => ?_) hs hpl))
  obtain ⟨src1, src2, xs, ys, rfl, hq1, hq2, hn, q1⟩ := q1
  cases r1 with
  | cons r rr =>
    cases rr with
    | cons r' rr =>
      cases rr
      obtain ⟨t1, P1, B1, hP1, lt1, its1⟩ := Src.begins I1 hq1 r
      obtain ⟨t2, P2, B2, hP2, lt2, its2⟩ := Src.begins I1 hq2 r'
      refine zip_begins2 B1 B2 hP1 hP2 fun h' hz hTI hTO g1 g2 hsz hk => ?_
      have I2 : Inv X pins σ H1 { s1 with heap := h' } := I1.kept (t' := s1.toks) hk
      refine PyProof.Rows.args_nil ?_
      obtain ⟨PA1, St1, D1, st1, back1, val1⟩ := Src.draws (A := X.A.in1.in1.in1) I2 (I2.ok.hd hc) (fun a ha z => absurd (lt1 a ha) (by rw [z]; exact Nat.lt_irrefl _)) hq1 (its1 _ h' g1)
      obtain ⟨PA2, St2, D2, st2, back2, val2⟩ := Src.draws (A := X.A.in1.in1.in1) I2 (I2.ok.hd hc) (fun a ha z => absurd (lt2 a ha) (by rw [z]; exact Nat.not_lt_of_le (Nat.le_succ _))) hq2 (its2 _ h' g2)
      have hsz' : s1.heap.objs.size + 5 = h'.objs.size := hsz.symm
      have fp : ∀ c, s1.heap.objs.size ≤ c → FpOk X pins H1 c := fun c hc => I1.fpOk hc (I1.hok.fresh hc)
      refine call_list_zip (zip_sep2 lt1 lt2) D1 D2 hn (fun b hb => ?_) hz hTI ⟨_, _, hTO⟩ st1 st2 fun h'' tk as acc c kk hS hacc has hp => ?_
      · show b < h'.objs.size
        rw [hsz]
        rcases hb with hb | hb
        · rcases List.mem_cons.mp hb with rfl | hb
          · exact Nat.lt_add_of_pos_right (by decide)
          · exact Nat.lt_of_lt_of_le (lt1 b hb) (Nat.le_add_right _ _)
        · rcases List.mem_cons.mp hb with rfl | hb
          · exact Nat.add_lt_add_left (by decide) _
          · exact Nat.lt_of_lt_of_le (lt2 b hb) (Nat.le_add_right _ _)
      · have hlen : (xs.zip ys).length = min xs.length ys.length := List.length_zip
        have A1 : ∀ b ∈ [s1.heap.objs.size + 4, s1.heap.objs.size + 3, s1.heap.objs.size, s1.heap.objs.size + 1], FpOk X pins H1 b := fun b hb => by
          refine fp b ?_
          have e' : b = s1.heap.objs.size + 4 ∨ b = s1.heap.objs.size + 3 ∨ b = s1.heap.objs.size ∨ b = s1.heap.objs.size + 1 := by simpa using hb
          rcases e' with z | z | z | z
          · rw [z]; exact Nat.le_add_right _ _
          · rw [z]; exact Nat.le_add_right _ _
          · rw [z]; exact Nat.le_refl _
          · rw [z]; exact Nat.le_add_right _ _
        have A2 : ∀ b o, b ∉ [s1.heap.objs.size + 4, s1.heap.objs.size + 3, s1.heap.objs.size, s1.heap.objs.size + 1] → h'.get? b = some o → h''.get? b = some o := fun b o hb e =>
          kk b o (fun z => hb (by simp [z])) (fun z => hb (by simp [z])) (fun z => hb (by simp [z])) (fun z => hb (by simp [z])) e
        have A3 : ∀ j x1 p, PA1 j x1 → (xs.zip ys)[j]? = some p → RelV p.1 x1 := fun j x1 p p1 e => by
          obtain ⟨x, hx, rx⟩ := val1 j x1 p1
          rw [List.getElem?_zip_eq_some] at e
          rw [hx] at e
          obtain ⟨e1, _⟩ := e
          cases e1
          exact rx
        have A4 : ∀ j x2 p, PA2 j x2 → (xs.zip ys)[j]? = some p → RelV p.2 x2 := fun j x2 p p2 e => by
          obtain ⟨x, hx, rx⟩ := val2 j x2 p2
          rw [List.getElem?_zip_eq_some] at e
          rw [hx] at e
          obtain ⟨_, e1⟩ := e
          cases e1
          exact rx
        obtain ⟨H', k1, k2, k3, k4, k5, k6, J⟩ := zip_lay (tk := tk) (kvs := xs.zip ys) (S0 := h'.objs.size) I2 (by rw [hlen]; exact hn) A1 (Nat.le_refl _) A2 hS (by rw [hlen]; exact has) hp hacc A3 A4
        exact ⟨.ref _, H', J, rfl, q1 H' _ as k1 k2 k3 k4 k5 k6⟩
end
section
variable {X : Cx} {W : Wd} {e e2 : Expr} {p pos p2 q : Pos} {f g : SE}
def eLZ (f g : SE) : SE := fun ε c => match f ε c with
  | none => none
  | some (d, c1) => match g ε c1 with
    | none => none
    | some (d2, c2) => match itemsOf d, itemsOf d2 with
      | some ds, some es => some (.lst (zipD ds es), c2)
      | _, _ => none
theorem reps_pairs {pc : Pc} {F : Fb} {H H' : Hp} (k : ∀ b o, H b = some o → H' b = some o) : ∀ {ds es : List D} {xs ys : List V} {ts : List Addr}, Reps W pc F H ds xs → Reps W pc F H es ys → (∀ t ∈ ts, ¬ F t) →
    Paired (fun (t : Addr) (q : V × V) => H' t = some (.tup [q.1, q.2])) ts (xs.zip ys) → Reps W pc F H' (zipD ds es) (ts.map V.ref)
  | [], _, _, _, ts, .nil, _, _, pr => by
    cases ts with
    | nil => exact .nil
    | cons t ts => rw [List.zip_nil_left] at pr; cases pr
  | d :: ds, [], x :: xs, _, ts, .cons _ _, .nil, _, pr => by
    cases ts with
    | nil => exact .nil
    | cons t ts => rw [List.zip_nil_right] at pr; cases pr
  | d :: ds, e :: es, x :: xs, y :: ys, ts, .cons r rs, .cons r' rs', hn, pr => by
    cases ts with
    | nil => rw [List.zip_cons_cons] at pr; cases pr
    | cons t ts =>
      rw [List.zip_cons_cons] at pr
      cases pr with
      | cons h1 h2 =>
        have gf : GrowF F H H' := fun a o _ z => k a o z
        refine .cons (.tup (hn t (List.mem_cons_self ..)) (.inl h1) (by show 2 ≤ sizeLine; decide) (.cons (r.mono gf fun _ z => z) (.cons (r'.mono gf fun _ z => z) .nil))) (reps_pairs k rs rs' (fun t ht => hn t (List.mem_cons_of_mem _ ht)) h2)
theorem d_lz (hK : X.K = W.K) (hc : X.calm = true) (hg : Gl X "list") (hm : X.mg "list" = none) (hgz : Gl X "zip") (hmz : X.mg "zip" = none) (h : PE X e (tE W f)) (h2 : PE X e2 (tE W g))
    (na : starEach [.Call (.Name "zip" p2) [e, e2] [] q] X.env = (false, eval (.Call (.Name "zip" p2) [e, e2] [] q) X.env) :: starEach [] X.env := by rfl)
    (hs : starEach [e, e2] X.env = (false, eval e X.env) :: starEach [e2] X.env := by rfl) (hs2 : starEach [e2] X.env = (false, eval e2 X.env) :: starEach [] X.env := by rfl) (hpl : (backTo q (starEach [e2] X.env)).any (·.1) = false := by rfl) :
    PE X (.Call (.Name "list" p) [.Call (.Name "zip" p2) [e, e2] [] q] [] pos) (tN W (eLZ f g)) :=
  PE.imp (pe_lz hc hg hm hgz hmz (pa_cons h (pa_cons h2 pa_nil hs2) hs) na hs hpl) fun σ H Q ⟨pc, F0, H0, ps, ε, c, d, c', Rr, ef, k⟩ => by
    unfold eLZ at ef
    split at ef
    · cases ef
    · next d1 c1 e1 =>
      split at ef
      · cases ef
      · next d2 c2 e2 =>
        split at ef
        · next ds1 es1 q1 q2 =>
          cases ef
          refine ⟨pc, F0, H0, ps, ε, c, d1, c1, Rr, e1, fun v H1 g cu r => ?_⟩
          have R1 := Rr.step g cu
          refine ⟨pc, F0, H0, ps, ε, c1, d2, c', R1, e2, fun v2 H2 g2 cu2 r2 => ?_⟩
          have R2 := R1.step g2 cu2
          have r' := r.mono (F' := Fo F0 ε σ) (g2.gf R1.foP) fun _ z => z
          obtain ⟨hl, src, rfl, hs⟩ := src_of r' q1
          obtain ⟨hl2, src2, rfl, hs2⟩ := src_of r2 q2
          obtain ⟨xs, hx, rs⟩ := hs H2 pc _ r'
          obtain ⟨ys, hy, ss⟩ := hs2 H2 pc _ r2
          rw [hK]
          refine ⟨src, src2, xs, ys, rfl, hx, hy, by have := rs.length; omega, fun H' p ts k1 k2 k3 k4 k5 k6 => ?_⟩
          have fr := R2.fresh k2
          refine k p H' (g.trans (g2.trans fun a o _ z => k1 a o z)) (fun b z => k1 _ _ (cu2 b z)) ((g.trans g2).none fr.2.1 k2) ⟨ts.map V.ref, k5, by simp [zipD]; omega, ?_⟩
          exact reps_pairs (W := W) (pc := pc) (F := fun b => Fo F0 ε σ b ∨ b = p) (H := H2) (H' := H') k1 (rs.forbid k2) (ss.forbid k2) (fun t ht z => z.elim (fun z => R2.foDom t z (k3 t ht)) fun z => k4 (by rw [← z]; exact ht)) k6
        · cases ef
end
end TT

set_option Elab.async false
set_option linter.all false
set_option maxRecDepth 100000
set_option maxHeartbeats 4000000
namespace TT
open PySem PySem.Spec PyProof.Rows L2 PySem.W

/-! ### the cup -/
section
variable {X : Cx} {W : Wd} {e e2 : Expr} {es : List Expr} {pos p p2 p3 : Pos} {x : Str} {f g : SE} {j : Nat}
def eCupR (i : Nat) (k : Int) : SE := fun ε c => match ε[i]? with
  | some (some (.fz .cup)) => if k = 0 then some (.int c.1, c) else if k = 1 then some (.int c.2, c) else none
  | _ => none
theorem cup_at {a b v : Int} {k : Int} (h : (if k = 0 then some a else if k = 1 then some b else none) = some v) : atI [V.int a, V.int b] k = some (.int v) := by
  split at h
  · next e => cases h; subst e; rfl
  · split at h
    · next e => cases h; subst e; rfl
    · cases h
theorem d_cupR (i : Nat) (k : Int) (hK : X.K = W.K) (hN : X.N[i]? = some x := by rfl) (hv : Vis X.env.scope x := by first | exact Or.inl rfl | exact Or.inr (Or.inl rfl) | exact Or.inr (Or.inr rfl)) (hd : (x == ("__debug__" : Str)) = false := by decide)
    (hcd : (x == ("__classdict__" : Str)) = false := by decide) : PE X (.Subscript (.Name x p) (.Constant (.int k) j p2) pos) (tE W (eCupR i k)) :=
  PE.imp (pe_ix ix_list (pe_var hN hv hd hcd) pe_int (fun _ _ => rfl)) fun σ H Q ⟨pc, F0, H0, ps, ε, c, d, c', R, ef, q⟩ => by
    unfold eCupR at ef
    split at ef
    · next e1 =>
      obtain ⟨v, s, r⟩ := R.fz i _ e1
      cases r with
      | @cup p hp =>
        have hc := R.cup p hp
        split at ef
        · next e =>
          cases ef
          exact ⟨.ref p, s, p, [V.int c.1, V.int c.2], k, .int c.1, rfl, rfl, .inl (.inl hc), cup_at (a := c.1) (b := c.2) (by rw [if_pos e]), q _ H Grow.refl R.cup (.int _)⟩
        · next e =>
          split at ef
          · next e' =>
            cases ef
            exact ⟨.ref p, s, p, [V.int c.1, V.int c.2], k, .int c.2, rfl, rfl, .inl (.inl hc), cup_at (a := c.1) (b := c.2) (by rw [if_neg e, if_pos e']), q _ H Grow.refl R.cup (.int _)⟩
          · cases ef
    · cases ef
def sCupW (i : Nat) (k : Int) (f : SE) : SS := fun ε c => match f ε c with
  | some (.int n, c1) => (match ε[i]? with
    | some (some (.fz .cup)) => if k = 0 then some (.nx ε (n, c1.2)) else if k = 1 then some (.nx ε (c1.1, n)) else none
    | _ => none)
  | _ => none
theorem s_cupW (i : Nat) (k : Int) (h : PE X e (tE W f)) (hN : X.N[i]? = some x := by rfl) (hv : Vis X.env.scope x := by first | exact Or.inl rfl | exact Or.inr (Or.inl rfl) | exact Or.inr (Or.inr rfl)) (hd : (x == ("__debug__" : Str)) = false := by decide)
    (hcd : (x == ("__classdict__" : Str)) = false := by decide)
    (ha : ∀ v, assign (.Subscript (.Name x p) (.Constant (.int k) j p2) p3) X.env v = (do
      let ov ← holding [v] (eval (.Name x p) X.env)
      let iv ← holding [v, ov] (eval (.Constant (.int k) j p2) X.env)
      standAt p3
      holding [v, ov, iv] (setItem ov iv v)
      release [v, ov, iv] []) := by intro _; rfl)
    (hs : swapsWithSole [.Subscript (.Name x p) (.Constant (.int k) j p2) p3] e pos.line X.env = pure false := by rfl) (hw : swappedStores [.Subscript (.Name x p) (.Constant (.int k) j p2) p3] e X.env = pure none := by rfl)
    (h1 : (assignEach [.Subscript (.Name x p) (.Constant (.int k) j p2) p3] X.env).map (·.2) = [assign (.Subscript (.Name x p) (.Constant (.int k) j p2) p3) X.env] := by rfl) :
    PS X (.Assign [.Subscript (.Name x p) (.Constant (.int k) j p2) p3] e pos) (tS W (sCupW i k f)) :=
  PS.imp (ps_asg h (pg_sub (pe_var hN hv hd hcd) pe_int set_list ha) hs hw h1) fun E σ H ⟨pc, F0, H0, ps, ε, c, o, R, ef, q⟩ => by
    unfold sCupW at ef
    split at ef
    · next n c1 e1 =>
      split at ef
      · next e2 =>
        refine ⟨pc, F0, H0, ps, ε, c, .int n, c1, R, e1, fun v H1 g cu r => ?_⟩
        cases r
        have R1 := R.step g cu
        obtain ⟨v, s, r⟩ := R1.fz i _ e2
        cases r with
        | @cup p hp =>
          have hc := R1.cup p hp
          split at ef
          · next e =>
            cases ef
            subst e
            exact ⟨.ref p, s, p, [V.int c1.1, V.int c1.2], 0, 0, rfl, rfl, hc, rfl, q _ _ (R1.turn (c' := (n, c1.2)) hp)⟩
          · split at ef
            · next e =>
              cases ef
              subst e
              exact ⟨.ref p, s, p, [V.int c1.1, V.int c1.2], 1, 1, rfl, rfl, hc, rfl, q _ _ (R1.turn (c' := (c1.1, n)) hp)⟩
            · cases ef
      · cases ef
    · cases ef

/-! ### owned lists, dicts -/
def sApp (i : Nat) (f : SE) : SS := fun ε c => match f ε c with
  | none => none
  | some (d, c1) => match ε[i]? with
    | some (some (.ow (.lst ds))) => if ds.length < 1000000 then some (.nx (ε.set i (some (.ow (.lst (ds ++ [d]))))) c1) else none
    | _ => none
theorem Rl.own_lst {pc : Pc} {F0 : Fb} {H0 H : Hp} {ps : List (D × V)} {ε : En} {c : Cup} {σ : L2.St} {i : Nat} {ds ds' : List D} {a : Addr} {vs : List V} (R : Rl W pc F0 H0 ps ε c σ H) (h : ε[i]? = some (some (.ow (.lst ds)))) (s : σ[i]? = some (some (.ref a)))
    (hl : ds'.length ≤ sizeLine) (rs : Reps W pc (Fo F0 ε σ) H ds' vs) : Rl W pc F0 H0 ps (ε.set i (some (.ow (.lst ds')))) c σ (upd H a (.lst vs)) := by
  have fa : Fo F0 ε σ a := .inr ⟨i, _, h, s⟩
  exact R.write h s ⟨vs, upd_same, hl, rs.mono (fun b z n e => by rw [upd_ne (fun q => n (by rw [q]; exact fa))]; exact e) fun _ z => z⟩
theorem s_app (i : Nat) {apos cpos : Pos} (h : PE X e (tE W f)) (hN : X.N[i]? = some x := by rfl) (hv : Vis X.env.scope x := by first | exact Or.inl rfl | exact Or.inr (Or.inl rfl) | exact Or.inr (Or.inr rfl)) (hd : (x == ("__debug__" : Str)) = false := by decide)
    (hcd : (x == ("__classdict__" : Str)) = false := by decide)
    (hbase : attributeBase (.Name x p) "append" X.env (eval (.Name x p) X.env) = eval (.Name x p) X.env := by rfl)
    (hfew : ((backTo cpos (starEach (e :: []) X.env)).all (fun x => !x.1) && (backToKw cpos (keywordEach [] X.env)).all (fun x => x.1.isSome)
      && decide ((e :: ([] : List Expr)).length + ([] : List Keyword).length + (if ([] : List Keyword).isEmpty then 0 else 1) < 30)) = true := by rfl)
    (hline : (apos.endLine == cpos.line) = true := by rfl) (hs : starEach (e :: []) X.env = (false, eval e X.env) :: starEach [] X.env := by rfl) (hplain : (backTo cpos (starEach [] X.env)).any (·.1) = false := by rfl)
    (hsw : swapsWith (.Call (.Attribute (.Name x p) "append" apos) [e] [] cpos) none pos.line X.env = pure false := by rfl) :
    PS X (.Expr (.Call (.Attribute (.Name x p) "append" apos) [e] [] cpos) pos) (tS W (sApp i f)) :=
  PS.imp (ps_expr (pe_bm F.plainAttrs_list F.slot_list_append F.type_list_append mt_append (pe_var hN hv hd hcd) (pa_cons h pa_nil hs) hbase hfew hline hs hplain) hsw) fun E σ H ⟨pc, F0, H0, ps, ε, c, o, R, ef, q⟩ => by
    unfold sApp at ef
    split at ef
    · cases ef
    · next d c1 e1 =>
      split at ef
      · next ds e2 =>
        split at ef
        · next hl =>
          cases ef
          obtain ⟨a, s, n0, h0, xs, ea, l, rs⟩ := R.ow i _ e2
          refine ⟨.ref a, s, .inl ⟨rfl, xs, .inl (.inl ea)⟩, pc, F0, H0, ps, ε, c, d, c1, R, e1, fun v H1 g cu r => ?_⟩
          have R1 := R.step g cu
          obtain ⟨a', s', n0', h0', xs', ea', l', rs'⟩ := R1.ow i _ e2
          rw [s] at s'
          cases s'
          refine ⟨a, xs', v, rfl, rfl, ea', by rw [← rs'.length]; exact Nat.lt_of_lt_of_le hl (by decide), ?_⟩
          refine q σ _ (R1.own_lst e2 s ?_ (rs'.append (.cons r .nil)))
          rw [List.length_append]
          have : (1000000 : Nat) ≤ sizeLine := by decide
          show ds.length + 1 ≤ sizeLine
          omega
        · cases ef
      · cases ef
/-- x[k] = v, x an owned list -/
def sSetI (i : Nat) (f g : SE) : SS := fun ε c => match f ε c with
  | none => none
  | some (d, c1) => match g ε c1 with
    | some (.int k, c2) => (match ε[i]? with
      | some (some (.ow (.lst ds))) => (match ixN ds.length k with
        | some j => some (.nx (ε.set i (some (.ow (.lst (ds.set j d))))) c2)
        | none => none)
      | _ => none)
    | _ => none
theorem s_setI (i : Nat) (h : PE X e (tE W f)) (hk : PE X e2 (tE W g)) (hN : X.N[i]? = some x := by rfl) (hv : Vis X.env.scope x := by first | exact Or.inl rfl | exact Or.inr (Or.inl rfl) | exact Or.inr (Or.inr rfl)) (hd : (x == ("__debug__" : Str)) = false := by decide)
    (hcd : (x == ("__classdict__" : Str)) = false := by decide)
    (ha : ∀ v, assign (.Subscript (.Name x p) e2 p3) X.env v = (do
      let ov ← holding [v] (eval (.Name x p) X.env)
      let iv ← holding [v, ov] (eval e2 X.env)
      standAt p3
      holding [v, ov, iv] (setItem ov iv v)
      release [v, ov, iv] []) := by intro _; rfl)
    (hs : swapsWithSole [.Subscript (.Name x p) e2 p3] e pos.line X.env = pure false := by rfl) (hw : swappedStores [.Subscript (.Name x p) e2 p3] e X.env = pure none := by rfl)
    (h1 : (assignEach [.Subscript (.Name x p) e2 p3] X.env).map (·.2) = [assign (.Subscript (.Name x p) e2 p3) X.env] := by rfl) :
    PS X (.Assign [.Subscript (.Name x p) e2 p3] e pos) (tS W (sSetI i f g)) :=
  PS.imp (ps_asg h (pg_sub (pe_var hN hv hd hcd) hk set_list ha) hs hw h1) fun E σ H ⟨pc, F0, H0, ps, ε, c, o, R, ef, q⟩ => by
    unfold sSetI at ef
    split at ef
    · cases ef
    · next d c1 e1 =>
      split at ef
      · next k c2 e3 =>
        split at ef
        · next ds e2 =>
          split at ef
          · next j hj =>
            cases ef
            refine ⟨pc, F0, H0, ps, ε, c, d, c1, R, e1, fun v H1 gr cu r => ?_⟩
            have R1 := R.step gr cu
            obtain ⟨a, s, n0, h0, xs, ea, l, rs⟩ := R1.ow i _ e2
            refine ⟨.ref a, s, pc, F0, H0, ps, ε, c1, .int k, c2, R1, e3, fun u H2 g2 cu2 r2 => ?_⟩
            cases r2
            have R2 := R1.step g2 cu2
            obtain ⟨a', s', n0', h0', xs', ea', l', rs'⟩ := R2.ow i _ e2
            rw [s] at s'
            cases s'
            refine ⟨a, xs', k, j, rfl, rfl, ea', by rw [← rs'.length]; exact hj, ?_⟩
            exact q σ _ (R2.own_lst e2 s (by rw [List.length_set]; exact l') (rs'.set (r.mono (g2.gf R1.foP) fun _ z => z) j))
          · cases ef
        · cases ef
      · cases ef
/-- {} -/
theorem d_dk0 : PE X (.Dict [] [] pos) (tN W (eC (.dk [] []))) :=
  PE.imp pe_dnewK fun σ H Q ⟨pc, F0, H0, ps, ε, c, d, c', R, ef, k⟩ p hp => by
    cases ef
    have fr := R.fresh hp
    exact k p _ (Grow.new hp) (cup_new R.cup hp) hp ⟨[], upd_same, rfl, Nat.zero_le _, .nil⟩
theorem d_dt0 : PE X (.Dict [] [] pos) (tN W (eC (.dt [] []))) :=
  PE.imp pe_dnewT fun σ H Q ⟨pc, F0, H0, ps, ε, c, d, c', R, ef, k⟩ p hp => by
    cases ef
    have fr := R.fresh hp
    exact k p _ (Grow.new hp) (cup_new R.cup hp) hp ⟨[], upd_same, rfl, Nat.zero_le _, .nil⟩

/-! ### list(range(..)), tuple(range(..)) -/
def eRg1 (f : SE) : SE := fun ε c => match f ε c with
  | some (.int j, c1) => if j ≤ 1000000 ∧ -1000000 ≤ j then some (.lst (rangeD 0 j.toNat), c1) else none
  | _ => none
theorem reps_rg {pc : Pc} {F : Fb} {H : Hp} (a b : Int) : Reps W pc F H (rangeD a (b - a).toNat) (rgV a b) := by
  unfold rangeD rgV
  generalize (List.range (b - a).toNat) = l
  induction l with
  | nil => exact .nil
  | cons n l ih => exact .cons (.int _) ih
theorem d_lrg1 (hc : X.calm = true) (hg : Gl X "list") (hm : X.mg "list" = none) (hgr : Gl X "range") (hmr : X.mg "range" = none) (h : PE X e (tE W f))
    (na : starEach [.Call (.Name "range" p2) [e] [] p3] X.env = (false, eval (.Call (.Name "range" p2) [e] [] p3) X.env) :: starEach [] X.env := by rfl) (na2 : starEach [e] X.env = (false, eval e X.env) :: starEach [] X.env := by rfl) :
    PE X (.Call (.Name "list" p) [.Call (.Name "range" p2) [e] [] p3] [] pos) (tN W (eRg1 f)) :=
  PE.imp (pe_listRg hc hg hm (prg_1 hgr hmr h na2) na) fun σ H Q ⟨pc, F0, H0, ps, ε, c, d, c', R, ef, k⟩ => by
    unfold eRg1 at ef
    split at ef
    · next j c1 e1 =>
      split at ef
      · next hj =>
        cases ef
        refine ⟨pc, F0, H0, ps, ε, c, .int j, c', R, e1, fun v H1 g cu r => ?_⟩
        cases r
        refine ⟨j, rfl, ⟨by omega, by omega, by omega, by omega, by omega⟩, fun q hq => ?_⟩
        have R1 := R.step g cu
        have fr := R1.fresh hq
        refine k q _ (g.trans (Grow.new hq)) (cup_new cu hq) (g.none fr.2.1 hq) (lst_new ?_ ?_ hq)
        · have := reps_rg (W := W) (pc := pc) (F := Fo F0 ε σ) (H := H1) 0 j
          rwa [Int.sub_zero] at this
        · have : (rangeD 0 j.toNat).length = j.toNat := by simp [rangeD]
          rw [this]
          have : (1000000 : Nat) ≤ sizeLine := by decide
          omega
      · cases ef
    · cases ef
def eRgT (f : SE) : SE := fun ε c => match eRg1 f ε c with
  | some (.lst ds, c1) => some (.tup ds, c1)
  | _ => none
theorem d_trg1 (hc : X.calm = true) (hg : Gl X "tuple") (hm : X.mg "tuple" = none) (hgr : Gl X "range") (hmr : X.mg "range" = none) (h : PE X e (tE W f))
    (na : starEach [.Call (.Name "range" p2) [e] [] p3] X.env = (false, eval (.Call (.Name "range" p2) [e] [] p3) X.env) :: starEach [] X.env := by rfl) (na2 : starEach [e] X.env = (false, eval e X.env) :: starEach [] X.env := by rfl) :
    PE X (.Call (.Name "tuple" p) [.Call (.Name "range" p2) [e] [] p3] [] pos) (tE W (eRgT f)) :=
  PE.imp (pe_tupRg hc hg hm (prg_1 hgr hmr h na2) na) fun σ H Q ⟨pc, F0, H0, ps, ε, c, d, c', R, ef, k⟩ => by
    unfold eRgT eRg1 at ef
    cases e1 : f ε c with
    | none => simp only [e1] at ef; cases ef
    | some p =>
      obtain ⟨d1, c1⟩ := p
      simp only [e1] at ef
      cases d1 with
      | int j =>
        simp only at ef
        by_cases hj : j ≤ 1000000 ∧ -1000000 ≤ j
        · simp only [if_pos hj] at ef
          cases ef
          refine ⟨pc, F0, H0, ps, ε, c, .int j, c', R, e1, fun v H1 g cu r => ?_⟩
          cases r
          refine ⟨j, rfl, ⟨by omega, by omega, by omega, by omega, by omega⟩, fun q hq => ?_⟩
          have R1 := R.step g cu
          have fr := R1.fresh hq
          refine k _ _ (g.trans (Grow.new hq)) (cup_new cu hq) (tup_new R1.foDom ?_ ?_ hq)
          · have := reps_rg (W := W) (pc := pc) (F := Fo F0 ε σ) (H := H1) 0 j
            rwa [Int.sub_zero] at this
          · have : (rangeD 0 j.toNat).length = j.toNat := by simp [rangeD]
            rw [this]
            have : (1000000 : Nat) ≤ sizeLine := by decide
            omega
        · simp only [if_neg hj] at ef
          cases ef
      | _ => cases ef
end
end TT

set_option Elab.async false
set_option linter.all false
set_option maxRecDepth 100000
set_option maxHeartbeats 4000000
namespace TT
open PySem PySem.Spec PyProof.Rows L2 PySem.W
section
variable {X : Cx} {W : Wd} {e e2 : Expr} {es : List Expr} {pos p p2 p3 : Pos} {x : Str} {f g : SE} {j : Nat} {fs : SL}

/-! ### one sign * n -/
def pMulS : D → D → Option D
  | .str [c], .int n => if n ≤ 1000000 ∧ -1000000 ≤ n then some (.str (List.replicate n.toNat c)) else none
  | _, _ => none
def pMulA (a b : D) : Option D := match pMul a b with
  | some d => some d
  | none => pMulS a b
theorem op_mulS : OpR X (binaryOp .Mult) (fun x y H Q => ∃ (c : Nat) (n : Int), x = .str ⟨#[c]⟩ ∧ y = .int n ∧ n ≤ 1000000 ∧ -1000000 ≤ n ∧ Q (.str ⟨(List.replicate n.toNat c).toArray⟩) H) := by
  intro pins s σ H x y v u Q I rx ry h
  obtain ⟨c, n, rfl, rfl, h1, h2, q⟩ := h
  obtain ⟨t, rfl⟩ := rx
  obtain ⟨t', rfl⟩ := ry
  refine SB.mul (mulOk_of 1 1000000 (Nat.le_refl _) (by omega) (by omega) (by omega) (by omega)) fun t2 k => ?_
  have e : Txt.mul ⟨#[c]⟩ n = ⟨(List.replicate n.toNat c).toArray⟩ := by
    have := mul_one_list c n
    exact Str.ext' (by rw [← this] <;> simp)
  rw [e]
  exact ⟨.str ⟨(List.replicate n.toNat c).toArray⟩, H, I.tok k, ⟨t2, rfl⟩, q⟩
theorem o_mulA : Op2 X W (binaryOp .Mult) pMulA := ⟨fun d1 d2 d h => by
  unfold pMulA at h
  split at h
  · next d' e =>
    cases h
    exact o_mul.ok d1 d2 d e
  · unfold pMulS at h
    split at h
    · rename_i c n
      split at h
      · next hn =>
        cases h
        refine ⟨_, op_mulS, fun pc F H x y Q cd s1 s2 k => ⟨_, _, s1.str.1, s2.int, hn.1, hn.2, k _ H (Same.refl _) (.str _ ?_)⟩⟩
        rw [List.length_replicate]
        have : (1000000 : Nat) ≤ sizeLine := by decide
        omega
      · cases h
    · cases h⟩

/-! ### d.update([(k, v), ..]) -/
theorem mt_upd (hcalm : X.calm = true) : MtR X "dict.update" (fun x xs H Q => ∃ (d a : Addr) (kvs0 : List (Key × V)) (ps : List Addr) (kvs : List (Key × V)), x = .ref d ∧ xs = [.ref a] ∧ H d = some (.dK kvs0) ∧ SqL X.K H a (ps.map V.ref) ∧ Paired (fun p kv => SqT X.K H p [kV kv.1, kv.2]) ps kvs ∧
    kvs0.length + kvs.length ≤ sizeLine ∧ Q .non (upd H d (.dK (mergeK kvs0 kvs)))) := by
  intro pins s σ H x xs v us Q I rx rs h
  obtain ⟨d, a, kvs0, ps, kvs, rfl, rfl, hd, hq, hp, hz, q⟩ := h
  cases rx
  cases rs with
  | cons r1 rr =>
    cases rr
    cases r1
    obtain ⟨its, rv, pl, hz2⟩ := I.list hq
    have ei := refs_at rv
    subst ei
    obtain ⟨prs, rel, hl, hpr⟩ := pairs_of I hp
    obtain ⟨o, n, ho, hc, hdn, hdat⟩ := pl
    obtain ⟨hz0, hm, vs0, kv0, hdo⟩ := I.hok d _ hd
    have hlen0 : kvs0.length = vs0.length := Paired.length kv0
    have hlen1 : kvs.length = prs.length := Paired.length rel
    have hty := hdo.typeIs
    obtain ⟨od, hod, hcd⟩ := hty
    have hda : d ≠ a := fun e => by
      rw [e, ho] at hod
      cases hod
      rw [hc] at hcd
      exact absurd hcd (by decide)
    have hdl : d < s.heap.objs.size := Heap.lt_size hod
    have hal : a < s.heap.objs.size := Heap.lt_size ho
    have hL : s.heap.IsList a (ps.map Value.ref).toArray := ⟨o, ho, hc, n, hdat⟩
    have fin : ∀ (h' : Heap) (tk : Nat), h'.DictOf (mixKind X.prog X.w) d (merged vs0 prs) → (∀ b o, b ≠ d → s.heap.get? b = some o → h'.get? b = some o) → EP X pins σ Q .none { s with heap := h', toks := tk } := fun h' tk hd' k => by
      have hlen : (mergeK kvs0 kvs).length ≤ sizeLine := Nat.le_trans (length_mergeK kvs kvs0) hz
      obtain ⟨o', ho', hc'⟩ := (show ({ s with heap := h', toks := tk } : Shared).heap.DictOf (mixKind X.prog X.w) d (merged vs0 prs) from hd').typeIs
      refine ⟨.non, _, I.write (x := d) (e := d) (t' := tk) (o := .dK (mergeK kvs0 kvs)) (by rw [hd]; exact True.intro) (.inl rfl) (fun b u hb e => k b u hb e) ⟨_, ho'⟩ ?_, rfl, q⟩
      exact ⟨hlen, hm, merged vs0 prs, KV.merge rel kv0, hd'⟩
    refine call_meetsIn PySem.F.slot_dict_update hdo.typeIs PySem.F.entry_dict_update (PySem.F.args_dict_update_2 _ _)
      (S := fun A' R s' => A' = X.A ∧ s' = s ∧ ∀ h' tk, h'.DictOf (mixKind X.prog X.w) d (merged vs0 prs) → (∀ b o, b ≠ d → s.heap.get? b = some o → h'.get? b = some o) → R (.ok (.ret .none)) { s with heap := h', toks := tk }) ?_ ⟨rfl, rfl, fin⟩
    rintro A' R s' ⟨e1, e2, hR⟩
    replace e2 := e2.symm
    subst e1 e2
    refine meets_dict_update_arg hdo.typeIs ?_
    unfold Builtin.Dict.updateFrom
    refine wpAny_bind (wpAny_typeOf (T := "list") ⟨o, ho, hc⟩ ?_)
    rw [if_pos (by first | decide | rfl | simp)]
    refine wpAny_bind (miss_list ho hc hdat hdn (I.ok.hd hcalm) fun h1 tk1 hk1 => ?_)
    rw [if_pos (show (none : Option Value).isNone = true from rfl)]
    refine wpAny_bind (wpAny_rule ?_)
    have hl1 : h1.IsList a (ps.map Value.ref).toArray := ⟨o, hk1 _ _ ho, hc, n, hdat⟩
    refine wpAny_bind (wpAny_pyIter_list hl1 ?_)
    have k2 : ∀ b o, h1.get? b = some o → (h1.push { cls := .type "list_iterator", data := .fields #[.ref a, .int 0 0] }).get? b = some o := fun b o e => Heap.get?_push_of_some _ e
    have hS1 : d < h1.objs.size := Heap.lt_size (hk1 _ _ hod)
    have ha1 : a < h1.objs.size := Heap.lt_size (hk1 _ _ ho)
    have key := upd_loop (prog := X.prog) (w := X.w) (A := X.A) (R := R) (S := d) (I := h1.objs.size) (l := a) (items := (ps.map Value.ref).toArray) (res := Value.none) (I.ok.hd hcalm)
      (Nat.ne_of_lt ha1) (Nat.ne_of_lt hS1) hda prs 0 vs0 0 0
      { s with heap := h1.push { cls := .type "list_iterator", data := .fields #[.ref a, .int 0 0] }, toks := tk1 } (by simp [hl]) (by rw [← hlen0, ← hlen1]; exact hz)
      (fun j q e => by
        obtain ⟨b, u, e1, e2, e3⟩ := hpr j q e
        obtain ⟨ob, hob, hcb, _⟩ := id e2
        have hb : b < h1.objs.size := Heap.lt_size (hk1 _ _ hob)
        refine ⟨b, u, by simp [e1], fun z => ?_, Nat.ne_of_lt hb, e2.keeps fun c o z => k2 _ _ (hk1 _ _ z), e3⟩
        rw [z, hod] at hob
        cases hob
        rw [hcb] at hcd
        exact absurd hcd (by decide))
      ⟨_, Heap.get?_push_size _ rfl, rfl, rfl⟩ (hl1.at fun o e => k2 _ _ e) ((hdo.at fun o e => hk1 _ _ e).at fun o e => k2 _ _ e)
      (fun h' tk hd' k => hR h' tk hd' fun b o hb e => k b o hb (Nat.ne_of_lt (Heap.lt_size (hk1 _ _ e))) (k2 _ _ (hk1 _ _ e)))
    first
      | exact wpAny_pure ⟨plainId_quiet ud_plain _, key⟩
      | exact wpAny_bind (wpAny_pure (wpAny_pure ⟨plainId_quiet ud_plain _, key⟩))

/-! ### met.update([..]), met an owned dict with text or int keys -/
def pairOf : D → Option (Key × D)
  | .tup [k, v] => match keyOf k with
    | some k => some (k, v)
    | none => none
  | _ => none
def pairsD : List D → Option (List (Key × D))
  | [] => some []
  | d :: ds => match pairOf d, pairsD ds with
    | some p, some ps => some (p :: ps)
    | _, _ => none
def putD1 (kvs : List (Key × D)) (k : Key) (v : D) : List (Key × D) := if (kvs.any fun kv => decide (kv.1 = k)) = true then kvs.map (fun kv => if kv.1 = k then (kv.1, v) else kv) else kvs ++ [(k, v)]
def mergeD : List (Key × D) → List (Key × D) → List (Key × D)
  | acc, [] => acc
  | acc, p :: ps => mergeD (putD1 acc p.1 p.2) ps
def sUpd (i : Nat) (f : SE) : SS := fun ε c => match f ε c with
  | some (.lst ds, c1) => (match ε[i]? with
    | some (some (.ow (.dk ks vs))) => (match pairsD ds with
      | some ps => if ks.length = vs.length ∧ ks.length + ps.length ≤ 1000000 then some (.nx (ε.set i (some (.ow (.dk ((mergeD (ks.zip vs) ps).map (·.1)) ((mergeD (ks.zip vs) ps).map (·.2)))))) c1) else none
      | none => none)
    | _ => none)
  | _ => none
/-- a dict's pairs, together -/
def KvR (W : Wd) (pc : Pc) (F : Fb) (H : Hp) (kds : List (Key × D)) (kvs : List (Key × V)) : Prop := kvs.map (·.1) = kds.map (·.1) ∧ Reps W pc F H (kds.map (·.2)) (kvs.map (·.2))
theorem KvR.cons {pc : Pc} {F : Fb} {H : Hp} {k : Key} {d : D} {v : V} {kds : List (Key × D)} {kvs : List (Key × V)} (r : Rep W pc F H d v) (h : KvR W pc F H kds kvs) : KvR W pc F H ((k, d) :: kds) ((k, v) :: kvs) :=
  ⟨by rw [List.map_cons, List.map_cons, h.1], .cons r h.2⟩
theorem KvR.map {pc : Pc} {F : Fb} {H : Hp} {k : Key} {d : D} {v : V} (r : Rep W pc F H d v) : ∀ {kds : List (Key × D)} {kvs : List (Key × V)}, KvR W pc F H kds kvs →
    KvR W pc F H (kds.map fun kv => if kv.1 = k then (kv.1, d) else kv) (kvs.map fun kv => if kv.1 = k then (kv.1, v) else kv)
  | [], [], h => h
  | [], _ :: _, h => by cases h.1
  | _ :: _, [], h => by cases h.1
  | (k1, d1) :: kds, (k2, v2) :: kvs, ⟨h1, h2⟩ => by
    rw [List.map_cons, List.map_cons] at h1 h2
    injection h1 with e1 e2
    have e1' : k2 = k1 := e1
    subst e1'
    cases h2 with
    | cons r2 rs =>
      have ih := KvR.map (k := k) r (kds := kds) (kvs := kvs) ⟨e2, rs⟩
      rw [List.map_cons, List.map_cons]
      by_cases e : k2 = k
      · rw [if_pos e, if_pos e]; exact KvR.cons r ih
      · rw [if_neg e, if_neg e]; exact KvR.cons r2 ih
theorem any_keys {kds : List (Key × D)} {kvs : List (Key × V)} (k : Key) (h : kvs.map (·.1) = kds.map (·.1)) : (kvs.any fun kv => decide (kv.1 = k)) = kds.any fun kv => decide (kv.1 = k) := by
  have e1 : (kvs.any fun kv => decide (kv.1 = k)) = (kvs.map (·.1)).any fun z => decide (z = k) := by rw [List.any_map]; rfl
  have e2 : (kds.any fun kv => decide (kv.1 = k)) = (kds.map (·.1)).any fun z => decide (z = k) := by rw [List.any_map]; rfl
  rw [e1, e2, h]
theorem KvR.put {pc : Pc} {F : Fb} {H : Hp} {k : Key} {d : D} {v : V} {kds : List (Key × D)} {kvs : List (Key × V)} (r : Rep W pc F H d v) (h : KvR W pc F H kds kvs) : KvR W pc F H (putD1 kds k d) (putK kvs k v) := by
  unfold putD1 putK
  rw [any_keys k h.1]
  split
  · exact h.map r
  · refine ⟨by rw [List.map_append, List.map_append, h.1] <;> rfl, ?_⟩
    rw [List.map_append, List.map_append]
    exact h.2.append (.cons r .nil)
theorem KvR.merge {pc : Pc} {F : Fb} {H : Hp} : ∀ {ps : List (Key × D)} {pvs : List (Key × V)} {kds : List (Key × D)} {kvs : List (Key × V)}, KvR W pc F H kds kvs → KvR W pc F H ps pvs → KvR W pc F H (mergeD kds ps) (mergeK kvs pvs)
  | [], [], _, _, h, _ => h
  | [], _ :: _, _, _, _, h => by cases h.1
  | _ :: _, [], _, _, _, h => by cases h.1
  | (k1, d1) :: ps, (k2, v2) :: pvs, kds, kvs, h, ⟨h1, h2⟩ => by
    rw [List.map_cons, List.map_cons] at h1 h2
    injection h1 with e1 e2
    have e1' : k2 = k1 := e1
    subst e1'
    cases h2 with
    | cons r2 rs => exact KvR.merge (ps := ps) (pvs := pvs) (h.put (k := k2) r2) ⟨e2, rs⟩
theorem keyOf_kV {pc : Pc} {F : Fb} {H : Hp} {d : D} {v : V} {k : Key} (h : keyOf d = some k) (r : Rep W pc F H d v) : v = kV k := by
  cases d with
  | int i => simp only [keyOf, Option.some.injEq] at h; subst h; cases r; rfl
  | str s => simp only [keyOf, Option.some.injEq] at h; subst h; cases r; rfl
  | _ => cases h
theorem pairs_reps {pc : Pc} {F : Fb} {H : Hp} : ∀ {ds : List D} {xs : List V} {ps : List (Key × D)}, Reps W pc F H ds xs → pairsD ds = some ps →
    ∃ (as : List Addr) (kvs : List (Key × V)), xs = as.map V.ref ∧ Paired (fun p kv => SqT W.K H p [kV kv.1, kv.2]) as kvs ∧ KvR W pc F H ps kvs ∧ kvs.length = ps.length
  | [], _, _, .nil, h => by cases h; exact ⟨[], [], rfl, .nil, ⟨rfl, .nil⟩, rfl⟩
  | d :: ds, v :: vs, ps, .cons r rs, h => by
    unfold pairsD at h
    split at h
    · next p ps' e1 e2 =>
      cases h
      obtain ⟨as, kvs, rfl, h1, h2, h3⟩ := pairs_reps rs e2
      unfold pairOf at e1
      split at e1
      · next kd vd =>
        split at e1
        · next k e3 =>
          cases e1
          obtain ⟨a, us, rfl, sq, _, rr⟩ := r.tupS
          cases rr with
          | cons r1 rr =>
            cases rr with
            | cons r2 rr =>
              cases rr
              have ek := keyOf_kV e3 r1
              subst ek
              exact ⟨a :: as, (k, _) :: kvs, rfl, .cons sq h1, KvR.cons r2 h2, by rw [List.length_cons, List.length_cons, h3]⟩
        · cases e1
      · cases e1
    · cases h
theorem kv_zip {pc : Pc} {F : Fb} {H : Hp} : ∀ {ks : List Key} {vs : List D} {kvs : List (Key × V)}, ks.length = vs.length → kvs.map (·.1) = ks → Reps W pc F H vs (kvs.map (·.2)) → KvR W pc F H (ks.zip vs) kvs
  | [], [], kvs, _, h1, h2 => by
    cases kvs with
    | nil => exact ⟨rfl, .nil⟩
    | cons _ _ => cases h1
  | [], _ :: _, _, h, _, _ => by cases h
  | _ :: _, [], _, h, _, _ => by cases h
  | k :: ks, d :: vs, kvs, h, h1, h2 => by
    cases kvs with
    | nil => cases h1
    | cons kv kvs =>
      obtain ⟨k', v⟩ := kv
      rw [List.map_cons] at h1 h2
      injection h1 with e1 e2
      have e1' : k' = k := e1
      subst e1'
      cases h2 with
      | cons r rs => exact KvR.cons r (kv_zip (Nat.succ.inj h) e2 rs)
theorem s_upd (i : Nat) {apos cpos : Pos} (hK : X.K = W.K) (hcalm : X.calm = true) (h : PE X e (tE W f)) (hN : X.N[i]? = some x := by rfl) (hv : Vis X.env.scope x := by first | exact Or.inl rfl | exact Or.inr (Or.inl rfl) | exact Or.inr (Or.inr rfl)) (hd : (x == ("__debug__" : Str)) = false := by decide)
    (hcd : (x == ("__classdict__" : Str)) = false := by decide)
    (hbase : attributeBase (.Name x p) "update" X.env (eval (.Name x p) X.env) = eval (.Name x p) X.env := by rfl)
    (hfew : ((backTo cpos (starEach (e :: []) X.env)).all (fun x => !x.1) && (backToKw cpos (keywordEach [] X.env)).all (fun x => x.1.isSome)
      && decide ((e :: ([] : List Expr)).length + ([] : List Keyword).length + (if ([] : List Keyword).isEmpty then 0 else 1) < 30)) = true := by rfl)
    (hline : (apos.endLine == cpos.line) = true := by rfl) (hs : starEach (e :: []) X.env = (false, eval e X.env) :: starEach [] X.env := by rfl) (hplain : (backTo cpos (starEach [] X.env)).any (·.1) = false := by rfl)
    (hsw : swapsWith (.Call (.Attribute (.Name x p) "update" apos) [e] [] cpos) none pos.line X.env = pure false := by rfl) :
    PS X (.Expr (.Call (.Attribute (.Name x p) "update" apos) [e] [] cpos) pos) (tS W (sUpd i f)) :=
  PS.imp (ps_expr (pe_bm F.plainAttrs_dict F.slot_dict_update F.type_dict_update (mt_upd hcalm) (pe_var hN hv hd hcd) (pa_cons h pa_nil hs) hbase hfew hline hs hplain) hsw) fun E σ H ⟨pc, F0, H0, ps, ε, c, o, R, ef, q⟩ => by
    unfold sUpd at ef
    split at ef
    · next ds c1 e1 =>
      split at ef
      · next ks vs e2 =>
        split at ef
        · next prs e3 =>
          split at ef
          · next hl =>
            cases ef
            obtain ⟨a, s, n0, h0, kvs, ea, ke, l, rs⟩ := R.ow i _ e2
            refine ⟨.ref a, s, .inr (.inr (.inl ⟨rfl, .inl ⟨kvs, ea⟩⟩)), pc, F0, H0, ps, ε, c, .lst ds, c1, R, e1, fun v H1 g cu r => ?_⟩
            have R1 := R.step g cu
            obtain ⟨a', s', n0', h0', kvs', ea', ke', l', rs'⟩ := R1.ow i _ e2
            rw [s] at s'
            cases s'
            obtain ⟨b, xs, rfl, nf, sq, hl3, rs2⟩ := r.lstS
            obtain ⟨as, pvs, rfl, k1, k2, k3⟩ := pairs_reps rs2 e3
            have kz := kv_zip hl.1 ke' rs'
            have km := kz.merge k2
            have hlen : kvs'.length = ks.length := by rw [← ke', List.length_map]
            have big : (1000000 : Nat) ≤ sizeLine := by decide
            rw [hK]
            refine ⟨a, b, kvs', as, pvs, rfl, rfl, ea', sq, k1, by omega, ?_⟩
            have fa : Fo F0 ε σ a := .inr ⟨i, _, e2, s⟩
            refine q σ _ (R1.write e2 s ⟨mergeK kvs' pvs, upd_same, km.1, ?_, km.2.mono (fun b z n e => by rw [upd_ne (fun q => n (by rw [q]; exact fa))]; exact e) fun _ z => z⟩)
            rw [← km.1, List.length_map]
            have := length_mergeK pvs kvs'
            omega
          · cases ef
        · cases ef
      · cases ef
    · cases ef
end
end TT

set_option Elab.async false
set_option linter.all false
set_option maxRecDepth 100000
set_option maxHeartbeats 4000000
namespace TT
open PySem PySem.Spec PyProof.Rows L2 PySem.W

/-! ### rows_by_ones: a list of lists, each appended to -/
def addRow (dss : List (List D)) (row : D) : Option (List (List D)) := match row with
  | .tup ds => match intsOf ds with
    | some ns => match ixN dss.length ns.sum with
      | some j => match dss[j]? with
        | some l => if l.length < 1000000 then some (dss.set j (l ++ [row])) else none
        | none => none
      | none => none
    | none => none
  | _ => none
def addRows : List (List D) → List D → Option (List (List D))
  | dss, [] => some dss
  | dss, r :: rs => match addRow dss r with
    | some dss' => addRows dss' rs
    | none => none
def uRbo (m : Mi) : SS := fun ε c => match ε with
  | [some (.fz (.int n)), none, none, none] => if n ≤ 1000 ∧ -1000 ≤ n then (match m [.int n] c with
    | some (.lst rows, c1) => (match addRows (List.replicate (n + 1).toNat []) rows with
      | some dss => some (.rt (.lst (dss.map D.lst)) c1)
      | none => none)
    | _ => none) else none
  | _ => none
theorem Rep.forbidL {W : Wd} {pc : Pc} {F : Fb} {H : Hp} {d : D} {v : V} (r : Rep W pc F H d v) : ∀ {L : List Addr}, (∀ p ∈ L, H p = none) → Rep W pc (fun b => F b ∨ b ∈ L) H d v
  | [], _ => r.mono (fun _ _ _ e => e) fun a z => z.elim id fun w => absurd w (by simp)
  | p :: L, hn => by
    have ih := Rep.forbidL r (L := L) fun q hq => hn q (List.mem_cons_of_mem _ hq)
    have := ih.forbid (hn p (List.mem_cons_self ..))
    refine this.mono (fun _ _ _ e => e) fun a z => ?_
    rcases z with z | z
    · exact .inl (.inl z)
    · rcases List.mem_cons.mp z with z | z
      · exact .inr z
      · exact .inl (.inr z)
theorem Reps.forbidL {W : Wd} {pc : Pc} {F : Fb} {H : Hp} {ds : List D} {vs : List V} (r : Reps W pc F H ds vs) {L : List Addr} (hn : ∀ p ∈ L, H p = none) : Reps W pc (fun b => F b ∨ b ∈ L) H ds vs := by
  induction ds generalizing vs with
  | nil => cases r; exact .nil
  | cons d ds ih => cases r with | cons r rs => exact .cons (r.forbidL hn) (ih rs)
section
variable {W : Wd} {pc : Pc} {F0 : Fb} {H0 H H2 : Hp} {ps : List (D × V)} {ε : En} {c c2 : Cup} {σ : L2.St}
/-- new objects, forbidden from now on -/
theorem Rl.forbidL (R : Rl W pc F0 H0 ps ε c σ H) {L : List Addr} (hn : ∀ p ∈ L, H p = none) (g : Grow pc H H2) (cu : CupIs pc c2 H2) (hd : ∀ p ∈ L, H2 p ≠ none) : Rl W pc (fun b => F0 b ∨ b ∈ L) H0 ps ε c2 σ H2 := by
  have R2 := R.step g cu
  have gf : GrowF (fun b => Fo F0 ε σ b ∨ b ∈ L) H H2 := g.gf fun p z => .inl (R.foP p z)
  have fo : ∀ b, Fo (fun b => F0 b ∨ b ∈ L) ε σ b → Fo F0 ε σ b ∨ b ∈ L := fun b z => by
    rcases z with (z | z) | z
    · exact .inl (.inl z)
    · exact .inr z
    · exact .inl (.inr z)
  refine ⟨R.len, fun b z => z.elim (R2.dom b) (hd b), fun p z => .inl (R.pcF p z), R2.grow, cu, fun j d e => ?_, fun j d e => ?_, fun p hp => ((R.pin p hp).forbidL hn).mono gf fo, R.inj⟩
  · obtain ⟨v, sv, rv⟩ := R.fz j d e
    exact ⟨v, sv, (rv.forbidL hn).mono gf fo⟩
  · obtain ⟨b, sb, n0, h0, ob⟩ := R.ow j d e
    obtain ⟨o', ho, _⟩ := ob.there
    have hbL : b ∉ L := fun q => by rw [hn b q] at ho; cases ho
    refine ⟨b, sb, fun z => z.elim n0 hbL, h0, ?_⟩
    have keep : ∀ u, H b = some u → H2 b = some u := fun u e => g b u (fun z => n0 (R.pcF b z)) e
    cases d with
    | lst ds => obtain ⟨xs, e1, l, rs⟩ := ob; exact ⟨xs, keep _ e1, l, (rs.forbidL hn).mono gf fo⟩
    | dk ks ds => obtain ⟨xs, e1, k, l, rs⟩ := ob; exact ⟨xs, keep _ e1, k, l, (rs.forbidL hn).mono gf fo⟩
    | dt ks ds => obtain ⟨xs, e1, k, l, rs⟩ := ob; exact ⟨xs, keep _ e1, k, l, (rs.forbidL hn).mono gf fo⟩
    | _ => exact ob.elim
/-- a slot of which nothing is known -/
theorem Rl.raw (R : Rl W pc F0 H0 ps ε c σ H) {i : Nat} {x : Option V} (h : ε[i]? = some none) : Rl W pc F0 H0 ps ε c (σ.set i x) H := by
  have sg : ∀ {j : Nat} {s : Sl}, ε[j]? = some (some s) → (σ.set i x)[j]? = σ[j]? := fun {j s} e => by
    by_cases q : i = j
    · subst q; rw [h] at e; cases e
    · rw [set_ne q]
  have fo : ∀ a, Fo F0 ε (σ.set i x) a ↔ Fo F0 ε σ a := fun a => by
    constructor
    · rintro (z | ⟨j, d, e1, e2⟩)
      · exact .inl z
      · exact .inr ⟨j, d, e1, by rw [sg e1] at e2; exact e2⟩
    · rintro (z | ⟨j, d, e1, e2⟩)
      · exact .inl z
      · exact .inr ⟨j, d, e1, by rw [sg e1]; exact e2⟩
  refine ⟨by rw [List.length_set]; exact R.len, R.dom, R.pcF, R.grow, R.cup, fun j d e => ?_, fun j d e => ?_, fun p hp => (R.pin p hp).mono (fun _ _ _ z => z) fun a z => (fo a).mp z, fun j k d e a e1 e2 e3 e4 => R.inj j k d e a e1 e2 (by rw [sg e1] at e3; exact e3) (by rw [sg e2] at e4; exact e4)⟩
  · obtain ⟨v, sv, rv⟩ := R.fz j d e
    exact ⟨v, by rw [sg e]; exact sv, rv.mono (fun _ _ _ z => z) fun a z => (fo a).mp z⟩
  · obtain ⟨a, sa, n0, h0, o⟩ := R.ow j d e
    exact ⟨a, by rw [sg e]; exact sa, n0, h0, o.mono (fun _ _ _ z => z) (fun _ z => z) fun a z => (fo a).mp z⟩
end
/-- the list of lists, as it stands: at a, the inner ones at as -/
structure Lol (W : Wd) (pc : Pc) (F : Fb) (H : Hp) (a : Addr) (as : List Addr) (dss : List (List D)) : Prop where
  out : H a = some (.lst (as.map V.ref))
  len : as.length = dss.length
  inn : ∀ (j : Nat) (p : Addr) (ds : List D), as[j]? = some p → dss[j]? = some ds → ∃ vs, H p = some (.lst vs) ∧ ds.length ≤ sizeLine ∧ Reps W pc F H ds vs
  nd : as.Nodup
  na : a ∉ as
theorem Lol.mono {W : Wd} {pc : Pc} {F : Fb} {H H' : Hp} {a : Addr} {as : List Addr} {dss : List (List D)} (L : Lol W pc F H a as dss) (g : GrowF F H H') (k : ∀ p o, p = a ∨ p ∈ as → H p = some o → H' p = some o) : Lol W pc F H' a as dss :=
  ⟨k a _ (.inl rfl) L.out, L.len, fun j p ds e1 e2 => let ⟨vs, h1, h2, h3⟩ := L.inn j p ds e1 e2; ⟨vs, k p _ (.inr (List.mem_of_getElem? e1)) h1, h2, h3.mono g fun _ z => z⟩, L.nd, L.na⟩
theorem Lol.app {W : Wd} {pc : Pc} {F : Fb} {H : Hp} {a : Addr} {as : List Addr} {dss : List (List D)} (L : Lol W pc F H a as dss) (hf : ∀ p ∈ as, F p) {j : Nat} {p : Addr} {ds : List D} {vs : List V} {d : D} {v : V} (h1 : as[j]? = some p) (h2 : dss[j]? = some ds) (h3 : H p = some (.lst vs)) (h4 : Reps W pc F H ds vs) (hl : ds.length < 1000000) (r : Rep W pc F H d v) :
    Lol W pc F (upd H p (.lst (vs ++ [v]))) a as (dss.set j (ds ++ [d])) := by
  have hp := List.mem_of_getElem? h1
  have g : GrowF F H (upd H p (.lst (vs ++ [v]))) := fun b o n e => by rw [upd_ne (fun z => n (by rw [z]; exact hf p hp))]; exact e
  have ha : a ≠ p := fun z => L.na (by rw [z]; exact hp)
  have hjl : j < as.length := (List.getElem?_eq_some_iff.mp h1).1
  refine ⟨by rw [upd_ne ha]; exact L.out, by rw [List.length_set]; exact L.len, fun i q es e1 e2 => ?_, L.nd, L.na⟩
  by_cases hij : j = i
  · subst hij
    rw [h1] at e1
    cases e1
    rw [List.getElem?_set_self (by rw [← L.len]; exact hjl)] at e2
    cases e2
    refine ⟨vs ++ [v], upd_same, ?_, (h4.append (.cons r .nil)).mono g fun _ z => z⟩
    rw [List.length_append]
    have : (1000000 : Nat) ≤ sizeLine := by decide
    show ds.length + 1 ≤ sizeLine
    omega
  · rw [List.getElem?_set_ne hij] at e2
    obtain ⟨us, q1, q2, q3⟩ := L.inn i q es e1 e2
    have hqp : q ≠ p := fun z => by
      subst z
      exact hij ((List.getElem?_inj hjl L.nd).mp (h1.trans e1.symm))
    exact ⟨us, by rw [upd_ne hqp]; exact q1, q2, q3.mono g fun _ z => z⟩
theorem Lol.rep {W : Wd} {pc : Pc} {F F' : Fb} {H : Hp} {a : Addr} {as : List Addr} {dss : List (List D)} (L : Lol W pc F H a as dss) (hF : ∀ b, F' b → F b) (na : ¬ F' a) (ni : ∀ p ∈ as, ¬ F' p) (hl : dss.length ≤ sizeLine) : Rep W pc F' H (.lst (dss.map D.lst)) (.ref a) := by
  refine .lst na L.out (by rw [List.length_map]; exact hl) ?_
  obtain ⟨o1, l, inn, o2, o3⟩ := L
  clear na o1 o2 o3
  induction as generalizing dss with
  | nil =>
    cases dss with
    | nil => exact .nil
    | cons _ _ => cases l
  | cons p as ih =>
    cases dss with
    | nil => cases l
    | cons ds dss =>
      obtain ⟨vs, h1, h2, h3⟩ := inn 0 p ds rfl rfl
      refine .cons (.lst (ni p (List.mem_cons_self ..)) h1 h2 (h3.mono (fun _ _ _ e => e) hF)) ?_
      exact ih (fun q hq => ni q (List.mem_cons_of_mem _ hq)) (by rw [List.length_cons] at hl; omega) (Nat.succ.inj l) fun j q es e1 e2 => inn (j + 1) q es (by simpa using e1) (by simpa using e2)
theorem addRow_len {dss dss' : List (List D)} {r : D} (h : addRow dss r = some dss') : dss'.length = dss.length := by
  unfold addRow at h
  split at h
  · split at h
    · split at h
      · split at h
        · split at h
          · cases h; rw [List.length_set]
          · cases h
        · cases h
      · cases h
    · cases h
  · cases h

/-- what the first loop has made: k new empty lists -/
structure RbI (W : Wd) (pc : Pc) (F0 : Fb) (H0 H1 : Hp) (ps : List (D × V)) (n : Int) (c : Cup) (σ : L2.St) (a : Addr) (k : Nat) (H : Hp) : Prop where
  ex : ∃ as : List Addr, Rl W pc (fun b => F0 b ∨ b ∈ a :: as) H0 ps [some (.fz (.int n)), none, none, none] c σ H ∧ Lol W pc (fun b => F0 b ∨ b ∈ a :: as) H a as (List.replicate k []) ∧ (∀ p ∈ a :: as, H1 p = none ∧ H0 p = none ∧ pc ≠ some p) ∧ Grow pc H1 H
/-- the second loop -/
structure RbJ (W : Wd) (pc : Pc) (F0 : Fb) (H0 : Hp) (ps : List (D × V)) (n : Int) (c : Cup) (a : Addr) (as : List Addr) (dss : List (List D)) (σ : L2.St) (H : Hp) : Prop where
  ex : ∃ x, (x = none ∨ ∃ d, x = some (Sl.fz d)) ∧ Rl W pc (fun b => F0 b ∨ b ∈ a :: as) H0 ps [some (.fz (.int n)), none, x, none] c σ H ∧ σ[1]? = some (some (.ref a)) ∧ Lol W pc (fun b => F0 b ∨ b ∈ a :: as) H a as dss
theorem fo_no {F : Fb} {ε : En} {σ : L2.St} (h : ∀ (i : Nat) (d : D), ε[i]? ≠ some (some (.ow d))) : ∀ b, Fo F ε σ b ↔ F b := fun b => ⟨fun z => z.elim id fun ⟨i, d, e, _⟩ => absurd e (h i d), .inl⟩
theorem no_ow4 {n : Int} {x : Option Sl} (hx : x = none ∨ ∃ d, x = some (Sl.fz d)) : ∀ (i : Nat) (d : D), ([some (.fz (.int n)), none, x, none] : En)[i]? ≠ some (some (.ow d)) := fun i d e => by
  match i with
  | 0 => cases e
  | 1 => cases e
  | 2 =>
    rcases hx with rfl | ⟨d', rfl⟩ <;> cases e
  | 3 => cases e
  | i + 4 => simp at e
section
variable {X : Cx} {W : Wd} {m : Mi} {fs : SL}
def tTriv : TT := fun σ H Q => Q true H
theorem rbo_first (hn : ∀ (ε : En) (c : Cup) (n : Int), ε[0]? = some (some (.fz (.int n))) → n ≤ 1000 ∧ -1000 ≤ n → src ε c = some (rangeD 0 (n + 1).toNat, c)) {pc : Pc} {F0 : Fb} {H0 H : Hp} {ps : List (D × V)} {n : Int} {c : Cup} {σ : L2.St} {Q : VK} (hb : n ≤ 1000 ∧ -1000 ≤ n)
    (R : Rl W pc F0 H0 ps [some (.fz (.int n)), none, none, none] c σ H)
    (k : ∀ a as H2, Rl W pc (fun b => F0 b ∨ b ∈ a :: as) H0 ps [some (.fz (.int n)), none, none, none] c σ H2 → Lol W pc (fun b => F0 b ∨ b ∈ a :: as) H2 a as (List.replicate (n + 1).toNat []) → (∀ p ∈ a :: as, H p = none ∧ H0 p = none ∧ pc ≠ some p ∧ ¬ F0 p) → Q (.ref a) H2) :
    tLc (iS W src) (gName 3) (tT W fun _ c => some (true, c)) (tLst tNil) [3] σ H Q := by
  refine ⟨pc, F0, H0, ps, _, c, rangeD 0 (n + 1).toNat, c, R, hn _ _ n rfl hb, fun J H1 qs gr cu pn wk a ha => ?_⟩
  have R1 : Rl W pc F0 H0 (qs ++ ps) [some (.fz (.int n)), none, none, none] c σ H1 := (R.step gr cu).pins pn
  have fr := R1.fresh ha
  have hlen : (rangeD 0 (n + 1).toNat).length = (n + 1).toNat := by simp [rangeD]
  have wp : wipeE [some (.fz (.int n)), none, none, none] [3] = some [some (.fz (.int n)), none, none, none] := rfl
  have hno := no_ow4 (n := n) (x := none) (.inl rfl)
  have e1 : (fun b => F0 b ∨ b = a) = fun b => F0 b ∨ b ∈ [a] := by funext b; simp
  have Ra := (R1.wipe wp).plus (o := .lst []) ha
  rw [e1] at Ra
  refine ⟨fun i m H => m = (n + 1).toNat - i ∧ i ≤ (n + 1).toNat ∧ RbI W pc F0 H0 H1 (qs ++ ps) n c (wipe σ [3]) a i H, ⟨(n + 1).toNat, by omega, Nat.zero_le _, ⟨[], Ra, ⟨upd_same, rfl, fun j p ds e => by simp at e, .nil, by simp⟩, fun p hp => ?_, Grow.new ha⟩⟩, ?_⟩
  · rw [List.mem_singleton.mp hp]; exact ⟨ha, fr.2.2, fr.2.1⟩
  rintro i m H2 ⟨rfl, hi2, ⟨as, R2, L2', nw, g2⟩⟩
  by_cases hlt : i < (n + 1).toNat
  · refine .inr ⟨wk.goes i H2 pc _ R2.pinned (by rw [hlen]; exact hlt), fun H' => RbI W pc F0 H0 H1 (qs ++ ps) n c (wipe σ [3]) a (i + 1) H', fun H' l => ⟨(n + 1).toNat - (i + 1), by omega, rfl, hlt, l⟩, fun x H' y => ?_⟩
    have hd : (rangeD 0 (n + 1).toNat)[i]? = some (.int (0 + (i : Int))) := by simp [rangeD, hlt]
    obtain ⟨sm, rx⟩ := wk.yields i H2 H' x _ pc _ R2.pinned R2.foDom hd y
    have R3 := R2.same sm
    refine ⟨wipe_set _ (by simp) |>.trans (wipe_wipe σ [3]), ?_⟩
    have R4 := R3.setFz (i := 3) rx
    refine ⟨pc, _, H0, _, _, c, true, c, R4, rfl, fun H3 g3 cu3 => iteT ?_⟩
    have g23 : Grow pc H2 H3 := (same_grow sm).trans g3
    have R5 := R2.step g23 cu3
    refine ⟨Nat.zero_le _, fun p hp => ?_⟩
    have fr5 := R5.fresh hp
    have nfp : ¬ (F0 p ∨ p ∈ a :: as) := fun z => fr5.1 (.inl z)
    have hpa : p ≠ a := fun z => nfp (.inr (by rw [z]; exact List.mem_cons_self))
    have hpas : p ∉ as := fun z => nfp (.inr (List.mem_cons_of_mem _ z))
    have R6 := R5.plus (o := .lst []) hp
    have e2 : (fun b => (F0 b ∨ b ∈ a :: as) ∨ b = p) = fun b => F0 b ∨ b ∈ a :: (as ++ [p]) := by
      funext b
      simp only [List.mem_cons, List.mem_append, List.not_mem_nil, or_false, eq_iff_iff]
      constructor
      · rintro ((z | z | z) | z)
        · exact .inl z
        · exact .inr (.inl z)
        · exact .inr (.inr (.inl z))
        · exact .inr (.inr (.inr z))
      · rintro (z | z | z | z)
        · exact .inl (.inl z)
        · exact .inl (.inr (.inl z))
        · exact .inl (.inr (.inr z))
        · exact .inr z
    rw [e2] at R6
    have la : pc ≠ some a := (nw a (List.mem_cons_self ..)).2.2
    have ea3 : H3 a = some (.lst (as.map V.ref)) := g23 _ _ la L2'.out
    have eup : (upd H3 p (.lst [])) a = some (.lst (as.map V.ref)) := by rw [upd_ne (Ne.symm hpa)]; exact ea3
    have R7 := R6.turnF (a := a) (o := .lst (as.map V.ref ++ [.ref p])) (.inr (List.mem_cons_self)) la (nw a (List.mem_cons_self ..)).2.1
    have hln : as.length = i := by rw [L2'.len, List.length_replicate]
    refine ⟨as.map V.ref, eup, by rw [List.length_map, hln]; exact Nat.lt_of_lt_of_le (show i < 2000 by omega) (by decide), as ++ [p], R7, ⟨by rw [upd_same, List.map_append] <;> rfl, by rw [List.length_append, List.length_replicate, hln] <;> rfl, fun j q ds f1 f2 => ?_, ?_, fun z => ?_⟩, fun q hq => ?_, fun b o nb z => ?_⟩
    · have hds : ds = [] := by
        rw [List.getElem?_replicate] at f2
        split at f2
        · cases f2; rfl
        · cases f2
      subst hds
      rw [List.getElem?_append] at f1
      split at f1
      · next hj =>
        obtain ⟨vs, q1, q2, q3⟩ := L2'.inn j q [] f1 (by rw [List.getElem?_replicate, if_pos (by rw [← hln]; exact hj)])
        have hqas := List.mem_of_getElem? f1
        have hqa : q ≠ a := fun z => L2'.na (by rw [← z]; exact hqas)
        have hqp : q ≠ p := fun z => hpas (by rw [← z]; exact hqas)
        exact ⟨vs, by rw [upd_ne hqa, upd_ne hqp]; exact g23 _ _ (nw q (List.mem_cons_of_mem _ hqas)).2.2 q1, q2, by cases q3; exact .nil⟩
      · have hq : q = p := by
          obtain ⟨h1, h2⟩ := List.getElem?_eq_some_iff.mp f1
          rw [List.length_singleton] at h1
          have : j - as.length = 0 := by omega
          simp only [this] at h2
          exact h2.symm
        subst hq
        exact ⟨[], by rw [upd_ne hpa, upd_same], Nat.zero_le _, .nil⟩
    · rw [List.nodup_append]
      refine ⟨L2'.nd, by simp, fun x hx y hy => ?_⟩
      rw [List.mem_singleton.mp hy]
      exact fun z => hpas (by rw [← z]; exact hx)
    · rcases List.mem_append.mp z with z | z
      · exact L2'.na z
      · exact hpa (List.mem_singleton.mp z).symm
    · rcases List.mem_cons.mp hq with rfl | hq
      · exact nw q (List.mem_cons_self ..)
      · rcases List.mem_append.mp hq with hq | hq
        · exact nw q (List.mem_cons_of_mem _ hq)
        · rw [List.mem_singleton.mp hq]
          exact ⟨(g2.trans g23).none fr5.2.1 hp, fr5.2.2, fr5.2.1⟩
    · have hba : b ≠ a := fun q => by rw [q, (nw a (List.mem_cons_self ..)).1] at z; cases z
      have z3 := (g2.trans g23) b o nb z
      have hbp : b ≠ p := fun q => by rw [q, hp] at z3; cases z3
      rw [upd_ne hba, upd_ne hbp]; exact z3
  · have e0 : i = (n + 1).toNat := by omega
    subst e0
    refine .inl ⟨?_, ?_⟩
    · have := wk.stops H2 pc _ R2.pinned
      rwa [hlen] at this
    · have hn0 : ∀ p ∈ a :: as, H p = none := fun p hp => gr.none (nw p hp).2.2 (nw p hp).1
      have hd2 : ∀ p ∈ a :: as, H2 p ≠ none := fun p hp => by
        rcases List.mem_cons.mp hp with rfl | hp
        · rw [L2'.out]; simp
        · obtain ⟨j, hj, hje⟩ := List.mem_iff_getElem.mp hp
          have hjr : (List.replicate (n + 1).toNat ([] : List D))[j]? = some [] := by rw [List.getElem?_replicate, if_pos (by rw [← List.length_replicate (n := (n + 1).toNat) (a := ([] : List D)), ← L2'.len]; exact hj)]
          obtain ⟨vs, q1, _⟩ := L2'.inn j p [] (by rw [List.getElem?_eq_getElem hj, hje]) hjr
          rw [q1]; simp
      refine k a as H2 (R.forbidL hn0 (gr.trans g2) R2.cup hd2) L2' fun p hp => ⟨hn0 p hp, (nw p hp).2.1, (nw p hp).2.2, fun z => R.dom p z (hn0 p hp)⟩

/-- the second loop, the return -/
theorem rbo_read {src2 : SI} {fsum : SE} {src : SI} (hn : ∀ (ε : En) (c : Cup) (n : Int), ε[0]? = some (some (.fz (.int n))) → n ≤ 1000 ∧ -1000 ≤ n → src ε c = some (rangeD 0 (n + 1).toNat, c))
    (h2 : ∀ (ε : En) (c : Cup) (n : Int), ε[0]? = some (some (.fz (.int n))) → src2 ε c = iVal (fun _ c => m [.int n] c) ε c)
    (h3 : ∀ (ε : En) (c : Cup) (d : D) (ds : List D) (ns : List Int), ε[2]? = some (some (.fz d)) → d = .tup ds → intsOf ds = some ns → fsum ε c = some (.int ns.sum, c)) :
    ∀ E σ H, tS W (uRbo m) E σ H → tSeq (tAsg (tLc (iS W src) (gName 3) (tT W fun _ c => some (true, c)) (tLst tNil) [3]) (gName 1))
      (tSeq (tFor (iS W src2) (gName 2) (tDrop (tBM X.K "list" rAppend (tOp (rIxL X.K) (tVar 1) (tE W fsum)) (tA W (lCons (eVar 2) lNil))))) (tRet (tVar 1))) E σ H := fun E σ H ⟨pc, F0, H0, ps, ε, c, o, R, ef, k⟩ => by
  unfold uRbo at ef
  split at ef
  · rename_i n
    split at ef
    · next hb =>
      split at ef
      · next rows c1 e1 =>
        split at ef
        · next dss e2 =>
          cases ef
          show tLc (iS W src) (gName 3) (tT W fun _ c => some (true, c)) (tLst tNil) [3] σ H fun x H1 => gName 1 x σ H1 ((tSeq (tFor (iS W src2) (gName 2) (tDrop (tBM X.K "list" rAppend (tOp (rIxL X.K) (tVar 1) (tE W fsum)) (tA W (lCons (eVar 2) lNil))))) (tRet (tVar 1))) E)
          refine rbo_first (W := W) (src := src) hn hb R fun a as H2 R2 L2' nw => ?_
          have R3 := R2.raw (i := 1) (x := some (.ref a)) rfl
          have s1 : (σ.set 1 (some (.ref a)))[1]? = some (some (V.ref a)) := set_eq (by rw [R2.len]; show 1 < 4; decide)
          show tFor _ _ _ _ _ _
          obtain ⟨ds, ed⟩ : ∃ ds, iVal (fun _ c => m [.int n] c) [some (.fz (.int n)), none, none, none] c = some (ds, c1) ∧ ds = rows := ⟨rows, by simp only [iVal, e1, itemsOf], rfl⟩
          obtain ⟨ed, rfl⟩ := ed
          refine ⟨pc, _, H0, ps, _, c, ds, c1, R3, by rw [h2 _ _ n rfl]; exact ed, fun J H3 qs gr cu pn wk => ?_⟩
          have R4 : Rl W pc (fun b => F0 b ∨ b ∈ a :: as) H0 (qs ++ ps) [some (.fz (.int n)), none, none, none] c1 (σ.set 1 (some (.ref a))) H3 := (R3.step gr cu).pins pn
          have kp : ∀ p o, p = a ∨ p ∈ as → ∀ H5 H6, Grow pc H5 H6 → H5 p = some o → H6 p = some o := fun p o hp H5 H6 g e => g p o (nw p (by rcases hp with rfl | hp <;> simp [*])).2.2.1 e
          have L3 : Lol W pc (fun b => F0 b ∨ b ∈ a :: as) H3 a as (List.replicate (n + 1).toNat []) := L2'.mono (gr.gf fun p hp => .inl (R.pcF p hp)) fun p o hp e => kp p o hp _ _ gr e
          refine ⟨fun i mm σ H => mm = ds.length - i ∧ i ≤ ds.length ∧ ∃ ess, addRows ess (ds.drop i) = some dss ∧ ess.length = (n + 1).toNat ∧ RbJ W pc F0 H0 (qs ++ ps) n c1 a as ess σ H, ⟨ds.length, by simp, Nat.zero_le _, _, by simpa using e2, by rw [List.length_replicate], ⟨none, .inl rfl, R4, s1, L3⟩⟩, ?_⟩
          rintro i mm σ5 H5 ⟨rfl, hi2, ess, ea, hel, ⟨x, hx, R5, s5, L5⟩⟩
          have hno := no_ow4 (n := n) hx
          by_cases hlt : i < ds.length
          · refine .inr ⟨wk.goes i H5 pc _ R5.pinned hlt, fun σ' H' => ∃ ess, addRows ess (ds.drop (i + 1)) = some dss ∧ ess.length = (n + 1).toNat ∧ RbJ W pc F0 H0 (qs ++ ps) n c1 a as ess σ' H', fun σ' H' ⟨ess', q1, q2, q3⟩ => ⟨ds.length - (i + 1), by omega, rfl, hlt, ess', q1, q2, q3⟩, fun y H' yy => ?_⟩
            have hd : ds[i]? = some ds[i] := List.getElem?_eq_getElem hlt
            obtain ⟨sm, ry⟩ := wk.yields i H5 H' y _ pc _ R5.pinned R5.foDom hd yy
            have R6 := R5.same sm
            rw [List.drop_eq_getElem_cons hlt] at ea
            unfold addRows at ea
            have hg : gN 2 ds[i] [some (.fz (.int n)), none, x, none] = some [some (.fz (.int n)), none, some (.fz ds[i]), none] := by
              rcases hx with rfl | ⟨d', rfl⟩ <;> rfl
            refine gN_ok (i := 2) pc _ H0 (qs ++ ps) _ c1 σ5 H' ds[i] y _ _ R6 ry hg fun σ6 R7 tch fo => ?_
            have s6 : σ6[1]? = some (some (V.ref a)) := by
              have h1 := tch [2] (by simp)
              have h2 : (wipe σ6 [2])[1]? = (wipe σ5 [2])[1]? := by rw [h1]
              rw [wipe_get, wipe_get, if_neg (by decide), if_neg (by decide)] at h2
              rw [h2]; exact s5
            cases e3 : addRow ess ds[i] with
            | none => rw [e3] at ea; cases ea
            | some ess' =>
              rw [e3] at ea
              have hes := addRow_len e3
              unfold addRow at e3
              split at e3
              · next ts heq =>
                split at e3
                · next ns hns =>
                  split at e3
                  · next j hj =>
                    split at e3
                    · next l hjl =>
                      split at e3
                      · next hll =>
                        cases e3
                        have g5 : Grow pc H5 H' := same_grow sm
                        refine ⟨.ref a, s6, pc, _, H0, qs ++ ps, _, c1, .int ns.sum, c1, R7, h3 _ _ ds[i] ts ns rfl heq hns, fun v H7 g7 cu7 rv => ?_⟩
                        cases rv
                        have g57 := g5.trans g7
                        have L7 : Lol W pc (fun b => F0 b ∨ b ∈ a :: as) H7 a as ess := L5.mono (g57.gf fun p hp => .inl (R.pcF p hp)) fun p o hp e => kp p o hp _ _ g57 e
                        have hja : j < as.length := by rw [L7.len]; exact (List.getElem?_eq_some_iff.mp hjl).1
                        have eaj : as[j]? = some as[j] := List.getElem?_eq_getElem hja
                        have hmem : as[j] ∈ as := List.getElem_mem hja
                        have nwj := nw as[j] (List.mem_cons_of_mem _ hmem)
                        obtain ⟨vs, q1, q2, q3⟩ := L7.inn j as[j] l eaj hjl
                        have R8 := R7.step g7 cu7
                        refine ⟨a, as.map V.ref, ns.sum, .ref as[j], rfl, rfl, .inl (.inl L7.out), ?_, .inl ⟨rfl, vs, .inl (.inl q1)⟩, pc, _, H0, qs ++ ps, _, c1, [ds[i]], c1, R8, rfl, fun us H8 g8 cu8 rs => ?_⟩
                        · show (ixN (as.map V.ref).length ns.sum).bind (fun j => (as.map V.ref)[j]?) = _
                          rw [List.length_map, L7.len, hj]
                          show (as.map V.ref)[j]? = _
                          rw [List.getElem?_map, eaj] <;> rfl
                        · cases rs with
                          | @cons _ _ v0 _ r rs =>
                            cases rs
                            have L8 : Lol W pc (fun b => F0 b ∨ b ∈ a :: as) H8 a as ess := L7.mono (g8.gf fun p hp => .inl (R.pcF p hp)) fun p o hp e => kp p o hp _ _ g8 e
                            obtain ⟨vs8, p1, p2, p3⟩ := L8.inn j as[j] l eaj hjl
                            have big : (1000000 : Nat) ≤ sizeLine := by decide
                            refine ⟨as[j], vs8, v0, rfl, rfl, p1, by rw [← p3.length]; omega, ?_⟩
                            have hF : ∀ p ∈ as, (fun b => F0 b ∨ b ∈ a :: as) p := fun p hp => .inr (List.mem_cons_of_mem _ hp)
                            have R9 := (R8.step g8 cu8).turnF (a := as[j]) (o := .lst (vs8 ++ [v0])) (hF _ hmem) nwj.2.2.1 nwj.2.1
                            have r' := r.mono (F' := fun b => F0 b ∨ b ∈ a :: as) (fun _ _ _ e => e) fun b z => (fo_no (no_ow4 (n := n) (x := some (.fz ds[i])) (.inr ⟨_, rfl⟩)) b).mpr z
                            exact ⟨_, ea, by rw [hes]; exact hel, ⟨some (.fz ds[i]), .inr ⟨_, rfl⟩, R9, s6, L8.app hF eaj hjl p1 p3 hll r'⟩⟩
                      · cases e3
                    · cases e3
                  · cases e3
                · cases e3
              · cases e3
          · have e0 : i = ds.length := by omega
            subst e0
            rw [List.drop_length] at ea
            cases ea
            refine .inl ⟨wk.stops H5 pc _ R5.pinned, .ref a, s5, ?_⟩
            refine k _ H5 R5.grow R5.cup ?_
            have hsl : dss.length ≤ sizeLine := by
              rw [hel]
              have : (2000 : Nat) ≤ sizeLine := by decide
              omega
            exact L5.rep (fun b z => .inl z) (nw a (List.mem_cons_self ..)).2.2.2 (fun p hp => (nw p (List.mem_cons_of_mem _ hp)).2.2.2) hsl
        · cases ef
      · cases ef
    · cases ef
  · cases ef
end
end TT

set_option Elab.async false
set_option linter.all false
set_option maxRecDepth 100000
set_option maxHeartbeats 4000000
namespace TT
open PySem PySem.Spec PyProof.Rows L2 PySem.W

/-! ### defs by name -/
structure OkD (P : Program) (w : World) (W : Wd) (mg : Str → Option Value) (base : Heap) (x : Str) (lv : Nat) (pms : List Str) (m : Mi) : Prop where
  ex : ∃ f fd, mg x = some (.ref f) ∧ PySem.W.keepIn W.K (.ref f) = true ∧ Binds W.K fd pms [] ∧ FnOk P w W.K mg base CX0 lv f fd pms (spM W m pms.length)
theorem OkD.mono {P : Program} {w : World} {W : Wd} {mg : Str → Option Value} {base : Heap} {x : Str} {lv k : Nat} {pms : List Str} {m : Mi} (G : OkD P w W mg base x lv pms m) (h : lv ≤ k) : OkD P w W mg base x k pms m :=
  ⟨let ⟨f, fd, h1, h2, h3, h4⟩ := G.ex; ⟨f, fd, h1, h2, h3, h4.mono h⟩⟩
section
variable {X : Cx} {W : Wd} {x : Str} {lv k : Nat} {pms : List Str} {m : Mi} {e : Expr} {es : List Expr} {pos p : Pos} {fs : SL}
theorem d_callO (G : OkD X.prog X.w W X.mg X.base x lv pms m) (hK : X.K = W.K) (hle : lv ≤ k) (hr : Room k X.A) (hg : Gl X x) (ha : PA X (e :: es) (tA W fs)) (al : Al pms.length fs) (hdb : (x == ("__debug__" : Str)) = false := by decide)
    (he : starEach (e :: es) X.env = (false, eval e X.env) :: starEach es X.env := by rfl) (hpl : (backTo pos (starEach es X.env)).any (·.1) = false := by rfl) : PE X (.Call (.Name x p) (e :: es) [] pos) (tE W (eCall m fs)) := by
  obtain ⟨f, fd, h1, h2, h3, h4⟩ := G.ex
  rw [← hK] at h2 h3 h4
  exact d_call h4 (hr.mono hle) hg h1 h2 h3 ha al hdb he hpl
end
theorem s_never {X : Cx} {W : Wd} {body : List Stmt} : PSs X body (tS W sNo) := ⟨fun pins s σ H E I ⟨pc, F0, H0, ps, ε, c, o, R, ef, k⟩ => by cases ef⟩
theorem okd {P : Program} {w : World} {mg : Str → Option Value} {base : Heap} {W : Wd} {x qual : Str} {params : Arguments} {body : List Stmt} {scope : Scope} {f : Addr} {fd : FuncData} {N pms : List Str} {k : Nat} {u : SS}
    (F : FunD W.K x qual params body scope [] [] f fd) (hm : mg x = some (.ref f)) (S : FnScope N pms scope) (hb : Binds W.K fd pms [])
    (hbody : ∀ (cdv : Value) (A : Around) (outer : List Env) (s : Shared) (H : Hp) (E : XK), Room k (A.deeper (envOfC qual scope s.heap.objs.size f cdv)) → PSs (cxOf CX0 P w W.K mg base N qual scope f cdv A outer s H E).nox body (tS W u)) :
    OkD P w W mg base x (k + 1) pms (runB N.length u) := ⟨f, fd, hm, F.kp, hb, def_ok F S hbody⟩
/-- a def of which nothing is promised -/
theorem okd0 {P : Program} {w : World} {mg : Str → Option Value} {base : Heap} {W : Wd} {x qual : Str} {params : Arguments} {body : List Stmt} {scope : Scope} {f : Addr} {fd : FuncData} {N pms : List Str} {k : Nat}
    (F : FunD W.K x qual params body scope [] [] f fd) (hm : mg x = some (.ref f)) (S : FnScope N pms scope) (hb : Binds W.K fd pms []) : OkD P w W mg base x (k + 1) pms (fun _ _ => none) := by
  obtain ⟨f', fd', h1, h2, h3, h4⟩ := (okd (P := P) (w := w) (base := base) (k := k) (u := sNo) F hm S hb fun _ _ _ _ _ _ _ => s_never).ex
  refine ⟨f', fd', h1, h2, h3, h4.imp fun vs H Q E ⟨pc, F, c, ds, d, c', _, _, _, _, _, e, _⟩ => by cases e⟩

/-! ### the cup is made -/
def spCup (W : Wd) (g : List Int → Cup) : Sp := fun vs H Q _ => ∃ (ns : List Int) (v : V), vs = [v] ∧ Rep W none (fun _ => False) H (.scr ns) v ∧
  ∀ p H', Grow none H H' → H p = none → H' p = some (.lst [.int (g ns).1, .int (g ns).2]) → Q (.ref p) H'
theorem cup_ok {P : Program} {w : World} {mg : Str → Option Value} {base : Heap} {W : Wd} {x qual px : Str} {params : Arguments} {st : Stmt} {e : Expr} {pos : Pos} {scope : Scope} {f : Addr} {fd : FuncData} {N : List Str} {k : Nat} {u : SS} {fe : SE} {g : List Int → Cup}
    (F : FunD W.K x qual params [st, .Return (some e) pos] scope [] [] f fd) (S : FnScope N [px] scope)
    (hst : ∀ (cdv : Value) (A : Around) (outer : List Env) (s : Shared) (H : Hp) (E : XK), Room k (A.deeper (envOfC qual scope s.heap.objs.size f cdv)) → PS (cxOf CX0 P w W.K mg base N qual scope f cdv A outer s H E).nox st (tS W u) ∧ PE (cxOf CX0 P w W.K mg base N qual scope f cdv A outer s H E).nox e (tN W fe))
    (hg : ∀ ns : List Int, ns.length ≤ 63 → ∃ ε c1 c2, u (startD N.length [.scr ns]) (0, 0) = some (.nx ε c1) ∧ fe ε c1 = some (.lst [.int (g ns).1, .int (g ns).2], c2)) :
    FnOk P w W.K mg base CX0 (k + 1) f fd [px] (spCup W g) := by
  refine F.ok S (fun vs H Q E h => ?_) (fun cdv A outer s H vs Q E hr h => ⟨_, PSs.nox (pss_cons (hst cdv A outer s H E hr).1 (pss_one (ps_ret (hst cdv A outer s H E hr).2))), ?_⟩)
  · obtain ⟨ns, v, rfl, _⟩ := h
    rfl
  · obtain ⟨ns, v, rfl, r, q⟩ := h
    have hl : ns.length ≤ 63 := by
      cases r with
      | scr _ _ l => exact l
      | scrK _ l => exact l
    obtain ⟨ε, c1, c2, e1, e2⟩ := hg ns hl
    have R := start_rl (N := N) (W := W) (pc := none) (F := fun _ => False) (H := H) (c := (0, 0)) (.cons r .nil) (fun _ z => z.elim) (fun _ z => by cases z) (fun _ z => by cases z)
    refine ⟨none, _, H, [], _, (0, 0), _, R, e1, fun σ1 H1 R1 => ⟨none, _, H, [], ε, c1, _, c2, R1, e2, fun a H2 gr cu hn o => ?_⟩⟩
    obtain ⟨xs, ea, _, rs⟩ := o
    cases rs with
    | cons r1 rs =>
      cases rs with
      | cons r2 rs =>
        cases rs
        cases r1
        cases r2
        exact q a H2 (R1.grow.trans gr) (R1.grow.none (by simp) hn) ea
/-- the law's promise -/
def spLaw (W : Wd) : Sp := fun vs H Q _ => ∃ (ns : List Int) (v : V), vs = [v] ∧ Rep W none (fun _ => False) H (.scr ns) v ∧ ∀ H', Q (.bl true) H'
theorem law_ok {P : Program} {w : World} {mg : Str → Option Value} {base : Heap} {W : Wd} {x qual px y cx : Str} {params : Arguments} {p1 p2 p3 p4 pos : Pos} {rest : List Stmt} {scope : Scope} {f fc : Addr} {fd fdc : FuncData} {N : List Str} {k kc : Nat} {u : SS} {g : List Int → Cup}
    (F : FunD W.K x qual params (.Assign [.Name cx p1] (.Call (.Name y p2) [.Name px p3] [] p4) pos :: rest) scope [] [] f fd) (S : FnScope N [px] scope)
    (G : FnOk P w W.K mg base CX0 kc fc fdc [px] (spCup W g)) (hkc : kc ≤ k) (hm : mg y = some (.ref fc)) (hkp : PySem.W.keepIn W.K (.ref fc) = true) (hb : Binds W.K fdc [px] [])
    (hN0 : N[0]? = some px) (hN1 : N[1]? = some cx)
    (hst : ∀ (cdv : Value) (A : Around) (outer : List Env) (s : Shared) (H : Hp) (E : XK), Room k (A.deeper (envOfC qual scope s.heap.objs.size f cdv)) →
      PS (cxOf CX0 P w W.K mg base N qual scope f cdv A outer s H E).nox (.Assign [.Name cx p1] (.Call (.Name y p2) [.Name px p3] [] p4) pos) (tAsg (tCall (spCup W g) [] E0 (tCons (tVar 0) tNil)) (gName 1)) ∧
      PSs (cxOf CX0 P w W.K mg base N qual scope f cdv A outer s H E).nox rest (tS W u))
    (hlaw : ∀ ns : List Int, ns.length ≤ 63 → ∃ c, u ([some (.fz (.scr ns)), some (.fz .cup)] ++ List.replicate (N.length - 2) none) (g ns) = some (.rt (.bl true) c)) :
    FnOk P w W.K mg base CX0 (k + 1) f fd [px] (spLaw W) := by
  have hn2 : 2 ≤ N.length := (List.getElem?_eq_some_iff.mp hN1).1
  refine F.ok S (fun vs H Q E h => ?_) (fun cdv A outer s H vs Q E hr h => ⟨_, PSs.nox (pss_cons (hst cdv A outer s H E hr).1 (hst cdv A outer s H E hr).2), ?_⟩)
  · obtain ⟨ns, v, rfl, _⟩ := h
    rfl
  · obtain ⟨ns, v, rfl, r, q⟩ := h
    have hl : ns.length ≤ 63 := by
      cases r with
      | scr _ _ l => exact l
      | scrK _ l => exact l
    obtain ⟨c, e1⟩ := hlaw ns hl
    obtain ⟨n, hn⟩ : ∃ n, N.length = n + 2 := ⟨N.length - 2, by omega⟩
    have hs0 : L2.start N [v] = some v :: none :: List.replicate n none := by
      unfold L2.start
      rw [hn]
      rfl
    show tCall (spCup W g) [] E0 (tCons (tVar 0) tNil) (L2.start N [v]) H fun x H1 => gName 1 x (L2.start N [v]) H1 (tS W u { nx := fun _ H' => Q .non H', rt := Q })
    refine ⟨v, by rw [hs0] <;> rfl, ?_⟩
    refine (show spCup W g [v] H (fun x H1 => gName 1 x (L2.start N [v]) H1 (tS W u { nx := fun _ H' => Q .non H', rt := Q })) E0 from ?_)
    refine ⟨ns, v, rfl, r, fun p H' gr hp ep => ?_⟩
    show tS W u _ ((L2.start N [v]).set 1 (some (.ref p))) H'
    have e2 : (L2.start N [v]).set 1 (some (.ref p)) = some v :: some (.ref p) :: List.replicate n none := by rw [hs0] <;> rfl
    rw [e2]
    have hr2 : N.length - 2 = n := by omega
    rw [hr2] at e1
    have eε : ([some (.fz (.scr ns)), some (.fz .cup)] ++ List.replicate n none : En) = some (.fz (.scr ns)) :: some (.fz .cup) :: List.replicate n none := rfl
    rw [eε] at e1
    have noow : ∀ (j : Nat) (d : D), (some (.fz (.scr ns)) :: some (.fz .cup) :: List.replicate n none : En)[j]? ≠ some (some (.ow d)) := fun j d z => by
      match j with
      | 0 => cases z
      | 1 => cases z
      | j + 2 =>
        simp only [List.getElem?_cons_succ, List.getElem?_replicate] at z
        split at z <;> cases z
    have gp : GrowF (fun _ => False) H H' := fun a o _ e => gr a o (by simp) e
    have r' : Rep W (some p) (fun b => b = p) H' (.scr ns) v := by
      cases r with
      | scr nf sq l =>
        refine .scr (fun z => ?_) (gp.rd nf sq) l
        rcases sq with sq | ⟨o, sq⟩
        · rw [z, hp] at sq; cases sq
        · rw [z, hp] at sq; cases sq
      | scrK sq l => exact .scrK sq l
    refine ⟨some p, fun b => b = p, H', [], some (.fz (.scr ns)) :: some (.fz .cup) :: List.replicate n none, g ns, _, ?_, e1, fun v' H2 _ _ rv => ?_⟩
    · refine ⟨by simp, fun a e => by rw [e, ep]; simp, fun a e => by cases e; rfl, Grow.refl, fun a e => by cases e; exact ep, fun j d e => ?_, fun j d e => absurd e (noow j d), fun x hx => by simp at hx, fun i j d e a h1 => absurd h1 (noow i d)⟩
      have fo := fo_no (F := fun b => b = p) (σ := some v :: some (.ref p) :: List.replicate n none) noow
      match j with
      | 0 => cases e; exact ⟨v, rfl, r'.mono (fun _ _ _ e => e) fun b z => (fo b).mp z⟩
      | 1 => cases e; exact ⟨.ref p, rfl, .cup rfl⟩
      | j + 2 =>
        simp only [List.getElem?_cons_succ, List.getElem?_replicate] at e
        split at e <;> cases e
    · cases rv
      exact q H2

/-! ### what stands among the names -/
/-- a tuple of ints, of texts, in the written part -/
def kTupB (K : PySem.W.Frag) (x : Str) (ok : List Value → Bool) : Bool := match K.lookup (He.ga K x) with
  | some ⟨.type c, none, .seq its _, _⟩ => decide (c = "tuple") && (decide (its.size ≤ 1000) && ok its.toList)
  | _ => false
def okInts : List Int → List Value → Bool
  | [], [] => true
  | n :: ns, .int m _ :: vs => decide (n = m) && okInts ns vs
  | _, _ => false
def okStrs : List (List Nat) → List Value → Bool
  | [], [] => true
  | n :: ns, .str m _ :: vs => decide (m = ⟨n.toArray⟩) && okStrs ns vs
  | _, _ => false
theorem okInts_vals : ∀ {ns : List Int} {vs : List Value}, okInts ns vs = true → Vals (ns.map V.int) vs
  | [], [], _ => .nil
  | [], _ :: _, h => by simp [okInts] at h
  | n :: ns, [], h => by simp [okInts] at h
  | n :: ns, v :: vs, h => by
    cases v <;> simp only [okInts, Bool.false_eq_true, Bool.and_eq_true, decide_eq_true_eq] at h
    obtain ⟨rfl, h⟩ := h
    exact .cons ⟨_, rfl⟩ (okInts_vals h)
theorem okStrs_vals : ∀ {ns : List (List Nat)} {vs : List Value}, okStrs ns vs = true → Vals (ns.map fun s => V.str ⟨s.toArray⟩) vs
  | [], [], _ => .nil
  | [], _ :: _, h => by simp [okStrs] at h
  | n :: ns, [], h => by simp [okStrs] at h
  | n :: ns, v :: vs, h => by
    cases v <;> simp only [okStrs, Bool.false_eq_true, Bool.and_eq_true, decide_eq_true_eq] at h
    obtain ⟨rfl, h⟩ := h
    exact .cons ⟨_, rfl⟩ (okStrs_vals h)
theorem kTup_of {K : PySem.W.Frag} {x : Str} {ok : List Value → Bool} (h : kTupB K x ok = true) : ∃ (o : Obj) (its : Array Value) (n : Nat), K.lookup (He.ga K x) = some o ∧ o.cls = .type "tuple" ∧ o.dict = none ∧ o.data = .seq its n ∧ its.size ≤ sizeLine ∧ ok its.toList = true := by
  unfold kTupB at h
  split at h
  · next c its n sl e =>
    simp only [Bool.and_eq_true, decide_eq_true_eq] at h
    obtain ⟨rfl, h1, h2⟩ := h
    exact ⟨_, its, n, e, rfl, rfl, rfl, Nat.le_trans h1 (by decide), h2⟩
  · cases h
theorem kInts_of {K : PySem.W.Frag} {x : Str} {ns : List Int} (h : kTupB K x (okInts ns) = true) : KInts K (He.ga K x) ns := by
  obtain ⟨o, its, n, h1, h2, h3, h4, h5, h6⟩ := kTup_of h
  exact ⟨o, its, n, h1, h2, h3, h4, h5, okInts_vals h6⟩
theorem kInts_rep {W : Wd} {a : Addr} {ns : List Int} (h : KInts W.K a ns) (hl : ns.length ≤ 1000) : ∀ pc F H, Rep W pc F H (.tup (ns.map D.int)) (.ref a) := fun pc F H => by
  obtain ⟨o, its, n, h1, h2, h3, h4, h5, h6⟩ := h
  exact .tupK ⟨o, its, n, h1, h2, h4, h5, h6⟩ (by rw [List.length_map]; exact Nat.le_trans hl (by decide)) (reps_ints ns)
theorem reps_strs {W : Wd} {pc : Pc} {F : Fb} {H : Hp} : ∀ ns : List (List Nat), (∀ s ∈ ns, s.length ≤ 1000) → Reps W pc F H (ns.map D.str) (ns.map fun s => V.str ⟨s.toArray⟩)
  | [], _ => .nil
  | n :: ns, h => .cons (.str n (Nat.le_trans (h n (List.mem_cons_self ..)) (by decide))) (reps_strs ns fun s hs => h s (List.mem_cons_of_mem _ hs))
theorem kStrs_rep {W : Wd} {x : Str} {ns : List (List Nat)} (h : kTupB W.K x (okStrs ns) = true) (hl : ns.length ≤ 1000) (hs : ∀ s ∈ ns, s.length ≤ 1000) : ∀ pc F H, Rep W pc F H (.tup (ns.map D.str)) (.ref (He.ga W.K x)) := fun pc F H => by
  obtain ⟨o, its, n, h1, h2, h3, h4, h5, h6⟩ := kTup_of h
  exact .tupK ⟨o, its, n, h1, h2, h4, h5, okStrs_vals h6⟩ (by rw [List.length_map]; exact Nat.le_trans hl (by decide)) (reps_strs ns hs)
section
variable {X : Cx} {W : Wd} {x : Str} {pos : Pos}
theorem d_gint {i : Int} (hg : Gl X x) (hm : ∃ t, X.mg x = some (.int i t)) (hd : (x == ("__debug__" : Str)) = false := by decide) : PE X (.Name x pos) (tE W (eC (.int i))) := by
  obtain ⟨t, hm⟩ := hm
  exact d_glob (v := .int i) hg hm ⟨t, rfl⟩ (fun _ _ _ => .int i) hd
theorem d_gstr {z : Str} (s : List Nat) (hg : Gl X x) (hm : ∃ t, X.mg x = some (.str z t)) (he : z = ⟨s.toArray⟩ := by decide +kernel) (hl : s.length ≤ sizeLine := by decide) (hd : (x == ("__debug__" : Str)) = false := by decide) : PE X (.Name x pos) (tE W (eC (.str s))) := by
  obtain ⟨t, hm⟩ := hm
  subst he
  exact d_glob (v := .str ⟨s.toArray⟩) hg hm ⟨t, rfl⟩ (fun _ _ _ => .str s hl) hd
theorem d_gtup {a : Addr} {ds : List D} (hg : Gl X x) (hm : X.mg x = some (.ref a)) (h : ∀ pc F H, Rep W pc F H (.tup ds) (.ref a)) (hd : (x == ("__debug__" : Str)) = false := by decide) : PE X (.Name x pos) (tE W (eC (.tup ds))) := d_glob (v := .ref a) hg hm rfl h hd
end
end TT

set_option Elab.async false
set_option linter.all false
set_option maxRecDepth 100000
set_option maxHeartbeats 4000000
namespace TT
open PySem PySem.Spec PyProof.Rows L2 PySem.W
section
variable {X : Cx} {W : Wd} {fs : SL}
def notOw (ε : En) (i : Nat) : Bool := match ε[i]? with
  | some (some (.ow _)) => false
  | _ => true
/-- a, b = x, y -/
def sPar (i j : Nat) (fs : SL) : SS := fun ε c => match fs ε c with
  | some ([d, e], c1) => if notOw ε i && notOw ε j then some (.nx ((ε.set i (some (.fz d))).set j (some (.fz e))) c1) else none
  | _ => none
def sPar3 (i j l : Nat) (fs : SL) : SS := fun ε c => match fs ε c with
  | some ([d, e, g], c1) => if notOw ε i && notOw ε j && notOw ε l then some (.nx (((ε.set i (some (.fz d))).set j (some (.fz e))).set l (some (.fz g))) c1) else none
  | _ => none
theorem Rl.setFz' {pc : Pc} {F0 : Fb} {H0 H : Hp} {ps : List (D × V)} {ε : En} {c : Cup} {σ : L2.St} {i : Nat} {d : D} {v : V} {F : Fb} (R : Rl W pc F0 H0 ps ε c σ H) (no : notOw ε i = true) (hF : ∀ a, F a ↔ Fo F0 ε σ a) (r : Rep W pc F H d v) :
    Rl W pc F0 H0 ps (ε.set i (some (.fz d))) c (σ.set i (some v)) H ∧ ∀ a, F a ↔ Fo F0 (ε.set i (some (.fz d))) (σ.set i (some v)) a := by
  refine ⟨R.setFz (r.mono (fun _ _ _ z => z) fun a z => (hF a).mpr z), fun a => (hF a).trans ⟨fun z => ?_, fun z => ?_⟩⟩
  · rcases z with z | ⟨j, x, h1, h2⟩
    · exact .inl z
    · have n : i ≠ j := fun q => by
        subst q
        unfold notOw at no
        rw [h1] at no
        cases no
      exact .inr ⟨j, x, by rw [set_ne n]; exact h1, by rw [set_ne n]; exact h2⟩
  · exact fo_fz a z
theorem notOw_set {ε : En} {i j : Nat} {d : D} (h : notOw ε j = true) : notOw (ε.set i (some (.fz d))) j = true := by
  unfold notOw at h ⊢
  by_cases e : i = j
  · subst e
    by_cases hl : i < ε.length
    · rw [List.getElem?_set_self hl]
    · rw [List.getElem?_eq_none (by rw [List.length_set]; omega)]
  · rw [List.getElem?_set_ne e]; exact h
theorem s_par (i j : Nat) {x y : Str} {a b : Expr} {px py pt pos : Pos} {kt k2 pt2} (hc : X.calm = true) (hN : X.N.Nodup) (ha : PA X [a, b] (tA W fs)) (hij : i ≠ j := by decide) (hi : X.N[i]? = some x := by rfl) (hj : X.N[j]? = some y := by rfl)
    (hx : X.env.scope.names.lookup x = some .local := by rfl) (hy : X.env.scope.names.lookup y = some .local := by rfl)
    (hw : swappedStores [.Tuple [.Name x px, .Name y py] kt pt] (.Tuple [a, b] k2 pt2) X.env = pure (some [x, y]) := by rfl)
    (hs : swapsWithSole [.Tuple [.Name x px, .Name y py] kt pt] (.Tuple [a, b] k2 pt2) pos.line X.env = pure false := by rfl) :
    PS X (.Assign [.Tuple [.Name x px, .Name y py] kt pt] (.Tuple [a, b] k2 pt2) pos) (tS W (sPar i j fs)) :=
  PS.imp (ps_par hc hN hi hj hij hx hy ha hw hs) fun E σ H ⟨pc, F0, H0, ps, ε, c, o, R, ef, k⟩ => by
    unfold sPar at ef
    split at ef
    · next d e c1 e1 =>
      split at ef
      · next hno =>
        cases ef
        rw [Bool.and_eq_true] at hno
        refine ⟨pc, F0, H0, ps, ε, c, [d, e], c1, R, e1, fun vs H1 g cu rs => ?_⟩
        have R1 := R.step g cu
        cases rs with
        | cons r rs =>
          cases rs with
          | cons r2 rs =>
            cases rs
            obtain ⟨R2, f2⟩ := R1.setFz' hno.1 (fun _ => Iff.rfl) r
            obtain ⟨R3, f3⟩ := R2.setFz' (notOw_set hno.2) f2 r2
            exact ⟨_, _, rfl, k _ _ R3⟩
      · cases ef
    · cases ef
theorem s_par3 (i j l : Nat) {x y z : Str} {a b g : Expr} {px py pz pt pos : Pos} {kt k2 pt2} (hc : X.calm = true) (hN : X.N.Nodup) (ha : PA X [a, b, g] (tA W fs)) (hij : i ≠ j := by decide) (hil : i ≠ l := by decide) (hjl : j ≠ l := by decide) (hi : X.N[i]? = some x := by rfl) (hj : X.N[j]? = some y := by rfl) (hl : X.N[l]? = some z := by rfl)
    (hx : X.env.scope.names.lookup x = some .local := by rfl) (hy : X.env.scope.names.lookup y = some .local := by rfl) (hz : X.env.scope.names.lookup z = some .local := by rfl)
    (hw : swappedStores [.Tuple [.Name x px, .Name y py, .Name z pz] kt pt] (.Tuple [a, b, g] k2 pt2) X.env = pure (some [x, y, z]) := by rfl)
    (hs : swapsWithSole [.Tuple [.Name x px, .Name y py, .Name z pz] kt pt] (.Tuple [a, b, g] k2 pt2) pos.line X.env = pure false := by rfl) :
    PS X (.Assign [.Tuple [.Name x px, .Name y py, .Name z pz] kt pt] (.Tuple [a, b, g] k2 pt2) pos) (tS W (sPar3 i j l fs)) :=
  PS.imp (ps_par3 hc hN hi hj hl hij hil hjl hx hy hz ha hw hs) fun E σ H ⟨pc, F0, H0, ps, ε, c, o, R, ef, k⟩ => by
    unfold sPar3 at ef
    split at ef
    · next d e g' c1 e1 =>
      split at ef
      · next hno =>
        cases ef
        rw [Bool.and_eq_true, Bool.and_eq_true] at hno
        refine ⟨pc, F0, H0, ps, ε, c, [d, e, g'], c1, R, e1, fun vs H1 g cu rs => ?_⟩
        have R1 := R.step g cu
        cases rs with
        | cons r rs =>
          cases rs with
          | cons r2 rs =>
            cases rs with
            | cons r3 rs =>
              cases rs
              obtain ⟨R2, f2⟩ := R1.setFz' hno.1.1 (fun _ => Iff.rfl) r
              obtain ⟨R3, f3⟩ := R2.setFz' (notOw_set hno.1.2) f2 r2
              obtain ⟨R4, f4⟩ := R3.setFz' (notOw_set (notOw_set hno.2)) f3 r3
              exact ⟨_, _, _, rfl, k _ _ R4⟩
      · cases ef
    · cases ef
end
def blkB (N : List Str) (sc scope : Scope) (own : List (Str × Nat)) : Bool :=
  decide (scope.kind = .function) && (decide (∀ y ∈ scope.names, scope.names.lookup y.1 = some y.2) && (decide (∀ p ∈ own, N[p.2]? = some p.1) && (decide (∀ y ∈ scope.names, y.2 = .free → sc.names.lookup y.1 = some .cell ∨ sc.names.lookup y.1 = some .free) &&
    decide (∀ y ∈ scope.names, y.2 = .local ∨ y.2 = .cell → y.1 ∈ own.map (·.1) ∨ y.1 ∉ N))))
theorem blk_of {N : List Str} {sc scope : Scope} {own : List (Str × Nat)} (h : blkB N sc scope own = true) : BlkOk N sc scope own := by
  unfold blkB at h
  simp only [Bool.and_eq_true, decide_eq_true_eq] at h
  exact ⟨h.1, h.2.1, h.2.2.1, h.2.2.2.1, h.2.2.2.2⟩
theorem w_pt {X : Cx} {e : Expr} {t : TT} (h : PW X e t) : PT X e t := PW.pt h
theorem g_tup2 {X : Cx} {W : Wd} (i j : Nat) {x y : Str} {p1 p2 pos : Pos} {k : Nat} (hK : X.K = W.K) (hc : X.calm = true) (hN : X.N.Nodup) (hi : X.N[i]? = some x := by rfl) (hj : X.N[j]? = some y := by rfl)
    (hx : Loc X.env.scope x := by first | exact Or.inl rfl | exact Or.inr rfl) (hy : Loc X.env.scope y := by first | exact Or.inl rfl | exact Or.inr rfl)
    (hf : X.fn x = true ∨ X.env.scope.names.lookup x = some .local := by first | exact .inl rfl | exact .inr rfl) (hg : X.fn y = true ∨ X.env.scope.names.lookup y = some .local := by first | exact .inl rfl | exact .inr rfl)
    (h1 : (assignEach [.Name x p1, .Name y p2] X.env).map (·.2) = assign (.Name x p1) X.env :: (assignEach [.Name y p2] X.env).map (·.2) := by rfl) (h2 : (assignEach [.Name y p2] X.env).map (·.2) = assign (.Name y p2) X.env :: (assignEach [] X.env).map (·.2) := by rfl)
    (hn : (assignEach [.Name x p1, .Name y p2] X.env).length = 2 := by rfl) (hst : (assignEach [.Name x p1, .Name y p2] X.env).findIdx? (·.1) = none := by rfl) :
    DG X W (.Tuple [.Name x p1, .Name y p2] k pos) (gTup W.K 2 (gCons (gName i) (gCons (gName j) gNil))) (gT 2 (gsCons (gN i) (gsCons (gN j) gsNil))) [i, j] :=
  by rw [← hK]; exact g_tup hK hc (gs_cons (g_name i hN hi hx hf) (gs_cons (g_name j hN hj hy hg) gs_nil h2) h1) hn hst
theorem g_tup3 {X : Cx} {W : Wd} (i j l : Nat) {x y z : Str} {p1 p2 p3 pos : Pos} {k : Nat} (hK : X.K = W.K) (hc : X.calm = true) (hN : X.N.Nodup) (hi : X.N[i]? = some x := by rfl) (hj : X.N[j]? = some y := by rfl) (hl : X.N[l]? = some z := by rfl)
    (hx : Loc X.env.scope x := by first | exact Or.inl rfl | exact Or.inr rfl) (hy : Loc X.env.scope y := by first | exact Or.inl rfl | exact Or.inr rfl) (hz : Loc X.env.scope z := by first | exact Or.inl rfl | exact Or.inr rfl)
    (hf : X.fn x = true ∨ X.env.scope.names.lookup x = some .local := by first | exact .inl rfl | exact .inr rfl) (hg : X.fn y = true ∨ X.env.scope.names.lookup y = some .local := by first | exact .inl rfl | exact .inr rfl) (hh : X.fn z = true ∨ X.env.scope.names.lookup z = some .local := by first | exact .inl rfl | exact .inr rfl)
    (h1 : (assignEach [.Name x p1, .Name y p2, .Name z p3] X.env).map (·.2) = assign (.Name x p1) X.env :: (assignEach [.Name y p2, .Name z p3] X.env).map (·.2) := by rfl) (h2 : (assignEach [.Name y p2, .Name z p3] X.env).map (·.2) = assign (.Name y p2) X.env :: (assignEach [.Name z p3] X.env).map (·.2) := by rfl)
    (h3 : (assignEach [.Name z p3] X.env).map (·.2) = assign (.Name z p3) X.env :: (assignEach [] X.env).map (·.2) := by rfl)
    (hn : (assignEach [.Name x p1, .Name y p2, .Name z p3] X.env).length = 3 := by rfl) (hst : (assignEach [.Name x p1, .Name y p2, .Name z p3] X.env).findIdx? (·.1) = none := by rfl) :
    DG X W (.Tuple [.Name x p1, .Name y p2, .Name z p3] k pos) (gTup W.K 3 (gCons (gName i) (gCons (gName j) (gCons (gName l) gNil)))) (gT 3 (gsCons (gN i) (gsCons (gN j) (gsCons (gN l) gsNil)))) [i, j, l] :=
  by rw [← hK]; exact g_tup hK hc (gs_cons (g_name i hN hi hx hf) (gs_cons (g_name j hN hj hy hg) (gs_cons (g_name l hN hl hz hh) gs_nil h3) h2) h1) hn hst
theorem bt_len : bootBuiltins "len" = some (.builtin "len") := by decide +kernel
theorem bt_abs : bootBuiltins "abs" = some (.builtin "abs") := by decide +kernel
theorem bt_all : bootBuiltins "all" = some (.builtin "all") := by decide +kernel
theorem bt_any : bootBuiltins "any" = some (.builtin "any") := by decide +kernel
theorem bt_sum : bootBuiltins "sum" = some (.builtin "sum") := by decide +kernel
theorem bt_sorted : bootBuiltins "sorted" = some (.builtin "sorted") := by decide +kernel
theorem bt_isinstance : bootBuiltins "isinstance" = some (.builtin "isinstance") := by decide +kernel
theorem bt_min : bootBuiltins "min" = some (.builtin "min") := by decide +kernel
theorem bt_max : bootBuiltins "max" = some (.builtin "max") := by decide +kernel
theorem bt_int : bootBuiltins "int" = some (.type "int") := by decide +kernel
theorem bt_str : bootBuiltins "str" = some (.type "str") := by decide +kernel
theorem bt_tuple : bootBuiltins "tuple" = some (.type "tuple") := by decide +kernel
theorem bt_list : bootBuiltins "list" = some (.type "list") := by decide +kernel
theorem bt_bool : bootBuiltins "bool" = some (.type "bool") := by decide +kernel
theorem bt_set : bootBuiltins "set" = some (.type "set") := by decide +kernel
theorem bt_dict : bootBuiltins "dict" = some (.type "dict") := by decide +kernel
end TT

set_option Elab.async false
set_option linter.all false
set_option maxRecDepth 100000
set_option maxHeartbeats 0
namespace K73
open TT PySem PySem.Spec PyProof.Rows L2 PySem.W
abbrev P0 : Program := PySem.Challenge.pw_truthtold_k73_whole_even_sums
def top (i : Nat) : Stmt := P0.main.body.getD i (.Pass ⟨0, 0, 0, 0⟩)
abbrev FnP (K : PySem.W.Frag) (x : Str) (st : Stmt) (f : Addr) (fd : FuncData) : Prop := FunD K x x (defArgs st) (defBody st) (defScope st) [] [] f fd
/-! ### the mirrors -/
def N__law_cup : List Str := ["script", "cell"]
theorem sc__law_cup : FnScope N__law_cup ["script"] (defScope (top 61)) := ⟨rfl, rfl, rfl, by decide +kernel, rfl, by decide +kernel, by decide +kernel⟩
def u__law_cup : SS :=
  (sSet 1 (e1 pAbs (e2 pIx (e2 pCat (e1 pList (ePk 0)) (eLst (lCons (eC (.int 0)) lNil))) (eC (.int 0)))))
def v__law_cup : SE :=
  (eLst (lCons (eIf (bOf (e2 pGe (ePk 1) (e2 pPow (eC (.int 10)) (eC (.int 18))))) (e2 pDiv (ePk 1) (eC (.int 73))) (eC (.int 0))) (lCons (e2 pAdd (e2 pMod (e1 pInt (e2 pAdd (e2 pMulA (ePk 1) (eC (.int 283))) (eC (.int 3907)))) (eC (.int 2077503167))) (eC (.int 167))) lNil)))
def N__law_sort : List Str := ["value"]
theorem sc__law_sort : FnScope N__law_sort ["value"] (defScope (top 64)) := ⟨rfl, rfl, rfl, by decide +kernel, rfl, by decide +kernel, by decide +kernel⟩
def u__law_sort : SS :=
  (sSeq
    (sIf (qOr (bOf (e2 pIs (ePk 0) (eC .non))) (bTru (eIsi "bool" (ePk 0)))) (sSeq
    (sRet (eIf (bOf (e2 pIs (ePk 0) (eC .non))) (eC (.int 0)) (eC (.int 1))))
    sNop) sNop)
    (sSeq
    (sIf (qOr (bTru (eIsi "int" (ePk 0))) (bTru (eIsi "str" (ePk 0)))) (sSeq
    (sRet (eIf (bTru (eIsi "int" (ePk 0))) (eC (.int 2)) (eC (.int 3))))
    sNop) sNop)
    (sSeq
    (sRet (eIf (bTru (eIsi "tuple" (ePk 0))) (eC (.int 4)) (eIf (bTru (eIsi "list" (ePk 0))) (eC (.int 5)) (eC (.int 6)))))
    sNop)))
def m__law_sort : Mi := runB 1 u__law_sort
def N__law_like : List Str := ["one", "other", "sort", "first", "second"]
theorem sc__law_like : FnScope N__law_like ["one", "other"] (defScope (top 65)) := ⟨rfl, rfl, rfl, by decide +kernel, rfl, by decide +kernel, by decide +kernel⟩
def u__law_like (r : Mi) : SS :=
  (sSeq
    (sSet 2 (eCall m__law_sort (lCons (eVar 1) lNil)))
    (sSeq
    (sIf (qOr (bOf (e2 pNe (eCall m__law_sort (lCons (eVar 0) lNil)) (ePk 2))) (bOf (e2 pEq (ePk 2) (eC (.int 6))))) (sSeq
    (sRet (eC (.bl false)))
    sNop) sNop)
    (sSeq
    (sIf (bOf (e2 pIn (ePk 2) (eTup (lCons (eC (.int 4)) (lCons (eC (.int 5)) lNil))))) (sSeq
    (sRet (eAnd (e2 pEq (e1 pLen (ePk 0)) (e1 pLen (ePk 1))) (e2 pEq (eComp [3, 4] (iZi (eVar 0) (eVar 1)) (gT 2 (gsCons (gN 3) (gsCons (gN 4) gsNil))) (qNot (bTru (eCall r (lCons (eVar 3) (lCons (eVar 4) lNil))))) (eC (.int 1))) (eLst lNil))))
    sNop) sNop)
    (sSeq
    (sRet (e2 pEq (ePk 0) (ePk 1)))
    sNop))))
def m__law_like : Nat → Mi
  | 0 => fun _ _ => none
  | n + 1 => runB 5 (u__law_like (m__law_like n))
def N_is_integer : List Str := ["value"]
theorem sc_is_integer : FnScope N_is_integer ["value"] (defScope (top 15)) := ⟨rfl, rfl, rfl, by decide +kernel, rfl, by decide +kernel, by decide +kernel⟩
def u_is_integer : SS :=
  (sSeq
    (sRet (eAnd (eIsi "int" (ePk 0)) (eNot (eIsi "bool" (ePk 0)))))
    sNop)
def m_is_integer : Mi := runB 1 u_is_integer
def N_is_whole : List Str := ["value", "low", "high"]
theorem sc_is_whole : FnScope N_is_whole ["value", "low", "high"] (defScope (top 16)) := ⟨rfl, rfl, rfl, by decide +kernel, rfl, by decide +kernel, by decide +kernel⟩
def u_is_whole : SS :=
  (sSeq
    (sRet (eAnd (eCall m_is_integer (lCons (eVar 0) lNil)) (eChain pLe pLe (ePk 1) (ePk 0) (ePk 2))))
    sNop)
def m_is_whole : Mi := runB 3 u_is_whole
def N_need_whole : List Str := ["value", "low", "high"]
theorem sc_need_whole : FnScope N_need_whole ["value", "low", "high"] (defScope (top 17)) := ⟨rfl, rfl, rfl, by decide +kernel, rfl, by decide +kernel, by decide +kernel⟩
def u_need_whole : SS :=
  (sSeq
    (sIf (qNot (bTru (eCall m_is_whole (lCons (eVar 0) (lCons (eVar 1) (lCons (eVar 2) lNil)))))) (sSeq
    sNo
    sNop) sNop)
    sNop)
def m_need_whole : Mi := runB 3 u_need_whole
def N_function_by : List Str := ["answers", "answer"]
theorem sc_function_by : FnScope N_function_by ["answers"] (defScope (top 29)) := ⟨rfl, rfl, rfl, by decide +kernel, rfl, by decide +kernel, by decide +kernel⟩
def u_function_by : SS :=
  (sSeq
    (sRet (e1J (eComp [1] (iVal (eVar 0)) (gN 1) (fun _ c => some (true, c)) (eIf (bTru (ePk 1)) (eC (.str [49])) (eC (.str [48]))))))
    sNop)
def m_function_by : Mi := runB 2 u_function_by
def N_rows_in : List Str := ["many", "found", "turn", "row"]
theorem sc_rows_in : FnScope N_rows_in ["many"] (defScope (top 26)) := ⟨rfl, rfl, rfl, by decide +kernel, rfl, by decide +kernel, by decide +kernel⟩
def u_rows_in : SS :=
  (sSeq
    (sSet 1 (eLst (lCons (eTup lNil) lNil)))
    (sSeq
    (sFor (iRange1 (eVar 0)) (gN 2) (sSeq
    (sSet 1 (e2 pCat (eComp [3] (iVal (eVar 1)) (gN 3) (fun _ c => some (true, c)) (e2 pAdd (ePk 3) (eTup (lCons (eC (.int 0)) lNil)))) (eComp [3] (iVal (eVar 1)) (gN 3) (fun _ c => some (true, c)) (e2 pAdd (ePk 3) (eTup (lCons (eC (.int 1)) lNil))))))
    sNop))
    (sSeq
    (sRet (e1 pSorted (ePk 1)))
    sNop)))
def m_rows_in : Mi := runB 4 u_rows_in
def N_function_in_counts : List Str := ["word", "row"]
theorem sc_function_in_counts : FnScope N_function_in_counts ["word"] (defScope (top 38)) := ⟨rfl, rfl, rfl, by decide +kernel, rfl, by decide +kernel, by decide +kernel⟩
def u_function_in_counts : SS :=
  (sSeq
    (sRet (eCall m_function_by (lCons (eComp [1] (iVal (eCall m_rows_in (lCons (e2 pSub (e1 pLen (ePk 0)) (eC (.int 1))) lNil))) (gN 1) (fun _ c => some (true, c)) (e2 pEq (e2 pIx (ePk 0) (e1 pSum (ePk 1))) (eC (.str [49])))) lNil)))
    sNop)
def m_function_in_counts : Mi := runB 2 u_function_in_counts
def N_is_odd_choice : List Str := ["many", "some"]
theorem sc_is_odd_choice : FnScope N_is_odd_choice ["many", "some"] (defScope (top 48)) := ⟨rfl, rfl, rfl, by decide +kernel, rfl, by decide +kernel, by decide +kernel⟩
def u_is_odd_choice : SS :=
  (sSeq
    (sRet (e2 pEq (e2 (pBit Builtin.bitAnd) (ePk 0) (ePk 1)) (ePk 1)))
    sNop)
def m_is_odd_choice : Mi := runB 2 u_is_odd_choice
def N_word_of_size : List Str := ["many", "size", "ones"]
theorem sc_word_of_size : FnScope N_word_of_size ["many", "size"] (defScope (top 49)) := ⟨rfl, rfl, rfl, by decide +kernel, rfl, by decide +kernel, by decide +kernel⟩
def u_word_of_size : SS :=
  (sSeq
    (sRet (e1J (eComp [2] (iRange1 (e2 pAdd (ePk 0) (eC (.int 1)))) (gN 2) (fun _ c => some (true, c)) (eIf (bTru (eCall m_is_odd_choice (lCons (eVar 2) (lCons (eVar 1) lNil)))) (eC (.str [49])) (eC (.str [48]))))))
    sNop)
def m_word_of_size : Mi := runB 3 u_word_of_size
def N_even_sum : List Str := ["many", "size"]
theorem sc_even_sum : FnScope N_even_sum ["many", "size"] (defScope (top 55)) := ⟨rfl, rfl, rfl, by decide +kernel, rfl, by decide +kernel, by decide +kernel⟩
def u_even_sum : SS :=
  (sSeq
    (sDrop (eCall m_need_whole (lCons (eVar 0) (lCons (eC (.int 0)) (lCons (eC (.int 6)) lNil)))))
    (sSeq
    (sDrop (eCall m_need_whole (lCons (eVar 1) (lCons (eC (.int 0)) (lCons (eVar 0) lNil)))))
    (sSeq
    (sRet (eCall m_function_in_counts (lCons (eCall m_word_of_size (lCons (eVar 0) (lCons (eVar 1) lNil))) lNil)))
    sNop)))
def m_even_sum : Mi := runB 2 u_even_sum
def N_is_word : List Str := ["value", "signs", "low", "high", "sign"]
theorem sc_is_word : FnScope N_is_word ["value", "signs", "low", "high"] (defScope (top 20)) := ⟨rfl, rfl, rfl, by decide +kernel, rfl, by decide +kernel, by decide +kernel⟩
def u_is_word : SS :=
  (sSeq
    (sRet (eAnd (eIsi "str" (ePk 0)) (eAnd (eChain pLe pLe (ePk 2) (e1 pLen (ePk 0)) (ePk 3)) (e1 pAll (eComp [4] (iVal (eVar 0)) (gN 4) (fun _ c => some (true, c)) (e2 pIn (ePk 4) (ePk 1)))))))
    sNop)
def m_is_word : Mi := runB 5 u_is_word
def N_fits_function : List Str := ["value"]
theorem sc_fits_function : FnScope N_fits_function ["value"] (defScope (top 21)) := ⟨rfl, rfl, rfl, by decide +kernel, rfl, by decide +kernel, by decide +kernel⟩
def u_fits_function : SS :=
  (sSeq
    (sRet (eAnd (eCall m_is_word (lCons (eVar 0) (lCons (eC (.str [48, 49])) (lCons (eC (.int 1)) (lCons (e2 pIx (eC (.tup ([1, 2, 4, 8, 16, 32, 64].map D.int))) (eC (.int 6))) lNil))))) (e2 pIn (e1 pLen (ePk 0)) (eC (.tup ([1, 2, 4, 8, 16, 32, 64].map D.int))))))
    sNop)
def m_fits_function : Mi := runB 1 u_fits_function
def N_need_function : List Str := ["value"]
theorem sc_need_function : FnScope N_need_function ["value"] (defScope (top 22)) := ⟨rfl, rfl, rfl, by decide +kernel, rfl, by decide +kernel, by decide +kernel⟩
def u_need_function : SS :=
  (sSeq
    (sIf (qNot (bTru (eCall m_fits_function (lCons (eVar 0) lNil)))) (sSeq
    sNo
    sNop) sNop)
    sNop)
def m_need_function : Mi := runB 1 u_need_function
def N_rows_by_ones : List Str := ["many", "found", "row", "ones"]
theorem sc_rows_by_ones : FnScope N_rows_by_ones ["many"] (defScope (top 39)) := ⟨rfl, rfl, rfl, by decide +kernel, rfl, by decide +kernel, by decide +kernel⟩
def u_rows_by_ones : SS :=
  (uRbo m_rows_in)
def m_rows_by_ones : Mi := runB 4 u_rows_by_ones
def N_count_in : List Str := ["function"]
theorem sc_count_in : FnScope N_count_in ["function"] (defScope (top 24)) := ⟨rfl, rfl, rfl, by decide +kernel, rfl, by decide +kernel, by decide +kernel⟩
def u_count_in : SS :=
  (sSeq
    (sRet (eIdx [1, 2, 4, 8, 16, 32, 64] (e1 pLen (ePk 0))))
    sNop)
def m_count_in : Mi := runB 1 u_count_in
def N_number_in : List Str := ["row", "found", "sign"]
theorem sc_number_in : FnScope N_number_in ["row"] (defScope (top 27)) := ⟨rfl, rfl, rfl, by decide +kernel, rfl, by decide +kernel, by decide +kernel⟩
def u_number_in : SS :=
  (sSeq
    (sSet 1 (eC (.int 0)))
    (sSeq
    (sFor (iVal (eVar 0)) (gN 2) (sSeq
    (sSet 1 (e2 pAdd (e2 pMulA (eC (.int 2)) (ePk 1)) (ePk 2)))
    sNop))
    (sSeq
    (sRet (eVar 1))
    sNop)))
def m_number_in : Mi := runB 3 u_number_in
def N_answer_in : List Str := ["function", "row"]
theorem sc_answer_in : FnScope N_answer_in ["function", "row"] (defScope (top 28)) := ⟨rfl, rfl, rfl, by decide +kernel, rfl, by decide +kernel, by decide +kernel⟩
def u_answer_in : SS :=
  (sSeq
    (sRet (e1 pInt (e2 pIx (ePk 0) (eCall m_number_in (lCons (eVar 1) lNil)))))
    sNop)
def m_answer_in : Mi := runB 2 u_answer_in
def N_paper_in : List Str := ["function", "rows", "unlike", "row"]
theorem sc_paper_in : FnScope N_paper_in ["function"] (defScope (top 40)) := ⟨rfl, rfl, rfl, by decide +kernel, rfl, by decide +kernel, by decide +kernel⟩
def u_paper_in : SS :=
  (sSeq
    (sFor (iVal (eCall m_rows_by_ones (lCons (eCall m_count_in (lCons (eVar 0) lNil)) lNil))) (gN 1) (sSeq
    (sOwn 2 (eComp [3] (iVal (eVar 1)) (gN 3) (bOf (e2 pNe (eCall m_answer_in (lCons (eVar 0) (lCons (eVar 3) lNil))) (eCall m_answer_in (lCons (eVar 0) (lCons (e2 pIx (ePk 1) (eC (.int 0))) lNil))))) (eVar 3)))
    (sFz 2 (sSeq
    (sIf (bOf (e2 pNe (ePk 2) (eLst lNil))) (sSeq
    (sRet (eTup (lCons (e2 pIx (ePk 1) (eC (.int 0))) (lCons (e2 pIx (ePk 2) (eC (.int 0))) lNil))))
    sNop) sNop)
    sNop))))
    (sSeq
    (sRet (eC .non))
    sNop))
def m_paper_in : Mi := runB 4 u_paper_in
def N_word_sum : List Str := ["word", "size", "ones", "letter"]
theorem sc_word_sum : FnScope N_word_sum ["word", "size"] (defScope (top 52)) := ⟨rfl, rfl, rfl, by decide +kernel, rfl, by decide +kernel, by decide +kernel⟩
def u_word_sum : SS :=
  (sSeq
    (sRet (e2 pMod (e1 pLen (eComp [2, 3] (iEn (eVar 0)) (gT 2 (gsCons (gN 2) (gsCons (gN 3) gsNil))) (qAnd (bOf (e2 pEq (ePk 3) (eC (.str [49])))) (bTru (eCall m_is_odd_choice (lCons (eVar 1) (lCons (eVar 2) lNil))))) (eVar 2))) (eC (.int 2))))
    sNop)
def m_word_sum : Mi := runB 4 u_word_sum
def N_sizes_by_word : List Str := ["word", "size"]
theorem sc_sizes_by_word : FnScope N_sizes_by_word ["word"] (defScope (top 51)) := ⟨rfl, rfl, rfl, by decide +kernel, rfl, by decide +kernel, by decide +kernel⟩
def u_sizes_by_word : SS :=
  (sSeq
    (sRet (eComp [1] (iRange1 (e1 pLen (ePk 0))) (gN 1) (bOf (e2 pEq (eCall m_word_sum (lCons (eVar 0) (lCons (eVar 1) lNil))) (eC (.int 1)))) (eVar 1)))
    sNop)
def m_sizes_by_word : Mi := runB 2 u_sizes_by_word
def N_counts_in : List Str := ["function", "rows"]
theorem sc_counts_in : FnScope N_counts_in ["function"] (defScope (top 41)) := ⟨rfl, rfl, rfl, by decide +kernel, rfl, by decide +kernel, by decide +kernel⟩
def u_counts_in : SS :=
  (sSeq
    (sRet (e1J (eComp [1] (iVal (eCall m_rows_by_ones (lCons (eCall m_count_in (lCons (eVar 0) lNil)) lNil))) (gN 1) (fun _ c => some (true, c)) (eCall m_function_by (lCons (eLst (lCons (eCall m_answer_in (lCons (eVar 0) (lCons (e2 pIx (ePk 1) (eC (.int 0))) lNil))) lNil)) lNil)))))
    sNop)
def m_counts_in : Mi := runB 2 u_counts_in
def N_sum_form : List Str := ["function"]
theorem sc_sum_form : FnScope N_sum_form ["function"] (defScope (top 56)) := ⟨rfl, rfl, rfl, by decide +kernel, rfl, by decide +kernel, by decide +kernel⟩
def u_sum_form : SS :=
  (sSeq
    (sDrop (eCall m_need_function (lCons (eVar 0) lNil)))
    (sSeq
    (sIf (bOf (e2 pIsNot (eCall m_paper_in (lCons (eVar 0) lNil)) (eC .non))) (sSeq
    sNo
    sNop) sNop)
    (sSeq
    (sRet (e1 pTuple (eCall m_sizes_by_word (lCons (eCall m_counts_in (lCons (eVar 0) lNil)) lNil))))
    sNop)))
def m_sum_form : Mi := runB 1 u_sum_form
def N_is_tuple_of : List Str := ["value", "low", "high"]
theorem sc_is_tuple_of : FnScope N_is_tuple_of ["value", "low", "high"] (defScope (top 18)) := ⟨rfl, rfl, rfl, by decide +kernel, rfl, by decide +kernel, by decide +kernel⟩
def u_is_tuple_of : SS :=
  (sSeq
    (sRet (eAnd (eIsi "tuple" (ePk 0)) (eChain pLe pLe (ePk 1) (e1 pLen (ePk 0)) (ePk 2))))
    sNop)
def m_is_tuple_of : Mi := runB 3 u_is_tuple_of
def N_is_rising : List Str := ["things", "one", "other"]
theorem sc_is_rising : FnScope N_is_rising ["things"] (defScope (top 19)) := ⟨rfl, rfl, rfl, by decide +kernel, rfl, by decide +kernel, by decide +kernel⟩
def u_is_rising : SS :=
  (sSeq
    (sRet (e1 pAll (eComp [1, 2] (iZi (eVar 0) (eCut pCut (ePk 0) (oSome (eC (.int 1))) (oI none))) (gT 2 (gsCons (gN 1) (gsCons (gN 2) gsNil))) (fun _ c => some (true, c)) (e2 pLt (ePk 1) (ePk 2)))))
    sNop)
def m_is_rising : Mi := runB 3 u_is_rising
def N_fits_signs : List Str := ["many", "value", "sign"]
theorem sc_fits_signs : FnScope N_fits_signs ["many", "value"] (defScope (top 25)) := ⟨rfl, rfl, rfl, by decide +kernel, rfl, by decide +kernel, by decide +kernel⟩
def u_fits_signs : SS :=
  (sSeq
    (sRet (eAnd (eCall m_is_tuple_of (lCons (eVar 1) (lCons (eC (.int 0)) (lCons (eVar 0) lNil)))) (eAnd (e1 pAll (eComp [2] (iVal (eVar 1)) (gN 2) (fun _ c => some (true, c)) (eCall m_is_whole (lCons (eVar 2) (lCons (eC (.int 0)) (lCons (e2 pSub (ePk 0) (eC (.int 1))) lNil)))))) (eCall m_is_rising (lCons (eVar 1) lNil)))))
    sNop)
def m_fits_signs : Mi := runB 3 u_fits_signs
def N_word_by_sizes : List Str := ["many", "sizes", "answers", "ones", "answer", "size"]
theorem sc_word_by_sizes : FnScope N_word_by_sizes ["many", "sizes"] (defScope (top 50)) := ⟨rfl, rfl, rfl, by decide +kernel, rfl, by decide +kernel, by decide +kernel⟩
def u_word_by_sizes : SS :=
  (sSeq
    (sOwn 2 (eComp [3] (iRange1 (e2 pAdd (ePk 0) (eC (.int 1)))) (gN 3) (fun _ c => some (true, c)) (e2 pMod (e1 pLen (eComp [5] (iVal (eVar 1)) (gN 5) (bTru (eCall m_is_odd_choice (lCons (eVar 3) (lCons (eVar 5) lNil)))) (eVar 5))) (eC (.int 2)))))
    (sFz 2 (sSeq
    (sRet (e1J (eComp [4] (iVal (eVar 2)) (gN 4) (fun _ c => some (true, c)) (eIf (bOf (e2 pEq (ePk 4) (eC (.int 1)))) (eC (.str [49])) (eC (.str [48]))))))
    sNop)))
def m_word_by_sizes : Mi := runB 6 u_word_by_sizes
def N_symmetric_by_sums : List Str := ["many", "sizes"]
theorem sc_symmetric_by_sums : FnScope N_symmetric_by_sums ["many", "sizes"] (defScope (top 57)) := ⟨rfl, rfl, rfl, by decide +kernel, rfl, by decide +kernel, by decide +kernel⟩
def u_symmetric_by_sums : SS :=
  (sSeq
    (sDrop (eCall m_need_whole (lCons (eVar 0) (lCons (eC (.int 0)) (lCons (eC (.int 6)) lNil)))))
    (sSeq
    (sIf (qNot (bTru (eCall m_fits_signs (lCons (e2 pAdd (ePk 0) (eC (.int 1))) (lCons (eVar 1) lNil))))) (sSeq
    sNo
    sNop) sNop)
    (sSeq
    (sRet (eCall m_function_in_counts (lCons (eCall m_word_by_sizes (lCons (eVar 0) (lCons (eVar 1) lNil))) lNil)))
    sNop)))
def m_symmetric_by_sums : Mi := runB 2 u_symmetric_by_sums
def N_count_symmetric : List Str := ["many"]
theorem sc_count_symmetric : FnScope N_count_symmetric ["many"] (defScope (top 58)) := ⟨rfl, rfl, rfl, by decide +kernel, rfl, by decide +kernel, by decide +kernel⟩
def u_count_symmetric : SS :=
  (sSeq
    (sDrop (eCall m_need_whole (lCons (eVar 0) (lCons (eC (.int 0)) (lCons (eC (.int 6)) lNil)))))
    (sSeq
    (sRet (e2 pShl (eC (.int 2)) (ePk 0)))
    sNop))
def m_count_symmetric : Mi := runB 1 u_count_symmetric
def N_counts_of : List Str := ["function"]
theorem sc_counts_of : FnScope N_counts_of ["function"] (defScope (top 43)) := ⟨rfl, rfl, rfl, by decide +kernel, rfl, by decide +kernel, by decide +kernel⟩
def u_counts_of : SS :=
  (sSeq
    (sDrop (eCall m_need_function (lCons (eVar 0) lNil)))
    (sSeq
    (sRet (eIf (bOf (e2 pIs (eCall m_paper_in (lCons (eVar 0) lNil)) (eC .non))) (eCall m_counts_in (lCons (eVar 0) lNil)) (eC .non)))
    sNop))
def m_counts_of : Mi := runB 1 u_counts_of
def N_words_of : List Str := ["many", "found", "turn", "word", "letter"]
theorem sc_words_of : FnScope N_words_of ["many"] (defScope (top 53)) := ⟨rfl, rfl, rfl, by decide +kernel, rfl, by decide +kernel, by decide +kernel⟩
def u_words_of : SS :=
  (sSeq
    (sSet 1 (eLst (lCons (eC (.str [])) lNil)))
    (sSeq
    (sFor (iRange1 (e2 pAdd (ePk 0) (eC (.int 1)))) (gN 2) (sSeq
    (sOwn 1 (eComp2 [3, 4] [4] (iVal (eVar 1)) (gN 3) (fun _ c => some (true, c)) (iVal (eC (.str [48, 49]))) (gN 4) (fun _ c => some (true, c)) (e2 pAdd (ePk 3) (ePk 4))))
    (sFz 1 sNop)))
    (sSeq
    (sRet (eVar 1))
    sNop)))
def m_words_of : Mi := runB 5 u_words_of
def N_turned_at : List Str := ["row", "signs", "sign", "value"]
theorem sc_turned_at : FnScope N_turned_at ["row", "signs"] (defScope (top 30)) := ⟨rfl, rfl, rfl, by decide +kernel, rfl, by decide +kernel, by decide +kernel⟩
def u_turned_at : SS :=
  (sSeq
    (sRet (e1 pTuple (eComp [2, 3] (iEn (eVar 0)) (gT 2 (gsCons (gN 2) (gsCons (gN 3) gsNil))) (fun _ c => some (true, c)) (eIf (bOf (e2 pIn (ePk 2) (ePk 1))) (e2 pSub (eC (.int 1)) (ePk 3)) (eVar 3)))))
    sNop)
def m_turned_at : Mi := runB 4 u_turned_at
def N_flipped_in : List Str := ["function", "signs", "row"]
theorem sc_flipped_in : FnScope N_flipped_in ["function", "signs"] (defScope (top 31)) := ⟨rfl, rfl, rfl, by decide +kernel, rfl, by decide +kernel, by decide +kernel⟩
def u_flipped_in : SS :=
  (sSeq
    (sRet (e1J (eComp [2] (iVal (eCall m_rows_in (lCons (eCall m_count_in (lCons (eVar 0) lNil)) lNil))) (gN 2) (fun _ c => some (true, c)) (e2 pIx (ePk 0) (eCall m_number_in (lCons (eCall m_turned_at (lCons (eVar 2) (lCons (eVar 1) lNil))) lNil))))))
    sNop)
def m_flipped_in : Mi := runB 3 u_flipped_in
def N_lots_of_signs : List Str := ["many", "found", "sign", "lot"]
theorem sc_lots_of_signs : FnScope N_lots_of_signs ["many"] (defScope (top 45)) := ⟨rfl, rfl, rfl, by decide +kernel, rfl, by decide +kernel, by decide +kernel⟩
def u_lots_of_signs : SS :=
  (sSeq
    (sSet 1 (eLst (lCons (eTup lNil) lNil)))
    (sSeq
    (sFor (iRange1 (eVar 0)) (gN 2) (sSeq
    (sSet 1 (e2 pCat (ePk 1) (eComp [3] (iVal (eVar 1)) (gN 3) (fun _ c => some (true, c)) (e2 pAdd (ePk 3) (eTup (lCons (eVar 2) lNil))))))
    sNop))
    (sSeq
    (sRet (e1 pSorted (ePk 1)))
    sNop)))
def m_lots_of_signs : Mi := runB 4 u_lots_of_signs
def N_with_flips : List Str := ["many", "met", "word", "function", "lot"]
theorem sc_with_flips : FnScope N_with_flips ["many"] (defScope (top 54)) := ⟨rfl, rfl, rfl, by decide +kernel, rfl, by decide +kernel, by decide +kernel⟩
def u_with_flips : SS :=
  (sSeq
    (sOwn 1 (eC (.dk [] [])))
    (sSeq
    (sFor (iVal (eCall m_words_of (lCons (eVar 0) lNil))) (gN 2) (sSeq
    (sSet 3 (eCall m_function_in_counts (lCons (eVar 2) lNil)))
    (sSeq
    (sUpd 1 (eComp [4] (iVal (eCall m_lots_of_signs (lCons (eVar 0) lNil))) (gN 4) (fun _ c => some (true, c)) (eTup (lCons (eCall m_flipped_in (lCons (eVar 3) (lCons (eVar 4) lNil))) (lCons (eC (.bl true)) lNil)))))
    sNop)))
    (sSeq
    (sRet (e1 pLen (ePk 1)))
    sNop)))
def m_with_flips : Mi := runB 5 u_with_flips
def N_count_with_flips : List Str := ["many"]
theorem sc_count_with_flips : FnScope N_count_with_flips ["many"] (defScope (top 59)) := ⟨rfl, rfl, rfl, by decide +kernel, rfl, by decide +kernel, by decide +kernel⟩
def u_count_with_flips : SS :=
  (sSeq
    (sDrop (eCall m_need_whole (lCons (eVar 0) (lCons (eC (.int 0)) (lCons (eC (.int 6)) lNil)))))
    (sSeq
    (sRet (eCall m_with_flips (lCons (eVar 0) lNil)))
    sNop))
def m_count_with_flips : Mi := runB 1 u_count_with_flips
def N__law_rows : List Str := ["many", "found", "turn", "longer", "some"]
theorem sc__law_rows : FnScope N__law_rows ["many"] (defScope (top 66)) := ⟨rfl, rfl, rfl, by decide +kernel, rfl, by decide +kernel, by decide +kernel⟩
def u__law_rows : SS :=
  (sSeq
    (sSet 1 (eLst (lCons (eTup lNil) lNil)))
    (sSeq
    (sFor (iRange1 (eVar 0)) (gN 2) (sSeq
    (sSet 3 (eLst lNil))
    (sSeq
    (sFor (iVal (eVar 1)) (gN 4) (sSeq
    (sSet 3 (e2 pCat (ePk 3) (eLst (lCons (e2 pAdd (ePk 4) (eTup (lCons (eC (.int 0)) lNil))) (lCons (e2 pAdd (ePk 4) (eTup (lCons (eC (.int 1)) lNil))) lNil)))))
    sNop))
    (sSeq
    (sSet 1 (eVar 3))
    sNop))))
    (sSeq
    (sRet (eVar 1))
    sNop)))
def m__law_rows : Mi := runB 5 u__law_rows
def N_flip_lots : List Str := ["function", "lots", "lot"]
theorem sc_flip_lots : FnScope N_flip_lots ["function"] (defScope (top 46)) := ⟨rfl, rfl, rfl, by decide +kernel, rfl, by decide +kernel, by decide +kernel⟩
def u_flip_lots : SS :=
  (sSeq
    (sDrop (eCall m_need_function (lCons (eVar 0) lNil)))
    (sSeq
    (sSet 1 (eCall m_lots_of_signs (lCons (eCall m_count_in (lCons (eVar 0) lNil)) lNil)))
    (sSeq
    (sRet (e1 pTuple (eComp [2] (iVal (eVar 1)) (gN 2) (bOf (e2 pIs (eCall m_paper_in (lCons (eCall m_flipped_in (lCons (eVar 0) (lCons (eVar 2) lNil))) lNil)) (eC .non))) (eVar 2))))
    sNop)))
def m_flip_lots : Mi := runB 3 u_flip_lots
def N__law_flips_right : List Str := ["many", "found", "at", "letters", "left", "turn"]
theorem sc__law_flips_right : FnScope N__law_flips_right ["many"] (defScope (top 71)) := ⟨rfl, rfl, rfl, by decide +kernel, rfl, by decide +kernel, by decide +kernel⟩
def u__law_flips_right : SS :=
  (sSeq
    (sSet 1 (eC (.int 0)))
    (sSeq
    (sFor (iRange1 (eIf (bOf (e2 pEq (ePk 0) (eC (.int 3)))) (e2 pPow (eC (.int 2)) (eC (.int 8))) (eIf (bOf (e2 pEq (ePk 0) (eC (.int 2)))) (e2 pPow (eC (.int 2)) (eC (.int 4))) (eIf (bOf (e2 pEq (ePk 0) (eC (.int 1)))) (eC (.int 4)) (eC (.int 2)))))) (gN 2) (sSeq
    (sPar 3 4 (lCons (eC (.str [])) (lCons (eVar 2) lNil)))
    (sSeq
    (sFor (iRange1 (e1 pLen (eCall m__law_rows (lCons (eVar 0) lNil)))) (gN 5) (sSeq
    (sPar 3 4 (lCons (e2 pAdd (e1 pStr (e2 pMod (e1 pInt (ePk 4)) (eC (.int 2)))) (ePk 3)) (lCons (e1 pInt (e2 pDiv (ePk 4) (eC (.int 2)))) lNil)))
    sNop))
    (sSeq
    (sSet 1 (e2 pAdd (ePk 1) (eIf (bOf (e2 pNe (eCall m_flip_lots (lCons (eVar 3) lNil)) (eTup lNil))) (eC (.int 1)) (eC (.int 0)))))
    sNop))))
    (sSeq
    (sRet (eCall (m__law_like 12) (lCons (eCall m_count_with_flips (lCons (eVar 0) lNil)) (lCons (eVar 1) lNil))))
    sNop)))
def m__law_flips_right : Mi := runB 6 u__law_flips_right
def N_fits_word : List Str := ["value"]
theorem sc_fits_word : FnScope N_fits_word ["value"] (defScope (top 36)) := ⟨rfl, rfl, rfl, by decide +kernel, rfl, by decide +kernel, by decide +kernel⟩
def u_fits_word : SS :=
  (sSeq
    (sRet (eCall m_is_word (lCons (eVar 0) (lCons (eC (.str [48, 49])) (lCons (eC (.int 1)) (lCons (e2 pAdd (eC (.int 6)) (eC (.int 1))) lNil))))))
    sNop)
def m_fits_word : Mi := runB 1 u_fits_word
def N_need_word : List Str := ["value"]
theorem sc_need_word : FnScope N_need_word ["value"] (defScope (top 37)) := ⟨rfl, rfl, rfl, by decide +kernel, rfl, by decide +kernel, by decide +kernel⟩
def u_need_word : SS :=
  (sSeq
    (sIf (qNot (bTru (eCall m_fits_word (lCons (eVar 0) lNil)))) (sSeq
    sNo
    sNop) sNop)
    sNop)
def m_need_word : Mi := runB 1 u_need_word
def N_function_of_counts : List Str := ["word"]
theorem sc_function_of_counts : FnScope N_function_of_counts ["word"] (defScope (top 42)) := ⟨rfl, rfl, rfl, by decide +kernel, rfl, by decide +kernel, by decide +kernel⟩
def u_function_of_counts : SS :=
  (sSeq
    (sDrop (eCall m_need_word (lCons (eVar 0) lNil)))
    (sSeq
    (sRet (eCall m_function_in_counts (lCons (eVar 0) lNil)))
    sNop))
def m_function_of_counts : Mi := runB 1 u_function_of_counts
def N__law_roll : List Str := ["cup", "many", "found", "deep"]
theorem sc__law_roll : FnScope N__law_roll ["cup", "many"] (defScope (top 62)) := ⟨rfl, rfl, rfl, by decide +kernel, rfl, by decide +kernel, by decide +kernel⟩
def u__law_roll : SS :=
  (sSeq
    (sIf (bOf (e2 pGt (eCupR 0 0) (eC (.int 0)))) (sSeq
    (sSet 2 (e2 pMod (e1 pInt (eCupR 0 0)) (ePk 1)))
    (sSeq
    (sCupW 0 0 (e2 pDiv (eCupR 0 0) (ePk 1)))
    (sSeq
    (sRet (eVar 2))
    sNop))) sNop)
    (sSeq
    (sCupW 0 1 (e2 pMod (e1 pInt (e2 pAdd (e2 pMulA (eCupR 0 1) (eC (.int 31051))) (eC (.int 7993)))) (eC (.int 2147483543))))
    (sSeq
    (sSet 3 (e2 pMod (e1 pInt (e2 pMulA (eCupR 0 1) (e2 pAdd (eCupR 0 1) (eC (.int 229))))) (eC (.int 2147483587))))
    (sSeq
    (sRet (e2 pMod (e1 pInt (e2 pDiv (ePk 3) (eC (.int 821)))) (ePk 1)))
    sNop))))
def m__law_roll : Mi := runB 4 u__law_roll
def N__law_choices : List Str := ["many", "some", "found", "at"]
theorem sc__law_choices : FnScope N__law_choices ["many", "some"] (defScope (top 68)) := ⟨rfl, rfl, rfl, by decide +kernel, rfl, by decide +kernel, by decide +kernel⟩
def u__law_choices : SS :=
  (sSeq
    (sSet 2 (eC (.int 1)))
    (sSeq
    (sFor (iRange1 (eVar 1)) (gN 3) (sSeq
    (sSet 2 (e1 pInt (e2 pDiv (e2 pMulA (ePk 2) (e2 pSub (ePk 0) (ePk 3))) (e2 pAdd (ePk 3) (eC (.int 1))))))
    sNop))
    (sSeq
    (sRet (eVar 2))
    sNop)))
def m__law_choices : Mi := runB 4 u__law_choices
def N__law_sum : List Str := ["many", "sizes", "found", "row", "size"]
theorem sc__law_sum : FnScope N__law_sum ["many", "sizes"] (defScope (top 69)) := ⟨rfl, rfl, rfl, by decide +kernel, rfl, by decide +kernel, by decide +kernel⟩
def u__law_sum : SS :=
  (sSeq
    (sSet 2 (eC (.str [])))
    (sSeq
    (sFor (iVal (eCall m__law_rows (lCons (eVar 0) lNil))) (gN 3) (sSeq
    (sSet 2 (e2 pAdd (ePk 2) (e1 pStr (e2 pMod (e1 pInt (e1 pSum (eComp [4] (iVal (eVar 1)) (gN 4) (fun _ c => some (true, c)) (eCall m__law_choices (lCons (e1 pSum (ePk 3)) (lCons (eVar 4) lNil)))))) (eC (.int 2))))))
    sNop))
    (sSeq
    (sRet (eVar 2))
    sNop)))
def m__law_sum : Mi := runB 5 u__law_sum
def N__law_lots : List Str := ["things", "found", "thing", "some"]
theorem sc__law_lots : FnScope N__law_lots ["things"] (defScope (top 67)) := ⟨rfl, rfl, rfl, by decide +kernel, rfl, by decide +kernel, by decide +kernel⟩
def u__law_lots : SS :=
  (sSeq
    (sSet 1 (eLst (lCons (eTup lNil) lNil)))
    (sSeq
    (sFor (iVal (eVar 0)) (gN 2) (sSeq
    (sSet 1 (e2 pCat (ePk 1) (eComp [3] (iVal (eVar 1)) (gN 3) (fun _ c => some (true, c)) (e2 pAdd (ePk 3) (eTup (lCons (eVar 2) lNil))))))
    sNop))
    (sSeq
    (sRet (eVar 1))
    sNop)))
def m__law_lots : Mi := runB 4 u__law_lots
def N_need_alike : List Str := ["function", "value"]
theorem sc_need_alike : FnScope N_need_alike ["function", "value"] (defScope (top 23)) := ⟨rfl, rfl, rfl, by decide +kernel, rfl, by decide +kernel, by decide +kernel⟩
def u_need_alike : SS :=
  (sSeq
    (sIf (qOr (qNot (bTru (eCall m_fits_function (lCons (eVar 1) lNil)))) (bOf (e2 pNe (e1 pLen (ePk 1)) (e1 pLen (ePk 0))))) (sSeq
    sNo
    sNop) sNop)
    sNop)
def m_need_alike : Mi := runB 2 u_need_alike
def N_joined_in : List Str := ["function", "other", "word", "pairs", "one", "two"]
theorem sc_joined_in : FnScope N_joined_in ["function", "other", "word"] (defScope (top 32)) := ⟨rfl, rfl, rfl, by decide +kernel, rfl, by decide +kernel, by decide +kernel⟩
def u_joined_in : SS :=
  (sSeq
    (sSet 3 (eLZ (eVar 0) (eVar 1)))
    (sSeq
    (sIf (bOf (e2 pEq (ePk 2) (eC (.str [115, 117, 109])))) (sSeq
    (sRet (eCall m_function_by (lCons (eComp [4, 5] (iVal (eVar 3)) (gT 2 (gsCons (gN 4) (gsCons (gN 5) gsNil))) (fun _ c => some (true, c)) (e2 pNe (ePk 4) (ePk 5))) lNil)))
    sNop) sNop)
    (sSeq
    (sIf (bOf (e2 pEq (ePk 2) (eC (.str [97, 110, 100])))) (sSeq
    (sRet (eCall m_function_by (lCons (eComp [4, 5] (iVal (eVar 3)) (gT 2 (gsCons (gN 4) (gsCons (gN 5) gsNil))) (fun _ c => some (true, c)) (eChain pEq pEq (ePk 4) (ePk 5) (eC (.str [49])))) lNil)))
    sNop) sNop)
    (sSeq
    (sRet (eCall m_function_by (lCons (eComp [4, 5] (iVal (eVar 3)) (gT 2 (gsCons (gN 4) (gsCons (gN 5) gsNil))) (fun _ c => some (true, c)) (eOr (e2 pEq (ePk 4) (eC (.str [49]))) (e2 pEq (ePk 5) (eC (.str [49]))))) lNil)))
    sNop))))
def m_joined_in : Mi := runB 6 u_joined_in
def N_joined : List Str := ["function", "other", "word"]
theorem sc_joined : FnScope N_joined ["function", "other", "word"] (defScope (top 33)) := ⟨rfl, rfl, rfl, by decide +kernel, rfl, by decide +kernel, by decide +kernel⟩
def u_joined : SS :=
  (sSeq
    (sDrop (eCall m_need_function (lCons (eVar 0) lNil)))
    (sSeq
    (sDrop (eCall m_need_alike (lCons (eVar 0) (lCons (eVar 1) lNil))))
    (sSeq
    (sIf (qOr (qNot (bTru (eIsi "str" (ePk 2)))) (bOf (e2 pNotIn (ePk 2) (eC (.tup ([[97, 110, 100], [111, 114], [115, 117, 109]].map D.str)))))) (sSeq
    sNo
    sNop) sNop)
    (sSeq
    (sRet (eCall m_joined_in (lCons (eVar 0) (lCons (eVar 1) (lCons (eVar 2) lNil)))))
    sNop))))
def m_joined : Mi := runB 3 u_joined
def N__law_some : List Str := ["cup", "things"]
theorem sc__law_some : FnScope N__law_some ["cup", "things"] (defScope (top 63)) := ⟨rfl, rfl, rfl, by decide +kernel, rfl, by decide +kernel, by decide +kernel⟩
def u__law_some : SS :=
  (sSeq
    (sRet (e2 pIx (ePk 1) (eCall m__law_roll (lCons (eVar 0) (lCons (e1 pLen (ePk 1)) lNil)))))
    sNop)
def m__law_some : Mi := runB 2 u__law_some
def N_sign_function : List Str := ["many", "sign", "row"]
theorem sc_sign_function : FnScope N_sign_function ["many", "sign"] (defScope (top 34)) := ⟨rfl, rfl, rfl, by decide +kernel, rfl, by decide +kernel, by decide +kernel⟩
def u_sign_function : SS :=
  (sSeq
    (sDrop (eCall m_need_whole (lCons (eVar 0) (lCons (eC (.int 1)) (lCons (eC (.int 6)) lNil)))))
    (sSeq
    (sIf (qNot (bTru (eCall m_is_whole (lCons (eVar 1) (lCons (eC (.int 0)) (lCons (e2 pSub (ePk 0) (eC (.int 1))) lNil)))))) (sSeq
    sNo
    sNop) sNop)
    (sSeq
    (sRet (eCall m_function_by (lCons (eComp [2] (iVal (eCall m_rows_in (lCons (eVar 0) lNil))) (gN 2) (fun _ c => some (true, c)) (e2 pEq (e2 pIx (ePk 2) (ePk 1)) (eC (.int 1)))) lNil)))
    sNop)))
def m_sign_function : Mi := runB 3 u_sign_function
def N__law_right : List Str := ["cup", "many", "size", "sizes", "function", "product", "lot", "own", "sign", "word", "more", "one", "other", "first", "second", "both", "turn"]
theorem sc__law_right : FnScope N__law_right ["cup", "many"] (defScope (top 70)) := ⟨rfl, rfl, rfl, by decide +kernel, rfl, by decide +kernel, by decide +kernel⟩
def u__law_right : SS :=
  (sSeq
    (sSet 2 (eCall m__law_roll (lCons (eVar 0) (lCons (e2 pAdd (ePk 1) (eC (.int 1))) lNil))))
    (sSeq
    (sSet 3 (e1 pTuple (eComp [7] (iRange1 (e2 pAdd (ePk 1) (eC (.int 1)))) (gN 7) (bOf (e2 pEq (eCall m__law_roll (lCons (eVar 0) (lCons (eC (.int 2)) lNil))) (eC (.int 1)))) (eVar 7))))
    (sSeq
    (sSet 4 (eCall m__law_sum (lCons (eVar 1) (lCons (eVar 3) lNil))))
    (sSeq
    (sIf (qNot (bTru (eCall (m__law_like 12) (lCons (eLst (lCons (eCall m_even_sum (lCons (eVar 1) (lCons (eVar 2) lNil))) (lCons (eCall m_symmetric_by_sums (lCons (eVar 1) (lCons (eVar 3) lNil))) (lCons (eCall m_sum_form (lCons (eVar 4) lNil)) lNil)))) (lCons (eLst (lCons (eCall m__law_sum (lCons (eVar 1) (lCons (eTup (lCons (eVar 2) lNil)) lNil))) (lCons (eVar 4) (lCons (eVar 3) lNil)))) lNil))))) (sSeq
    (sRet (eC (.bl false)))
    sNop) sNop)
    (sSeq
    (sSet 5 (e2 pMulA (eC (.str [48])) (e1 pLen (ePk 4))))
    (sSeq
    (sFor (iVal (eCall m__law_lots (lCons (eRg1 (eVar 1)) lNil))) (gN 6) (sSeq
    (sIf (bOf (e2 pEq (e1 pLen (ePk 6)) (ePk 2))) (sSeq
    (sSet 7 (e2 pMulA (eC (.str [49])) (e1 pLen (ePk 4))))
    (sSeq
    (sFor (iVal (eVar 6)) (gN 8) (sSeq
    (sSet 7 (eCall m_joined (lCons (eVar 7) (lCons (eCall m_sign_function (lCons (eVar 1) (lCons (eVar 8) lNil))) (lCons (eC (.str [97, 110, 100])) lNil)))))
    sNop))
    (sSeq
    (sSet 5 (eCall m_joined (lCons (eVar 5) (lCons (eVar 7) (lCons (eC (.str [115, 117, 109])) lNil)))))
    sNop))) sNop)
    sNop))
    (sSeq
    (sIf (qNot (bTru (eCall (m__law_like 12) (lCons (eCall m_even_sum (lCons (eVar 1) (lCons (eVar 2) lNil))) (lCons (eVar 5) lNil))))) (sSeq
    (sRet (eC (.bl false)))
    sNop) sNop)
    (sSeq
    (sPar 9 10 (lCons (e1J (eComp [16] (iRange1 (e2 pAdd (ePk 1) (eC (.int 1)))) (gN 16) (fun _ c => some (true, c)) (eCall m__law_some (lCons (eVar 0) (lCons (eC (.str [48, 49])) lNil))))) (lCons (e1J (eComp [16] (iRange1 (e2 pAdd (ePk 1) (eC (.int 1)))) (gN 16) (fun _ c => some (true, c)) (eCall m__law_some (lCons (eVar 0) (lCons (eC (.str [48, 49])) lNil))))) lNil)))
    (sSeq
    (sPar 11 12 (lCons (eCall m_function_of_counts (lCons (eVar 9) lNil)) (lCons (eCall m_function_of_counts (lCons (eVar 10) lNil)) lNil)))
    (sSeq
    (sAsg (gT 2 (gsCons (gN 13) (gsCons (gN 14) gsNil))) (eTup (lCons (eCall m_sum_form (lCons (eVar 11) lNil)) (lCons (eCall m_sum_form (lCons (eVar 12) lNil)) lNil))))
    (sSeq
    (sSet 15 (e1 pTuple (eComp [7] (iRange1 (e2 pAdd (ePk 1) (eC (.int 1)))) (gN 7) (bOf (e2 pNe (e2 pIn (ePk 7) (ePk 13)) (e2 pIn (ePk 7) (ePk 14)))) (eVar 7))))
    (sSeq
    (sRet (eCall (m__law_like 12) (lCons (eLst (lCons (eCall m_symmetric_by_sums (lCons (eVar 1) (lCons (eVar 13) lNil))) (lCons (eCall m_counts_of (lCons (eCall m_symmetric_by_sums (lCons (eVar 1) (lCons (eVar 14) lNil))) lNil)) (lCons (eCall m_sum_form (lCons (eCall m_joined (lCons (eVar 11) (lCons (eVar 12) (lCons (eC (.str [115, 117, 109])) lNil)))) lNil)) lNil)))) (lCons (eLst (lCons (eVar 11) (lCons (eVar 10) (lCons (eVar 15) lNil)))) lNil))))
    sNop))))))))))))
def m__law_right : Mi := runB 17 u__law_right
def N_law : List Str := ["script", "cup", "many", "told"]
theorem sc_law : FnScope N_law ["script"] (defScope (top 72)) := ⟨rfl, rfl, rfl, by decide +kernel, rfl, by decide +kernel, by decide +kernel⟩
def u_law : SS :=
  (sSeq
    (sFor (iVal (eTup (lCons (eC (.int 0)) (lCons (eC (.int 1)) (lCons (eC (.int 2)) (lCons (eC (.int 3)) (lCons (eC (.int 4)) (lCons (eC (.int 5)) (lCons (eC (.int 6)) lNil))))))))) (gN 2) (sSeq
    (sIf (qOr (qNot (bTru (eCall m__law_right (lCons (eVar 1) (lCons (eVar 2) lNil))))) (qNot (bTru (eCall (m__law_like 12) (lCons (eCall m_count_symmetric (lCons (eVar 2) lNil)) (lCons (e2 pMulA (eC (.int 2)) (e1 pLen (eCall m__law_lots (lCons (eRg1 (eVar 2)) lNil)))) lNil)))))) (sSeq
    (sRet (eC (.bl false)))
    sNop) sNop)
    sNop))
    (sSeq
    (sIf (qOr (qNot (bTru (eCall m__law_flips_right (lCons (eCall m__law_some (lCons (eVar 1) (lCons (eLst (lCons (eC (.int 0)) (lCons (eC (.int 1)) (lCons (eC (.int 2)) lNil)))) lNil))) lNil)))) (qAnd (bOf (e2 pEq (eCall m__law_roll (lCons (eVar 1) (lCons (eC (.int 6)) lNil))) (eC (.int 0)))) (qNot (bTru (eCall m__law_flips_right (lCons (eC (.int 3)) lNil)))))) (sSeq
    (sRet (eC (.bl false)))
    sNop) sNop)
    (sSeq
    (sSet 3 (eLst (lCons (eCall m_even_sum (lCons (eC (.int 2)) (lCons (eC (.int 1)) lNil))) (lCons (eCall m_even_sum (lCons (eC (.int 2)) (lCons (eC (.int 2)) lNil))) (lCons (eCall m_even_sum (lCons (eC (.int 2)) (lCons (eC (.int 0)) lNil))) (lCons (eCall m_even_sum (lCons (eC (.int 3)) (lCons (eC (.int 2)) lNil))) (lCons (eCall m_sum_form (lCons (eC (.str [48, 49, 49, 48])) lNil)) (lCons (eCall m_sum_form (lCons (eC (.str [48, 48, 48, 49])) lNil)) (lCons (eCall m_sum_form (lCons (eC (.str [48, 49, 49, 49])) lNil)) (lCons (eCall m_sum_form (lCons (eC (.str [49])) lNil)) (lCons (eCall m_sum_form (lCons (eC (.str [48])) lNil)) (lCons (eCall m_symmetric_by_sums (lCons (eC (.int 2)) (lCons (eTup (lCons (eC (.int 1)) (lCons (eC (.int 2)) lNil))) lNil))) (lCons (eCall m_symmetric_by_sums (lCons (eC (.int 0)) (lCons (eTup lNil) lNil))) (lCons (eCall m_count_symmetric (lCons (eC (.int 3)) lNil)) (lCons (eComp [2] (iRange1 (eC (.int 3))) (gN 2) (fun _ c => some (true, c)) (eCall m_count_with_flips (lCons (eVar 2) lNil))) lNil)))))))))))))))
    (sSeq
    (sIf (qNot (bTru (eCall (m__law_like 12) (lCons (eVar 3) (lCons (eLst (lCons (eC (.str [48, 49, 49, 48])) (lCons (eC (.str [48, 48, 48, 49])) (lCons (eC (.str [49, 49, 49, 49])) (lCons (eC (.str [48, 48, 48, 49, 48, 49, 49, 49])) (lCons (eTup (lCons (eC (.int 1)) lNil)) (lCons (eTup (lCons (eC (.int 2)) lNil)) (lCons (eTup (lCons (eC (.int 1)) (lCons (eC (.int 2)) lNil))) (lCons (eTup (lCons (eC (.int 0)) lNil)) (lCons (eTup lNil) (lCons (eC (.str [48, 49, 49, 49])) (lCons (eC (.str [48])) (lCons (eC (.int 16)) (lCons (eLst (lCons (eC (.int 2)) (lCons (eC (.int 4)) (lCons (eC (.int 12)) lNil)))) lNil)))))))))))))) lNil))))) (sSeq
    (sRet (eC (.bl false)))
    sNop) sNop)
    (sSeq
    (sSet 3 (eLst (lCons (eCall m_sum_form (lCons (e2 pAdd (eC (.str [48])) (e2 pMulA (eC (.str [49])) (eC (.int 63)))) lNil)) (lCons (eCall m_sum_form (lCons (e2 pAdd (e2 pMulA (eC (.str [48])) (eC (.int 63))) (eC (.str [49]))) lNil)) (lCons (eCall m_sum_form (lCons (eCall m_function_of_counts (lCons (eC (.str [48, 49, 48, 49, 48, 49, 48])) lNil)) lNil)) (lCons (eCall m_sum_form (lCons (e2 pMulA (eC (.str [49])) (eC (.int 64))) lNil)) (lCons (eCall m_counts_of (lCons (eCall m_even_sum (lCons (eC (.int 6)) (lCons (eC (.int 4)) lNil))) lNil)) lNil)))))))
    (sSeq
    (sRet (eCall (m__law_like 12) (lCons (eVar 3) (lCons (eLst (lCons (eTup (lCons (eC (.int 1)) (lCons (eC (.int 2)) (lCons (eC (.int 3)) (lCons (eC (.int 4)) (lCons (eC (.int 5)) (lCons (eC (.int 6)) lNil))))))) (lCons (eTup (lCons (eC (.int 6)) lNil)) (lCons (eTup (lCons (eC (.int 1)) lNil)) (lCons (eTup (lCons (eC (.int 0)) lNil)) (lCons (eC (.str [48, 48, 48, 48, 49, 49, 49])) lNil)))))) lNil))))
    sNop))))))
/-! ### what stands among the names -/
structure Fx (K : PySem.W.Frag) (mg : Str → Option Value) : Prop where
  n_abs : mg "abs" = none
  n_all : mg "all" = none
  n_bool : mg "bool" = none
  n_enumerate : mg "enumerate" = none
  n_int : mg "int" = none
  n_isinstance : mg "isinstance" = none
  n_len : mg "len" = none
  n_list : mg "list" = none
  n_range : mg "range" = none
  n_sorted : mg "sorted" = none
  n_str : mg "str" = none
  n_sum : mg "sum" = none
  n_tuple : mg "tuple" = none
  n_zip : mg "zip" = none
  g_AND : ∃ t, mg "AND" = some (.str "and" t)
  g_ANSWERS : ∃ t, mg "ANSWERS" = some (.str "01" t)
  g_LENGTHS : mg "LENGTHS" = some (.ref (He.ga K "LENGTHS"))
  k_LENGTHS : KInts K (He.ga K "LENGTHS") [1, 2, 4, 8, 16, 32, 64]
  g_MOST : ∃ t, mg "MOST" = some (.int 6 t)
  g_SUM : ∃ t, mg "SUM" = some (.str "sum" t)
  g_WORDS : mg "WORDS" = some (.ref (He.ga K "WORDS"))
  k_WORDS : ∀ pc F H, Rep ⟨K, fun _ => 0⟩ pc F H (.tup ([[97, 110, 100], [111, 114], [115, 117, 109]].map D.str)) (.ref (He.ga K "WORDS"))
  f__law_cup : ∃ fd, FnP K "_law_cup" (top 61) (He.ga K "_law_cup") fd
  m__law_cup : mg "_law_cup" = some (.ref (He.ga K "_law_cup"))
  f__law_sort : ∃ fd, FnP K "_law_sort" (top 64) (He.ga K "_law_sort") fd
  m__law_sort : mg "_law_sort" = some (.ref (He.ga K "_law_sort"))
  f__law_like : ∃ fd, FnP K "_law_like" (top 65) (He.ga K "_law_like") fd
  m__law_like : mg "_law_like" = some (.ref (He.ga K "_law_like"))
  f_is_integer : ∃ fd, FnP K "is_integer" (top 15) (He.ga K "is_integer") fd
  m_is_integer : mg "is_integer" = some (.ref (He.ga K "is_integer"))
  f_is_whole : ∃ fd, FnP K "is_whole" (top 16) (He.ga K "is_whole") fd
  m_is_whole : mg "is_whole" = some (.ref (He.ga K "is_whole"))
  f_need_whole : ∃ fd, FnP K "need_whole" (top 17) (He.ga K "need_whole") fd
  m_need_whole : mg "need_whole" = some (.ref (He.ga K "need_whole"))
  f_function_by : ∃ fd, FnP K "function_by" (top 29) (He.ga K "function_by") fd
  m_function_by : mg "function_by" = some (.ref (He.ga K "function_by"))
  f_rows_in : ∃ fd, FnP K "rows_in" (top 26) (He.ga K "rows_in") fd
  m_rows_in : mg "rows_in" = some (.ref (He.ga K "rows_in"))
  f_function_in_counts : ∃ fd, FnP K "function_in_counts" (top 38) (He.ga K "function_in_counts") fd
  m_function_in_counts : mg "function_in_counts" = some (.ref (He.ga K "function_in_counts"))
  f_is_odd_choice : ∃ fd, FnP K "is_odd_choice" (top 48) (He.ga K "is_odd_choice") fd
  m_is_odd_choice : mg "is_odd_choice" = some (.ref (He.ga K "is_odd_choice"))
  f_word_of_size : ∃ fd, FnP K "word_of_size" (top 49) (He.ga K "word_of_size") fd
  m_word_of_size : mg "word_of_size" = some (.ref (He.ga K "word_of_size"))
  f_even_sum : ∃ fd, FnP K "even_sum" (top 55) (He.ga K "even_sum") fd
  m_even_sum : mg "even_sum" = some (.ref (He.ga K "even_sum"))
  f_is_word : ∃ fd, FnP K "is_word" (top 20) (He.ga K "is_word") fd
  m_is_word : mg "is_word" = some (.ref (He.ga K "is_word"))
  f_fits_function : ∃ fd, FnP K "fits_function" (top 21) (He.ga K "fits_function") fd
  m_fits_function : mg "fits_function" = some (.ref (He.ga K "fits_function"))
  f_need_function : ∃ fd, FnP K "need_function" (top 22) (He.ga K "need_function") fd
  m_need_function : mg "need_function" = some (.ref (He.ga K "need_function"))
  f_rows_by_ones : ∃ fd, FnP K "rows_by_ones" (top 39) (He.ga K "rows_by_ones") fd
  m_rows_by_ones : mg "rows_by_ones" = some (.ref (He.ga K "rows_by_ones"))
  f_count_in : ∃ fd, FnP K "count_in" (top 24) (He.ga K "count_in") fd
  m_count_in : mg "count_in" = some (.ref (He.ga K "count_in"))
  f_number_in : ∃ fd, FnP K "number_in" (top 27) (He.ga K "number_in") fd
  m_number_in : mg "number_in" = some (.ref (He.ga K "number_in"))
  f_answer_in : ∃ fd, FnP K "answer_in" (top 28) (He.ga K "answer_in") fd
  m_answer_in : mg "answer_in" = some (.ref (He.ga K "answer_in"))
  f_paper_in : ∃ fd, FnP K "paper_in" (top 40) (He.ga K "paper_in") fd
  m_paper_in : mg "paper_in" = some (.ref (He.ga K "paper_in"))
  f_word_sum : ∃ fd, FnP K "word_sum" (top 52) (He.ga K "word_sum") fd
  m_word_sum : mg "word_sum" = some (.ref (He.ga K "word_sum"))
  f_sizes_by_word : ∃ fd, FnP K "sizes_by_word" (top 51) (He.ga K "sizes_by_word") fd
  m_sizes_by_word : mg "sizes_by_word" = some (.ref (He.ga K "sizes_by_word"))
  f_counts_in : ∃ fd, FnP K "counts_in" (top 41) (He.ga K "counts_in") fd
  m_counts_in : mg "counts_in" = some (.ref (He.ga K "counts_in"))
  f_sum_form : ∃ fd, FnP K "sum_form" (top 56) (He.ga K "sum_form") fd
  m_sum_form : mg "sum_form" = some (.ref (He.ga K "sum_form"))
  f_is_tuple_of : ∃ fd, FnP K "is_tuple_of" (top 18) (He.ga K "is_tuple_of") fd
  m_is_tuple_of : mg "is_tuple_of" = some (.ref (He.ga K "is_tuple_of"))
  f_is_rising : ∃ fd, FnP K "is_rising" (top 19) (He.ga K "is_rising") fd
  m_is_rising : mg "is_rising" = some (.ref (He.ga K "is_rising"))
  f_fits_signs : ∃ fd, FnP K "fits_signs" (top 25) (He.ga K "fits_signs") fd
  m_fits_signs : mg "fits_signs" = some (.ref (He.ga K "fits_signs"))
  f_word_by_sizes : ∃ fd, FnP K "word_by_sizes" (top 50) (He.ga K "word_by_sizes") fd
  m_word_by_sizes : mg "word_by_sizes" = some (.ref (He.ga K "word_by_sizes"))
  f_symmetric_by_sums : ∃ fd, FnP K "symmetric_by_sums" (top 57) (He.ga K "symmetric_by_sums") fd
  m_symmetric_by_sums : mg "symmetric_by_sums" = some (.ref (He.ga K "symmetric_by_sums"))
  f_count_symmetric : ∃ fd, FnP K "count_symmetric" (top 58) (He.ga K "count_symmetric") fd
  m_count_symmetric : mg "count_symmetric" = some (.ref (He.ga K "count_symmetric"))
  f_counts_of : ∃ fd, FnP K "counts_of" (top 43) (He.ga K "counts_of") fd
  m_counts_of : mg "counts_of" = some (.ref (He.ga K "counts_of"))
  f_words_of : ∃ fd, FnP K "words_of" (top 53) (He.ga K "words_of") fd
  m_words_of : mg "words_of" = some (.ref (He.ga K "words_of"))
  f_turned_at : ∃ fd, FnP K "turned_at" (top 30) (He.ga K "turned_at") fd
  m_turned_at : mg "turned_at" = some (.ref (He.ga K "turned_at"))
  f_flipped_in : ∃ fd, FnP K "flipped_in" (top 31) (He.ga K "flipped_in") fd
  m_flipped_in : mg "flipped_in" = some (.ref (He.ga K "flipped_in"))
  f_lots_of_signs : ∃ fd, FnP K "lots_of_signs" (top 45) (He.ga K "lots_of_signs") fd
  m_lots_of_signs : mg "lots_of_signs" = some (.ref (He.ga K "lots_of_signs"))
  f_with_flips : ∃ fd, FnP K "with_flips" (top 54) (He.ga K "with_flips") fd
  m_with_flips : mg "with_flips" = some (.ref (He.ga K "with_flips"))
  f_count_with_flips : ∃ fd, FnP K "count_with_flips" (top 59) (He.ga K "count_with_flips") fd
  m_count_with_flips : mg "count_with_flips" = some (.ref (He.ga K "count_with_flips"))
  f__law_rows : ∃ fd, FnP K "_law_rows" (top 66) (He.ga K "_law_rows") fd
  m__law_rows : mg "_law_rows" = some (.ref (He.ga K "_law_rows"))
  f_flip_lots : ∃ fd, FnP K "flip_lots" (top 46) (He.ga K "flip_lots") fd
  m_flip_lots : mg "flip_lots" = some (.ref (He.ga K "flip_lots"))
  f__law_flips_right : ∃ fd, FnP K "_law_flips_right" (top 71) (He.ga K "_law_flips_right") fd
  m__law_flips_right : mg "_law_flips_right" = some (.ref (He.ga K "_law_flips_right"))
  f_fits_word : ∃ fd, FnP K "fits_word" (top 36) (He.ga K "fits_word") fd
  m_fits_word : mg "fits_word" = some (.ref (He.ga K "fits_word"))
  f_need_word : ∃ fd, FnP K "need_word" (top 37) (He.ga K "need_word") fd
  m_need_word : mg "need_word" = some (.ref (He.ga K "need_word"))
  f_function_of_counts : ∃ fd, FnP K "function_of_counts" (top 42) (He.ga K "function_of_counts") fd
  m_function_of_counts : mg "function_of_counts" = some (.ref (He.ga K "function_of_counts"))
  f__law_roll : ∃ fd, FnP K "_law_roll" (top 62) (He.ga K "_law_roll") fd
  m__law_roll : mg "_law_roll" = some (.ref (He.ga K "_law_roll"))
  f__law_choices : ∃ fd, FnP K "_law_choices" (top 68) (He.ga K "_law_choices") fd
  m__law_choices : mg "_law_choices" = some (.ref (He.ga K "_law_choices"))
  f__law_sum : ∃ fd, FnP K "_law_sum" (top 69) (He.ga K "_law_sum") fd
  m__law_sum : mg "_law_sum" = some (.ref (He.ga K "_law_sum"))
  f__law_lots : ∃ fd, FnP K "_law_lots" (top 67) (He.ga K "_law_lots") fd
  m__law_lots : mg "_law_lots" = some (.ref (He.ga K "_law_lots"))
  f_need_alike : ∃ fd, FnP K "need_alike" (top 23) (He.ga K "need_alike") fd
  m_need_alike : mg "need_alike" = some (.ref (He.ga K "need_alike"))
  f_joined_in : ∃ fd, FnP K "joined_in" (top 32) (He.ga K "joined_in") fd
  m_joined_in : mg "joined_in" = some (.ref (He.ga K "joined_in"))
  f_joined : ∃ fd, FnP K "joined" (top 33) (He.ga K "joined") fd
  m_joined : mg "joined" = some (.ref (He.ga K "joined"))
  f__law_some : ∃ fd, FnP K "_law_some" (top 63) (He.ga K "_law_some") fd
  m__law_some : mg "_law_some" = some (.ref (He.ga K "_law_some"))
  f_sign_function : ∃ fd, FnP K "sign_function" (top 34) (He.ga K "sign_function") fd
  m_sign_function : mg "sign_function" = some (.ref (He.ga K "sign_function"))
  f__law_right : ∃ fd, FnP K "_law_right" (top 70) (He.ga K "_law_right") fd
  m__law_right : mg "_law_right" = some (.ref (He.ga K "_law_right"))
  f_law : ∃ fd, FnP K "law" (top 72) (He.ga K "law") fd
  m_law : mg "law" = some (.ref (He.ga K "law"))
/-! ### the walk -/
section
variable {P : Program} {w : World} {K : PySem.W.Frag} {mg : Str → Option Value} {base : Heap}
theorem ok__law_cup {cupOf : List Int → Cup} (hcup : ∀ ns : List Int, ns.length ≤ 63 → ∃ ε c1 c2, u__law_cup (startD N__law_cup.length [.scr ns]) (0, 0) = some (.nx ε c1) ∧ v__law_cup ε c1 = some (.lst [.int (cupOf ns).1, .int (cupOf ns).2], c2))
    (FX : Fx K mg) {fd : FuncData} (F : FnP K "_law_cup" (top 61) (He.ga K "_law_cup") fd) : FnOk P w K mg base CX0 1 (He.ga K "_law_cup") fd ["script"] (spCup ⟨K, fun _ => 0⟩ cupOf) := by
  refine cup_ok (W := ⟨K, fun _ => 0⟩) (N := N__law_cup) F sc__law_cup (k := 0) (u := u__law_cup) (fe := v__law_cup) (fun cdv A outer s H E hr => ?_) hcup
  have hu := hr.units
  exact ⟨(s_set 1 sc__law_cup.nd (d_callB c_abs rfl FX.n_abs bt_abs (d_up (d_ix rfl (d_up (d_new (d_binN o_cat (d_up (d_new (d_callTN (c_list rfl) rfl FX.n_list bt_list (d_pk 0)))) (d_up (d_new (d_lst (a_cons d_int a_nil) (al_cons al_nil))))))) (d_up d_int))))), (d_lst (a_cons (d_if (q_bin (o_ge rfl hu) (d_pk 1) (d_up (d_bin o_pow (d_up d_int) (d_up d_int)))) (d_bin o_div (d_pk 1) (d_up d_int)) d_int) (a_cons (d_bin (o_add rfl) (d_up (d_bin o_mod (d_up (d_callT c_int rfl FX.n_int bt_int (d_up (d_bin (o_add rfl) (d_up (d_bin o_mulA (d_pk 1) (d_up d_int))) (d_up d_int))))) (d_up d_int))) (d_up d_int)) a_nil)) (al_cons (al_cons al_nil)))⟩
theorem ok__law_sort (FX : Fx K mg) : OkD P w ⟨K, fun _ => 0⟩ mg base "_law_sort" 1 ["value"] m__law_sort := by
  obtain ⟨fd, F⟩ := FX.f__law_sort
  refine okd F FX.m__law_sort (N := N__law_sort) sc__law_sort (k := 0) (u := u__law_sort) (F.bindsN fun _ _ _ _ _ _ us hl => match us, hl with | [_], _ => rfl) fun cdv A outer s H E hr => ?_
  have hu := hr.units
  exact (s_cons (s_if (w_pt (w_or (q_bin o_is (d_pk 0) (d_up d_non)) (w_or1 (q_tru rfl (d_up (d_isi rfl (by decide +kernel) rfl FX.n_isinstance rfl FX.n_bool bt_bool (d_pk 0))))))) (s_cons (s_ret (d_if (q_bin o_is (d_pk 0) (d_up d_non)) d_int d_int))
    s_nil) s_nil)
    (s_cons (s_if (w_pt (w_or (q_tru rfl (d_up (d_isi rfl (by decide +kernel) rfl FX.n_isinstance rfl FX.n_int bt_int (d_pk 0)))) (w_or1 (q_tru rfl (d_up (d_isi rfl (by decide +kernel) rfl FX.n_isinstance rfl FX.n_str bt_str (d_pk 0))))))) (s_cons (s_ret (d_if (q_tru rfl (d_up (d_isi rfl (by decide +kernel) rfl FX.n_isinstance rfl FX.n_int bt_int (d_pk 0)))) d_int d_int))
    s_nil) s_nil)
    (s_cons (s_ret (d_if (q_tru rfl (d_up (d_isi rfl (by decide +kernel) rfl FX.n_isinstance rfl FX.n_tuple bt_tuple (d_pk 0)))) d_int (d_if (q_tru rfl (d_up (d_isi rfl (by decide +kernel) rfl FX.n_isinstance rfl FX.n_list bt_list (d_pk 0)))) d_int d_int)))
    s_nil)))
theorem ok__law_like (FX : Fx K mg) : ∀ n, OkD P w ⟨K, fun _ => 0⟩ mg base "_law_like" (2 + n) ["one", "other"] (m__law_like n)
  | 0 => by
    obtain ⟨fd, F⟩ := FX.f__law_like
    exact okd0 F FX.m__law_like (k := 1) sc__law_like (F.bindsN fun _ _ _ _ _ _ us hl => match us, hl with | [_, _], _ => rfl)
  | n + 1 => by
    have G_rec := ok__law_like FX n
    have G__law_sort := ok__law_sort (P := P) (w := w) (base := base) FX
    obtain ⟨fd, F⟩ := FX.f__law_like
    refine okd F FX.m__law_like (N := N__law_like) sc__law_like (k := 2 + n) (u := u__law_like (m__law_like n)) (F.bindsN fun _ _ _ _ _ _ us hl => match us, hl with | [_, _], _ => rfl) fun cdv A outer s H E hr => ?_
    have hu := hr.units
    exact (s_cons (s_set 2 sc__law_like.nd (d_callO G__law_sort rfl (by first | decide | omega) hr rfl (a_cons (d_var 1) a_nil) (al_cons al_nil)))
    (s_cons (s_if (w_pt (w_or (q_bin (o_ne rfl hu) (d_up (d_callO G__law_sort rfl (by first | decide | omega) hr rfl (a_cons (d_var 0) a_nil) (al_cons al_nil))) (d_pk 2)) (w_or1 (q_bin (o_eq rfl hu) (d_pk 2) (d_up d_int))))) (s_cons (s_ret d_bl)
    s_nil) s_nil)
    (s_cons (s_if (q_bin (o_in rfl hu) (d_pk 2) (d_up (d_tup (a_cons d_int (a_cons d_int a_nil)) (al_cons (al_cons al_nil))))) (s_cons (s_ret (d_and (d_cmp (o_eq rfl hu) (d_up (d_callB (c_len rfl) rfl FX.n_len bt_len (d_pk 0))) (d_up (d_callB (c_len rfl) rfl FX.n_len bt_len (d_pk 1)))) (d_one (d_cmp (o_eq rfl hu) (d_up (d_new (d_comp (own := [("first", 3), ("second", 4)]) rfl sc__law_like.nd (i_zi rfl rfl FX.n_zip (d_var 0) (d_var 1)) (blk_of (by kernel_rfl)) (fun _ _ _ _ _ => (g_tup2 3 4 rfl rfl sc__law_like.nd)) (fun _ _ _ _ _ => (t_one (q_not (q_tru rfl (d_up (d_callO G_rec rfl (Nat.le_refl _) hr rfl (a_cons (d_var 3) (a_cons (d_var 4) a_nil)) (al_cons (al_cons al_nil)))))))) (fun _ _ _ _ _ => d_int)))) (d_up (d_new (d_lst a_nil al_nil)))))))
    s_nil) s_nil)
    (s_cons (s_ret (d_cmp (o_eq rfl hu) (d_pk 0) (d_pk 1)))
    s_nil))))
theorem ok_is_integer (FX : Fx K mg) : OkD P w ⟨K, fun _ => 0⟩ mg base "is_integer" 1 ["value"] m_is_integer := by
  obtain ⟨fd, F⟩ := FX.f_is_integer
  refine okd F FX.m_is_integer (N := N_is_integer) sc_is_integer (k := 0) (u := u_is_integer) (F.bindsN fun _ _ _ _ _ _ us hl => match us, hl with | [_], _ => rfl) fun cdv A outer s H E hr => ?_
  have hu := hr.units
  exact (s_cons (s_ret (d_and (d_isi rfl (by decide +kernel) rfl FX.n_isinstance rfl FX.n_int bt_int (d_pk 0)) (d_one (d_not (d_isi rfl (by decide +kernel) rfl FX.n_isinstance rfl FX.n_bool bt_bool (d_pk 0))))))
    s_nil)
theorem ok_is_whole (FX : Fx K mg) : OkD P w ⟨K, fun _ => 0⟩ mg base "is_whole" 2 ["value", "low", "high"] m_is_whole := by
  have G_is_integer := ok_is_integer (P := P) (w := w) (base := base) FX
  obtain ⟨fd, F⟩ := FX.f_is_whole
  refine okd F FX.m_is_whole (N := N_is_whole) sc_is_whole (k := 1) (u := u_is_whole) (F.bindsN fun _ _ _ _ _ _ us hl => match us, hl with | [_, _, _], _ => rfl) fun cdv A outer s H E hr => ?_
  have hu := hr.units
  exact (s_cons (s_ret (d_and (d_callO G_is_integer rfl (by first | decide | omega) hr rfl (a_cons (d_var 0) a_nil) (al_cons al_nil)) (d_one (d_chain (o_le rfl hu) (o_le rfl hu) (d_pk 1) (d_pk 0) (d_pk 2)))))
    s_nil)
theorem ok_need_whole (FX : Fx K mg) : OkD P w ⟨K, fun _ => 0⟩ mg base "need_whole" 3 ["value", "low", "high"] m_need_whole := by
  have G_is_whole := ok_is_whole (P := P) (w := w) (base := base) FX
  obtain ⟨fd, F⟩ := FX.f_need_whole
  refine okd F FX.m_need_whole (N := N_need_whole) sc_need_whole (k := 2) (u := u_need_whole) (F.bindsN fun _ _ _ _ _ _ us hl => match us, hl with | [_, _, _], _ => rfl) fun cdv A outer s H E hr => ?_
  have hu := hr.units
  exact (s_cons (s_if (q_not (q_tru rfl (d_up (d_callO G_is_whole rfl (by first | decide | omega) hr rfl (a_cons (d_var 0) (a_cons (d_var 1) (a_cons (d_var 2) a_nil))) (al_cons (al_cons (al_cons al_nil))))))) (s_cons s_no
    s_nil) s_nil)
    s_nil)
theorem ok_function_by (FX : Fx K mg) : OkD P w ⟨K, fun _ => 0⟩ mg base "function_by" 1 ["answers"] m_function_by := by
  obtain ⟨fd, F⟩ := FX.f_function_by
  refine okd F FX.m_function_by (N := N_function_by) sc_function_by (k := 0) (u := u_function_by) (F.bindsN fun _ _ _ _ _ _ us hl => match us, hl with | [_], _ => rfl) fun cdv A outer s H E hr => ?_
  have hu := hr.units
  exact (s_cons (s_ret (d_join rfl (d_up (d_new (d_comp (own := [("answer", 1)]) rfl sc_function_by.nd (i_val rfl (d_var 0)) (blk_of (by kernel_rfl)) (fun _ _ _ _ _ => (g_name 1 sc_function_by.nd)) (fun _ _ _ _ _ => t_nil) (fun _ _ _ _ _ => (d_if (q_tru rfl (d_pk 1)) (d_str [49]) (d_str [48]))))))))
    s_nil)
theorem ok_rows_in (FX : Fx K mg) : OkD P w ⟨K, fun _ => 0⟩ mg base "rows_in" 1 ["many"] m_rows_in := by
  obtain ⟨fd, F⟩ := FX.f_rows_in
  refine okd F FX.m_rows_in (N := N_rows_in) sc_rows_in (k := 0) (u := u_rows_in) (F.bindsN fun _ _ _ _ _ _ us hl => match us, hl with | [_], _ => rfl) fun cdv A outer s H E hr => ?_
  have hu := hr.units
  exact (s_cons (s_set 1 sc_rows_in.nd (d_new (d_lst (a_cons (d_tup a_nil al_nil) a_nil) (al_cons al_nil))))
    (s_cons (s_for rfl (i_range1 rfl FX.n_range (d_var 0)) (g_name 2 sc_rows_in.nd) (s_cons (s_set 1 sc_rows_in.nd (d_new (d_binN o_cat (d_up (d_new (d_comp (own := [("row", 3)]) rfl sc_rows_in.nd (i_val rfl (d_var 1)) (blk_of (by kernel_rfl)) (fun _ _ _ _ _ => (g_name 3 sc_rows_in.nd)) (fun _ _ _ _ _ => t_nil) (fun _ _ _ _ _ => (d_bin (o_add rfl) (d_pk 3) (d_up (d_tup (a_cons d_int a_nil) (al_cons al_nil)))))))) (d_up (d_new (d_comp (own := [("row", 3)]) rfl sc_rows_in.nd (i_val rfl (d_var 1)) (blk_of (by kernel_rfl)) (fun _ _ _ _ _ => (g_name 3 sc_rows_in.nd)) (fun _ _ _ _ _ => t_nil) (fun _ _ _ _ _ => (d_bin (o_add rfl) (d_pk 3) (d_up (d_tup (a_cons d_int a_nil) (al_cons al_nil)))))))))))
    s_nil))
    (s_cons (s_ret (d_new (d_callBN (c_sorted rfl hu) rfl FX.n_sorted bt_sorted (d_pk 1))))
    s_nil)))
theorem ok_function_in_counts (FX : Fx K mg) : OkD P w ⟨K, fun _ => 0⟩ mg base "function_in_counts" 2 ["word"] m_function_in_counts := by
  have G_function_by := ok_function_by (P := P) (w := w) (base := base) FX
  have G_rows_in := ok_rows_in (P := P) (w := w) (base := base) FX
  obtain ⟨fd, F⟩ := FX.f_function_in_counts
  refine okd F FX.m_function_in_counts (N := N_function_in_counts) sc_function_in_counts (k := 1) (u := u_function_in_counts) (F.bindsN fun _ _ _ _ _ _ us hl => match us, hl with | [_], _ => rfl) fun cdv A outer s H E hr => ?_
  have hu := hr.units
  exact (s_cons (s_ret (d_callO G_function_by rfl (by first | decide | omega) hr rfl (a_cons (d_new (d_comp (own := [("row", 1)]) rfl sc_function_in_counts.nd (i_val rfl (d_callO G_rows_in rfl (by first | decide | omega) hr rfl (a_cons (d_bin o_sub (d_up (d_callB (c_len rfl) rfl FX.n_len bt_len (d_pk 0))) (d_up d_int)) a_nil) (al_cons al_nil))) (blk_of (by kernel_rfl)) (fun _ _ _ _ _ => (g_name 1 sc_function_in_counts.nd)) (fun _ _ _ _ _ => t_nil) (fun _ _ _ _ _ => (d_cmp (o_eq rfl hu) (d_up (d_ix rfl (d_pk 0) (d_up (d_callB (c_sum rfl rfl) rfl FX.n_sum bt_sum (d_pk 1))))) (d_up (d_str [49])))))) a_nil) (al_cons al_nil)))
    s_nil)
theorem ok_is_odd_choice (FX : Fx K mg) : OkD P w ⟨K, fun _ => 0⟩ mg base "is_odd_choice" 1 ["many", "some"] m_is_odd_choice := by
  obtain ⟨fd, F⟩ := FX.f_is_odd_choice
  refine okd F FX.m_is_odd_choice (N := N_is_odd_choice) sc_is_odd_choice (k := 0) (u := u_is_odd_choice) (F.bindsN fun _ _ _ _ _ _ us hl => match us, hl with | [_, _], _ => rfl) fun cdv A outer s H E hr => ?_
  have hu := hr.units
  exact (s_cons (s_ret (d_cmp (o_eq rfl hu) (d_up (d_bin o_and (d_pk 0) (d_pk 1))) (d_pk 1)))
    s_nil)
theorem ok_word_of_size (FX : Fx K mg) : OkD P w ⟨K, fun _ => 0⟩ mg base "word_of_size" 2 ["many", "size"] m_word_of_size := by
  have G_is_odd_choice := ok_is_odd_choice (P := P) (w := w) (base := base) FX
  obtain ⟨fd, F⟩ := FX.f_word_of_size
  refine okd F FX.m_word_of_size (N := N_word_of_size) sc_word_of_size (k := 1) (u := u_word_of_size) (F.bindsN fun _ _ _ _ _ _ us hl => match us, hl with | [_, _], _ => rfl) fun cdv A outer s H E hr => ?_
  have hu := hr.units
  exact (s_cons (s_ret (d_join rfl (d_up (d_new (d_comp (own := [("ones", 2)]) rfl sc_word_of_size.nd (i_range1 rfl FX.n_range (d_bin (o_add rfl) (d_pk 0) (d_up d_int))) (blk_of (by kernel_rfl)) (fun _ _ _ _ _ => (g_name 2 sc_word_of_size.nd)) (fun _ _ _ _ _ => t_nil) (fun _ _ _ _ _ => (d_if (q_tru rfl (d_up (d_callO G_is_odd_choice rfl (by first | decide | omega) hr rfl (a_cons (d_var 2) (a_cons (d_var 1) a_nil)) (al_cons (al_cons al_nil))))) (d_str [49]) (d_str [48]))))))))
    s_nil)
theorem ok_even_sum (FX : Fx K mg) : OkD P w ⟨K, fun _ => 0⟩ mg base "even_sum" 4 ["many", "size"] m_even_sum := by
  have G_function_in_counts := ok_function_in_counts (P := P) (w := w) (base := base) FX
  have G_need_whole := ok_need_whole (P := P) (w := w) (base := base) FX
  have G_word_of_size := ok_word_of_size (P := P) (w := w) (base := base) FX
  obtain ⟨fd, F⟩ := FX.f_even_sum
  refine okd F FX.m_even_sum (N := N_even_sum) sc_even_sum (k := 3) (u := u_even_sum) (F.bindsN fun _ _ _ _ _ _ us hl => match us, hl with | [_, _], _ => rfl) fun cdv A outer s H E hr => ?_
  have hu := hr.units
  exact (s_cons (s_expr (d_callO G_need_whole rfl (by first | decide | omega) hr rfl (a_cons (d_var 0) (a_cons d_int (a_cons (d_gint rfl FX.g_MOST) a_nil))) (al_cons (al_cons (al_cons al_nil)))))
    (s_cons (s_expr (d_callO G_need_whole rfl (by first | decide | omega) hr rfl (a_cons (d_var 1) (a_cons d_int (a_cons (d_var 0) a_nil))) (al_cons (al_cons (al_cons al_nil)))))
    (s_cons (s_ret (d_callO G_function_in_counts rfl (by first | decide | omega) hr rfl (a_cons (d_callO G_word_of_size rfl (by first | decide | omega) hr rfl (a_cons (d_var 0) (a_cons (d_var 1) a_nil)) (al_cons (al_cons al_nil))) a_nil) (al_cons al_nil)))
    s_nil)))
theorem ok_is_word (FX : Fx K mg) : OkD P w ⟨K, fun _ => 0⟩ mg base "is_word" 1 ["value", "signs", "low", "high"] m_is_word := by
  obtain ⟨fd, F⟩ := FX.f_is_word
  refine okd F FX.m_is_word (N := N_is_word) sc_is_word (k := 0) (u := u_is_word) (F.bindsN fun _ _ _ _ _ _ us hl => match us, hl with | [_, _, _, _], _ => rfl) fun cdv A outer s H E hr => ?_
  have hu := hr.units
  exact (s_cons (s_ret (d_and (d_isi rfl (by decide +kernel) rfl FX.n_isinstance rfl FX.n_str bt_str (d_pk 0)) (d_and (d_chain (o_le rfl hu) (o_le rfl hu) (d_pk 2) (d_up (d_callB (c_len rfl) rfl FX.n_len bt_len (d_pk 0))) (d_pk 3)) (d_one (d_callB (c_all rfl) rfl FX.n_all bt_all (d_up (d_new (d_comp (own := [("sign", 4)]) rfl sc_is_word.nd (i_val rfl (d_var 0)) (blk_of (by kernel_rfl)) (fun _ _ _ _ _ => (g_name 4 sc_is_word.nd)) (fun _ _ _ _ _ => t_nil) (fun _ _ _ _ _ => (d_cmp (o_in rfl hu) (d_pk 4) (d_pk 1)))))))))))
    s_nil)
theorem ok_fits_function (FX : Fx K mg) : OkD P w ⟨K, fun _ => 0⟩ mg base "fits_function" 2 ["value"] m_fits_function := by
  have G_is_word := ok_is_word (P := P) (w := w) (base := base) FX
  obtain ⟨fd, F⟩ := FX.f_fits_function
  refine okd F FX.m_fits_function (N := N_fits_function) sc_fits_function (k := 1) (u := u_fits_function) (F.bindsN fun _ _ _ _ _ _ us hl => match us, hl with | [_], _ => rfl) fun cdv A outer s H E hr => ?_
  have hu := hr.units
  exact (s_cons (s_ret (d_and (d_callO G_is_word rfl (by first | decide | omega) hr rfl (a_cons (d_var 0) (a_cons (d_gstr [48, 49] rfl FX.g_ANSWERS) (a_cons d_int (a_cons (d_ix rfl (d_up (d_gtup rfl FX.g_LENGTHS (kInts_rep FX.k_LENGTHS (by decide)))) (d_up (d_gint rfl FX.g_MOST))) a_nil)))) (al_cons (al_cons (al_cons (al_cons al_nil))))) (d_one (d_cmp (o_in rfl hu) (d_up (d_callB (c_len rfl) rfl FX.n_len bt_len (d_pk 0))) (d_up (d_gtup rfl FX.g_LENGTHS (kInts_rep FX.k_LENGTHS (by decide))))))))
    s_nil)
theorem ok_need_function (FX : Fx K mg) : OkD P w ⟨K, fun _ => 0⟩ mg base "need_function" 3 ["value"] m_need_function := by
  have G_fits_function := ok_fits_function (P := P) (w := w) (base := base) FX
  obtain ⟨fd, F⟩ := FX.f_need_function
  refine okd F FX.m_need_function (N := N_need_function) sc_need_function (k := 2) (u := u_need_function) (F.bindsN fun _ _ _ _ _ _ us hl => match us, hl with | [_], _ => rfl) fun cdv A outer s H E hr => ?_
  have hu := hr.units
  exact (s_cons (s_if (q_not (q_tru rfl (d_up (d_callO G_fits_function rfl (by first | decide | omega) hr rfl (a_cons (d_var 0) a_nil) (al_cons al_nil))))) (s_cons s_no
    s_nil) s_nil)
    s_nil)
theorem ok_rows_by_ones (FX : Fx K mg) : OkD P w ⟨K, fun _ => 0⟩ mg base "rows_by_ones" 2 ["many"] m_rows_by_ones := by
  have G_rows_in := ok_rows_in (P := P) (w := w) (base := base) FX
  obtain ⟨fd, F⟩ := FX.f_rows_by_ones
  refine okd F FX.m_rows_by_ones (N := N_rows_by_ones) sc_rows_by_ones (k := 1) (u := u_rows_by_ones) (F.bindsN fun _ _ _ _ _ _ us hl => match us, hl with | [_], _ => rfl) fun cdv A outer s H E hr => ?_
  have hu := hr.units
  refine PSs.imp (pss_cons (ps_setLc (i := 1) (own := [("ones", 3)]) rfl sc_rows_by_ones.nd rfl rfl (by rfl) (i_range1 rfl FX.n_range (d_bin (o_add rfl) (d_pk 0) (d_up d_int))) (blk_of (show blkB N_rows_by_ones (defScope (top 39)) _ [("ones", 3)] = true from by decide +kernel))
      (fun _ _ _ _ _ => (g_name (W := ⟨K, fun _ => 0⟩) 3 sc_rows_by_ones.nd).pg) (fun _ _ _ _ _ => t_nil) (fun _ _ _ _ _ => pe_lst pa_nil))
    (pss_cons (ps_for PassesOwn.never rfl (i_val rfl (d_callO G_rows_in rfl (by decide) hr rfl (a_cons (d_var 0) a_nil) (al_cons al_nil))) (g_name (W := ⟨K, fun _ => 0⟩) 2 sc_rows_by_ones.nd).pg
        (pss_one (ps_expr (pe_bm PySem.F.plainAttrs_list PySem.F.slot_list_append PySem.F.type_list_append mt_append (pe_ix ix_list (pv 1) (d_callB (c_sum rfl rfl) rfl FX.n_sum bt_sum (d_pk 2)) (fun _ _ => rfl)) (a_cons (d_var 2) a_nil)))))
      (pss_one (ps_ret (pv 1))))) (rbo_read ?_ ?_ ?_)
  · intro ε c n h0 hb
    show iRange1 (e2 pAdd (ePk 0) (eC (.int 1))) ε c = _
    have : (e2 pAdd (ePk 0) (eC (.int 1))) ε c = some (.int (n + 1), c) := by simp [e2, ePk, h0, eC, pAdd]
    unfold iRange1
    rw [this]
    show (if n + 1 ≤ 1000000 ∧ -1000000 ≤ n + 1 then _ else _) = _
    rw [if_pos ⟨by omega, by omega⟩]
  · intro ε c n h0
    simp [iVal, eCall, lCons, lNil, eVar, h0]
  · intro ε c d ds ns h0 hd hi
    subst hd
    simp [e1, ePk, h0, pSum, hi]
theorem ok_count_in (FX : Fx K mg) : OkD P w ⟨K, fun _ => 0⟩ mg base "count_in" 1 ["function"] m_count_in := by
  obtain ⟨fd, F⟩ := FX.f_count_in
  refine okd F FX.m_count_in (N := N_count_in) sc_count_in (k := 0) (u := u_count_in) (F.bindsN fun _ _ _ _ _ _ us hl => match us, hl with | [_], _ => rfl) fun cdv A outer s H E hr => ?_
  have hu := hr.units
  exact (s_cons (s_ret (d_idx rfl FX.g_LENGTHS FX.k_LENGTHS (d_callB (c_len rfl) rfl FX.n_len bt_len (d_pk 0))))
    s_nil)
theorem ok_number_in (FX : Fx K mg) : OkD P w ⟨K, fun _ => 0⟩ mg base "number_in" 1 ["row"] m_number_in := by
  obtain ⟨fd, F⟩ := FX.f_number_in
  refine okd F FX.m_number_in (N := N_number_in) sc_number_in (k := 0) (u := u_number_in) (F.bindsN fun _ _ _ _ _ _ us hl => match us, hl with | [_], _ => rfl) fun cdv A outer s H E hr => ?_
  have hu := hr.units
  exact (s_cons (s_set 1 sc_number_in.nd d_int)
    (s_cons (s_for rfl (i_val rfl (d_var 0)) (g_name 2 sc_number_in.nd) (s_cons (s_set 1 sc_number_in.nd (d_bin (o_add rfl) (d_up (d_bin o_mulA (d_up d_int) (d_pk 1))) (d_pk 2)))
    s_nil))
    (s_cons (s_ret (d_var 1))
    s_nil)))
theorem ok_answer_in (FX : Fx K mg) : OkD P w ⟨K, fun _ => 0⟩ mg base "answer_in" 2 ["function", "row"] m_answer_in := by
  have G_number_in := ok_number_in (P := P) (w := w) (base := base) FX
  obtain ⟨fd, F⟩ := FX.f_answer_in
  refine okd F FX.m_answer_in (N := N_answer_in) sc_answer_in (k := 1) (u := u_answer_in) (F.bindsN fun _ _ _ _ _ _ us hl => match us, hl with | [_, _], _ => rfl) fun cdv A outer s H E hr => ?_
  have hu := hr.units
  exact (s_cons (s_ret (d_callT c_int rfl FX.n_int bt_int (d_up (d_ix rfl (d_pk 0) (d_up (d_callO G_number_in rfl (by first | decide | omega) hr rfl (a_cons (d_var 1) a_nil) (al_cons al_nil)))))))
    s_nil)
theorem ok_paper_in (FX : Fx K mg) : OkD P w ⟨K, fun _ => 0⟩ mg base "paper_in" 3 ["function"] m_paper_in := by
  have G_answer_in := ok_answer_in (P := P) (w := w) (base := base) FX
  have G_count_in := ok_count_in (P := P) (w := w) (base := base) FX
  have G_rows_by_ones := ok_rows_by_ones (P := P) (w := w) (base := base) FX
  obtain ⟨fd, F⟩ := FX.f_paper_in
  refine okd F FX.m_paper_in (N := N_paper_in) sc_paper_in (k := 2) (u := u_paper_in) (F.bindsN fun _ _ _ _ _ _ us hl => match us, hl with | [_], _ => rfl) fun cdv A outer s H E hr => ?_
  have hu := hr.units
  exact (s_cons (s_for rfl (i_val rfl (d_callO G_rows_by_ones rfl (by first | decide | omega) hr rfl (a_cons (d_callO G_count_in rfl (by first | decide | omega) hr rfl (a_cons (d_var 0) a_nil) (al_cons al_nil)) a_nil) (al_cons al_nil))) (g_name 1 sc_paper_in.nd) (s_cons (s_comp 2 (own := [("row", 3)]) rfl sc_paper_in.nd (by rfl) (i_val rfl (d_var 1)) (blk_of (by kernel_rfl)) (fun _ _ _ _ _ => (g_name 3 sc_paper_in.nd)) (fun _ _ _ _ _ => (t_one (q_bin (o_ne rfl hu) (d_up (d_callO G_answer_in rfl (by first | decide | omega) hr rfl (a_cons (d_var 0) (a_cons (d_var 3) a_nil)) (al_cons (al_cons al_nil)))) (d_up (d_callO G_answer_in rfl (by first | decide | omega) hr rfl (a_cons (d_var 0) (a_cons (d_ix rfl (d_pk 1) (d_up d_int)) a_nil)) (al_cons (al_cons al_nil))))))) (fun _ _ _ _ _ => (d_var 3)))
    (s_fz 2 (s_cons (s_if (q_bin (o_ne rfl hu) (d_pk 2) (d_up (d_new (d_lst a_nil al_nil)))) (s_cons (s_ret (d_tup (a_cons (d_ix rfl (d_pk 1) (d_up d_int)) (a_cons (d_ix rfl (d_pk 2) (d_up d_int)) a_nil)) (al_cons (al_cons al_nil))))
    s_nil) s_nil)
    s_nil))))
    (s_cons (s_ret d_non)
    s_nil))
theorem ok_word_sum (FX : Fx K mg) : OkD P w ⟨K, fun _ => 0⟩ mg base "word_sum" 2 ["word", "size"] m_word_sum := by
  have G_is_odd_choice := ok_is_odd_choice (P := P) (w := w) (base := base) FX
  obtain ⟨fd, F⟩ := FX.f_word_sum
  refine okd F FX.m_word_sum (N := N_word_sum) sc_word_sum (k := 1) (u := u_word_sum) (F.bindsN fun _ _ _ _ _ _ us hl => match us, hl with | [_, _], _ => rfl) fun cdv A outer s H E hr => ?_
  have hu := hr.units
  exact (s_cons (s_ret (d_bin o_mod (d_up (d_callB (c_len rfl) rfl FX.n_len bt_len (d_up (d_new (d_comp (own := [("ones", 2), ("letter", 3)]) rfl sc_word_sum.nd (i_en rfl rfl FX.n_enumerate (d_var 0)) (blk_of (by kernel_rfl)) (fun _ _ _ _ _ => (g_tup2 2 3 rfl rfl sc_word_sum.nd)) (fun _ _ _ _ _ => (t_one (w_pt (w_and (q_bin (o_eq rfl hu) (d_pk 3) (d_up (d_str [49]))) (w_and1 (q_tru rfl (d_up (d_callO G_is_odd_choice rfl (by first | decide | omega) hr rfl (a_cons (d_var 1) (a_cons (d_var 2) a_nil)) (al_cons (al_cons al_nil)))))))))) (fun _ _ _ _ _ => (d_var 2))))))) (d_up d_int)))
    s_nil)
theorem ok_sizes_by_word (FX : Fx K mg) : OkD P w ⟨K, fun _ => 0⟩ mg base "sizes_by_word" 3 ["word"] m_sizes_by_word := by
  have G_word_sum := ok_word_sum (P := P) (w := w) (base := base) FX
  obtain ⟨fd, F⟩ := FX.f_sizes_by_word
  refine okd F FX.m_sizes_by_word (N := N_sizes_by_word) sc_sizes_by_word (k := 2) (u := u_sizes_by_word) (F.bindsN fun _ _ _ _ _ _ us hl => match us, hl with | [_], _ => rfl) fun cdv A outer s H E hr => ?_
  have hu := hr.units
  exact (s_cons (s_ret (d_new (d_comp (own := [("size", 1)]) rfl sc_sizes_by_word.nd (i_range1 rfl FX.n_range (d_callB (c_len rfl) rfl FX.n_len bt_len (d_pk 0))) (blk_of (by kernel_rfl)) (fun _ _ _ _ _ => (g_name 1 sc_sizes_by_word.nd)) (fun _ _ _ _ _ => (t_one (q_bin (o_eq rfl hu) (d_up (d_callO G_word_sum rfl (by first | decide | omega) hr rfl (a_cons (d_var 0) (a_cons (d_var 1) a_nil)) (al_cons (al_cons al_nil)))) (d_up d_int)))) (fun _ _ _ _ _ => (d_var 1)))))
    s_nil)
theorem ok_counts_in (FX : Fx K mg) : OkD P w ⟨K, fun _ => 0⟩ mg base "counts_in" 3 ["function"] m_counts_in := by
  have G_answer_in := ok_answer_in (P := P) (w := w) (base := base) FX
  have G_count_in := ok_count_in (P := P) (w := w) (base := base) FX
  have G_function_by := ok_function_by (P := P) (w := w) (base := base) FX
  have G_rows_by_ones := ok_rows_by_ones (P := P) (w := w) (base := base) FX
  obtain ⟨fd, F⟩ := FX.f_counts_in
  refine okd F FX.m_counts_in (N := N_counts_in) sc_counts_in (k := 2) (u := u_counts_in) (F.bindsN fun _ _ _ _ _ _ us hl => match us, hl with | [_], _ => rfl) fun cdv A outer s H E hr => ?_
  have hu := hr.units
  exact (s_cons (s_ret (d_join rfl (d_up (d_new (d_comp (own := [("rows", 1)]) rfl sc_counts_in.nd (i_val rfl (d_callO G_rows_by_ones rfl (by first | decide | omega) hr rfl (a_cons (d_callO G_count_in rfl (by first | decide | omega) hr rfl (a_cons (d_var 0) a_nil) (al_cons al_nil)) a_nil) (al_cons al_nil))) (blk_of (by kernel_rfl)) (fun _ _ _ _ _ => (g_name 1 sc_counts_in.nd)) (fun _ _ _ _ _ => t_nil) (fun _ _ _ _ _ => (d_callO G_function_by rfl (by first | decide | omega) hr rfl (a_cons (d_new (d_lst (a_cons (d_callO G_answer_in rfl (by first | decide | omega) hr rfl (a_cons (d_var 0) (a_cons (d_ix rfl (d_pk 1) (d_up d_int)) a_nil)) (al_cons (al_cons al_nil))) a_nil) (al_cons al_nil))) a_nil) (al_cons al_nil))))))))
    s_nil)
theorem ok_sum_form (FX : Fx K mg) : OkD P w ⟨K, fun _ => 0⟩ mg base "sum_form" 4 ["function"] m_sum_form := by
  have G_counts_in := ok_counts_in (P := P) (w := w) (base := base) FX
  have G_need_function := ok_need_function (P := P) (w := w) (base := base) FX
  have G_paper_in := ok_paper_in (P := P) (w := w) (base := base) FX
  have G_sizes_by_word := ok_sizes_by_word (P := P) (w := w) (base := base) FX
  obtain ⟨fd, F⟩ := FX.f_sum_form
  refine okd F FX.m_sum_form (N := N_sum_form) sc_sum_form (k := 3) (u := u_sum_form) (F.bindsN fun _ _ _ _ _ _ us hl => match us, hl with | [_], _ => rfl) fun cdv A outer s H E hr => ?_
  have hu := hr.units
  exact (s_cons (s_expr (d_callO G_need_function rfl (by first | decide | omega) hr rfl (a_cons (d_var 0) a_nil) (al_cons al_nil)))
    (s_cons (s_if (q_bin o_isnot (d_up (d_callO G_paper_in rfl (by first | decide | omega) hr rfl (a_cons (d_var 0) a_nil) (al_cons al_nil))) (d_up d_non)) (s_cons s_no
    s_nil) s_nil)
    (s_cons (s_ret (d_callT (c_tuple rfl) rfl FX.n_tuple bt_tuple (d_up (d_callO G_sizes_by_word rfl (by first | decide | omega) hr rfl (a_cons (d_callO G_counts_in rfl (by first | decide | omega) hr rfl (a_cons (d_var 0) a_nil) (al_cons al_nil)) a_nil) (al_cons al_nil)))))
    s_nil)))
theorem ok_is_tuple_of (FX : Fx K mg) : OkD P w ⟨K, fun _ => 0⟩ mg base "is_tuple_of" 1 ["value", "low", "high"] m_is_tuple_of := by
  obtain ⟨fd, F⟩ := FX.f_is_tuple_of
  refine okd F FX.m_is_tuple_of (N := N_is_tuple_of) sc_is_tuple_of (k := 0) (u := u_is_tuple_of) (F.bindsN fun _ _ _ _ _ _ us hl => match us, hl with | [_, _, _], _ => rfl) fun cdv A outer s H E hr => ?_
  have hu := hr.units
  exact (s_cons (s_ret (d_and (d_isi rfl (by decide +kernel) rfl FX.n_isinstance rfl FX.n_tuple bt_tuple (d_pk 0)) (d_one (d_chain (o_le rfl hu) (o_le rfl hu) (d_pk 1) (d_up (d_callB (c_len rfl) rfl FX.n_len bt_len (d_pk 0))) (d_pk 2)))))
    s_nil)
theorem ok_is_rising (FX : Fx K mg) : OkD P w ⟨K, fun _ => 0⟩ mg base "is_rising" 1 ["things"] m_is_rising := by
  obtain ⟨fd, F⟩ := FX.f_is_rising
  refine okd F FX.m_is_rising (N := N_is_rising) sc_is_rising (k := 0) (u := u_is_rising) (F.bindsN fun _ _ _ _ _ _ us hl => match us, hl with | [_], _ => rfl) fun cdv A outer s H E hr => ?_
  have hu := hr.units
  exact (s_cons (s_ret (d_callB (c_all rfl) rfl FX.n_all bt_all (d_up (d_new (d_comp (own := [("one", 1), ("other", 2)]) rfl sc_is_rising.nd (i_zi rfl rfl FX.n_zip (d_var 0) (d_cut rfl (d_pk 0) (o_some d_int) o_none)) (blk_of (by kernel_rfl)) (fun _ _ _ _ _ => (g_tup2 1 2 rfl rfl sc_is_rising.nd)) (fun _ _ _ _ _ => t_nil) (fun _ _ _ _ _ => (d_cmp (o_lt rfl hu) (d_pk 1) (d_pk 2))))))))
    s_nil)
theorem ok_fits_signs (FX : Fx K mg) : OkD P w ⟨K, fun _ => 0⟩ mg base "fits_signs" 3 ["many", "value"] m_fits_signs := by
  have G_is_rising := ok_is_rising (P := P) (w := w) (base := base) FX
  have G_is_tuple_of := ok_is_tuple_of (P := P) (w := w) (base := base) FX
  have G_is_whole := ok_is_whole (P := P) (w := w) (base := base) FX
  obtain ⟨fd, F⟩ := FX.f_fits_signs
  refine okd F FX.m_fits_signs (N := N_fits_signs) sc_fits_signs (k := 2) (u := u_fits_signs) (F.bindsN fun _ _ _ _ _ _ us hl => match us, hl with | [_, _], _ => rfl) fun cdv A outer s H E hr => ?_
  have hu := hr.units
  exact (s_cons (s_ret (d_and (d_callO G_is_tuple_of rfl (by first | decide | omega) hr rfl (a_cons (d_var 1) (a_cons d_int (a_cons (d_var 0) a_nil))) (al_cons (al_cons (al_cons al_nil)))) (d_and (d_callB (c_all rfl) rfl FX.n_all bt_all (d_up (d_new (d_comp (own := [("sign", 2)]) rfl sc_fits_signs.nd (i_val rfl (d_var 1)) (blk_of (by kernel_rfl)) (fun _ _ _ _ _ => (g_name 2 sc_fits_signs.nd)) (fun _ _ _ _ _ => t_nil) (fun _ _ _ _ _ => (d_callO G_is_whole rfl (by first | decide | omega) hr rfl (a_cons (d_var 2) (a_cons d_int (a_cons (d_bin o_sub (d_pk 0) (d_up d_int)) a_nil))) (al_cons (al_cons (al_cons al_nil))))))))) (d_one (d_callO G_is_rising rfl (by first | decide | omega) hr rfl (a_cons (d_var 1) a_nil) (al_cons al_nil))))))
    s_nil)
theorem ok_word_by_sizes (FX : Fx K mg) : OkD P w ⟨K, fun _ => 0⟩ mg base "word_by_sizes" 2 ["many", "sizes"] m_word_by_sizes := by
  have G_is_odd_choice := ok_is_odd_choice (P := P) (w := w) (base := base) FX
  obtain ⟨fd, F⟩ := FX.f_word_by_sizes
  refine okd F FX.m_word_by_sizes (N := N_word_by_sizes) sc_word_by_sizes (k := 1) (u := u_word_by_sizes) (F.bindsN fun _ _ _ _ _ _ us hl => match us, hl with | [_, _], _ => rfl) fun cdv A outer s H E hr => ?_
  have hu := hr.units
  exact (s_cons (s_comp 2 (own := [("ones", 3)]) rfl sc_word_by_sizes.nd (by rfl) (i_range1 rfl FX.n_range (d_bin (o_add rfl) (d_pk 0) (d_up d_int))) (blk_of (by kernel_rfl)) (fun _ _ _ _ _ => (g_name 3 sc_word_by_sizes.nd)) (fun _ _ _ _ _ => t_nil) (fun _ _ _ _ _ => (d_bin o_mod (d_up (d_callB (c_len rfl) rfl FX.n_len bt_len (d_up (d_new (d_comp (own := [("size", 5)]) rfl sc_word_by_sizes.nd (i_val rfl (d_var 1)) (blk_of (by kernel_rfl)) (fun _ _ _ _ _ => (g_name 5 sc_word_by_sizes.nd)) (fun _ _ _ _ _ => (t_one (q_tru rfl (d_up (d_callO G_is_odd_choice rfl (by first | decide | omega) hr rfl (a_cons (d_var 3) (a_cons (d_var 5) a_nil)) (al_cons (al_cons al_nil))))))) (fun _ _ _ _ _ => (d_var 5))))))) (d_up d_int))))
    (s_fz 2 (s_cons (s_ret (d_join rfl (d_up (d_new (d_comp (own := [("answer", 4)]) rfl sc_word_by_sizes.nd (i_val rfl (d_var 2)) (blk_of (by kernel_rfl)) (fun _ _ _ _ _ => (g_name 4 sc_word_by_sizes.nd)) (fun _ _ _ _ _ => t_nil) (fun _ _ _ _ _ => (d_if (q_bin (o_eq rfl hu) (d_pk 4) (d_up d_int)) (d_str [49]) (d_str [48]))))))))
    s_nil)))
theorem ok_symmetric_by_sums (FX : Fx K mg) : OkD P w ⟨K, fun _ => 0⟩ mg base "symmetric_by_sums" 4 ["many", "sizes"] m_symmetric_by_sums := by
  have G_fits_signs := ok_fits_signs (P := P) (w := w) (base := base) FX
  have G_function_in_counts := ok_function_in_counts (P := P) (w := w) (base := base) FX
  have G_need_whole := ok_need_whole (P := P) (w := w) (base := base) FX
  have G_word_by_sizes := ok_word_by_sizes (P := P) (w := w) (base := base) FX
  obtain ⟨fd, F⟩ := FX.f_symmetric_by_sums
  refine okd F FX.m_symmetric_by_sums (N := N_symmetric_by_sums) sc_symmetric_by_sums (k := 3) (u := u_symmetric_by_sums) (F.bindsN fun _ _ _ _ _ _ us hl => match us, hl with | [_, _], _ => rfl) fun cdv A outer s H E hr => ?_
  have hu := hr.units
  exact (s_cons (s_expr (d_callO G_need_whole rfl (by first | decide | omega) hr rfl (a_cons (d_var 0) (a_cons d_int (a_cons (d_gint rfl FX.g_MOST) a_nil))) (al_cons (al_cons (al_cons al_nil)))))
    (s_cons (s_if (q_not (q_tru rfl (d_up (d_callO G_fits_signs rfl (by first | decide | omega) hr rfl (a_cons (d_bin (o_add rfl) (d_pk 0) (d_up d_int)) (a_cons (d_var 1) a_nil)) (al_cons (al_cons al_nil)))))) (s_cons s_no
    s_nil) s_nil)
    (s_cons (s_ret (d_callO G_function_in_counts rfl (by first | decide | omega) hr rfl (a_cons (d_callO G_word_by_sizes rfl (by first | decide | omega) hr rfl (a_cons (d_var 0) (a_cons (d_var 1) a_nil)) (al_cons (al_cons al_nil))) a_nil) (al_cons al_nil)))
    s_nil)))
theorem ok_count_symmetric (FX : Fx K mg) : OkD P w ⟨K, fun _ => 0⟩ mg base "count_symmetric" 4 ["many"] m_count_symmetric := by
  have G_need_whole := ok_need_whole (P := P) (w := w) (base := base) FX
  obtain ⟨fd, F⟩ := FX.f_count_symmetric
  refine okd F FX.m_count_symmetric (N := N_count_symmetric) sc_count_symmetric (k := 3) (u := u_count_symmetric) (F.bindsN fun _ _ _ _ _ _ us hl => match us, hl with | [_], _ => rfl) fun cdv A outer s H E hr => ?_
  have hu := hr.units
  exact (s_cons (s_expr (d_callO G_need_whole rfl (by first | decide | omega) hr rfl (a_cons (d_var 0) (a_cons d_int (a_cons (d_gint rfl FX.g_MOST) a_nil))) (al_cons (al_cons (al_cons al_nil)))))
    (s_cons (s_ret (d_bin o_shl (d_up d_int) (d_pk 0)))
    s_nil))
theorem ok_counts_of (FX : Fx K mg) : OkD P w ⟨K, fun _ => 0⟩ mg base "counts_of" 4 ["function"] m_counts_of := by
  have G_counts_in := ok_counts_in (P := P) (w := w) (base := base) FX
  have G_need_function := ok_need_function (P := P) (w := w) (base := base) FX
  have G_paper_in := ok_paper_in (P := P) (w := w) (base := base) FX
  obtain ⟨fd, F⟩ := FX.f_counts_of
  refine okd F FX.m_counts_of (N := N_counts_of) sc_counts_of (k := 3) (u := u_counts_of) (F.bindsN fun _ _ _ _ _ _ us hl => match us, hl with | [_], _ => rfl) fun cdv A outer s H E hr => ?_
  have hu := hr.units
  exact (s_cons (s_expr (d_callO G_need_function rfl (by first | decide | omega) hr rfl (a_cons (d_var 0) a_nil) (al_cons al_nil)))
    (s_cons (s_ret (d_if (q_bin o_is (d_up (d_callO G_paper_in rfl (by first | decide | omega) hr rfl (a_cons (d_var 0) a_nil) (al_cons al_nil))) (d_up d_non)) (d_callO G_counts_in rfl (by first | decide | omega) hr rfl (a_cons (d_var 0) a_nil) (al_cons al_nil)) d_non))
    s_nil))
theorem ok_words_of (FX : Fx K mg) : OkD P w ⟨K, fun _ => 0⟩ mg base "words_of" 1 ["many"] m_words_of := by
  obtain ⟨fd, F⟩ := FX.f_words_of
  refine okd F FX.m_words_of (N := N_words_of) sc_words_of (k := 0) (u := u_words_of) (F.bindsN fun _ _ _ _ _ _ us hl => match us, hl with | [_], _ => rfl) fun cdv A outer s H E hr => ?_
  have hu := hr.units
  exact (s_cons (s_set 1 sc_words_of.nd (d_new (d_lst (a_cons (d_str []) a_nil) (al_cons al_nil))))
    (s_cons (s_for rfl (i_range1 rfl FX.n_range (d_bin (o_add rfl) (d_pk 0) (d_up d_int))) (g_name 2 sc_words_of.nd) (s_cons (s_comp2 1 (own := [("word", 3), ("letter", 4)]) (vs1 := [4]) rfl sc_words_of.nd (by rfl) (i_val rfl (d_var 1)) (blk_of (by kernel_rfl)) (fun _ _ _ _ _ => (g_name 3 sc_words_of.nd)) (fun _ _ _ _ _ => t_nil) (fun _ _ _ _ _ => (i_val rfl (d_str [48, 49]))) (fun _ _ _ _ _ => (g_name 4 sc_words_of.nd)) (fun _ _ _ _ _ => t_nil) (fun _ _ _ _ _ => (d_bin (o_add rfl) (d_pk 3) (d_pk 4))))
    (s_fz 1 s_nil)))
    (s_cons (s_ret (d_var 1))
    s_nil)))
theorem ok_turned_at (FX : Fx K mg) : OkD P w ⟨K, fun _ => 0⟩ mg base "turned_at" 1 ["row", "signs"] m_turned_at := by
  obtain ⟨fd, F⟩ := FX.f_turned_at
  refine okd F FX.m_turned_at (N := N_turned_at) sc_turned_at (k := 0) (u := u_turned_at) (F.bindsN fun _ _ _ _ _ _ us hl => match us, hl with | [_, _], _ => rfl) fun cdv A outer s H E hr => ?_
  have hu := hr.units
  exact (s_cons (s_ret (d_callT (c_tuple rfl) rfl FX.n_tuple bt_tuple (d_up (d_new (d_comp (own := [("sign", 2), ("value", 3)]) rfl sc_turned_at.nd (i_en rfl rfl FX.n_enumerate (d_var 0)) (blk_of (by kernel_rfl)) (fun _ _ _ _ _ => (g_tup2 2 3 rfl rfl sc_turned_at.nd)) (fun _ _ _ _ _ => t_nil) (fun _ _ _ _ _ => (d_if (q_bin (o_in rfl hu) (d_pk 2) (d_pk 1)) (d_bin o_sub (d_up d_int) (d_pk 3)) (d_var 3))))))))
    s_nil)
theorem ok_flipped_in (FX : Fx K mg) : OkD P w ⟨K, fun _ => 0⟩ mg base "flipped_in" 2 ["function", "signs"] m_flipped_in := by
  have G_count_in := ok_count_in (P := P) (w := w) (base := base) FX
  have G_number_in := ok_number_in (P := P) (w := w) (base := base) FX
  have G_rows_in := ok_rows_in (P := P) (w := w) (base := base) FX
  have G_turned_at := ok_turned_at (P := P) (w := w) (base := base) FX
  obtain ⟨fd, F⟩ := FX.f_flipped_in
  refine okd F FX.m_flipped_in (N := N_flipped_in) sc_flipped_in (k := 1) (u := u_flipped_in) (F.bindsN fun _ _ _ _ _ _ us hl => match us, hl with | [_, _], _ => rfl) fun cdv A outer s H E hr => ?_
  have hu := hr.units
  exact (s_cons (s_ret (d_join rfl (d_up (d_new (d_comp (own := [("row", 2)]) rfl sc_flipped_in.nd (i_val rfl (d_callO G_rows_in rfl (by first | decide | omega) hr rfl (a_cons (d_callO G_count_in rfl (by first | decide | omega) hr rfl (a_cons (d_var 0) a_nil) (al_cons al_nil)) a_nil) (al_cons al_nil))) (blk_of (by kernel_rfl)) (fun _ _ _ _ _ => (g_name 2 sc_flipped_in.nd)) (fun _ _ _ _ _ => t_nil) (fun _ _ _ _ _ => (d_ix rfl (d_pk 0) (d_up (d_callO G_number_in rfl (by first | decide | omega) hr rfl (a_cons (d_callO G_turned_at rfl (by first | decide | omega) hr rfl (a_cons (d_var 2) (a_cons (d_var 1) a_nil)) (al_cons (al_cons al_nil))) a_nil) (al_cons al_nil))))))))))
    s_nil)
theorem ok_lots_of_signs (FX : Fx K mg) : OkD P w ⟨K, fun _ => 0⟩ mg base "lots_of_signs" 1 ["many"] m_lots_of_signs := by
  obtain ⟨fd, F⟩ := FX.f_lots_of_signs
  refine okd F FX.m_lots_of_signs (N := N_lots_of_signs) sc_lots_of_signs (k := 0) (u := u_lots_of_signs) (F.bindsN fun _ _ _ _ _ _ us hl => match us, hl with | [_], _ => rfl) fun cdv A outer s H E hr => ?_
  have hu := hr.units
  exact (s_cons (s_set 1 sc_lots_of_signs.nd (d_new (d_lst (a_cons (d_tup a_nil al_nil) a_nil) (al_cons al_nil))))
    (s_cons (s_for rfl (i_range1 rfl FX.n_range (d_var 0)) (g_name 2 sc_lots_of_signs.nd) (s_cons (s_set 1 sc_lots_of_signs.nd (d_new (d_binN o_cat (d_pk 1) (d_up (d_new (d_comp (own := [("lot", 3)]) rfl sc_lots_of_signs.nd (i_val rfl (d_var 1)) (blk_of (by kernel_rfl)) (fun _ _ _ _ _ => (g_name 3 sc_lots_of_signs.nd)) (fun _ _ _ _ _ => t_nil) (fun _ _ _ _ _ => (d_bin (o_add rfl) (d_pk 3) (d_up (d_tup (a_cons (d_var 2) a_nil) (al_cons al_nil)))))))))))
    s_nil))
    (s_cons (s_ret (d_new (d_callBN (c_sorted rfl hu) rfl FX.n_sorted bt_sorted (d_pk 1))))
    s_nil)))
theorem ok_with_flips (FX : Fx K mg) : OkD P w ⟨K, fun _ => 0⟩ mg base "with_flips" 3 ["many"] m_with_flips := by
  have G_flipped_in := ok_flipped_in (P := P) (w := w) (base := base) FX
  have G_function_in_counts := ok_function_in_counts (P := P) (w := w) (base := base) FX
  have G_lots_of_signs := ok_lots_of_signs (P := P) (w := w) (base := base) FX
  have G_words_of := ok_words_of (P := P) (w := w) (base := base) FX
  obtain ⟨fd, F⟩ := FX.f_with_flips
  refine okd F FX.m_with_flips (N := N_with_flips) sc_with_flips (k := 2) (u := u_with_flips) (F.bindsN fun _ _ _ _ _ _ us hl => match us, hl with | [_], _ => rfl) fun cdv A outer s H E hr => ?_
  have hu := hr.units
  exact (s_cons (s_own 1 sc_with_flips.nd d_dk0)
    (s_cons (s_for rfl (i_val rfl (d_callO G_words_of rfl (by first | decide | omega) hr rfl (a_cons (d_var 0) a_nil) (al_cons al_nil))) (g_name 2 sc_with_flips.nd) (s_cons (s_set 3 sc_with_flips.nd (d_callO G_function_in_counts rfl (by first | decide | omega) hr rfl (a_cons (d_var 2) a_nil) (al_cons al_nil)))
    (s_cons (s_upd 1 rfl rfl (d_new (d_comp (own := [("lot", 4)]) rfl sc_with_flips.nd (i_val rfl (d_callO G_lots_of_signs rfl (by first | decide | omega) hr rfl (a_cons (d_var 0) a_nil) (al_cons al_nil))) (blk_of (by kernel_rfl)) (fun _ _ _ _ _ => (g_name 4 sc_with_flips.nd)) (fun _ _ _ _ _ => t_nil) (fun _ _ _ _ _ => (d_tup (a_cons (d_callO G_flipped_in rfl (by first | decide | omega) hr rfl (a_cons (d_var 3) (a_cons (d_var 4) a_nil)) (al_cons (al_cons al_nil))) (a_cons d_bl a_nil)) (al_cons (al_cons al_nil)))))))
    s_nil)))
    (s_cons (s_ret (d_callB (c_len rfl) rfl FX.n_len bt_len (d_pk 1)))
    s_nil)))
theorem ok_count_with_flips (FX : Fx K mg) : OkD P w ⟨K, fun _ => 0⟩ mg base "count_with_flips" 4 ["many"] m_count_with_flips := by
  have G_need_whole := ok_need_whole (P := P) (w := w) (base := base) FX
  have G_with_flips := ok_with_flips (P := P) (w := w) (base := base) FX
  obtain ⟨fd, F⟩ := FX.f_count_with_flips
  refine okd F FX.m_count_with_flips (N := N_count_with_flips) sc_count_with_flips (k := 3) (u := u_count_with_flips) (F.bindsN fun _ _ _ _ _ _ us hl => match us, hl with | [_], _ => rfl) fun cdv A outer s H E hr => ?_
  have hu := hr.units
  exact (s_cons (s_expr (d_callO G_need_whole rfl (by first | decide | omega) hr rfl (a_cons (d_var 0) (a_cons d_int (a_cons (d_gint rfl FX.g_MOST) a_nil))) (al_cons (al_cons (al_cons al_nil)))))
    (s_cons (s_ret (d_callO G_with_flips rfl (by first | decide | omega) hr rfl (a_cons (d_var 0) a_nil) (al_cons al_nil)))
    s_nil))
theorem ok__law_rows (FX : Fx K mg) : OkD P w ⟨K, fun _ => 0⟩ mg base "_law_rows" 1 ["many"] m__law_rows := by
  obtain ⟨fd, F⟩ := FX.f__law_rows
  refine okd F FX.m__law_rows (N := N__law_rows) sc__law_rows (k := 0) (u := u__law_rows) (F.bindsN fun _ _ _ _ _ _ us hl => match us, hl with | [_], _ => rfl) fun cdv A outer s H E hr => ?_
  have hu := hr.units
  exact (s_cons (s_set 1 sc__law_rows.nd (d_new (d_lst (a_cons (d_tup a_nil al_nil) a_nil) (al_cons al_nil))))
    (s_cons (s_for rfl (i_range1 rfl FX.n_range (d_var 0)) (g_name 2 sc__law_rows.nd) (s_cons (s_set 3 sc__law_rows.nd (d_new (d_lst a_nil al_nil)))
    (s_cons (s_for rfl (i_val rfl (d_var 1)) (g_name 4 sc__law_rows.nd) (s_cons (s_set 3 sc__law_rows.nd (d_new (d_binN o_cat (d_pk 3) (d_up (d_new (d_lst (a_cons (d_bin (o_add rfl) (d_pk 4) (d_up (d_tup (a_cons d_int a_nil) (al_cons al_nil)))) (a_cons (d_bin (o_add rfl) (d_pk 4) (d_up (d_tup (a_cons d_int a_nil) (al_cons al_nil)))) a_nil)) (al_cons (al_cons al_nil))))))))
    s_nil))
    (s_cons (s_set 1 sc__law_rows.nd (d_var 3))
    s_nil))))
    (s_cons (s_ret (d_var 1))
    s_nil)))
theorem ok_flip_lots (FX : Fx K mg) : OkD P w ⟨K, fun _ => 0⟩ mg base "flip_lots" 4 ["function"] m_flip_lots := by
  have G_count_in := ok_count_in (P := P) (w := w) (base := base) FX
  have G_flipped_in := ok_flipped_in (P := P) (w := w) (base := base) FX
  have G_lots_of_signs := ok_lots_of_signs (P := P) (w := w) (base := base) FX
  have G_need_function := ok_need_function (P := P) (w := w) (base := base) FX
  have G_paper_in := ok_paper_in (P := P) (w := w) (base := base) FX
  obtain ⟨fd, F⟩ := FX.f_flip_lots
  refine okd F FX.m_flip_lots (N := N_flip_lots) sc_flip_lots (k := 3) (u := u_flip_lots) (F.bindsN fun _ _ _ _ _ _ us hl => match us, hl with | [_], _ => rfl) fun cdv A outer s H E hr => ?_
  have hu := hr.units
  exact (s_cons (s_expr (d_callO G_need_function rfl (by first | decide | omega) hr rfl (a_cons (d_var 0) a_nil) (al_cons al_nil)))
    (s_cons (s_set 1 sc_flip_lots.nd (d_callO G_lots_of_signs rfl (by first | decide | omega) hr rfl (a_cons (d_callO G_count_in rfl (by first | decide | omega) hr rfl (a_cons (d_var 0) a_nil) (al_cons al_nil)) a_nil) (al_cons al_nil)))
    (s_cons (s_ret (d_callT (c_tuple rfl) rfl FX.n_tuple bt_tuple (d_up (d_new (d_comp (own := [("lot", 2)]) rfl sc_flip_lots.nd (i_val rfl (d_var 1)) (blk_of (by kernel_rfl)) (fun _ _ _ _ _ => (g_name 2 sc_flip_lots.nd)) (fun _ _ _ _ _ => (t_one (q_bin o_is (d_up (d_callO G_paper_in rfl (by first | decide | omega) hr rfl (a_cons (d_callO G_flipped_in rfl (by first | decide | omega) hr rfl (a_cons (d_var 0) (a_cons (d_var 2) a_nil)) (al_cons (al_cons al_nil))) a_nil) (al_cons al_nil))) (d_up d_non)))) (fun _ _ _ _ _ => (d_var 2)))))))
    s_nil)))
theorem ok__law_flips_right (FX : Fx K mg) : OkD P w ⟨K, fun _ => 0⟩ mg base "_law_flips_right" 15 ["many"] m__law_flips_right := by
  have G__law_like := ok__law_like (P := P) (w := w) (base := base) FX 12
  have G__law_rows := ok__law_rows (P := P) (w := w) (base := base) FX
  have G_count_with_flips := ok_count_with_flips (P := P) (w := w) (base := base) FX
  have G_flip_lots := ok_flip_lots (P := P) (w := w) (base := base) FX
  obtain ⟨fd, F⟩ := FX.f__law_flips_right
  refine okd F FX.m__law_flips_right (N := N__law_flips_right) sc__law_flips_right (k := 14) (u := u__law_flips_right) (F.bindsN fun _ _ _ _ _ _ us hl => match us, hl with | [_], _ => rfl) fun cdv A outer s H E hr => ?_
  have hu := hr.units
  exact (s_cons (s_set 1 sc__law_flips_right.nd d_int)
    (s_cons (s_for rfl (i_range1 rfl FX.n_range (d_if (q_bin (o_eq rfl hu) (d_pk 0) (d_up d_int)) (d_bin o_pow (d_up d_int) (d_up d_int)) (d_if (q_bin (o_eq rfl hu) (d_pk 0) (d_up d_int)) (d_bin o_pow (d_up d_int) (d_up d_int)) (d_if (q_bin (o_eq rfl hu) (d_pk 0) (d_up d_int)) d_int d_int)))) (g_name 2 sc__law_flips_right.nd) (s_cons (s_par 3 4 rfl sc__law_flips_right.nd (a_cons (d_str []) (a_cons (d_var 2) a_nil)))
    (s_cons (s_for rfl (i_range1 rfl FX.n_range (d_callB (c_len rfl) rfl FX.n_len bt_len (d_up (d_callO G__law_rows rfl (by first | decide | omega) hr rfl (a_cons (d_var 0) a_nil) (al_cons al_nil))))) (g_name 5 sc__law_flips_right.nd) (s_cons (s_par 3 4 rfl sc__law_flips_right.nd (a_cons (d_bin (o_add rfl) (d_up (d_callT c_str rfl FX.n_str bt_str (d_up (d_bin o_mod (d_up (d_callT c_int rfl FX.n_int bt_int (d_pk 4))) (d_up d_int))))) (d_pk 3)) (a_cons (d_callT c_int rfl FX.n_int bt_int (d_up (d_bin o_div (d_pk 4) (d_up d_int)))) a_nil)))
    s_nil))
    (s_cons (s_set 1 sc__law_flips_right.nd (d_bin (o_add rfl) (d_pk 1) (d_up (d_if (q_bin (o_ne rfl hu) (d_up (d_callO G_flip_lots rfl (by first | decide | omega) hr rfl (a_cons (d_var 3) a_nil) (al_cons al_nil))) (d_up (d_tup a_nil al_nil))) d_int d_int))))
    s_nil))))
    (s_cons (s_ret (d_callO G__law_like rfl (by first | decide | omega) hr rfl (a_cons (d_callO G_count_with_flips rfl (by first | decide | omega) hr rfl (a_cons (d_var 0) a_nil) (al_cons al_nil)) (a_cons (d_var 1) a_nil)) (al_cons (al_cons al_nil))))
    s_nil)))
theorem ok_fits_word (FX : Fx K mg) : OkD P w ⟨K, fun _ => 0⟩ mg base "fits_word" 2 ["value"] m_fits_word := by
  have G_is_word := ok_is_word (P := P) (w := w) (base := base) FX
  obtain ⟨fd, F⟩ := FX.f_fits_word
  refine okd F FX.m_fits_word (N := N_fits_word) sc_fits_word (k := 1) (u := u_fits_word) (F.bindsN fun _ _ _ _ _ _ us hl => match us, hl with | [_], _ => rfl) fun cdv A outer s H E hr => ?_
  have hu := hr.units
  exact (s_cons (s_ret (d_callO G_is_word rfl (by first | decide | omega) hr rfl (a_cons (d_var 0) (a_cons (d_gstr [48, 49] rfl FX.g_ANSWERS) (a_cons d_int (a_cons (d_bin (o_add rfl) (d_up (d_gint rfl FX.g_MOST)) (d_up d_int)) a_nil)))) (al_cons (al_cons (al_cons (al_cons al_nil))))))
    s_nil)
theorem ok_need_word (FX : Fx K mg) : OkD P w ⟨K, fun _ => 0⟩ mg base "need_word" 3 ["value"] m_need_word := by
  have G_fits_word := ok_fits_word (P := P) (w := w) (base := base) FX
  obtain ⟨fd, F⟩ := FX.f_need_word
  refine okd F FX.m_need_word (N := N_need_word) sc_need_word (k := 2) (u := u_need_word) (F.bindsN fun _ _ _ _ _ _ us hl => match us, hl with | [_], _ => rfl) fun cdv A outer s H E hr => ?_
  have hu := hr.units
  exact (s_cons (s_if (q_not (q_tru rfl (d_up (d_callO G_fits_word rfl (by first | decide | omega) hr rfl (a_cons (d_var 0) a_nil) (al_cons al_nil))))) (s_cons s_no
    s_nil) s_nil)
    s_nil)
theorem ok_function_of_counts (FX : Fx K mg) : OkD P w ⟨K, fun _ => 0⟩ mg base "function_of_counts" 4 ["word"] m_function_of_counts := by
  have G_function_in_counts := ok_function_in_counts (P := P) (w := w) (base := base) FX
  have G_need_word := ok_need_word (P := P) (w := w) (base := base) FX
  obtain ⟨fd, F⟩ := FX.f_function_of_counts
  refine okd F FX.m_function_of_counts (N := N_function_of_counts) sc_function_of_counts (k := 3) (u := u_function_of_counts) (F.bindsN fun _ _ _ _ _ _ us hl => match us, hl with | [_], _ => rfl) fun cdv A outer s H E hr => ?_
  have hu := hr.units
  exact (s_cons (s_expr (d_callO G_need_word rfl (by first | decide | omega) hr rfl (a_cons (d_var 0) a_nil) (al_cons al_nil)))
    (s_cons (s_ret (d_callO G_function_in_counts rfl (by first | decide | omega) hr rfl (a_cons (d_var 0) a_nil) (al_cons al_nil)))
    s_nil))
theorem ok__law_roll (FX : Fx K mg) : OkD P w ⟨K, fun _ => 0⟩ mg base "_law_roll" 1 ["cup", "many"] m__law_roll := by
  obtain ⟨fd, F⟩ := FX.f__law_roll
  refine okd F FX.m__law_roll (N := N__law_roll) sc__law_roll (k := 0) (u := u__law_roll) (F.bindsN fun _ _ _ _ _ _ us hl => match us, hl with | [_, _], _ => rfl) fun cdv A outer s H E hr => ?_
  have hu := hr.units
  exact (s_cons (s_if (q_bin (o_gt rfl hu) (d_up (d_cupR 0 0 rfl)) (d_up d_int)) (s_cons (s_set 2 sc__law_roll.nd (d_bin o_mod (d_up (d_callT c_int rfl FX.n_int bt_int (d_up (d_cupR 0 0 rfl)))) (d_pk 1)))
    (s_cons (s_cupW 0 0 (d_bin o_div (d_up (d_cupR 0 0 rfl)) (d_pk 1)))
    (s_cons (s_ret (d_var 2))
    s_nil))) s_nil)
    (s_cons (s_cupW 0 1 (d_bin o_mod (d_up (d_callT c_int rfl FX.n_int bt_int (d_up (d_bin (o_add rfl) (d_up (d_bin o_mulA (d_up (d_cupR 0 1 rfl)) (d_up d_int))) (d_up d_int))))) (d_up d_int)))
    (s_cons (s_set 3 sc__law_roll.nd (d_bin o_mod (d_up (d_callT c_int rfl FX.n_int bt_int (d_up (d_bin o_mulA (d_up (d_cupR 0 1 rfl)) (d_up (d_bin (o_add rfl) (d_up (d_cupR 0 1 rfl)) (d_up d_int))))))) (d_up d_int)))
    (s_cons (s_ret (d_bin o_mod (d_up (d_callT c_int rfl FX.n_int bt_int (d_up (d_bin o_div (d_pk 3) (d_up d_int))))) (d_pk 1)))
    s_nil))))
theorem ok__law_choices (FX : Fx K mg) : OkD P w ⟨K, fun _ => 0⟩ mg base "_law_choices" 1 ["many", "some"] m__law_choices := by
  obtain ⟨fd, F⟩ := FX.f__law_choices
  refine okd F FX.m__law_choices (N := N__law_choices) sc__law_choices (k := 0) (u := u__law_choices) (F.bindsN fun _ _ _ _ _ _ us hl => match us, hl with | [_, _], _ => rfl) fun cdv A outer s H E hr => ?_
  have hu := hr.units
  exact (s_cons (s_set 2 sc__law_choices.nd d_int)
    (s_cons (s_for rfl (i_range1 rfl FX.n_range (d_var 1)) (g_name 3 sc__law_choices.nd) (s_cons (s_set 2 sc__law_choices.nd (d_callT c_int rfl FX.n_int bt_int (d_up (d_bin o_div (d_up (d_bin o_mulA (d_pk 2) (d_up (d_bin o_sub (d_pk 0) (d_pk 3))))) (d_up (d_bin (o_add rfl) (d_pk 3) (d_up d_int)))))))
    s_nil))
    (s_cons (s_ret (d_var 2))
    s_nil)))
theorem ok__law_sum (FX : Fx K mg) : OkD P w ⟨K, fun _ => 0⟩ mg base "_law_sum" 2 ["many", "sizes"] m__law_sum := by
  have G__law_choices := ok__law_choices (P := P) (w := w) (base := base) FX
  have G__law_rows := ok__law_rows (P := P) (w := w) (base := base) FX
  obtain ⟨fd, F⟩ := FX.f__law_sum
  refine okd F FX.m__law_sum (N := N__law_sum) sc__law_sum (k := 1) (u := u__law_sum) (F.bindsN fun _ _ _ _ _ _ us hl => match us, hl with | [_, _], _ => rfl) fun cdv A outer s H E hr => ?_
  have hu := hr.units
  exact (s_cons (s_set 2 sc__law_sum.nd (d_str []))
    (s_cons (s_for rfl (i_val rfl (d_callO G__law_rows rfl (by first | decide | omega) hr rfl (a_cons (d_var 0) a_nil) (al_cons al_nil))) (g_name 3 sc__law_sum.nd) (s_cons (s_set 2 sc__law_sum.nd (d_bin (o_add rfl) (d_pk 2) (d_up (d_callT c_str rfl FX.n_str bt_str (d_up (d_bin o_mod (d_up (d_callT c_int rfl FX.n_int bt_int (d_up (d_callB (c_sum rfl rfl) rfl FX.n_sum bt_sum (d_up (d_new (d_comp (own := [("size", 4)]) rfl sc__law_sum.nd (i_val rfl (d_var 1)) (blk_of (by kernel_rfl)) (fun _ _ _ _ _ => (g_name 4 sc__law_sum.nd)) (fun _ _ _ _ _ => t_nil) (fun _ _ _ _ _ => (d_callO G__law_choices rfl (by first | decide | omega) hr rfl (a_cons (d_callB (c_sum rfl rfl) rfl FX.n_sum bt_sum (d_pk 3)) (a_cons (d_var 4) a_nil)) (al_cons (al_cons al_nil))))))))))) (d_up d_int)))))))
    s_nil))
    (s_cons (s_ret (d_var 2))
    s_nil)))
theorem ok__law_lots (FX : Fx K mg) : OkD P w ⟨K, fun _ => 0⟩ mg base "_law_lots" 1 ["things"] m__law_lots := by
  obtain ⟨fd, F⟩ := FX.f__law_lots
  refine okd F FX.m__law_lots (N := N__law_lots) sc__law_lots (k := 0) (u := u__law_lots) (F.bindsN fun _ _ _ _ _ _ us hl => match us, hl with | [_], _ => rfl) fun cdv A outer s H E hr => ?_
  have hu := hr.units
  exact (s_cons (s_set 1 sc__law_lots.nd (d_new (d_lst (a_cons (d_tup a_nil al_nil) a_nil) (al_cons al_nil))))
    (s_cons (s_for rfl (i_val rfl (d_var 0)) (g_name 2 sc__law_lots.nd) (s_cons (s_set 1 sc__law_lots.nd (d_new (d_binN o_cat (d_pk 1) (d_up (d_new (d_comp (own := [("some", 3)]) rfl sc__law_lots.nd (i_val rfl (d_var 1)) (blk_of (by kernel_rfl)) (fun _ _ _ _ _ => (g_name 3 sc__law_lots.nd)) (fun _ _ _ _ _ => t_nil) (fun _ _ _ _ _ => (d_bin (o_add rfl) (d_pk 3) (d_up (d_tup (a_cons (d_var 2) a_nil) (al_cons al_nil)))))))))))
    s_nil))
    (s_cons (s_ret (d_var 1))
    s_nil)))
theorem ok_need_alike (FX : Fx K mg) : OkD P w ⟨K, fun _ => 0⟩ mg base "need_alike" 3 ["function", "value"] m_need_alike := by
  have G_fits_function := ok_fits_function (P := P) (w := w) (base := base) FX
  obtain ⟨fd, F⟩ := FX.f_need_alike
  refine okd F FX.m_need_alike (N := N_need_alike) sc_need_alike (k := 2) (u := u_need_alike) (F.bindsN fun _ _ _ _ _ _ us hl => match us, hl with | [_, _], _ => rfl) fun cdv A outer s H E hr => ?_
  have hu := hr.units
  exact (s_cons (s_if (w_pt (w_or (q_not (q_tru rfl (d_up (d_callO G_fits_function rfl (by first | decide | omega) hr rfl (a_cons (d_var 1) a_nil) (al_cons al_nil))))) (w_or1 (q_bin (o_ne rfl hu) (d_up (d_callB (c_len rfl) rfl FX.n_len bt_len (d_pk 1))) (d_up (d_callB (c_len rfl) rfl FX.n_len bt_len (d_pk 0))))))) (s_cons s_no
    s_nil) s_nil)
    s_nil)
theorem ok_joined_in (FX : Fx K mg) : OkD P w ⟨K, fun _ => 0⟩ mg base "joined_in" 2 ["function", "other", "word"] m_joined_in := by
  have G_function_by := ok_function_by (P := P) (w := w) (base := base) FX
  obtain ⟨fd, F⟩ := FX.f_joined_in
  refine okd F FX.m_joined_in (N := N_joined_in) sc_joined_in (k := 1) (u := u_joined_in) (F.bindsN fun _ _ _ _ _ _ us hl => match us, hl with | [_, _, _], _ => rfl) fun cdv A outer s H E hr => ?_
  have hu := hr.units
  exact (s_cons (s_set 3 sc_joined_in.nd (d_new (d_lz rfl rfl rfl FX.n_list rfl FX.n_zip (d_var 0) (d_var 1))))
    (s_cons (s_if (q_bin (o_eq rfl hu) (d_pk 2) (d_up (d_gstr [115, 117, 109] rfl FX.g_SUM))) (s_cons (s_ret (d_callO G_function_by rfl (by first | decide | omega) hr rfl (a_cons (d_new (d_comp (own := [("one", 4), ("two", 5)]) rfl sc_joined_in.nd (i_val rfl (d_var 3)) (blk_of (by kernel_rfl)) (fun _ _ _ _ _ => (g_tup2 4 5 rfl rfl sc_joined_in.nd)) (fun _ _ _ _ _ => t_nil) (fun _ _ _ _ _ => (d_cmp (o_ne rfl hu) (d_pk 4) (d_pk 5))))) a_nil) (al_cons al_nil)))
    s_nil) s_nil)
    (s_cons (s_if (q_bin (o_eq rfl hu) (d_pk 2) (d_up (d_gstr [97, 110, 100] rfl FX.g_AND))) (s_cons (s_ret (d_callO G_function_by rfl (by first | decide | omega) hr rfl (a_cons (d_new (d_comp (own := [("one", 4), ("two", 5)]) rfl sc_joined_in.nd (i_val rfl (d_var 3)) (blk_of (by kernel_rfl)) (fun _ _ _ _ _ => (g_tup2 4 5 rfl rfl sc_joined_in.nd)) (fun _ _ _ _ _ => t_nil) (fun _ _ _ _ _ => (d_chain (o_eq rfl hu) (o_eq rfl hu) (d_pk 4) (d_pk 5) (d_up (d_str [49])))))) a_nil) (al_cons al_nil)))
    s_nil) s_nil)
    (s_cons (s_ret (d_callO G_function_by rfl (by first | decide | omega) hr rfl (a_cons (d_new (d_comp (own := [("one", 4), ("two", 5)]) rfl sc_joined_in.nd (i_val rfl (d_var 3)) (blk_of (by kernel_rfl)) (fun _ _ _ _ _ => (g_tup2 4 5 rfl rfl sc_joined_in.nd)) (fun _ _ _ _ _ => t_nil) (fun _ _ _ _ _ => (d_or (d_cmp (o_eq rfl hu) (d_pk 4) (d_up (d_str [49]))) (d_one (d_cmp (o_eq rfl hu) (d_pk 5) (d_up (d_str [49])))))))) a_nil) (al_cons al_nil)))
    s_nil))))
theorem ok_joined (FX : Fx K mg) : OkD P w ⟨K, fun _ => 0⟩ mg base "joined" 4 ["function", "other", "word"] m_joined := by
  have G_joined_in := ok_joined_in (P := P) (w := w) (base := base) FX
  have G_need_alike := ok_need_alike (P := P) (w := w) (base := base) FX
  have G_need_function := ok_need_function (P := P) (w := w) (base := base) FX
  obtain ⟨fd, F⟩ := FX.f_joined
  refine okd F FX.m_joined (N := N_joined) sc_joined (k := 3) (u := u_joined) (F.bindsN fun _ _ _ _ _ _ us hl => match us, hl with | [_, _, _], _ => rfl) fun cdv A outer s H E hr => ?_
  have hu := hr.units
  exact (s_cons (s_expr (d_callO G_need_function rfl (by first | decide | omega) hr rfl (a_cons (d_var 0) a_nil) (al_cons al_nil)))
    (s_cons (s_expr (d_callO G_need_alike rfl (by first | decide | omega) hr rfl (a_cons (d_var 0) (a_cons (d_var 1) a_nil)) (al_cons (al_cons al_nil))))
    (s_cons (s_if (w_pt (w_or (q_not (q_tru rfl (d_up (d_isi rfl (by decide +kernel) rfl FX.n_isinstance rfl FX.n_str bt_str (d_pk 2))))) (w_or1 (q_bin (o_notin rfl hu) (d_pk 2) (d_up (d_gtup rfl FX.g_WORDS FX.k_WORDS)))))) (s_cons s_no
    s_nil) s_nil)
    (s_cons (s_ret (d_callO G_joined_in rfl (by first | decide | omega) hr rfl (a_cons (d_var 0) (a_cons (d_var 1) (a_cons (d_var 2) a_nil))) (al_cons (al_cons (al_cons al_nil)))))
    s_nil))))
theorem ok__law_some (FX : Fx K mg) : OkD P w ⟨K, fun _ => 0⟩ mg base "_law_some" 2 ["cup", "things"] m__law_some := by
  have G__law_roll := ok__law_roll (P := P) (w := w) (base := base) FX
  obtain ⟨fd, F⟩ := FX.f__law_some
  refine okd F FX.m__law_some (N := N__law_some) sc__law_some (k := 1) (u := u__law_some) (F.bindsN fun _ _ _ _ _ _ us hl => match us, hl with | [_, _], _ => rfl) fun cdv A outer s H E hr => ?_
  have hu := hr.units
  exact (s_cons (s_ret (d_ix rfl (d_pk 1) (d_up (d_callO G__law_roll rfl (by first | decide | omega) hr rfl (a_cons (d_var 0) (a_cons (d_callB (c_len rfl) rfl FX.n_len bt_len (d_pk 1)) a_nil)) (al_cons (al_cons al_nil))))))
    s_nil)
theorem ok_sign_function (FX : Fx K mg) : OkD P w ⟨K, fun _ => 0⟩ mg base "sign_function" 4 ["many", "sign"] m_sign_function := by
  have G_function_by := ok_function_by (P := P) (w := w) (base := base) FX
  have G_is_whole := ok_is_whole (P := P) (w := w) (base := base) FX
  have G_need_whole := ok_need_whole (P := P) (w := w) (base := base) FX
  have G_rows_in := ok_rows_in (P := P) (w := w) (base := base) FX
  obtain ⟨fd, F⟩ := FX.f_sign_function
  refine okd F FX.m_sign_function (N := N_sign_function) sc_sign_function (k := 3) (u := u_sign_function) (F.bindsN fun _ _ _ _ _ _ us hl => match us, hl with | [_, _], _ => rfl) fun cdv A outer s H E hr => ?_
  have hu := hr.units
  exact (s_cons (s_expr (d_callO G_need_whole rfl (by first | decide | omega) hr rfl (a_cons (d_var 0) (a_cons d_int (a_cons (d_gint rfl FX.g_MOST) a_nil))) (al_cons (al_cons (al_cons al_nil)))))
    (s_cons (s_if (q_not (q_tru rfl (d_up (d_callO G_is_whole rfl (by first | decide | omega) hr rfl (a_cons (d_var 1) (a_cons d_int (a_cons (d_bin o_sub (d_pk 0) (d_up d_int)) a_nil))) (al_cons (al_cons (al_cons al_nil))))))) (s_cons s_no
    s_nil) s_nil)
    (s_cons (s_ret (d_callO G_function_by rfl (by first | decide | omega) hr rfl (a_cons (d_new (d_comp (own := [("row", 2)]) rfl sc_sign_function.nd (i_val rfl (d_callO G_rows_in rfl (by first | decide | omega) hr rfl (a_cons (d_var 0) a_nil) (al_cons al_nil))) (blk_of (by kernel_rfl)) (fun _ _ _ _ _ => (g_name 2 sc_sign_function.nd)) (fun _ _ _ _ _ => t_nil) (fun _ _ _ _ _ => (d_cmp (o_eq rfl hu) (d_up (d_ix rfl (d_pk 2) (d_pk 1))) (d_up d_int))))) a_nil) (al_cons al_nil)))
    s_nil)))
theorem ok__law_right (FX : Fx K mg) : OkD P w ⟨K, fun _ => 0⟩ mg base "_law_right" 15 ["cup", "many"] m__law_right := by
  have G__law_like := ok__law_like (P := P) (w := w) (base := base) FX 12
  have G__law_lots := ok__law_lots (P := P) (w := w) (base := base) FX
  have G__law_roll := ok__law_roll (P := P) (w := w) (base := base) FX
  have G__law_some := ok__law_some (P := P) (w := w) (base := base) FX
  have G__law_sum := ok__law_sum (P := P) (w := w) (base := base) FX
  have G_counts_of := ok_counts_of (P := P) (w := w) (base := base) FX
  have G_even_sum := ok_even_sum (P := P) (w := w) (base := base) FX
  have G_function_of_counts := ok_function_of_counts (P := P) (w := w) (base := base) FX
  have G_joined := ok_joined (P := P) (w := w) (base := base) FX
  have G_sign_function := ok_sign_function (P := P) (w := w) (base := base) FX
  have G_sum_form := ok_sum_form (P := P) (w := w) (base := base) FX
  have G_symmetric_by_sums := ok_symmetric_by_sums (P := P) (w := w) (base := base) FX
  obtain ⟨fd, F⟩ := FX.f__law_right
  refine okd F FX.m__law_right (N := N__law_right) sc__law_right (k := 14) (u := u__law_right) (F.bindsN fun _ _ _ _ _ _ us hl => match us, hl with | [_, _], _ => rfl) fun cdv A outer s H E hr => ?_
  have hu := hr.units
  exact (s_cons (s_set 2 sc__law_right.nd (d_callO G__law_roll rfl (by first | decide | omega) hr rfl (a_cons (d_var 0) (a_cons (d_bin (o_add rfl) (d_pk 1) (d_up d_int)) a_nil)) (al_cons (al_cons al_nil))))
    (s_cons (s_set 3 sc__law_right.nd (d_callT (c_tuple rfl) rfl FX.n_tuple bt_tuple (d_up (d_new (d_comp (own := [("own", 7)]) rfl sc__law_right.nd (i_range1 rfl FX.n_range (d_bin (o_add rfl) (d_pk 1) (d_up d_int))) (blk_of (by kernel_rfl)) (fun _ _ _ _ _ => (g_name 7 sc__law_right.nd)) (fun _ _ _ _ _ => (t_one (q_bin (o_eq rfl hu) (d_up (d_callO G__law_roll rfl (by first | decide | omega) hr rfl (a_cons (d_var 0) (a_cons d_int a_nil)) (al_cons (al_cons al_nil)))) (d_up d_int)))) (fun _ _ _ _ _ => (d_var 7)))))))
    (s_cons (s_set 4 sc__law_right.nd (d_callO G__law_sum rfl (by first | decide | omega) hr rfl (a_cons (d_var 1) (a_cons (d_var 3) a_nil)) (al_cons (al_cons al_nil))))
    (s_cons (s_if (q_not (q_tru rfl (d_up (d_callO G__law_like rfl (by first | decide | omega) hr rfl (a_cons (d_new (d_lst (a_cons (d_callO G_even_sum rfl (by first | decide | omega) hr rfl (a_cons (d_var 1) (a_cons (d_var 2) a_nil)) (al_cons (al_cons al_nil))) (a_cons (d_callO G_symmetric_by_sums rfl (by first | decide | omega) hr rfl (a_cons (d_var 1) (a_cons (d_var 3) a_nil)) (al_cons (al_cons al_nil))) (a_cons (d_callO G_sum_form rfl (by first | decide | omega) hr rfl (a_cons (d_var 4) a_nil) (al_cons al_nil)) a_nil))) (al_cons (al_cons (al_cons al_nil))))) (a_cons (d_new (d_lst (a_cons (d_callO G__law_sum rfl (by first | decide | omega) hr rfl (a_cons (d_var 1) (a_cons (d_tup (a_cons (d_var 2) a_nil) (al_cons al_nil)) a_nil)) (al_cons (al_cons al_nil))) (a_cons (d_var 4) (a_cons (d_var 3) a_nil))) (al_cons (al_cons (al_cons al_nil))))) a_nil)) (al_cons (al_cons al_nil)))))) (s_cons (s_ret d_bl)
    s_nil) s_nil)
    (s_cons (s_set 5 sc__law_right.nd (d_bin o_mulA (d_up (d_str [48])) (d_up (d_callB (c_len rfl) rfl FX.n_len bt_len (d_pk 4)))))
    (s_cons (s_for rfl (i_val rfl (d_callO G__law_lots rfl (by first | decide | omega) hr rfl (a_cons (d_new (d_lrg1 rfl rfl FX.n_list rfl FX.n_range (d_var 1))) a_nil) (al_cons al_nil))) (g_name 6 sc__law_right.nd) (s_cons (s_if (q_bin (o_eq rfl hu) (d_up (d_callB (c_len rfl) rfl FX.n_len bt_len (d_pk 6))) (d_pk 2)) (s_cons (s_set 7 sc__law_right.nd (d_bin o_mulA (d_up (d_str [49])) (d_up (d_callB (c_len rfl) rfl FX.n_len bt_len (d_pk 4)))))
    (s_cons (s_for rfl (i_val rfl (d_var 6)) (g_name 8 sc__law_right.nd) (s_cons (s_set 7 sc__law_right.nd (d_callO G_joined rfl (by first | decide | omega) hr rfl (a_cons (d_var 7) (a_cons (d_callO G_sign_function rfl (by first | decide | omega) hr rfl (a_cons (d_var 1) (a_cons (d_var 8) a_nil)) (al_cons (al_cons al_nil))) (a_cons (d_str [97, 110, 100]) a_nil))) (al_cons (al_cons (al_cons al_nil)))))
    s_nil))
    (s_cons (s_set 5 sc__law_right.nd (d_callO G_joined rfl (by first | decide | omega) hr rfl (a_cons (d_var 5) (a_cons (d_var 7) (a_cons (d_str [115, 117, 109]) a_nil))) (al_cons (al_cons (al_cons al_nil)))))
    s_nil))) s_nil)
    s_nil))
    (s_cons (s_if (q_not (q_tru rfl (d_up (d_callO G__law_like rfl (by first | decide | omega) hr rfl (a_cons (d_callO G_even_sum rfl (by first | decide | omega) hr rfl (a_cons (d_var 1) (a_cons (d_var 2) a_nil)) (al_cons (al_cons al_nil))) (a_cons (d_var 5) a_nil)) (al_cons (al_cons al_nil)))))) (s_cons (s_ret d_bl)
    s_nil) s_nil)
    (s_cons (s_par 9 10 rfl sc__law_right.nd (a_cons (d_join rfl (d_up (d_new (d_comp (own := [("turn", 16)]) rfl sc__law_right.nd (i_range1 rfl FX.n_range (d_bin (o_add rfl) (d_pk 1) (d_up d_int))) (blk_of (by kernel_rfl)) (fun _ _ _ _ _ => (g_name 16 sc__law_right.nd)) (fun _ _ _ _ _ => t_nil) (fun _ _ _ _ _ => (d_callO G__law_some rfl (by first | decide | omega) hr rfl (a_cons (d_var 0) (a_cons (d_str [48, 49]) a_nil)) (al_cons (al_cons al_nil)))))))) (a_cons (d_join rfl (d_up (d_new (d_comp (own := [("turn", 16)]) rfl sc__law_right.nd (i_range1 rfl FX.n_range (d_bin (o_add rfl) (d_pk 1) (d_up d_int))) (blk_of (by kernel_rfl)) (fun _ _ _ _ _ => (g_name 16 sc__law_right.nd)) (fun _ _ _ _ _ => t_nil) (fun _ _ _ _ _ => (d_callO G__law_some rfl (by first | decide | omega) hr rfl (a_cons (d_var 0) (a_cons (d_str [48, 49]) a_nil)) (al_cons (al_cons al_nil)))))))) a_nil)))
    (s_cons (s_par 11 12 rfl sc__law_right.nd (a_cons (d_callO G_function_of_counts rfl (by first | decide | omega) hr rfl (a_cons (d_var 9) a_nil) (al_cons al_nil)) (a_cons (d_callO G_function_of_counts rfl (by first | decide | omega) hr rfl (a_cons (d_var 10) a_nil) (al_cons al_nil)) a_nil)))
    (s_cons (s_asg (d_tup (a_cons (d_callO G_sum_form rfl (by first | decide | omega) hr rfl (a_cons (d_var 11) a_nil) (al_cons al_nil)) (a_cons (d_callO G_sum_form rfl (by first | decide | omega) hr rfl (a_cons (d_var 12) a_nil) (al_cons al_nil)) a_nil)) (al_cons (al_cons al_nil))) (g_tup2 13 14 rfl rfl sc__law_right.nd))
    (s_cons (s_set 15 sc__law_right.nd (d_callT (c_tuple rfl) rfl FX.n_tuple bt_tuple (d_up (d_new (d_comp (own := [("own", 7)]) rfl sc__law_right.nd (i_range1 rfl FX.n_range (d_bin (o_add rfl) (d_pk 1) (d_up d_int))) (blk_of (by kernel_rfl)) (fun _ _ _ _ _ => (g_name 7 sc__law_right.nd)) (fun _ _ _ _ _ => (t_one (q_bin (o_ne rfl hu) (d_up (d_cmp (o_in rfl hu) (d_pk 7) (d_pk 13))) (d_up (d_cmp (o_in rfl hu) (d_pk 7) (d_pk 14)))))) (fun _ _ _ _ _ => (d_var 7)))))))
    (s_cons (s_ret (d_callO G__law_like rfl (by first | decide | omega) hr rfl (a_cons (d_new (d_lst (a_cons (d_callO G_symmetric_by_sums rfl (by first | decide | omega) hr rfl (a_cons (d_var 1) (a_cons (d_var 13) a_nil)) (al_cons (al_cons al_nil))) (a_cons (d_callO G_counts_of rfl (by first | decide | omega) hr rfl (a_cons (d_callO G_symmetric_by_sums rfl (by first | decide | omega) hr rfl (a_cons (d_var 1) (a_cons (d_var 14) a_nil)) (al_cons (al_cons al_nil))) a_nil) (al_cons al_nil)) (a_cons (d_callO G_sum_form rfl (by first | decide | omega) hr rfl (a_cons (d_callO G_joined rfl (by first | decide | omega) hr rfl (a_cons (d_var 11) (a_cons (d_var 12) (a_cons (d_str [115, 117, 109]) a_nil))) (al_cons (al_cons (al_cons al_nil)))) a_nil) (al_cons al_nil)) a_nil))) (al_cons (al_cons (al_cons al_nil))))) (a_cons (d_new (d_lst (a_cons (d_var 11) (a_cons (d_var 10) (a_cons (d_var 15) a_nil))) (al_cons (al_cons (al_cons al_nil))))) a_nil)) (al_cons (al_cons al_nil))))
    s_nil))))))))))))
theorem ok_law {cupOf : List Int → Cup} (hlaw : ∀ ns : List Int, ns.length ≤ 63 → ∃ c, u_law ([some (.fz (.scr ns)), some (.fz .cup)] ++ List.replicate (N_law.length - 2) none) (cupOf ns) = some (.rt (.bl true) c))
    (hcup : ∀ ns : List Int, ns.length ≤ 63 → ∃ ε c1 c2, u__law_cup (startD N__law_cup.length [.scr ns]) (0, 0) = some (.nx ε c1) ∧ v__law_cup ε c1 = some (.lst [.int (cupOf ns).1, .int (cupOf ns).2], c2))
    (FX : Fx K mg) {fd : FuncData} (F : FnP K "law" (top 72) (He.ga K "law") fd) : FnOk P w K mg base CX0 16 (He.ga K "law") fd ["script"] (spLaw ⟨K, fun _ => 0⟩) := by
  have G__law_flips_right := ok__law_flips_right (P := P) (w := w) (base := base) FX
  have G__law_like := ok__law_like (P := P) (w := w) (base := base) FX 12
  have G__law_lots := ok__law_lots (P := P) (w := w) (base := base) FX
  have G__law_right := ok__law_right (P := P) (w := w) (base := base) FX
  have G__law_roll := ok__law_roll (P := P) (w := w) (base := base) FX
  have G__law_some := ok__law_some (P := P) (w := w) (base := base) FX
  have G_count_symmetric := ok_count_symmetric (P := P) (w := w) (base := base) FX
  have G_count_with_flips := ok_count_with_flips (P := P) (w := w) (base := base) FX
  have G_counts_of := ok_counts_of (P := P) (w := w) (base := base) FX
  have G_even_sum := ok_even_sum (P := P) (w := w) (base := base) FX
  have G_function_of_counts := ok_function_of_counts (P := P) (w := w) (base := base) FX
  have G_sum_form := ok_sum_form (P := P) (w := w) (base := base) FX
  have G_symmetric_by_sums := ok_symmetric_by_sums (P := P) (w := w) (base := base) FX
  obtain ⟨fdc, Fc⟩ := FX.f__law_cup
  refine law_ok (W := ⟨K, fun _ => 0⟩) F sc_law (k := 15) (ok__law_cup hcup FX Fc) (by decide) FX.m__law_cup Fc.kp (Fc.bindsN fun _ _ _ _ _ _ us hl => match us, hl with | [_], _ => rfl) rfl rfl (fun cdv A outer s H E hr => ?_) hlaw
  have hu := hr.units
  refine ⟨ps_set sc_law.nd rfl (.inl rfl) (pe_call (ok__law_cup hcup FX Fc) (hr.mono (by decide)) rfl FX.m__law_cup Fc.kp (Fc.bindsN fun _ _ _ _ _ _ us hl => match us, hl with | [_], _ => rfl) .nil pass0 (pa_cons (pv 0) pa_nil)), ?_⟩
  exact (s_cons (s_for rfl (i_val rfl (d_tup (a_cons d_int (a_cons d_int (a_cons d_int (a_cons d_int (a_cons d_int (a_cons d_int (a_cons d_int a_nil))))))) (al_cons (al_cons (al_cons (al_cons (al_cons (al_cons (al_cons al_nil))))))))) (g_name 2 sc_law.nd) (s_cons (s_if (w_pt (w_or (q_not (q_tru rfl (d_up (d_callO G__law_right rfl (by first | decide | omega) hr rfl (a_cons (d_var 1) (a_cons (d_var 2) a_nil)) (al_cons (al_cons al_nil)))))) (w_or1 (q_not (q_tru rfl (d_up (d_callO G__law_like rfl (by first | decide | omega) hr rfl (a_cons (d_callO G_count_symmetric rfl (by first | decide | omega) hr rfl (a_cons (d_var 2) a_nil) (al_cons al_nil)) (a_cons (d_bin o_mulA (d_up d_int) (d_up (d_callB (c_len rfl) rfl FX.n_len bt_len (d_up (d_callO G__law_lots rfl (by first | decide | omega) hr rfl (a_cons (d_new (d_lrg1 rfl rfl FX.n_list rfl FX.n_range (d_var 2))) a_nil) (al_cons al_nil)))))) a_nil)) (al_cons (al_cons al_nil))))))))) (s_cons (s_ret d_bl)
    s_nil) s_nil)
    s_nil))
    (s_cons (s_if (w_pt (w_or (q_not (q_tru rfl (d_up (d_callO G__law_flips_right rfl (by first | decide | omega) hr rfl (a_cons (d_callO G__law_some rfl (by first | decide | omega) hr rfl (a_cons (d_var 1) (a_cons (d_new (d_lst (a_cons d_int (a_cons d_int (a_cons d_int a_nil))) (al_cons (al_cons (al_cons al_nil))))) a_nil)) (al_cons (al_cons al_nil))) a_nil) (al_cons al_nil))))) (w_or1 (w_pt (w_and (q_bin (o_eq rfl hu) (d_up (d_callO G__law_roll rfl (by first | decide | omega) hr rfl (a_cons (d_var 1) (a_cons d_int a_nil)) (al_cons (al_cons al_nil)))) (d_up d_int)) (w_and1 (q_not (q_tru rfl (d_up (d_callO G__law_flips_right rfl (by first | decide | omega) hr rfl (a_cons d_int a_nil) (al_cons al_nil))))))))))) (s_cons (s_ret d_bl)
    s_nil) s_nil)
    (s_cons (s_set 3 sc_law.nd (d_new (d_lst (a_cons (d_callO G_even_sum rfl (by first | decide | omega) hr rfl (a_cons d_int (a_cons d_int a_nil)) (al_cons (al_cons al_nil))) (a_cons (d_callO G_even_sum rfl (by first | decide | omega) hr rfl (a_cons d_int (a_cons d_int a_nil)) (al_cons (al_cons al_nil))) (a_cons (d_callO G_even_sum rfl (by first | decide | omega) hr rfl (a_cons d_int (a_cons d_int a_nil)) (al_cons (al_cons al_nil))) (a_cons (d_callO G_even_sum rfl (by first | decide | omega) hr rfl (a_cons d_int (a_cons d_int a_nil)) (al_cons (al_cons al_nil))) (a_cons (d_callO G_sum_form rfl (by first | decide | omega) hr rfl (a_cons (d_str [48, 49, 49, 48]) a_nil) (al_cons al_nil)) (a_cons (d_callO G_sum_form rfl (by first | decide | omega) hr rfl (a_cons (d_str [48, 48, 48, 49]) a_nil) (al_cons al_nil)) (a_cons (d_callO G_sum_form rfl (by first | decide | omega) hr rfl (a_cons (d_str [48, 49, 49, 49]) a_nil) (al_cons al_nil)) (a_cons (d_callO G_sum_form rfl (by first | decide | omega) hr rfl (a_cons (d_str [49]) a_nil) (al_cons al_nil)) (a_cons (d_callO G_sum_form rfl (by first | decide | omega) hr rfl (a_cons (d_str [48]) a_nil) (al_cons al_nil)) (a_cons (d_callO G_symmetric_by_sums rfl (by first | decide | omega) hr rfl (a_cons d_int (a_cons (d_tup (a_cons d_int (a_cons d_int a_nil)) (al_cons (al_cons al_nil))) a_nil)) (al_cons (al_cons al_nil))) (a_cons (d_callO G_symmetric_by_sums rfl (by first | decide | omega) hr rfl (a_cons d_int (a_cons (d_tup a_nil al_nil) a_nil)) (al_cons (al_cons al_nil))) (a_cons (d_callO G_count_symmetric rfl (by first | decide | omega) hr rfl (a_cons d_int a_nil) (al_cons al_nil)) (a_cons (d_new (d_comp (own := [("many", 2)]) rfl sc_law.nd (i_range1 rfl FX.n_range d_int) (blk_of (by kernel_rfl)) (fun _ _ _ _ _ => (g_name 2 sc_law.nd)) (fun _ _ _ _ _ => t_nil) (fun _ _ _ _ _ => (d_callO G_count_with_flips rfl (by first | decide | omega) hr rfl (a_cons (d_var 2) a_nil) (al_cons al_nil))))) a_nil))))))))))))) (al_cons (al_cons (al_cons (al_cons (al_cons (al_cons (al_cons (al_cons (al_cons (al_cons (al_cons (al_cons (al_cons al_nil))))))))))))))))
    (s_cons (s_if (q_not (q_tru rfl (d_up (d_callO G__law_like rfl (by first | decide | omega) hr rfl (a_cons (d_var 3) (a_cons (d_new (d_lst (a_cons (d_str [48, 49, 49, 48]) (a_cons (d_str [48, 48, 48, 49]) (a_cons (d_str [49, 49, 49, 49]) (a_cons (d_str [48, 48, 48, 49, 48, 49, 49, 49]) (a_cons (d_tup (a_cons d_int a_nil) (al_cons al_nil)) (a_cons (d_tup (a_cons d_int a_nil) (al_cons al_nil)) (a_cons (d_tup (a_cons d_int (a_cons d_int a_nil)) (al_cons (al_cons al_nil))) (a_cons (d_tup (a_cons d_int a_nil) (al_cons al_nil)) (a_cons (d_tup a_nil al_nil) (a_cons (d_str [48, 49, 49, 49]) (a_cons (d_str [48]) (a_cons d_int (a_cons (d_new (d_lst (a_cons d_int (a_cons d_int (a_cons d_int a_nil))) (al_cons (al_cons (al_cons al_nil))))) a_nil))))))))))))) (al_cons (al_cons (al_cons (al_cons (al_cons (al_cons (al_cons (al_cons (al_cons (al_cons (al_cons (al_cons (al_cons al_nil))))))))))))))) a_nil)) (al_cons (al_cons al_nil)))))) (s_cons (s_ret d_bl)
    s_nil) s_nil)
    (s_cons (s_set 3 sc_law.nd (d_new (d_lst (a_cons (d_callO G_sum_form rfl (by first | decide | omega) hr rfl (a_cons (d_bin (o_add rfl) (d_up (d_str [48])) (d_up (d_bin o_mulA (d_up (d_str [49])) (d_up d_int)))) a_nil) (al_cons al_nil)) (a_cons (d_callO G_sum_form rfl (by first | decide | omega) hr rfl (a_cons (d_bin (o_add rfl) (d_up (d_bin o_mulA (d_up (d_str [48])) (d_up d_int))) (d_up (d_str [49]))) a_nil) (al_cons al_nil)) (a_cons (d_callO G_sum_form rfl (by first | decide | omega) hr rfl (a_cons (d_callO G_function_of_counts rfl (by first | decide | omega) hr rfl (a_cons (d_str [48, 49, 48, 49, 48, 49, 48]) a_nil) (al_cons al_nil)) a_nil) (al_cons al_nil)) (a_cons (d_callO G_sum_form rfl (by first | decide | omega) hr rfl (a_cons (d_bin o_mulA (d_up (d_str [49])) (d_up d_int)) a_nil) (al_cons al_nil)) (a_cons (d_callO G_counts_of rfl (by first | decide | omega) hr rfl (a_cons (d_callO G_even_sum rfl (by first | decide | omega) hr rfl (a_cons d_int (a_cons d_int a_nil)) (al_cons (al_cons al_nil))) a_nil) (al_cons al_nil)) a_nil))))) (al_cons (al_cons (al_cons (al_cons (al_cons al_nil))))))))
    (s_cons (s_ret (d_callO G__law_like rfl (by first | decide | omega) hr rfl (a_cons (d_var 3) (a_cons (d_new (d_lst (a_cons (d_tup (a_cons d_int (a_cons d_int (a_cons d_int (a_cons d_int (a_cons d_int (a_cons d_int a_nil)))))) (al_cons (al_cons (al_cons (al_cons (al_cons (al_cons al_nil))))))) (a_cons (d_tup (a_cons d_int a_nil) (al_cons al_nil)) (a_cons (d_tup (a_cons d_int a_nil) (al_cons al_nil)) (a_cons (d_tup (a_cons d_int a_nil) (al_cons al_nil)) (a_cons (d_str [48, 48, 48, 48, 49, 49, 49]) a_nil))))) (al_cons (al_cons (al_cons (al_cons (al_cons al_nil))))))) a_nil)) (al_cons (al_cons al_nil))))
    s_nil))))))
end
end K73

set_option Elab.async false
set_option linter.all false
set_option maxRecDepth 100000
set_option maxHeartbeats 0
namespace K73
open TT
def rowsL : Nat → List (List Nat)
  | 0 => [[]]
  | n + 1 => (rowsL n).map (0 :: ·) ++ (rowsL n).map (1 :: ·)
def chB (b : Bool) : Nat := if b then 49 else 48
def chw (w : List Bool) : List Nat := w.map chB
def focS (n : Nat) (w : List Bool) : List Nat := (rowsL n).map fun r => chB (w.getD r.sum false)
def allw : Nat → List (List Bool)
  | 0 => [[]]
  | n + 1 => (allw n).flatMap fun w => [false :: w, true :: w]
def ns6 : List Nat := [0, 1, 2, 3, 4, 5, 6]
def tsz (n : Nat) (w : List Bool) : List D := ((List.range (n + 1)).filter fun i => w.getD i false).map fun i => .int (i : Nat)
def gwb (n : Nat) (w : List Bool) (k : Nat) : Bool := (List.range (n + 1)).foldl (fun a i => a ^^ (w.getD i false && (k &&& i == i))) false
def gw (n : Nat) (w : List Bool) : List Bool := (List.range (n + 1)).map (gwb n w)
def un (n k : Nat) : List Bool := (List.range (n + 1)).map (· == k)
def xw (n : Nat) (a b : List Bool) : List Bool := (List.range (n + 1)).map fun i => a.getD i false ^^ b.getD i false
theorem gw_mem : ∀ n ∈ ns6, ∀ w ∈ allw (n + 1), gw n w ∈ allw (n + 1) ∧ gw n (gw n w) = w := by decide +kernel
theorem un_mem : ∀ n ∈ ns6, ∀ k ∈ List.range (n + 1), un n k ∈ allw (n + 1) ∧ tsz n (un n k) = [D.int (k : Nat)] := by
  have h : ns6.all (fun n => (List.range (n + 1)).all fun k => (allw (n + 1)).contains (un n k)) = true := by decide +kernel
  have h2 : ns6.map (fun n => (List.range (n + 1)).map fun k => tsz n (un n k)) = ns6.map (fun n => (List.range (n + 1)).map fun k => [D.int (k : Nat)]) := by kernel_rfl
  intro n hn k hk
  refine ⟨by simpa using List.all_eq_true.mp (List.all_eq_true.mp h n hn) k hk, List.map_inj_left.mp (List.map_inj_left.mp h2 n hn) k hk⟩
theorem rows_le : ∀ n ∈ ns6, ∀ r ∈ rowsL n, r.sum < n + 1 := by decide +kernel
def pairs : List (Nat × List Bool) := ns6.flatMap fun n => (allw (n + 1)).map fun w => (n, w)
theorem pairs_mem {n : Nat} (hn : n ∈ ns6) {w : List Bool} (hw : w ∈ allw (n + 1)) : (n, w) ∈ pairs.drop 0 := List.mem_flatMap.mpr ⟨n, hn, List.mem_map.mpr ⟨w, hw, rfl⟩⟩
theorem cut_at {α : Type} {l : List α} {x : α} {a b : Nat} (hab : a ≤ b) (h : x ∈ l.drop a) : x ∈ (l.drop a).take (b - a) ∨ x ∈ l.drop b := by
  rw [← List.take_append_drop (b - a) (l.drop a), List.mem_append, List.drop_drop] at h
  have e : a + (b - a) = b := by omega
  rwa [e] at h
theorem cut_last {α β : Type} {l : List α} {x : α} {a k : Nat} {f g : α → β} (hl : l.length ≤ a + k) (e : ((l.drop a).take k).map f = ((l.drop a).take k).map g) (h : x ∈ l.drop a) : f x = g x := by
  rw [List.take_of_length_le (by rw [List.length_drop]; omega)] at e
  exact List.map_inj_left.mp e x h
end K73

set_option Elab.async false
set_option linter.all false
set_option maxRecDepth 100000
set_option maxHeartbeats 0
namespace K73
open TT
theorem lsum_all_0 (c : Cup) : ((pairs.drop 0).take 62).map (fun p => m__law_sum [.int (p.1 : Nat), .tup (tsz p.1 p.2)] c) = ((pairs.drop 0).take 62).map (fun p => some (D.str (focS p.1 (gw p.1 p.2)), c)) := by kernel_rfl
theorem lsum_all_1 (c : Cup) : ((pairs.drop 62).take 32).map (fun p => m__law_sum [.int (p.1 : Nat), .tup (tsz p.1 p.2)] c) = ((pairs.drop 62).take 32).map (fun p => some (D.str (focS p.1 (gw p.1 p.2)), c)) := by kernel_rfl
theorem lsum_all_2 (c : Cup) : ((pairs.drop 94).take 32).map (fun p => m__law_sum [.int (p.1 : Nat), .tup (tsz p.1 p.2)] c) = ((pairs.drop 94).take 32).map (fun p => some (D.str (focS p.1 (gw p.1 p.2)), c)) := by kernel_rfl
theorem lsum_all_3 (c : Cup) : ((pairs.drop 126).take 16).map (fun p => m__law_sum [.int (p.1 : Nat), .tup (tsz p.1 p.2)] c) = ((pairs.drop 126).take 16).map (fun p => some (D.str (focS p.1 (gw p.1 p.2)), c)) := by kernel_rfl
theorem lsum_all_4 (c : Cup) : ((pairs.drop 142).take 16).map (fun p => m__law_sum [.int (p.1 : Nat), .tup (tsz p.1 p.2)] c) = ((pairs.drop 142).take 16).map (fun p => some (D.str (focS p.1 (gw p.1 p.2)), c)) := by kernel_rfl
theorem lsum_all_5 (c : Cup) : ((pairs.drop 158).take 16).map (fun p => m__law_sum [.int (p.1 : Nat), .tup (tsz p.1 p.2)] c) = ((pairs.drop 158).take 16).map (fun p => some (D.str (focS p.1 (gw p.1 p.2)), c)) := by kernel_rfl
theorem lsum_all_6 (c : Cup) : ((pairs.drop 174).take 16).map (fun p => m__law_sum [.int (p.1 : Nat), .tup (tsz p.1 p.2)] c) = ((pairs.drop 174).take 16).map (fun p => some (D.str (focS p.1 (gw p.1 p.2)), c)) := by kernel_rfl
theorem lsum_all_7 (c : Cup) : ((pairs.drop 190).take 16).map (fun p => m__law_sum [.int (p.1 : Nat), .tup (tsz p.1 p.2)] c) = ((pairs.drop 190).take 16).map (fun p => some (D.str (focS p.1 (gw p.1 p.2)), c)) := by kernel_rfl
theorem lsum_all_8 (c : Cup) : ((pairs.drop 206).take 16).map (fun p => m__law_sum [.int (p.1 : Nat), .tup (tsz p.1 p.2)] c) = ((pairs.drop 206).take 16).map (fun p => some (D.str (focS p.1 (gw p.1 p.2)), c)) := by kernel_rfl
theorem lsum_all_9 (c : Cup) : ((pairs.drop 222).take 16).map (fun p => m__law_sum [.int (p.1 : Nat), .tup (tsz p.1 p.2)] c) = ((pairs.drop 222).take 16).map (fun p => some (D.str (focS p.1 (gw p.1 p.2)), c)) := by kernel_rfl
theorem lsum_all_10 (c : Cup) : ((pairs.drop 238).take 16).map (fun p => m__law_sum [.int (p.1 : Nat), .tup (tsz p.1 p.2)] c) = ((pairs.drop 238).take 16).map (fun p => some (D.str (focS p.1 (gw p.1 p.2)), c)) := by kernel_rfl
theorem lsum_all (c : Cup) : ∀ n ∈ ns6, ∀ w ∈ allw (n + 1), (fun p : Nat × List Bool => m__law_sum [.int (p.1 : Nat), .tup (tsz p.1 p.2)] c) (n, w) = (fun p : Nat × List Bool => some (D.str (focS p.1 (gw p.1 p.2)), c)) (n, w) := fun n hn w hw => by
  have h := pairs_mem hn hw
  rcases cut_at (b := 62) (by decide) h with h0 | h
  · exact List.map_inj_left.mp (lsum_all_0 c) _ h0
  rcases cut_at (b := 94) (by decide) h with h0 | h
  · exact List.map_inj_left.mp (lsum_all_1 c) _ h0
  rcases cut_at (b := 126) (by decide) h with h0 | h
  · exact List.map_inj_left.mp (lsum_all_2 c) _ h0
  rcases cut_at (b := 142) (by decide) h with h0 | h
  · exact List.map_inj_left.mp (lsum_all_3 c) _ h0
  rcases cut_at (b := 158) (by decide) h with h0 | h
  · exact List.map_inj_left.mp (lsum_all_4 c) _ h0
  rcases cut_at (b := 174) (by decide) h with h0 | h
  · exact List.map_inj_left.mp (lsum_all_5 c) _ h0
  rcases cut_at (b := 190) (by decide) h with h0 | h
  · exact List.map_inj_left.mp (lsum_all_6 c) _ h0
  rcases cut_at (b := 206) (by decide) h with h0 | h
  · exact List.map_inj_left.mp (lsum_all_7 c) _ h0
  rcases cut_at (b := 222) (by decide) h with h0 | h
  · exact List.map_inj_left.mp (lsum_all_8 c) _ h0
  rcases cut_at (b := 238) (by decide) h with h0 | h
  · exact List.map_inj_left.mp (lsum_all_9 c) _ h0
  exact cut_last (by decide +kernel) (lsum_all_10 c) h
end K73

set_option Elab.async false
set_option linter.all false
set_option maxRecDepth 100000
set_option maxHeartbeats 0
namespace K73
open TT
theorem foc_all (c : Cup) : ns6.map (fun n => (allw (n + 1)).map fun w => m_function_of_counts [.str (chw w)] c) = ns6.map (fun n => (allw (n + 1)).map fun w => some (.str (focS n w), c)) := by kernel_rfl
end K73

set_option Elab.async false
set_option linter.all false
set_option maxRecDepth 100000
set_option maxHeartbeats 0
namespace K73
open TT
theorem need_all (c : Cup) : ns6.map (fun n => (allw (n + 1)).map fun w => m_fits_function [.str (focS n w)] c) = ns6.map (fun n => (allw (n + 1)).map fun w => some (.bl true, c)) := by kernel_rfl
theorem counts_all (c : Cup) : ns6.map (fun n => (allw (n + 1)).map fun w => m_counts_in [.str (focS n w)] c) = ns6.map (fun n => (allw (n + 1)).map fun w => some (.str (chw w), c)) := by kernel_rfl
end K73

set_option Elab.async false
set_option linter.all false
set_option maxRecDepth 100000
set_option maxHeartbeats 0
namespace K73
open TT
theorem paper_all_0 (c : Cup) : ((pairs.drop 0).take 94).map (fun p => m_paper_in [.str (focS p.1 p.2)] c) = ((pairs.drop 0).take 94).map (fun p => some (D.non, c)) := by kernel_rfl
theorem paper_all_1 (c : Cup) : ((pairs.drop 94).take 32).map (fun p => m_paper_in [.str (focS p.1 p.2)] c) = ((pairs.drop 94).take 32).map (fun p => some (D.non, c)) := by kernel_rfl
theorem paper_all_2 (c : Cup) : ((pairs.drop 126).take 32).map (fun p => m_paper_in [.str (focS p.1 p.2)] c) = ((pairs.drop 126).take 32).map (fun p => some (D.non, c)) := by kernel_rfl
theorem paper_all_3 (c : Cup) : ((pairs.drop 158).take 32).map (fun p => m_paper_in [.str (focS p.1 p.2)] c) = ((pairs.drop 158).take 32).map (fun p => some (D.non, c)) := by kernel_rfl
theorem paper_all_4 (c : Cup) : ((pairs.drop 190).take 32).map (fun p => m_paper_in [.str (focS p.1 p.2)] c) = ((pairs.drop 190).take 32).map (fun p => some (D.non, c)) := by kernel_rfl
theorem paper_all_5 (c : Cup) : ((pairs.drop 222).take 32).map (fun p => m_paper_in [.str (focS p.1 p.2)] c) = ((pairs.drop 222).take 32).map (fun p => some (D.non, c)) := by kernel_rfl
theorem paper_all (c : Cup) : ∀ n ∈ ns6, ∀ w ∈ allw (n + 1), (fun p : Nat × List Bool => m_paper_in [.str (focS p.1 p.2)] c) (n, w) = (fun p : Nat × List Bool => some (D.non, c)) (n, w) := fun n hn w hw => by
  have h := pairs_mem hn hw
  rcases cut_at (b := 94) (by decide) h with h0 | h
  · exact List.map_inj_left.mp (paper_all_0 c) _ h0
  rcases cut_at (b := 126) (by decide) h with h0 | h
  · exact List.map_inj_left.mp (paper_all_1 c) _ h0
  rcases cut_at (b := 158) (by decide) h with h0 | h
  · exact List.map_inj_left.mp (paper_all_2 c) _ h0
  rcases cut_at (b := 190) (by decide) h with h0 | h
  · exact List.map_inj_left.mp (paper_all_3 c) _ h0
  rcases cut_at (b := 222) (by decide) h with h0 | h
  · exact List.map_inj_left.mp (paper_all_4 c) _ h0
  exact cut_last (by decide +kernel) (paper_all_5 c) h
end K73

set_option Elab.async false
set_option linter.all false
set_option maxRecDepth 100000
set_option maxHeartbeats 0
namespace K73
open TT
theorem sizes_all (c : Cup) : ns6.map (fun n => (allw (n + 1)).map fun w => m_sizes_by_word [.str (chw w)] c) = ns6.map (fun n => (allw (n + 1)).map fun w => some (.lst (tsz n (gw n w)), c)) := by kernel_rfl
theorem sym_all (c : Cup) : ns6.map (fun n => (allw (n + 1)).map fun w => m_symmetric_by_sums [.int (n : Nat), .tup (tsz n w)] c) = ns6.map (fun n => (allw (n + 1)).map fun w => some (.str (focS n (gw n w)), c)) := by kernel_rfl
theorem even_all (c : Cup) : ns6.map (fun n => (List.range (n + 1)).map fun k => m_even_sum [.int (n : Nat), .int (k : Nat)] c) = ns6.map (fun n => (List.range (n + 1)).map fun k => some (.str (focS n (gw n (un n k))), c)) := by kernel_rfl
end K73

set_option Elab.async false
set_option linter.all false
set_option maxRecDepth 100000
set_option maxHeartbeats 0
namespace K73
open TT
def prodS : SS :=
  (sFor (iVal (eCall m__law_lots (lCons (eRg1 (eVar 1)) lNil))) (gN 6) (sSeq
      (sIf (bOf (e2 pEq (e1 pLen (ePk 6)) (ePk 2))) (sSeq
      (sSet 7 (e2 pMulA (eC (.str [49])) (e1 pLen (ePk 4))))
      (sSeq
      (sFor (iVal (eVar 6)) (gN 8) (sSeq
      (sSet 7 (eCall m_joined (lCons (eVar 7) (lCons (eCall m_sign_function (lCons (eVar 1) (lCons (eVar 8) lNil))) (lCons (eC (.str [97, 110, 100])) lNil)))))
      sNop))
      (sSeq
      (sSet 5 (eCall m_joined (lCons (eVar 5) (lCons (eVar 7) (lCons (eC (.str [115, 117, 109])) lNil)))))
      sNop))) sNop)
      sNop))
def ctop (n k : Nat) : List Nat := (rowsL n).map fun r => if (r.drop (n - k)).all (· == 1) then 49 else 48
def E5 (n k : Nat) (sz : D) (fn : List Nat) : En := [some (.fz .cup), some (.fz (.int (n : Nat))), some (.fz (.int (k : Nat))), some (.fz sz), some (.fz (.str fn)), some (.fz (.str (List.replicate (2 ^ n) 48))), none, none, none] ++ List.replicate 8 none
def E6 (n k : Nat) (sz : D) (fn : List Nat) : En := [some (.fz .cup), some (.fz (.int (n : Nat))), some (.fz (.int (k : Nat))), some (.fz sz), some (.fz (.str fn)), some (.fz (.str (focS n (gw n (un n k))))), some (.fz (.tup ((List.range n).map fun i => .int (i : Nat)))), some (.fz (.str (ctop n k))), if k = 0 then none else some (.fz (.int (n - 1 : Nat)))] ++ List.replicate 8 none
theorem prod_all (sz : D) (g : List Bool) (c : Cup) : ns6.map (fun n => (List.range (n + 1)).map fun k => prodS (E5 n k sz (focS n g)) c) = ns6.map (fun n => (List.range (n + 1)).map fun k => some (.nx (E6 n k sz (focS n g)) c)) := by kernel_rfl
end K73

set_option Elab.async false
set_option linter.all false
set_option maxRecDepth 100000
set_option maxHeartbeats 0
namespace K73
open TT
theorem seq_nx {u v : SS} {ε ε1 : En} {c c1 : Cup} {o : Option Out} (h : u ε c = some (.nx ε1 c1)) (h2 : v ε1 c1 = o) : sSeq u v ε c = o := by
  unfold sSeq; rw [h]; exact h2
theorem seq_rt {u v : SS} {ε : En} {c c1 : Cup} {d : D} (h : u ε c = some (.rt d c1)) : sSeq u v ε c = some (.rt d c1) := by
  unfold sSeq; rw [h]
theorem if_t {q : SB} {u v : SS} {ε : En} {c c1 : Cup} {o : Option Out} (h : q ε c = some (true, c1)) (h2 : u ε c1 = o) : sIf q u v ε c = o := by
  unfold sIf; rw [h]; exact h2
theorem if_f {q : SB} {u v : SS} {ε : En} {c c1 : Cup} {o : Option Out} (h : q ε c = some (false, c1)) (h2 : v ε c1 = o) : sIf q u v ε c = o := by
  unfold sIf; rw [h]; exact h2
theorem ret_ok {f : SE} {ε : En} {c c1 : Cup} {d : D} (h : f ε c = some (d, c1)) : sRet f ε c = some (.rt d c1) := by
  unfold sRet; rw [h]
theorem set_ok {i : Nat} {f : SE} {ε : En} {c c1 : Cup} {d : D} (h : f ε c = some (d, c1)) : sSet i f ε c = some (.nx (ε.set i (some (.fz d))) c1) := by
  unfold sSet; rw [h]
theorem drop_ok {f : SE} {ε : En} {c c1 : Cup} {d : D} (h : f ε c = some (d, c1)) : sDrop f ε c = some (.nx ε c1) := by
  unfold sDrop; rw [h]
theorem call_ok {m : Mi} {fs : SL} {ε : En} {c c1 c2 : Cup} {d : D} {ds : List D} (h : fs ε c = some (ds, c1)) (h2 : m ds c1 = some (d, c2)) : eCall m fs ε c = some (d, c2) := by
  unfold eCall; rw [h]; exact h2
theorem cons_ok {f : SE} {fs : SL} {ε : En} {c c1 c2 : Cup} {d : D} {ds : List D} (h : f ε c = some (d, c1)) (h2 : fs ε c1 = some (ds, c2)) : lCons f fs ε c = some (d :: ds, c2) := by
  unfold lCons; rw [h]; simp only; rw [h2]
theorem lst_ok {fs : SL} {ε : En} {c c1 : Cup} {ds : List D} (h : fs ε c = some (ds, c1)) : eLst fs ε c = some (.lst ds, c1) := by
  unfold eLst; rw [h]
theorem tup_ok {fs : SL} {ε : En} {c c1 : Cup} {ds : List D} (h : fs ε c = some (ds, c1)) : eTup fs ε c = some (.tup ds, c1) := by
  unfold eTup; rw [h]
theorem e1_ok {op : D → Option D} {f : SE} {ε : En} {c c1 : Cup} {d d2 : D} (h : f ε c = some (d, c1)) (h2 : op d = some d2) : e1 op f ε c = some (d2, c1) := by
  unfold e1; rw [h]; simp only; rw [h2]
theorem e2_ok {op : D → D → Option D} {f g : SE} {ε : En} {c c1 c2 : Cup} {d d2 d3 : D} (h : f ε c = some (d, c1)) (h2 : g ε c1 = some (d2, c2)) (h3 : op d d2 = some d3) : e2 op f g ε c = some (d3, c2) := by
  unfold e2; rw [h]; simp only; rw [h2]; simp only; rw [h3]
theorem e1J_ok {f : SE} {ε : En} {c c1 : Cup} {d d2 : D} (h : f ε c = some (d, c1)) (h2 : pJoin d = some d2) : e1J f ε c = some (d2, c1) := by
  unfold e1J; rw [h]; simp only; rw [h2]
theorem bOf_ok {f : SE} {ε : En} {c c1 : Cup} {b : Bool} (h : f ε c = some (.bl b, c1)) : bOf f ε c = some (b, c1) := by
  unfold bOf; rw [h]
theorem bTru_ok {f : SE} {ε : En} {c c1 : Cup} {b : Bool} (h : f ε c = some (.bl b, c1)) : bTru f ε c = some (b, c1) := by
  unfold bTru; rw [h]; rfl
theorem qNot_ok {q : SB} {ε : En} {c c1 : Cup} {b : Bool} (h : q ε c = some (b, c1)) : qNot q ε c = some (!b, c1) := by
  unfold qNot; rw [h]
theorem qOr_f {q r : SB} {ε : En} {c c1 : Cup} {o} (h : q ε c = some (false, c1)) (h2 : r ε c1 = o) : qOr q r ε c = o := by
  unfold qOr; rw [h]; exact h2
theorem and_t {f g : SE} {ε : En} {c c1 : Cup} {o} (h : f ε c = some (.bl true, c1)) (h2 : g ε c1 = o) : eAnd f g ε c = o := by
  unfold eAnd; rw [h]; exact h2
theorem run_rt {n : Nat} {u : SS} {ds : List D} {c c1 : Cup} {d : D} (h : u (startD n ds) c = some (.rt d c1)) : runB n u ds c = some (d, c1) := by
  unfold runB; rw [h]
theorem run_nx {n : Nat} {u : SS} {ds : List D} {ε : En} {c c1 : Cup} (h : u (startD n ds) c = some (.nx ε c1)) : runB n u ds c = some (.non, c1) := by
  unfold runB; rw [h]
theorem comp_ok {vs : List Nat} {src : SI} {tg : Tg} {q : SB} {f : SE} {ε ε0 : En} {c c1 c2 : Cup} {ds xs : List D} (h : src ε c = some (ds, c1)) (h2 : wipeE ε vs = some ε0) (h3 : compGo tg q f ε0 ds c1 = some (xs, c2)) : eComp vs src tg q f ε c = some (.lst xs, c2) := by
  unfold eComp; rw [h]; simp only; rw [h2]; simp only; rw [h3]
/-- a pure comprehension -/
theorem go_pure {tg : Tg} {q : SB} {f : SE} {ε : En} {p : D → Bool} {g : D → D} : ∀ {ds : List D} {c : Cup}, (∀ d ∈ ds, ∃ ε1, tg d ε = some ε1 ∧ q ε1 c = some (p d, c) ∧ (p d = true → f ε1 c = some (g d, c))) → compGo tg q f ε ds c = some ((ds.filter p).map g, c)
  | [], c, _ => rfl
  | d :: ds, c, h => by
    obtain ⟨ε1, h1, h2, h3⟩ := h d (List.mem_cons_self ..)
    have ih := go_pure (ds := ds) (c := c) fun x hx => h x (List.mem_cons_of_mem _ hx)
    unfold compGo
    rw [h1]
    simp only
    rw [h2]
    cases e : p d with
    | false => simp only; rw [ih, List.filter_cons_of_neg (by simp [e])]
    | true => simp only; rw [h3 e]; simp only; rw [ih, List.filter_cons_of_pos e]; rfl
/-! ### likeness of a thing with itself -/
theorem like_str (k : Nat) (x : List Nat) (c : Cup) : m__law_like (k + 1) [.str x, .str x] c = some (.bl true, c) :=
  (by kernel_rfl : m__law_like (k + 1) [.str x, .str x] c = some (.bl (x == x), c)).trans (by simp)
theorem like_int (k : Nat) (x : Int) (c : Cup) : m__law_like (k + 1) [.int x, .int x] c = some (.bl true, c) :=
  (by kernel_rfl : m__law_like (k + 1) [.int x, .int x] c = some (.bl (x == x), c)).trans (by simp)
theorem zip_self (ds : List D) : ∀ p ∈ zipD ds ds, ∃ d ∈ ds, p = .tup [d, d] := by
  induction ds with
  | nil => intro p h; cases h
  | cons d ds ih =>
    intro p h
    rcases List.mem_cons.mp h with rfl | h
    · exact ⟨d, List.mem_cons_self .., rfl⟩
    · obtain ⟨e, he, q⟩ := ih p h
      exact ⟨e, List.mem_cons_of_mem _ he, q⟩
theorem like_go {m : Mi} {a b s : Option Sl} {ds : List D} {c : Cup} (h : ∀ d ∈ ds, m [d, d] c = some (.bl true, c)) :
    compGo (gT 2 (gsCons (gN 3) (gsCons (gN 4) gsNil))) (qNot (bTru (eCall m (lCons (eVar 3) (lCons (eVar 4) lNil))))) (eC (.int 1)) [a, b, s, none, none] (zipD ds ds) c = some ([], c) := by
  have := go_pure (tg := gT 2 (gsCons (gN 3) (gsCons (gN 4) gsNil))) (q := qNot (bTru (eCall m (lCons (eVar 3) (lCons (eVar 4) lNil))))) (f := eC (.int 1)) (ε := [a, b, s, none, none]) (p := fun _ => false) (g := id) (ds := zipD ds ds) (c := c) fun p hp => by
    obtain ⟨d, hd, rfl⟩ := zip_self ds p hp
    refine ⟨[a, b, s, some (.fz d), some (.fz d)], rfl, ?_, fun e => by cases e⟩
    exact qNot_ok (bTru_ok (call_ok (c1 := c) (ds := [d, d]) rfl (h d hd)))
  rw [this, List.filter_eq_nil_iff.mpr (fun _ _ h => by cases h)]
  rfl
theorem like_lst (k : Nat) (ds : List D) (c : Cup) (h : ∀ d ∈ ds, m__law_like k [d, d] c = some (.bl true, c)) : m__law_like (k + 1) [.lst ds, .lst ds] c = some (.bl true, c) := by
  refine run_rt (u := u__law_like (m__law_like k)) ?_
  unfold u__law_like
  refine seq_nx (ε1 := [some (.fz (.lst ds)), some (.fz (.lst ds)), some (.fz (.int 5)), none, none]) (c1 := c) (by kernel_rfl) ?_
  refine seq_nx (ε1 := [some (.fz (.lst ds)), some (.fz (.lst ds)), some (.fz (.int 5)), none, none]) (c1 := c) (by kernel_rfl) ?_
  refine seq_rt (if_t (c1 := c) (by kernel_rfl) (seq_rt (ret_ok (and_t (c1 := c) ?_ ?_))))
  · exact (by kernel_rfl : _ = some (D.bl ((ds.length : Int) == (ds.length : Int)), c)).trans (by simp)
  · refine e2_ok (comp_ok (ds := zipD ds ds) (ε0 := [some (.fz (.lst ds)), some (.fz (.lst ds)), some (.fz (.int 5)), none, none]) (c1 := c) (xs := []) rfl rfl (like_go h)) (c2 := c) (d2 := .lst []) rfl ?_
    kernel_rfl
theorem like_tup (k : Nat) (ds : List D) (c : Cup) (h : ∀ d ∈ ds, m__law_like k [d, d] c = some (.bl true, c)) : m__law_like (k + 1) [.tup ds, .tup ds] c = some (.bl true, c) := by
  refine run_rt (u := u__law_like (m__law_like k)) ?_
  unfold u__law_like
  refine seq_nx (ε1 := [some (.fz (.tup ds)), some (.fz (.tup ds)), some (.fz (.int 4)), none, none]) (c1 := c) (by kernel_rfl) ?_
  refine seq_nx (ε1 := [some (.fz (.tup ds)), some (.fz (.tup ds)), some (.fz (.int 4)), none, none]) (c1 := c) (by kernel_rfl) ?_
  refine seq_rt (if_t (c1 := c) (by kernel_rfl) (seq_rt (ret_ok (and_t (c1 := c) ?_ ?_))))
  · exact (by kernel_rfl : _ = some (D.bl ((ds.length : Int) == (ds.length : Int)), c)).trans (by simp)
  · refine e2_ok (comp_ok (ds := zipD ds ds) (ε0 := [some (.fz (.tup ds)), some (.fz (.tup ds)), some (.fz (.int 4)), none, none]) (c1 := c) (xs := []) rfl rfl (like_go h)) (c2 := c) (d2 := .lst []) rfl ?_
    kernel_rfl
/-! ### rolls -/
theorem roll_ok (k : Int) (h0 : 0 < k) (h1 : k < 1073741824) (c : Cup) : ∃ v c', m__law_roll [.cup, .int k] c = some (.int v, c') ∧ 0 ≤ v ∧ v < k := by
  by_cases h : 0 < c.1
  · refine ⟨c.1 % k, (c.1 / k, c.2), ?_, Int.emod_nonneg _ (by omega), Int.emod_lt_of_pos _ h0⟩
    have hb : bOf (e2 pGt (eCupR 0 0) (eC (.int 0))) [some (.fz .cup), some (.fz (.int k)), none, none] c = some (true, c) :=
      (by kernel_rfl : _ = some (decide (0 < c.1), c)).trans (by simp [h])
    refine run_rt (seq_rt (if_t (c1 := c) hb ?_))
    refine seq_nx (ε1 := [some (.fz .cup), some (.fz (.int k)), some (.fz (.int (c.1 % k))), none]) (c1 := c) ?_ ?_
    · refine set_ok (i := 2) (ε := [some (.fz .cup), some (.fz (.int k)), none, none]) (e2_ok (c1 := c) (d := .int c.1) (d2 := .int k) rfl rfl ?_)
      exact if_pos h0
    refine seq_nx (ε1 := [some (.fz .cup), some (.fz (.int k)), some (.fz (.int (c.1 % k))), none]) (c1 := (c.1 / k, c.2)) ?_ rfl
    have : e2 pDiv (eCupR 0 0) (ePk 1) [some (.fz .cup), some (.fz (.int k)), some (.fz (.int (c.1 % k))), none] c = some (.int (c.1 / k), c) := e2_ok (c1 := c) (d := .int c.1) (d2 := .int k) rfl rfl (if_pos ⟨h0, h1⟩)
    unfold sCupW
    rw [this]
    rfl
  · have hb : bOf (e2 pGt (eCupR 0 0) (eC (.int 0))) [some (.fz .cup), some (.fz (.int k)), none, none] c = some (false, c) :=
      (by kernel_rfl : _ = some (decide (0 < c.1), c)).trans (by simp [h])
    generalize hx : (c.2 * 31051 + 7993) % 2147483543 = x
    have x0 : 0 ≤ x := by rw [← hx]; exact Int.emod_nonneg _ (by omega)
    have x1 : x < 2147483543 := by rw [← hx]; exact Int.emod_lt_of_pos _ (by omega)
    generalize hy : x * (x + 229) % 2147483587 = y
    refine ⟨y / 821 % k, (c.1, x), ?_, Int.emod_nonneg _ (by omega), Int.emod_lt_of_pos _ h0⟩
    refine run_rt (seq_nx (ε1 := [some (.fz .cup), some (.fz (.int k)), none, none]) (c1 := c) (if_f hb rfl) ?_)
    have m1' : pMul (.int c.2) (.int 31051) = some (.int (c.2 * 31051)) := if_pos (Or.inr ⟨by omega, by omega⟩)
    have m1 : pMulA (.int c.2) (.int 31051) = some (.int (c.2 * 31051)) := by unfold pMulA; rw [m1']
    have m2' : pMul (.int x) (.int (x + 229)) = some (.int (x * (x + 229))) := if_pos (Or.inr ⟨by omega, by omega⟩)
    have m2 : pMulA (.int x) (.int (x + 229)) = some (.int (x * (x + 229))) := by unfold pMulA; rw [m2']
    refine seq_nx (ε1 := [some (.fz .cup), some (.fz (.int k)), none, none]) (c1 := (c.1, x)) ?_ ?_
    · have : e2 pMod (e1 pInt (e2 pAdd (e2 pMulA (eCupR 0 1) (eC (.int 31051))) (eC (.int 7993)))) (eC (.int 2147483543)) [some (.fz .cup), some (.fz (.int k)), none, none] c = some (.int x, c) := by
        refine e2_ok (e1_ok (e2_ok (e2_ok (c1 := c) (d := .int c.2) rfl rfl m1) rfl rfl) rfl) rfl ?_
        show some (D.int _) = _
        rw [hx]
      unfold sCupW
      rw [this]
      rfl
    refine seq_nx (ε1 := [some (.fz .cup), some (.fz (.int k)), none, some (.fz (.int y))]) (c1 := (c.1, x)) ?_ ?_
    · refine set_ok (i := 3) (ε := [some (.fz .cup), some (.fz (.int k)), none, none]) (e2_ok (e1_ok (e2_ok (c1 := (c.1, x)) (d := .int x) (d2 := .int (x + 229)) rfl rfl m2) rfl) rfl ?_)
      show some (D.int _) = _
      rw [hy]
    refine seq_rt (ret_ok (e2_ok (c1 := (c.1, x)) (d := .int (y / 821)) (d2 := .int k) ?_ rfl (if_pos h0)))
    rfl
end K73

set_option Elab.async false
set_option linter.all false
set_option maxRecDepth 100000
set_option maxHeartbeats 0
namespace K73
open TT
theorem flips_sm (c : Cup) : [0, 1, 2].map (fun k : Nat => m__law_flips_right [.int k] c) = [0, 1, 2].map (fun k : Nat => some (.bl true, c)) := by kernel_rfl
def flB : SS := (sSeq
    (sPar 3 4 (lCons (eC (.str [])) (lCons (eVar 2) lNil)))
    (sSeq
    (sFor (iRange1 (e1 pLen (eCall m__law_rows (lCons (eVar 0) lNil)))) (gN 5) (sSeq
    (sPar 3 4 (lCons (e2 pAdd (e1 pStr (e2 pMod (e1 pInt (ePk 4)) (eC (.int 2)))) (ePk 3)) (lCons (e1 pInt (e2 pDiv (ePk 4) (eC (.int 2)))) lNil)))
    sNop))
    (sSeq
    (sSet 1 (e2 pAdd (ePk 1) (eIf (bOf (e2 pNe (eCall m_flip_lots (lCons (eVar 3) lNil)) (eTup lNil))) (eC (.int 1)) (eC (.int 0)))))
    sNop)))
def goN (b : SS) : List D → En → Cup → Option (En × Cup)
  | [], ε, c => some (ε, c)
  | d :: ds, ε, c => match gN 2 d ε with
    | none => none
    | some ε1 => match b ε1 c with
      | some (.nx ε2 c2) => goN b ds ε2 c2
      | _ => none
theorem goN_app {b : SS} : ∀ {l1 l2 : List D} {ε ε1 : En} {c c1 : Cup} {o : Out}, goN b l1 ε c = some (ε1, c1) → forGo (gN 2) b l2 ε1 c1 = some o → forGo (gN 2) b (l1 ++ l2) ε c = some o
  | [], l2, ε, ε1, c, c1, o, h, h2 => by cases h; exact h2
  | d :: ds, l2, ε, ε1, c, c1, o, h, h2 => by
    unfold goN at h
    rw [List.cons_append]
    unfold forGo
    cases e : gN 2 d ε with
    | none => rw [e] at h; cases h
    | some ε2 =>
      rw [e] at h
      simp only at h ⊢
      cases e2 : b ε2 c with
      | none => rw [e2] at h; cases h
      | some o2 =>
        rw [e2] at h
        cases o2 with
        | nx ε3 c3 => exact goN_app h h2
        | ct ε3 c3 => cases h
        | bk ε3 c3 => cases h
        | rt d c3 => cases h
theorem cut_app {α : Type} {l : List α} {a k : Nat} : l.drop a = (l.drop a).take k ++ l.drop (a + k) := by
  rw [← List.drop_drop, List.take_append_drop]
def eF (f a : Nat) (l : List Nat) : En := [some (.fz (.int 3)), some (.fz (.int f)), some (.fz (.int a)), some (.fz (.str l)), some (.fz (.int 0)), some (.fz (.int 7))]
def eF0 : En := [some (.fz (.int 3)), some (.fz (.int 0)), none, none, none, none]
theorem fl_0 (c : Cup) : goN flB (((rangeD 0 256).drop 0).take 32) eF0 c = some ((eF 9 31 [48, 48, 48, 49, 49, 49, 49, 49]), c) := by kernel_rfl
theorem fl_1 (c : Cup) : goN flB (((rangeD 0 256).drop 32).take 32) (eF 9 31 [48, 48, 48, 49, 49, 49, 49, 49]) c = some ((eF 13 63 [48, 48, 49, 49, 49, 49, 49, 49]), c) := by kernel_rfl
theorem fl_2 (c : Cup) : goN flB (((rangeD 0 256).drop 64).take 32) (eF 13 63 [48, 48, 49, 49, 49, 49, 49, 49]) c = some ((eF 17 95 [48, 49, 48, 49, 49, 49, 49, 49]), c) := by kernel_rfl
theorem fl_3 (c : Cup) : goN flB (((rangeD 0 256).drop 96).take 32) (eF 17 95 [48, 49, 48, 49, 49, 49, 49, 49]) c = some ((eF 26 127 [48, 49, 49, 49, 49, 49, 49, 49]), c) := by kernel_rfl
theorem fl_4 (c : Cup) : goN flB (((rangeD 0 256).drop 128).take 32) (eF 26 127 [48, 49, 49, 49, 49, 49, 49, 49]) c = some ((eF 35 159 [49, 48, 48, 49, 49, 49, 49, 49]), c) := by kernel_rfl
theorem fl_5 (c : Cup) : goN flB (((rangeD 0 256).drop 160).take 32) (eF 35 159 [49, 48, 48, 49, 49, 49, 49, 49]) c = some ((eF 39 191 [49, 48, 49, 49, 49, 49, 49, 49]), c) := by kernel_rfl
theorem fl_6 (c : Cup) : goN flB (((rangeD 0 256).drop 192).take 32) (eF 39 191 [49, 48, 49, 49, 49, 49, 49, 49]) c = some ((eF 43 223 [49, 49, 48, 49, 49, 49, 49, 49]), c) := by kernel_rfl
theorem fl_7 (c : Cup) : goN flB (((rangeD 0 256).drop 224).take 32) (eF 43 223 [49, 49, 48, 49, 49, 49, 49, 49]) c = some ((eF 52 255 [49, 49, 49, 49, 49, 49, 49, 49]), c) := by kernel_rfl
theorem fl_all (c : Cup) : forGo (gN 2) flB (rangeD 0 256) eF0 c = some (.nx (eF 52 255 [49, 49, 49, 49, 49, 49, 49, 49]) c) := by
  show forGo (gN 2) flB ((rangeD 0 256).drop 0) eF0 c = _
  rw [cut_app (a := 0) (k := 32)]
  refine goN_app (fl_0 c) ?_
  rw [cut_app (a := 32) (k := 32)]
  refine goN_app (fl_1 c) ?_
  rw [cut_app (a := 64) (k := 32)]
  refine goN_app (fl_2 c) ?_
  rw [cut_app (a := 96) (k := 32)]
  refine goN_app (fl_3 c) ?_
  rw [cut_app (a := 128) (k := 32)]
  refine goN_app (fl_4 c) ?_
  rw [cut_app (a := 160) (k := 32)]
  refine goN_app (fl_5 c) ?_
  rw [cut_app (a := 192) (k := 32)]
  refine goN_app (fl_6 c) ?_
  rw [cut_app (a := 224) (k := 32)]
  refine goN_app (fl_7 c) ?_
  have h : (rangeD 0 256).drop 256 = [] := by kernel_rfl
  exact (congrArg (fun l => forGo (gN 2) flB l _ c) h).trans rfl
theorem fl_end (c : Cup) : sRet (eCall (m__law_like 12) (lCons (eCall m_count_with_flips (lCons (eVar 0) lNil)) (lCons (eVar 1) lNil))) (eF 52 255 [49, 49, 49, 49, 49, 49, 49, 49]) c = some (.rt (.bl true) c) := by kernel_rfl
end K73

set_option Elab.async false
set_option linter.all false
set_option maxRecDepth 100000
set_option maxHeartbeats 0
namespace K73
open TT
theorem ex2 {β : Type} {f g : Nat → List Bool → β} (h : ns6.map (fun n => (allw (n + 1)).map (f n)) = ns6.map (fun n => (allw (n + 1)).map (g n))) {n : Nat} (hn : n ∈ ns6) {w : List Bool} (hw : w ∈ allw (n + 1)) : f n w = g n w :=
  List.map_inj_left.mp (List.map_inj_left.mp h n hn) w hw
theorem ex3 {β : Type} {f g : Nat → Nat → β} (h : ns6.map (fun n => (List.range (n + 1)).map (f n)) = ns6.map (fun n => (List.range (n + 1)).map (g n))) {n : Nat} (hn : n ∈ ns6) {k : Nat} (hk : k ∈ List.range (n + 1)) : f n k = g n k :=
  List.map_inj_left.mp (List.map_inj_left.mp h n hn) k hk
variable {n : Nat} (hn : n ∈ ns6) {w a b : List Bool} (hw : w ∈ allw (n + 1)) (ha : a ∈ allw (n + 1)) (hb : b ∈ allw (n + 1)) (c : Cup)
include hn hw in
theorem need_ok : m_need_function [.str (focS n w)] c = some (.non, c) :=
  run_nx (ε := [some (.fz (.str (focS n w)))]) (seq_nx (ε1 := [some (.fz (.str (focS n w)))]) (c1 := c) (if_f (c1 := c) (qNot_ok (b := true) (bTru_ok (call_ok (c1 := c) (ds := [.str (focS n w)]) rfl (ex2 (need_all c) hn hw)))) rfl) rfl)
include hn hw in
theorem sum_form_ok : m_sum_form [.str (focS n w)] c = some (.tup (tsz n (gw n w)), c) := by
  refine run_rt (u := u_sum_form) ?_
  unfold u_sum_form
  refine seq_nx (ε1 := [some (.fz (.str (focS n w)))]) (c1 := c) (drop_ok (call_ok (c1 := c) (ds := [.str (focS n w)]) rfl (need_ok hn hw c))) ?_
  refine seq_nx (ε1 := [some (.fz (.str (focS n w)))]) (c1 := c) (if_f (c1 := c) (bOf_ok (e2_ok (c1 := c) (call_ok (c1 := c) (ds := [.str (focS n w)]) rfl (paper_all c n hn w hw)) rfl rfl)) rfl) ?_
  exact seq_rt (ret_ok (e1_ok (call_ok (c1 := c) (cons_ok (c1 := c) (call_ok (c1 := c) (ds := [.str (focS n w)]) rfl (ex2 (counts_all c) hn hw)) rfl) (ex2 (sizes_all c) hn hw)) rfl))
include hn hw in
theorem counts_ok : m_counts_of [.str (focS n w)] c = some (.str (chw w), c) := by
  refine run_rt (u := u_counts_of) ?_
  unfold u_counts_of
  refine seq_nx (ε1 := [some (.fz (.str (focS n w)))]) (c1 := c) (drop_ok (call_ok (c1 := c) (ds := [.str (focS n w)]) rfl (need_ok hn hw c))) ?_
  refine seq_rt (ret_ok ?_)
  have h1 : bOf (e2 pIs (eCall m_paper_in (lCons (eVar 0) lNil)) (eC .non)) [some (.fz (.str (focS n w)))] c = some (true, c) := bOf_ok (e2_ok (c1 := c) (call_ok (c1 := c) (ds := [.str (focS n w)]) rfl (paper_all c n hn w hw)) rfl rfl)
  unfold eIf
  rw [h1]
  exact call_ok (c1 := c) (ds := [.str (focS n w)]) rfl (ex2 (counts_all c) hn hw)
/-! ### joining -/
theorem go_filt {α : Type} {tg : Tg} {q : SB} {f : SE} {ε : En} {h g : α → D} {p : α → Bool} {c : Cup} : ∀ {l : List α}, (∀ r ∈ l, ∃ ε1, tg (h r) ε = some ε1 ∧ q ε1 c = some (p r, c) ∧ f ε1 c = some (g r, c)) → compGo tg q f ε (l.map h) c = some ((l.filter p).map g, c)
  | [], _ => rfl
  | r :: l, H => by
    obtain ⟨ε1, h1, h2, h3⟩ := H r (List.mem_cons_self ..)
    have ih := go_filt (l := l) fun x hx => H x (List.mem_cons_of_mem _ hx)
    rw [List.map_cons]
    unfold compGo
    rw [h1]
    simp only
    rw [h2]
    cases e : p r with
    | false => simp only; rw [ih, List.filter_cons_of_neg (by simp [e])]
    | true => simp only; rw [h3]; simp only; rw [ih, List.filter_cons_of_pos e]; rfl
theorem go_map {α : Type} {tg : Tg} {q : SB} {f : SE} {ε : En} {h g : α → D} {c : Cup} {l : List α} (H : ∀ r ∈ l, ∃ ε1, tg (h r) ε = some ε1 ∧ q ε1 c = some (true, c) ∧ f ε1 c = some (g r, c)) : compGo tg q f ε (l.map h) c = some (l.map g, c) := by
  rw [go_filt (p := fun _ => true) H, List.filter_eq_self.mpr (fun _ _ => rfl)]
theorem strs_map {α : Type} (x : α → Nat) : ∀ l : List α, strsOf (l.map fun r => .str [x r]) = some (l.map fun r => [x r])
  | [] => rfl
  | r :: l => by rw [List.map_cons, strsOf, strs_map x l]; rfl
theorem flat_map {α : Type} (x : α → Nat) : ∀ l : List α, flatS (l.map fun r => [x r]) = l.map x
  | [] => rfl
  | r :: l => by rw [List.map_cons, flatS, flat_map x l]; rfl
theorem join_ok {α : Type} (x : α → Nat) (l : List α) (h : l.length ≤ 1000000) : pJoin (.lst (l.map fun r => .str [x r])) = some (.str (l.map x)) := by
  unfold pJoin
  simp only
  rw [strs_map]
  simp only
  rw [flat_map, List.length_map, if_pos h]
theorem by_ok {α : Type} (P : α → Bool) (l : List α) (h : l.length ≤ 1000000) (c : Cup) : m_function_by [.lst (l.map fun r => .bl (P r))] c = some (.str (l.map fun r => chB (P r)), c) := by
  refine run_rt (u := u_function_by) (seq_rt (ret_ok (e1J_ok (comp_ok (ds := l.map fun r => .bl (P r)) (c1 := c) (ε0 := [some (.fz (.lst (l.map fun r => .bl (P r)))), none]) rfl rfl (go_map (g := fun r => .str [chB (P r)]) fun r hr => ?_)) (join_ok _ l h))))
  refine ⟨[some (.fz (.lst (l.map fun r => .bl (P r)))), some (.fz (.bl (P r)))], rfl, rfl, ?_⟩
  cases P r <;> rfl
theorem zip_maps {α : Type} (u v : α → D) : ∀ l : List α, zipD (l.map u) (l.map v) = l.map fun r => .tup [u r, v r]
  | [] => rfl
  | r :: l => by
    have ih := zip_maps u v l
    unfold zipD at ih ⊢
    simp only [List.map_cons, List.zipWith_cons_cons, ih]
theorem rows_few : ∀ n ∈ ns6, (rowsL n).length ≤ 1000000 := by decide +kernel
theorem xw_at {i : Nat} (h : i < n + 1) (a b : List Bool) : (xw n a b).getD i false = (a.getD i false ^^ b.getD i false) := by
  unfold xw
  rw [List.getD_eq_getElem?_getD, List.getElem?_map, List.getElem?_range h]
  rfl
theorem ch_ne (p q : Bool) : (!eqD (.str [chB p]) (.str [chB q])) = (p ^^ q) := by cases p <;> cases q <;> rfl
theorem items_str (s : List Nat) : itemsOf (.str s) = some (s.map fun c => .str [c]) := rfl
include hn ha hb in
theorem joined_ok : m_joined [.str (focS n a), .str (focS n b), .str [115, 117, 109]] c = some (.str (focS n (xw n a b)), c) := by
  refine run_rt (u := u_joined) ?_
  unfold u_joined
  refine seq_nx (ε1 := [some (.fz (.str (focS n a))), some (.fz (.str (focS n b))), some (.fz (.str [115, 117, 109]))]) (c1 := c) (drop_ok (call_ok (c1 := c) (ds := [.str (focS n a)]) rfl (need_ok hn ha c))) ?_
  have al : m_need_alike [.str (focS n a), .str (focS n b)] c = some (.non, c) := by
    refine run_nx (u := u_need_alike) (ε := [some (.fz (.str (focS n a))), some (.fz (.str (focS n b)))]) (seq_nx (ε1 := [some (.fz (.str (focS n a))), some (.fz (.str (focS n b)))]) (c1 := c) (if_f (c1 := c) (qOr_f (c1 := c) (qNot_ok (b := true) (bTru_ok (call_ok (c1 := c) (ds := [.str (focS n b)]) rfl (ex2 (need_all c) hn hb)))) ?_) rfl) rfl)
    refine bOf_ok ?_
    exact (by kernel_rfl : _ = some (D.bl (!(((focS n b).length : Int) == ((focS n a).length : Int))), c)).trans (by simp [focS])
  refine seq_nx (ε1 := [some (.fz (.str (focS n a))), some (.fz (.str (focS n b))), some (.fz (.str [115, 117, 109]))]) (c1 := c) (drop_ok (call_ok (c1 := c) (ds := [.str (focS n a), .str (focS n b)]) rfl al)) ?_
  refine seq_nx (ε1 := [some (.fz (.str (focS n a))), some (.fz (.str (focS n b))), some (.fz (.str [115, 117, 109]))]) (c1 := c) (by kernel_rfl) ?_
  refine seq_rt (ret_ok (call_ok (c1 := c) (ds := [.str (focS n a), .str (focS n b), .str [115, 117, 109]]) rfl ?_))
  refine run_rt (u := u_joined_in) ?_
  unfold u_joined_in
  let A : List Nat → D := fun r => .str [chB (a.getD r.sum false)]
  let B : List Nat → D := fun r => .str [chB (b.getD r.sum false)]
  let P : D := .lst ((rowsL n).map fun r => .tup [A r, B r])
  have hz : eLZ (eVar 0) (eVar 1) [some (.fz (.str (focS n a))), some (.fz (.str (focS n b))), some (.fz (.str [115, 117, 109])), none, none, none] c = some (P, c) := by
    show some (D.lst (zipD ((focS n a).map fun c => .str [c]) ((focS n b).map fun c => .str [c])), c) = _
    unfold focS
    rw [List.map_map, List.map_map, zip_maps]
    rfl
  refine seq_nx (ε1 := [some (.fz (.str (focS n a))), some (.fz (.str (focS n b))), some (.fz (.str [115, 117, 109])), some (.fz P), none, none]) (c1 := c) (set_ok hz) ?_
  refine seq_rt (if_t (c1 := c) (by kernel_rfl) (seq_rt (ret_ok ?_)))
  have e : focS n (xw n a b) = (rowsL n).map fun r => chB (a.getD r.sum false ^^ b.getD r.sum false) := by
    unfold focS
    exact List.map_congr_left fun r hr => by rw [xw_at (rows_le n hn r hr)]
  rw [e]
  refine call_ok (c1 := c) (cons_ok (c1 := c) (comp_ok (ds := (rowsL n).map fun r => .tup [A r, B r]) (c1 := c) (ε0 := [some (.fz (.str (focS n a))), some (.fz (.str (focS n b))), some (.fz (.str [115, 117, 109])), some (.fz P), none, none]) rfl rfl
    (go_map (g := fun r => .bl (a.getD r.sum false ^^ b.getD r.sum false)) fun r hr => ?_)) rfl) (by_ok _ _ (rows_few n hn) c)
  refine ⟨[some (.fz (.str (focS n a))), some (.fz (.str (focS n b))), some (.fz (.str [115, 117, 109])), some (.fz P), some (.fz (A r)), some (.fz (B r))], rfl, rfl, ?_⟩
  rw [← ch_ne]
  rfl
/-! ### comprehensions with rolls -/
def dsAt : Nat → Nat → List D
  | _, 0 => []
  | lo, m + 1 => .int (lo : Nat) :: dsAt (lo + 1) m
def tszAt : Nat → List Bool → List D
  | _, [] => []
  | lo, b :: w => if b then .int (lo : Nat) :: tszAt (lo + 1) w else tszAt (lo + 1) w
theorem allw_len : ∀ w : List Bool, w ∈ allw w.length
  | [] => List.mem_singleton.mpr rfl
  | b :: w => by
    refine List.mem_flatMap.mpr ⟨w, allw_len w, ?_⟩
    cases b <;> simp
theorem tszAt_all : ns6.map (fun n => (allw (n + 1)).map fun w => tszAt 0 w) = ns6.map (fun n => (allw (n + 1)).map fun w => tsz n w) := by kernel_rfl
theorem ds_all : ns6.map (fun n => rangeD 0 (n + 1)) = ns6.map (fun n => dsAt 0 (n + 1)) := by kernel_rfl
theorem two {v : Int} (h0 : 0 ≤ v) (h1 : v < 2) : v = 0 ∨ v = 1 := by omega
theorem roll2 (c : Cup) : ∃ b c', m__law_roll [.cup, .int 2] c = some (.int (if b = true then 1 else 0), c') := by
  obtain ⟨v, c', e, h0, h1⟩ := roll_ok 2 (by omega) (by omega) c
  rcases two h0 h1 with rfl | rfl
  · exact ⟨false, c', e⟩
  · exact ⟨true, c', e⟩
theorem sizes_go (x1 x2 x3 x4 x5 x6 x8 x9 x10 x11 x12 x13 x14 x15 x16 : Option Sl) : ∀ (m lo : Nat) (c : Cup), ∃ (w : List Bool) (c' : Cup), w.length = m ∧
    compGo (gN 7) (bOf (e2 pEq (eCall m__law_roll (lCons (eVar 0) (lCons (eC (.int 2)) lNil))) (eC (.int 1)))) (eVar 7) [some (.fz .cup), x1, x2, x3, x4, x5, x6, none, x8, x9, x10, x11, x12, x13, x14, x15, x16] (dsAt lo m) c = some (tszAt lo w, c')
  | 0, lo, c => ⟨[], c, rfl, rfl⟩
  | m + 1, lo, c => by
    obtain ⟨b, c1, g1⟩ := roll2 c
    obtain ⟨w, c2, hl, g2⟩ := sizes_go x1 x2 x3 x4 x5 x6 x8 x9 x10 x11 x12 x13 x14 x15 x16 m (lo + 1) c1
    refine ⟨b :: w, c2, by rw [List.length_cons, hl], ?_⟩
    have hq : bOf (e2 pEq (eCall m__law_roll (lCons (eVar 0) (lCons (eC (.int 2)) lNil))) (eC (.int 1))) [some (.fz .cup), x1, x2, x3, x4, x5, x6, some (.fz (.int (lo : Nat))), x8, x9, x10, x11, x12, x13, x14, x15, x16] c = some (b, c1) := by
      refine bOf_ok (e2_ok (call_ok (c1 := c) (ds := [.cup, .int 2]) rfl g1) rfl ?_)
      cases b <;> rfl
    unfold dsAt compGo
    rw [show gN 7 (.int (lo : Nat)) [some (.fz .cup), x1, x2, x3, x4, x5, x6, none, x8, x9, x10, x11, x12, x13, x14, x15, x16] = some [some (.fz .cup), x1, x2, x3, x4, x5, x6, some (.fz (.int (lo : Nat))), x8, x9, x10, x11, x12, x13, x14, x15, x16] from rfl]
    simp only
    rw [hq]
    cases b with
    | false => simp only; rw [g2]; rfl
    | true =>
      simp only
      rw [show eVar 7 [some (.fz .cup), x1, x2, x3, x4, x5, x6, some (.fz (.int (lo : Nat))), x8, x9, x10, x11, x12, x13, x14, x15, x16] c1 = some (.int (lo : Nat), c1) from rfl]
      simp only
      rw [g2]
      rfl
theorem some_ok (c : Cup) : ∃ b c', m__law_some [.cup, .str [48, 49]] c = some (.str [chB b], c') := by
  obtain ⟨b, c', e⟩ := roll2 c
  refine ⟨b, c', run_rt (seq_rt (ret_ok (e2_ok (c1 := c) (d := .str [48, 49]) rfl (call_ok (c1 := c) (ds := [.cup, .int 2]) rfl e) ?_)))⟩
  cases b <;> rfl
theorem word_go (x1 x2 x3 x4 x5 x6 x7 x8 x9 x10 x11 x12 x13 x14 x15 : Option Sl) : ∀ (m lo : Nat) (c : Cup), ∃ (w : List Bool) (c' : Cup), w.length = m ∧
    compGo (gN 16) (fun _ c => some (true, c)) (eCall m__law_some (lCons (eVar 0) (lCons (eC (.str [48, 49])) lNil))) [some (.fz .cup), x1, x2, x3, x4, x5, x6, x7, x8, x9, x10, x11, x12, x13, x14, x15, none] (dsAt lo m) c = some (w.map (fun b => D.str [chB b]), c')
  | 0, lo, c => ⟨[], c, rfl, rfl⟩
  | m + 1, lo, c => by
    obtain ⟨b, c1, g1⟩ := some_ok c
    obtain ⟨w, c2, hl, g2⟩ := word_go x1 x2 x3 x4 x5 x6 x7 x8 x9 x10 x11 x12 x13 x14 x15 m (lo + 1) c1
    refine ⟨b :: w, c2, by rw [List.length_cons, hl], ?_⟩
    unfold dsAt compGo
    rw [show gN 16 (.int (lo : Nat)) [some (.fz .cup), x1, x2, x3, x4, x5, x6, x7, x8, x9, x10, x11, x12, x13, x14, x15, none] = some [some (.fz .cup), x1, x2, x3, x4, x5, x6, x7, x8, x9, x10, x11, x12, x13, x14, x15, some (.fz (.int (lo : Nat)))] from rfl]
    simp only
    rw [show eCall m__law_some (lCons (eVar 0) (lCons (eC (.str [48, 49])) lNil)) [some (.fz .cup), x1, x2, x3, x4, x5, x6, x7, x8, x9, x10, x11, x12, x13, x14, x15, some (.fz (.int (lo : Nat)))] c = some (.str [chB b], c1) from call_ok (c1 := c) (ds := [.cup, .str [48, 49]]) (m := m__law_some) rfl g1]
    simp only
    rw [g2]
    rfl
end K73

set_option Elab.async false
set_option linter.all false
set_option maxRecDepth 100000
set_option maxHeartbeats 0
namespace K73
open TT
theorem par_ok {i j : Nat} {fs : SL} {ε : En} {c c1 : Cup} {d e : D} (h : fs ε c = some ([d, e], c1)) (h2 : (notOw ε i && notOw ε j) = true) : sPar i j fs ε c = some (.nx ((ε.set i (some (.fz d))).set j (some (.fz e))) c1) := by
  unfold sPar; rw [h]; simp only; rw [if_pos h2]
theorem asg_ok {tg : Tg} {f : SE} {ε ε1 : En} {c c1 : Cup} {d : D} (h : f ε c = some (d, c1)) (h2 : tg d ε = some ε1) : sAsg tg f ε c = some (.nx ε1 c1) := by
  unfold sAsg; rw [h]; simp only; rw [h2]
theorem rng_ok {n : Nat} (hn : n ∈ ns6) (x0 : Option Sl) (r : En) (c : Cup) : iRange1 (e2 pAdd (ePk 1) (eC (.int 1))) (x0 :: some (.fz (.int (n : Nat))) :: r) c = some ((List.range (n + 1)).map fun i => D.int (i : Nat), c) := by
  simp only [ns6, List.mem_cons, List.not_mem_nil, or_false] at hn
  rcases hn with rfl | rfl | rfl | rfl | rfl | rfl | rfl <;> kernel_rfl
theorem ds_eq {n : Nat} (hn : n ∈ ns6) : ((List.range (n + 1)).map fun i => D.int (i : Nat)) = dsAt 0 (n + 1) := by
  simp only [ns6, List.mem_cons, List.not_mem_nil, or_false] at hn
  rcases hn with rfl | rfl | rfl | rfl | rfl | rfl | rfl <;> kernel_rfl
theorem zeros_ok {n : Nat} (hn : n ∈ ns6) (g : List Bool) : pMulA (.str [48]) (.int ((focS n g).length : Nat)) = some (.str (List.replicate (2 ^ n) 48)) := by
  simp only [ns6, List.mem_cons, List.not_mem_nil, or_false] at hn
  rcases hn with rfl | rfl | rfl | rfl | rfl | rfl | rfl <;> kernel_rfl
theorem in_all : ns6.map (fun n => (allw (n + 1)).map fun g => (List.range (n + 1)).map fun i => pIn (.int (i : Nat)) (.tup (tsz n g))) = ns6.map (fun n => (allw (n + 1)).map fun g => (List.range (n + 1)).map fun i => some (.bl (g.getD i false))) := by kernel_rfl
theorem in_ok {n : Nat} (hn : n ∈ ns6) {g : List Bool} (hg : g ∈ allw (n + 1)) {i : Nat} (hi : i ∈ List.range (n + 1)) : pIn (.int (i : Nat)) (.tup (tsz n g)) = some (.bl (g.getD i false)) :=
  List.map_inj_left.mp (ex2 in_all hn hg) i hi
theorem fold_lin (f g : Nat → Bool) : ∀ (l : List Nat) (x y : Bool), l.foldl (fun a i => a ^^ (f i ^^ g i)) (x ^^ y) = (l.foldl (fun a i => a ^^ f i) x ^^ l.foldl (fun a i => a ^^ g i) y)
  | [], x, y => rfl
  | i :: l, x, y => by
    simp only [List.foldl_cons]
    rw [← fold_lin f g l]
    congr 1
    cases x <;> cases y <;> cases f i <;> cases g i <;> rfl
theorem fold_cong {f g : Nat → Bool} : ∀ {l : List Nat} (x : Bool), (∀ i ∈ l, f i = g i) → l.foldl (fun a i => a ^^ f i) x = l.foldl (fun a i => a ^^ g i) x
  | [], x, _ => rfl
  | i :: l, x, h => by
    simp only [List.foldl_cons]
    rw [h i (List.mem_cons_self ..)]
    exact fold_cong _ fun j hj => h j (List.mem_cons_of_mem _ hj)
theorem gwb_lin (n : Nat) (a b : List Bool) (k : Nat) : gwb n (xw n a b) k = (gwb n a k ^^ gwb n b k) := by
  unfold gwb
  rw [← fold_lin]
  refine fold_cong (f := fun i => (xw n a b).getD i false && (k &&& i == i)) (g := fun i => (a.getD i false && (k &&& i == i)) ^^ (b.getD i false && (k &&& i == i))) _ fun i hi => ?_
  rw [xw_at (List.mem_range.mp hi)]
  cases a.getD i false <;> cases b.getD i false <;> cases (k &&& i == i) <;> rfl
theorem gw_at {n i : Nat} (h : i < n + 1) (w : List Bool) : (gw n w).getD i false = gwb n w i := by
  unfold gw
  rw [List.getD_eq_getElem?_getD, List.getElem?_map, List.getElem?_range h]
  rfl
theorem both_eq (n : Nat) (a b : List Bool) : ((List.range (n + 1)).filter fun i => (gw n a).getD i false ^^ (gw n b).getD i false).map (fun i => D.int (i : Nat)) = tsz n (gw n (xw n a b)) := by
  unfold tsz
  congr 1
  refine List.filter_congr fun i hi => ?_
  have h := List.mem_range.mp hi
  rw [gw_at h, gw_at h, gw_at h, gwb_lin]
theorem xw_mem (n : Nat) (a b : List Bool) : xw n a b ∈ allw (n + 1) := by
  have h := allw_len (xw n a b)
  rwa [show (xw n a b).length = n + 1 by simp [xw]] at h
theorem like_ints (k : Nat) (l : List Nat) (c : Cup) : m__law_like (k + 2) [.tup (l.map fun i => .int (i : Nat)), .tup (l.map fun i => .int (i : Nat))] c = some (.bl true, c) :=
  like_tup (k + 1) _ c fun d hd => by
    obtain ⟨i, _, rfl⟩ := List.mem_map.mp hd
    exact like_int k _ c
theorem like3 (k : Nat) (x y : List Nat) (l : List Nat) (c : Cup) : m__law_like (k + 3) [.lst [.str x, .str y, .tup (l.map fun i => .int (i : Nat))], .lst [.str x, .str y, .tup (l.map fun i => .int (i : Nat))]] c = some (.bl true, c) :=
  like_lst (k + 2) _ c fun d hd => by
    simp only [List.mem_cons, List.not_mem_nil, or_false] at hd
    rcases hd with rfl | rfl | rfl
    · exact like_str (k + 1) x c
    · exact like_str (k + 1) y c
    · exact like_ints k l c
theorem sixteen : ∀ n ∈ ns6, n + 1 ≤ 1000000 := by decide +kernel
theorem word_ok {n : Nat} (hn : n ∈ ns6) (x2 x3 x4 x5 x6 x7 x8 x9 x10 x11 x12 x13 x14 x15 : Option Sl) (c : Cup) : ∃ w c', w ∈ allw (n + 1) ∧
    (wipeE [some (.fz .cup), some (.fz (.int (n : Nat))), x2, x3, x4, x5, x6, x7, x8, x9, x10, x11, x12, x13, x14, x15, none] [16] = some [some (.fz .cup), some (.fz (.int (n : Nat))), x2, x3, x4, x5, x6, x7, x8, x9, x10, x11, x12, x13, x14, x15, none] →
    e1J (eComp [16] (iRange1 (e2 pAdd (ePk 1) (eC (.int 1)))) (gN 16) (fun _ c => some (true, c)) (eCall m__law_some (lCons (eVar 0) (lCons (eC (.str [48, 49])) lNil)))) [some (.fz .cup), some (.fz (.int (n : Nat))), x2, x3, x4, x5, x6, x7, x8, x9, x10, x11, x12, x13, x14, x15, none] c = some (.str (chw w), c')) := by
  obtain ⟨w, c', hl, g⟩ := word_go (some (.fz (.int (n : Nat)))) x2 x3 x4 x5 x6 x7 x8 x9 x10 x11 x12 x13 x14 x15 (n + 1) 0 c
  refine ⟨w, c', hl ▸ allw_len w, fun hwp => ?_⟩
  rw [← ds_eq hn] at g
  exact e1J_ok (comp_ok (rng_ok hn _ _ _) hwp g) (join_ok chB w (by rw [hl]; exact sixteen n hn))
theorem right_ok {n : Nat} (hn : n ∈ ns6) (c0 : Cup) : ∃ c', m__law_right [.cup, .int (n : Nat)] c0 = some (.bl true, c') := by
  obtain ⟨v, c1, e1', h0, h1⟩ := roll_ok ((n : Int) + 1) (by omega) (by have := sixteen n hn; omega) c0
  obtain ⟨k, rfl⟩ := Int.eq_ofNat_of_zero_le h0
  have hk : k ∈ List.range (n + 1) := List.mem_range.mpr (by omega)
  obtain ⟨s, c2, hl, g2⟩ := sizes_go (some (.fz (.int (n : Nat)))) (some (.fz (.int (k : Nat)))) none none none none none none none none none none none none none (n + 1) 0 c1
  have hs : s ∈ allw (n + 1) := hl ▸ allw_len s
  rw [← ds_eq hn, ex2 tszAt_all hn hs] at g2
  obtain ⟨hus, tus⟩ := un_mem n hn k hk
  obtain ⟨hgs, ggs⟩ := gw_mem n hn s hs
  have hgu := (gw_mem n hn _ hus).1
  have sm := ex2 (f := fun n w => m_symmetric_by_sums [.int (n : Nat), .tup (tsz n w)] c2) (sym_all c2) hn hs
  have sf := sum_form_ok hn hgs c2
  rw [ggs] at sf
  have l1 := lsum_all c2 n hn s hs
  have l2 := lsum_all c2 n hn (un n k) hus
  simp only at l1 l2 sm
  rw [tus] at l2
  have ev := ex3 (even_all c2) hn hk
  have pr := ex3 (prod_all (.tup (tsz n s)) (gw n s) c2) hn hk
  obtain ⟨a, c3, ha, ea⟩ := word_ok hn (some (.fz (.int (k : Nat)))) (some (.fz (.tup (tsz n s)))) (some (.fz (.str (focS n (gw n s))))) (some (.fz (.str (focS n (gw n (un n k)))))) (some (.fz (.tup ((List.range n).map fun i => .int (i : Nat))))) (some (.fz (.str (ctop n k)))) (if k = 0 then none else some (.fz (.int (n - 1 : Nat)))) none none none none none none none c2
  obtain ⟨b, c4, hb, eb⟩ := word_ok hn (some (.fz (.int (k : Nat)))) (some (.fz (.tup (tsz n s)))) (some (.fz (.str (focS n (gw n s))))) (some (.fz (.str (focS n (gw n (un n k)))))) (some (.fz (.tup ((List.range n).map fun i => .int (i : Nat))))) (some (.fz (.str (ctop n k)))) (if k = 0 then none else some (.fz (.int (n - 1 : Nat)))) none none none none none none none c3
  have ea := ea rfl
  have eb := eb rfl
  obtain ⟨hga, gga⟩ := gw_mem n hn a ha
  obtain ⟨hgb, ggb⟩ := gw_mem n hn b hb
  refine ⟨c4, run_rt (u := u__law_right) ?_⟩
  unfold u__law_right
  refine seq_nx (ε1 := [some (.fz .cup), some (.fz (.int (n : Nat))), some (.fz (.int (k : Nat))), none, none, none, none, none, none, none, none, none, none, none, none, none, none]) (c1 := c1) (set_ok (i := 2) (ε := [some (.fz .cup), some (.fz (.int (n : Nat))), none, none, none, none, none, none, none, none, none, none, none, none, none, none, none]) (call_ok (c1 := c0) (ds := [.cup, .int ((n : Int) + 1)]) rfl e1')) ?_
  refine seq_nx (ε1 := [some (.fz .cup), some (.fz (.int (n : Nat))), some (.fz (.int (k : Nat))), some (.fz (.tup (tsz n s))), none, none, none, none, none, none, none, none, none, none, none, none, none]) (c1 := c2) (set_ok (i := 3) (ε := [some (.fz .cup), some (.fz (.int (n : Nat))), some (.fz (.int (k : Nat))), none, none, none, none, none, none, none, none, none, none, none, none, none, none]) (e1_ok (comp_ok (rng_ok hn _ _ _) rfl g2) rfl)) ?_
  refine seq_nx (ε1 := [some (.fz .cup), some (.fz (.int (n : Nat))), some (.fz (.int (k : Nat))), some (.fz (.tup (tsz n s))), some (.fz (.str (focS n (gw n s)))), none, none, none, none, none, none, none, none, none, none, none, none]) (c1 := c2) (set_ok (i := 4) (ε := [some (.fz .cup), some (.fz (.int (n : Nat))), some (.fz (.int (k : Nat))), some (.fz (.tup (tsz n s))), none, none, none, none, none, none, none, none, none, none, none, none, none]) (call_ok (c1 := c2) (ds := [.int (n : Nat), .tup (tsz n s)]) rfl l1)) ?_
  refine seq_nx (ε1 := [some (.fz .cup), some (.fz (.int (n : Nat))), some (.fz (.int (k : Nat))), some (.fz (.tup (tsz n s))), some (.fz (.str (focS n (gw n s)))), none, none, none, none, none, none, none, none, none, none, none, none]) (c1 := c2) (if_f (c1 := c2) (qNot_ok (b := true) (bTru_ok (call_ok (c1 := c2) (cons_ok (c1 := c2) (lst_ok (cons_ok (c1 := c2) (call_ok (c1 := c2) (ds := [.int (n : Nat), .int (k : Nat)]) rfl ev) (cons_ok (c1 := c2) (call_ok (c1 := c2) (ds := [.int (n : Nat), .tup (tsz n s)]) rfl sm) (cons_ok (c1 := c2) (call_ok (c1 := c2) (ds := [.str (focS n (gw n s))]) rfl sf) rfl))))
      (cons_ok (c1 := c2) (lst_ok (cons_ok (c1 := c2) (call_ok (c1 := c2) (ds := [.int (n : Nat), .tup [.int (k : Nat)]]) rfl l2) (cons_ok (c1 := c2) rfl (cons_ok (c1 := c2) rfl rfl)))) rfl)) (like3 9 _ _ _ c2)))) rfl) ?_
  refine seq_nx (ε1 := [some (.fz .cup), some (.fz (.int (n : Nat))), some (.fz (.int (k : Nat))), some (.fz (.tup (tsz n s))), some (.fz (.str (focS n (gw n s)))), some (.fz (.str (List.replicate (2 ^ n) 48))), none, none, none, none, none, none, none, none, none, none, none]) (c1 := c2) (set_ok (i := 5) (ε := [some (.fz .cup), some (.fz (.int (n : Nat))), some (.fz (.int (k : Nat))), some (.fz (.tup (tsz n s))), some (.fz (.str (focS n (gw n s)))), none, none, none, none, none, none, none, none, none, none, none, none]) (e2_ok (c1 := c2) (c2 := c2) (d := .str [48]) (d2 := .int ((focS n (gw n s)).length : Nat)) rfl rfl (zeros_ok hn _))) ?_
  refine seq_nx (ε1 := [some (.fz .cup), some (.fz (.int (n : Nat))), some (.fz (.int (k : Nat))), some (.fz (.tup (tsz n s))), some (.fz (.str (focS n (gw n s)))), some (.fz (.str (focS n (gw n (un n k))))), some (.fz (.tup ((List.range n).map fun i => .int (i : Nat)))), some (.fz (.str (ctop n k))), (if k = 0 then none else some (.fz (.int (n - 1 : Nat)))), none, none, none, none, none, none, none, none]) (c1 := c2) pr ?_
  have ev2 := ex3 (even_all c2) hn hk
  refine seq_nx (ε1 := [some (.fz .cup), some (.fz (.int (n : Nat))), some (.fz (.int (k : Nat))), some (.fz (.tup (tsz n s))), some (.fz (.str (focS n (gw n s)))), some (.fz (.str (focS n (gw n (un n k))))), some (.fz (.tup ((List.range n).map fun i => .int (i : Nat)))), some (.fz (.str (ctop n k))), (if k = 0 then none else some (.fz (.int (n - 1 : Nat)))), none, none, none, none, none, none, none, none]) (c1 := c2) (if_f (c1 := c2) (qNot_ok (b := true) (bTru_ok (call_ok (c1 := c2) (cons_ok (c1 := c2) (call_ok (c1 := c2) (ds := [.int (n : Nat), .int (k : Nat)]) rfl ev) (cons_ok (c1 := c2) rfl rfl)) (like_str 11 _ c2)))) rfl) ?_
  refine seq_nx (ε1 := [some (.fz .cup), some (.fz (.int (n : Nat))), some (.fz (.int (k : Nat))), some (.fz (.tup (tsz n s))), some (.fz (.str (focS n (gw n s)))), some (.fz (.str (focS n (gw n (un n k))))), some (.fz (.tup ((List.range n).map fun i => .int (i : Nat)))), some (.fz (.str (ctop n k))), (if k = 0 then none else some (.fz (.int (n - 1 : Nat)))), some (.fz (.str (chw a))), some (.fz (.str (chw b))), none, none, none, none, none, none]) (c1 := c4) (par_ok (i := 9) (j := 10) (ε := [some (.fz .cup), some (.fz (.int (n : Nat))), some (.fz (.int (k : Nat))), some (.fz (.tup (tsz n s))), some (.fz (.str (focS n (gw n s)))), some (.fz (.str (focS n (gw n (un n k))))), some (.fz (.tup ((List.range n).map fun i => .int (i : Nat)))), some (.fz (.str (ctop n k))), (if k = 0 then none else some (.fz (.int (n - 1 : Nat)))), none, none, none, none, none, none, none, none]) (cons_ok ea (cons_ok eb rfl)) rfl) ?_
  refine seq_nx (ε1 := [some (.fz .cup), some (.fz (.int (n : Nat))), some (.fz (.int (k : Nat))), some (.fz (.tup (tsz n s))), some (.fz (.str (focS n (gw n s)))), some (.fz (.str (focS n (gw n (un n k))))), some (.fz (.tup ((List.range n).map fun i => .int (i : Nat)))), some (.fz (.str (ctop n k))), (if k = 0 then none else some (.fz (.int (n - 1 : Nat)))), some (.fz (.str (chw a))), some (.fz (.str (chw b))), some (.fz (.str (focS n a))), some (.fz (.str (focS n b))), none, none, none, none]) (c1 := c4) (par_ok (i := 11) (j := 12) (ε := [some (.fz .cup), some (.fz (.int (n : Nat))), some (.fz (.int (k : Nat))), some (.fz (.tup (tsz n s))), some (.fz (.str (focS n (gw n s)))), some (.fz (.str (focS n (gw n (un n k))))), some (.fz (.tup ((List.range n).map fun i => .int (i : Nat)))), some (.fz (.str (ctop n k))), (if k = 0 then none else some (.fz (.int (n - 1 : Nat)))), some (.fz (.str (chw a))), some (.fz (.str (chw b))), none, none, none, none, none, none]) (cons_ok (c1 := c4) (call_ok (c1 := c4) (ds := [.str (chw a)]) rfl (ex2 (foc_all c4) hn ha)) (cons_ok (c1 := c4) (call_ok (c1 := c4) (ds := [.str (chw b)]) rfl (ex2 (foc_all c4) hn hb)) rfl)) rfl) ?_
  refine seq_nx (ε1 := [some (.fz .cup), some (.fz (.int (n : Nat))), some (.fz (.int (k : Nat))), some (.fz (.tup (tsz n s))), some (.fz (.str (focS n (gw n s)))), some (.fz (.str (focS n (gw n (un n k))))), some (.fz (.tup ((List.range n).map fun i => .int (i : Nat)))), some (.fz (.str (ctop n k))), (if k = 0 then none else some (.fz (.int (n - 1 : Nat)))), some (.fz (.str (chw a))), some (.fz (.str (chw b))), some (.fz (.str (focS n a))), some (.fz (.str (focS n b))), some (.fz (.tup (tsz n (gw n a)))), some (.fz (.tup (tsz n (gw n b)))), none, none]) (c1 := c4) (asg_ok (d := .tup [.tup (tsz n (gw n a)), .tup (tsz n (gw n b))]) (c1 := c4) (tup_ok (cons_ok (c1 := c4) (call_ok (c1 := c4) (ds := [.str (focS n a)]) rfl (sum_form_ok hn ha c4)) (cons_ok (c1 := c4) (call_ok (c1 := c4) (ds := [.str (focS n b)]) rfl (sum_form_ok hn hb c4)) rfl))) rfl) ?_
  have g4 : compGo (gN 7) (bOf (e2 pNe (e2 pIn (ePk 7) (ePk 13)) (e2 pIn (ePk 7) (ePk 14)))) (eVar 7) [some (.fz .cup), some (.fz (.int (n : Nat))), some (.fz (.int (k : Nat))), some (.fz (.tup (tsz n s))), some (.fz (.str (focS n (gw n s)))), some (.fz (.str (focS n (gw n (un n k))))), some (.fz (.tup ((List.range n).map fun i => .int (i : Nat)))), none, (if k = 0 then none else some (.fz (.int (n - 1 : Nat)))), some (.fz (.str (chw a))), some (.fz (.str (chw b))), some (.fz (.str (focS n a))), some (.fz (.str (focS n b))), some (.fz (.tup (tsz n (gw n a)))), some (.fz (.tup (tsz n (gw n b)))), none, none] ((List.range (n + 1)).map fun i => D.int (i : Nat)) c4 = some (tsz n (gw n (xw n a b)), c4) := by
    rw [← both_eq]
    refine go_filt (g := fun i => D.int (i : Nat)) fun i hi => ⟨[some (.fz .cup), some (.fz (.int (n : Nat))), some (.fz (.int (k : Nat))), some (.fz (.tup (tsz n s))), some (.fz (.str (focS n (gw n s)))), some (.fz (.str (focS n (gw n (un n k))))), some (.fz (.tup ((List.range n).map fun i => .int (i : Nat)))), some (.fz (.int (i : Nat))), (if k = 0 then none else some (.fz (.int (n - 1 : Nat)))), some (.fz (.str (chw a))), some (.fz (.str (chw b))), some (.fz (.str (focS n a))), some (.fz (.str (focS n b))), some (.fz (.tup (tsz n (gw n a)))), some (.fz (.tup (tsz n (gw n b)))), none, none], rfl, bOf_ok ?_, rfl⟩
    refine e2_ok (c1 := c4) (c2 := c4) (e2_ok (c1 := c4) (c2 := c4) (d := .int (i : Nat)) (d2 := .tup (tsz n (gw n a))) rfl rfl (in_ok hn hga hi)) (e2_ok (c1 := c4) (c2 := c4) (d := .int (i : Nat)) (d2 := .tup (tsz n (gw n b))) rfl rfl (in_ok hn hgb hi)) ?_
    cases (gw n a).getD i false <;> cases (gw n b).getD i false <;> rfl
  refine seq_nx (ε1 := [some (.fz .cup), some (.fz (.int (n : Nat))), some (.fz (.int (k : Nat))), some (.fz (.tup (tsz n s))), some (.fz (.str (focS n (gw n s)))), some (.fz (.str (focS n (gw n (un n k))))), some (.fz (.tup ((List.range n).map fun i => .int (i : Nat)))), some (.fz (.str (ctop n k))), (if k = 0 then none else some (.fz (.int (n - 1 : Nat)))), some (.fz (.str (chw a))), some (.fz (.str (chw b))), some (.fz (.str (focS n a))), some (.fz (.str (focS n b))), some (.fz (.tup (tsz n (gw n a)))), some (.fz (.tup (tsz n (gw n b)))), some (.fz (.tup (tsz n (gw n (xw n a b))))), none]) (c1 := c4) (set_ok (i := 15) (ε := [some (.fz .cup), some (.fz (.int (n : Nat))), some (.fz (.int (k : Nat))), some (.fz (.tup (tsz n s))), some (.fz (.str (focS n (gw n s)))), some (.fz (.str (focS n (gw n (un n k))))), some (.fz (.tup ((List.range n).map fun i => .int (i : Nat)))), some (.fz (.str (ctop n k))), (if k = 0 then none else some (.fz (.int (n - 1 : Nat)))), some (.fz (.str (chw a))), some (.fz (.str (chw b))), some (.fz (.str (focS n a))), some (.fz (.str (focS n b))), some (.fz (.tup (tsz n (gw n a)))), some (.fz (.tup (tsz n (gw n b)))), none, none]) (e1_ok (comp_ok (rng_ok hn _ _ _) rfl g4) rfl)) ?_
  have sa := ex2 (f := fun n w => m_symmetric_by_sums [.int (n : Nat), .tup (tsz n w)] c4) (sym_all c4) hn hga
  have sb := ex2 (f := fun n w => m_symmetric_by_sums [.int (n : Nat), .tup (tsz n w)] c4) (sym_all c4) hn hgb

  rw [gga] at sa
  rw [ggb] at sb
  have cb := counts_ok hn hb c4
  have jo := joined_ok hn ha hb c4
  have sx := sum_form_ok hn (xw_mem n a b) c4
  exact seq_rt (ret_ok (call_ok (c1 := c4) (cons_ok (c1 := c4) (lst_ok (cons_ok (c1 := c4) (call_ok (c1 := c4) (ds := [.int (n : Nat), .tup (tsz n (gw n a))]) rfl sa) (cons_ok (c1 := c4) (call_ok (c1 := c4) (cons_ok (c1 := c4) (call_ok (c1 := c4) (ds := [.int (n : Nat), .tup (tsz n (gw n b))]) rfl sb) rfl) cb) (cons_ok (c1 := c4) (call_ok (c1 := c4) (cons_ok (c1 := c4) (call_ok (c1 := c4) (ds := [.str (focS n a), .str (focS n b), .str [115, 117, 109]]) rfl jo) rfl) sx) rfl))))
      (cons_ok (c1 := c4) (lst_ok (cons_ok (c1 := c4) rfl (cons_ok (c1 := c4) rfl (cons_ok (c1 := c4) rfl rfl)))) rfl)) (like3 9 _ _ _ c4)))
end K73

set_option Elab.async false
set_option linter.all false
set_option maxRecDepth 100000
set_option maxHeartbeats 0
namespace K73
open TT

def cupC (cell : Int) : Cup := (if 1000000000000000000 ≤ cell then cell / 73 else 0, (cell * 283 + 3907) % 2077503167 + 167)
def headI : List Int → Int
  | [] => 0
  | x :: _ => x
def absI (i : Int) : Int := if i < 0 then -i else i
def cupOf (ns : List Int) : Cup := cupC (absI (headI ns))
theorem if_ok {q : SB} {f g : SE} {ε : En} {c c1 : Cup} {b : Bool} {o} (h : q ε c = some (b, c1)) (h2 : (if b = true then f ε c1 else g ε c1) = o) : eIf q f g ε c = o := by
  unfold eIf; rw [h]; cases b <;> exact h2
theorem vcup (ns : List Int) (cell : Int) (c : Cup) : v__law_cup [some (.fz (.scr ns)), some (.fz (.int cell))] c = some (.lst [.int (cupC cell).1, .int (cupC cell).2], c) := by
  have m1' : pMul (.int cell) (.int 283) = some (.int (cell * 283)) := if_pos (Or.inr ⟨by omega, by omega⟩)
  have m1 : pMulA (.int cell) (.int 283) = some (.int (cell * 283)) := by unfold pMulA; rw [m1']
  unfold v__law_cup
  refine lst_ok (cons_ok (c1 := c) (if_ok (b := decide (1000000000000000000 ≤ cell)) (c1 := c) (bOf_ok ?_) ?_) (cons_ok (c1 := c) (c2 := c) (e2_ok (c1 := c) (c2 := c) (e2_ok (c1 := c) (c2 := c) (e1_ok (c1 := c) (e2_ok (c1 := c) (c2 := c) (e2_ok (c1 := c) (c2 := c) (d := .int cell) rfl rfl m1) rfl rfl) rfl) rfl rfl) rfl rfl) rfl))
  · refine (by kernel_rfl : _ = some (D.bl (!decide (cell < 1000000000000000000)), c)).trans ?_
    congr 3
    by_cases h : cell < 1000000000000000000
    · simp [h]
    · simp [h]; omega
  · unfold cupC
    by_cases h : 1000000000000000000 ≤ cell
    · rw [if_pos (by simp [h])]
      simp only [if_pos h]
      kernel_rfl
    · rw [if_neg (by simp [h])]
      simp only [if_neg h]
      kernel_rfl
theorem head_at (x : D) (r : List D) : pIx (.lst (x :: r)) (.int 0) = some x := by
  have h : L2.ixN (r.length + 1) 0 = some 0 := by unfold L2.ixN; simp
  simp [pIx, L2.atI, h]
theorem hcup : ∀ ns : List Int, ns.length ≤ 63 → ∃ ε c1 c2, u__law_cup (startD N__law_cup.length [.scr ns]) (0, 0) = some (.nx ε c1) ∧ v__law_cup ε c1 = some (.lst [.int (cupOf ns).1, .int (cupOf ns).2], c2) := by
  intro ns hl
  refine ⟨[some (.fz (.scr ns)), some (.fz (.int (absI (headI ns))))], (0, 0), (0, 0), ?_, vcup ns _ _⟩
  have hc : pCat (.lst (ns.map D.int)) (.lst [.int 0]) = some (.lst (ns.map D.int ++ [.int 0])) := by
    refine if_pos ?_
    have e : PySem.sizeLine = 16777216 := by decide +kernel
    rw [e, List.length_map, List.length_singleton]
    omega
  refine set_ok (i := 1) (ε := [some (.fz (.scr ns)), none]) (e1_ok (c1 := (0, 0)) (e2_ok (c1 := (0, 0)) (c2 := (0, 0)) (e2_ok (c1 := (0, 0)) (c2 := (0, 0)) (d := .lst (ns.map D.int)) (d2 := .lst [.int 0]) ?_ rfl hc) rfl (d3 := .int (headI ns)) ?_) ?_)
  · rfl
  · cases ns with
    | nil => rfl
    | cons x r => exact head_at _ _
  · rfl
theorem for_cons {tg : Tg} {b : SS} {d : D} {ds : List D} {ε ε1 ε2 : En} {c c2 : Cup} {o : Option Out} (h1 : tg d ε = some ε1) (h2 : b ε1 c = some (.nx ε2 c2)) (h3 : forGo tg b ds ε2 c2 = o) : forGo tg b (d :: ds) ε c = o := by
  unfold forGo; rw [h1]; simp only; rw [h2]; exact h3
theorem count_ok {n : Nat} (hn : n ∈ ns6) (x0 x1 x3 : Option Sl) (c : Cup) : qNot (bTru (eCall (m__law_like 12) (lCons (eCall m_count_symmetric (lCons (eVar 2) lNil)) (lCons (e2 pMulA (eC (.int 2)) (e1 pLen (eCall m__law_lots (lCons (eRg1 (eVar 2)) lNil)))) lNil)))) [x0, x1, some (.fz (.int (n : Nat))), x3] c = some (false, c) := by
  simp only [ns6, List.mem_cons, List.not_mem_nil, or_false] at hn
  rcases hn with rfl | rfl | rfl | rfl | rfl | rfl | rfl <;> kernel_rfl
theorem body_ok {n : Nat} (hn : n ∈ ns6) (ns : List Int) (c : Cup) : ∃ c', ((sSeq
    (sIf (qOr (qNot (bTru (eCall m__law_right (lCons (eVar 1) (lCons (eVar 2) lNil))))) (qNot (bTru (eCall (m__law_like 12) (lCons (eCall m_count_symmetric (lCons (eVar 2) lNil)) (lCons (e2 pMulA (eC (.int 2)) (e1 pLen (eCall m__law_lots (lCons (eRg1 (eVar 2)) lNil)))) lNil)))))) (sSeq
    (sRet (eC (.bl false)))
    sNop) sNop)
    sNop) : SS) [some (.fz (.scr ns)), some (.fz .cup), some (.fz (.int (n : Nat))), none] c = some (.nx [some (.fz (.scr ns)), some (.fz .cup), some (.fz (.int (n : Nat))), none] c') := by
  obtain ⟨c1, h1⟩ := right_ok hn c
  exact ⟨c1, seq_nx (c1 := c1) (if_f (c1 := c1) (qOr_f (c1 := c1) (qNot_ok (b := true) (bTru_ok (call_ok (c1 := c) (ds := [.cup, .int (n : Nat)]) rfl h1))) (count_ok hn _ _ _ c1)) rfl) rfl⟩
theorem flips3 (c : Cup) : m__law_flips_right [.int 3] c = some (.bl true, c) := by
  refine run_rt (u := u__law_flips_right) ?_
  unfold u__law_flips_right
  refine seq_nx (ε1 := eF0) (c1 := c) rfl ?_
  refine seq_nx (c1 := c) ?_ (seq_rt (fl_end c))
  unfold sFor
  rw [show iRange1 (eIf (bOf (e2 pEq (ePk 0) (eC (.int 3)))) (e2 pPow (eC (.int 2)) (eC (.int 8))) (eIf (bOf (e2 pEq (ePk 0) (eC (.int 2)))) (e2 pPow (eC (.int 2)) (eC (.int 4))) (eIf (bOf (e2 pEq (ePk 0) (eC (.int 1)))) (eC (.int 4)) (eC (.int 2))))) eF0 c = some (rangeD 0 256, c) by kernel_rfl]
  exact fl_all c
theorem three {v : Int} (h0 : 0 ≤ v) (h1 : v < 3) : v = 0 ∨ v = 1 ∨ v = 2 := by omega
theorem some3 (c : Cup) : ∃ v c', v ∈ [0, 1, 2] ∧ m__law_some [.cup, .lst [.int 0, .int 1, .int 2]] c = some (.int (v : Nat), c') := by
  obtain ⟨v, c', e, h0, h1⟩ := roll_ok 3 (by omega) (by omega) c
  rcases three h0 h1 with rfl | rfl | rfl
  · exact ⟨0, c', by decide, run_rt (seq_rt (ret_ok (e2_ok (c1 := c) (d := .lst [.int 0, .int 1, .int 2]) rfl (call_ok (c1 := c) (ds := [.cup, .int 3]) rfl e) rfl)))⟩
  · exact ⟨1, c', by decide, run_rt (seq_rt (ret_ok (e2_ok (c1 := c) (d := .lst [.int 0, .int 1, .int 2]) rfl (call_ok (c1 := c) (ds := [.cup, .int 3]) rfl e) rfl)))⟩
  · exact ⟨2, c', by decide, run_rt (seq_rt (ret_ok (e2_ok (c1 := c) (d := .lst [.int 0, .int 1, .int 2]) rfl (call_ok (c1 := c) (ds := [.cup, .int 3]) rfl e) rfl)))⟩
theorem hlaw : ∀ ns : List Int, ns.length ≤ 63 → ∃ c, u_law ([some (.fz (.scr ns)), some (.fz .cup)] ++ List.replicate (N_law.length - 2) none) (cupOf ns) = some (.rt (.bl true) c) := by
  intro ns _
  generalize cupOf ns = c0
  obtain ⟨c1, h1⟩ := body_ok (n := 0) (by decide) ns c0
  obtain ⟨c2, h2⟩ := body_ok (n := 1) (by decide) ns c1
  obtain ⟨c3, h3⟩ := body_ok (n := 2) (by decide) ns c2
  obtain ⟨c4, h4⟩ := body_ok (n := 3) (by decide) ns c3
  obtain ⟨c5, h5⟩ := body_ok (n := 4) (by decide) ns c4
  obtain ⟨c6, h6⟩ := body_ok (n := 5) (by decide) ns c5
  obtain ⟨c7, h7⟩ := body_ok (n := 6) (by decide) ns c6
  obtain ⟨v, c8, hv, e8⟩ := some3 c7
  have f8 := List.map_inj_left.mp (flips_sm c8) v hv
  obtain ⟨r, c9, e9, r0, r1⟩ := roll_ok 6 (by omega) (by omega) c8
  refine ⟨c9, ?_⟩
  unfold u_law
  refine seq_nx (ε1 := [some (.fz (.scr ns)), some (.fz .cup), some (.fz (.int 6)), none]) (c1 := c7) ?_ ?_
  · refine Eq.trans (b := forGo (gN 2) _ [D.int 0, D.int 1, D.int 2, D.int 3, D.int 4, D.int 5, D.int 6] [some (.fz (.scr ns)), some (.fz .cup), none, none] c0) rfl ?_
    exact for_cons (ε1 := [some (.fz (.scr ns)), some (.fz .cup), some (.fz (.int 0)), none]) rfl h1 (for_cons (ε1 := [some (.fz (.scr ns)), some (.fz .cup), some (.fz (.int 1)), none]) rfl h2 (for_cons (ε1 := [some (.fz (.scr ns)), some (.fz .cup), some (.fz (.int 2)), none]) rfl h3 (for_cons (ε1 := [some (.fz (.scr ns)), some (.fz .cup), some (.fz (.int 3)), none]) rfl h4 (for_cons (ε1 := [some (.fz (.scr ns)), some (.fz .cup), some (.fz (.int 4)), none]) rfl h5 (for_cons (ε1 := [some (.fz (.scr ns)), some (.fz .cup), some (.fz (.int 5)), none]) rfl h6 (for_cons (ε1 := [some (.fz (.scr ns)), some (.fz .cup), some (.fz (.int 6)), none]) rfl h7 (rfl)))))))
  refine seq_nx (ε1 := [some (.fz (.scr ns)), some (.fz .cup), some (.fz (.int 6)), none]) (c1 := c9) (if_f (c1 := c9) (qOr_f (c1 := c8) (qNot_ok (b := true) (bTru_ok (call_ok (c1 := c8) (cons_ok (c1 := c8) (call_ok (c1 := c7) (ds := [.cup, .lst [.int 0, .int 1, .int 2]]) rfl e8) rfl) f8))) ?_) rfl) ?_
  · have hq : bOf (e2 pEq (eCall m__law_roll (lCons (eVar 0) (lCons (eC (.int 6)) lNil))) (eC (.int 0))) = bOf (e2 pEq (eCall m__law_roll (lCons (eVar 0) (lCons (eC (.int 6)) lNil))) (eC (.int 0))) := rfl
    unfold qAnd
    rw [show bOf (e2 pEq (eCall m__law_roll (lCons (eVar 1) (lCons (eC (.int 6)) lNil))) (eC (.int 0))) [some (.fz (.scr ns)), some (.fz .cup), some (.fz (.int 6)), none] c8 = some (r == 0, c9) from bOf_ok (e2_ok (call_ok (c1 := c8) (ds := [.cup, .int 6]) rfl e9) rfl rfl)]
    cases r == 0 with
    | false => rfl
    | true => exact qNot_ok (b := true) (bTru_ok (call_ok (c1 := c9) (ds := [.int 3]) rfl (flips3 c9)))
  · kernel_rfl
end K73

set_option Elab.async false
set_option linter.all false
set_option maxRecDepth 100000
set_option maxHeartbeats 0
namespace K73
open TT PySem PySem.Spec PyProof.Rows L2 PySem.W
def fn : List He.DefD := [⟨("_law_cup", none), "_law_cup", "_law_cup", defArgs (top 61), defBody (top 61), defScope (top 61), [], []⟩, ⟨("_law_sort", none), "_law_sort", "_law_sort", defArgs (top 64), defBody (top 64), defScope (top 64), [], []⟩, ⟨("_law_like", none), "_law_like", "_law_like", defArgs (top 65), defBody (top 65), defScope (top 65), [], []⟩, ⟨("is_integer", none), "is_integer", "is_integer", defArgs (top 15), defBody (top 15), defScope (top 15), [], []⟩, ⟨("is_whole", none), "is_whole", "is_whole", defArgs (top 16), defBody (top 16), defScope (top 16), [], []⟩, ⟨("need_whole", none), "need_whole", "need_whole", defArgs (top 17), defBody (top 17), defScope (top 17), [], []⟩, ⟨("function_by", none), "function_by", "function_by", defArgs (top 29), defBody (top 29), defScope (top 29), [], []⟩, ⟨("rows_in", none), "rows_in", "rows_in", defArgs (top 26), defBody (top 26), defScope (top 26), [], []⟩, ⟨("function_in_counts", none), "function_in_counts", "function_in_counts", defArgs (top 38), defBody (top 38), defScope (top 38), [], []⟩, ⟨("is_odd_choice", none), "is_odd_choice", "is_odd_choice", defArgs (top 48), defBody (top 48), defScope (top 48), [], []⟩, ⟨("word_of_size", none), "word_of_size", "word_of_size", defArgs (top 49), defBody (top 49), defScope (top 49), [], []⟩, ⟨("even_sum", none), "even_sum", "even_sum", defArgs (top 55), defBody (top 55), defScope (top 55), [], []⟩, ⟨("is_word", none), "is_word", "is_word", defArgs (top 20), defBody (top 20), defScope (top 20), [], []⟩, ⟨("fits_function", none), "fits_function", "fits_function", defArgs (top 21), defBody (top 21), defScope (top 21), [], []⟩, ⟨("need_function", none), "need_function", "need_function", defArgs (top 22), defBody (top 22), defScope (top 22), [], []⟩, ⟨("rows_by_ones", none), "rows_by_ones", "rows_by_ones", defArgs (top 39), defBody (top 39), defScope (top 39), [], []⟩, ⟨("count_in", none), "count_in", "count_in", defArgs (top 24), defBody (top 24), defScope (top 24), [], []⟩, ⟨("number_in", none), "number_in", "number_in", defArgs (top 27), defBody (top 27), defScope (top 27), [], []⟩, ⟨("answer_in", none), "answer_in", "answer_in", defArgs (top 28), defBody (top 28), defScope (top 28), [], []⟩, ⟨("paper_in", none), "paper_in", "paper_in", defArgs (top 40), defBody (top 40), defScope (top 40), [], []⟩, ⟨("word_sum", none), "word_sum", "word_sum", defArgs (top 52), defBody (top 52), defScope (top 52), [], []⟩, ⟨("sizes_by_word", none), "sizes_by_word", "sizes_by_word", defArgs (top 51), defBody (top 51), defScope (top 51), [], []⟩, ⟨("counts_in", none), "counts_in", "counts_in", defArgs (top 41), defBody (top 41), defScope (top 41), [], []⟩, ⟨("sum_form", none), "sum_form", "sum_form", defArgs (top 56), defBody (top 56), defScope (top 56), [], []⟩, ⟨("is_tuple_of", none), "is_tuple_of", "is_tuple_of", defArgs (top 18), defBody (top 18), defScope (top 18), [], []⟩, ⟨("is_rising", none), "is_rising", "is_rising", defArgs (top 19), defBody (top 19), defScope (top 19), [], []⟩, ⟨("fits_signs", none), "fits_signs", "fits_signs", defArgs (top 25), defBody (top 25), defScope (top 25), [], []⟩, ⟨("word_by_sizes", none), "word_by_sizes", "word_by_sizes", defArgs (top 50), defBody (top 50), defScope (top 50), [], []⟩, ⟨("symmetric_by_sums", none), "symmetric_by_sums", "symmetric_by_sums", defArgs (top 57), defBody (top 57), defScope (top 57), [], []⟩, ⟨("count_symmetric", none), "count_symmetric", "count_symmetric", defArgs (top 58), defBody (top 58), defScope (top 58), [], []⟩, ⟨("counts_of", none), "counts_of", "counts_of", defArgs (top 43), defBody (top 43), defScope (top 43), [], []⟩, ⟨("words_of", none), "words_of", "words_of", defArgs (top 53), defBody (top 53), defScope (top 53), [], []⟩, ⟨("turned_at", none), "turned_at", "turned_at", defArgs (top 30), defBody (top 30), defScope (top 30), [], []⟩, ⟨("flipped_in", none), "flipped_in", "flipped_in", defArgs (top 31), defBody (top 31), defScope (top 31), [], []⟩, ⟨("lots_of_signs", none), "lots_of_signs", "lots_of_signs", defArgs (top 45), defBody (top 45), defScope (top 45), [], []⟩, ⟨("with_flips", none), "with_flips", "with_flips", defArgs (top 54), defBody (top 54), defScope (top 54), [], []⟩, ⟨("count_with_flips", none), "count_with_flips", "count_with_flips", defArgs (top 59), defBody (top 59), defScope (top 59), [], []⟩, ⟨("_law_rows", none), "_law_rows", "_law_rows", defArgs (top 66), defBody (top 66), defScope (top 66), [], []⟩, ⟨("flip_lots", none), "flip_lots", "flip_lots", defArgs (top 46), defBody (top 46), defScope (top 46), [], []⟩, ⟨("_law_flips_right", none), "_law_flips_right", "_law_flips_right", defArgs (top 71), defBody (top 71), defScope (top 71), [], []⟩, ⟨("fits_word", none), "fits_word", "fits_word", defArgs (top 36), defBody (top 36), defScope (top 36), [], []⟩, ⟨("need_word", none), "need_word", "need_word", defArgs (top 37), defBody (top 37), defScope (top 37), [], []⟩, ⟨("function_of_counts", none), "function_of_counts", "function_of_counts", defArgs (top 42), defBody (top 42), defScope (top 42), [], []⟩, ⟨("_law_roll", none), "_law_roll", "_law_roll", defArgs (top 62), defBody (top 62), defScope (top 62), [], []⟩, ⟨("_law_choices", none), "_law_choices", "_law_choices", defArgs (top 68), defBody (top 68), defScope (top 68), [], []⟩, ⟨("_law_sum", none), "_law_sum", "_law_sum", defArgs (top 69), defBody (top 69), defScope (top 69), [], []⟩, ⟨("_law_lots", none), "_law_lots", "_law_lots", defArgs (top 67), defBody (top 67), defScope (top 67), [], []⟩, ⟨("need_alike", none), "need_alike", "need_alike", defArgs (top 23), defBody (top 23), defScope (top 23), [], []⟩, ⟨("joined_in", none), "joined_in", "joined_in", defArgs (top 32), defBody (top 32), defScope (top 32), [], []⟩, ⟨("joined", none), "joined", "joined", defArgs (top 33), defBody (top 33), defScope (top 33), [], []⟩, ⟨("_law_some", none), "_law_some", "_law_some", defArgs (top 63), defBody (top 63), defScope (top 63), [], []⟩, ⟨("sign_function", none), "sign_function", "sign_function", defArgs (top 34), defBody (top 34), defScope (top 34), [], []⟩, ⟨("_law_right", none), "_law_right", "_law_right", defArgs (top 70), defBody (top 70), defScope (top 70), [], []⟩, ⟨("law", none), "law", "law", defArgs (top 72), defBody (top 72), defScope (top 72), [], []⟩]
def fa : List He.Fa := [.glo "_law_cup", .glo "_law_sort", .glo "_law_like", .glo "is_integer", .glo "is_whole", .glo "need_whole", .glo "function_by", .glo "rows_in", .glo "function_in_counts", .glo "is_odd_choice", .glo "word_of_size", .glo "even_sum", .glo "is_word", .glo "fits_function", .glo "need_function", .glo "rows_by_ones", .glo "count_in", .glo "number_in", .glo "answer_in", .glo "paper_in", .glo "word_sum", .glo "sizes_by_word", .glo "counts_in", .glo "sum_form", .glo "is_tuple_of", .glo "is_rising", .glo "fits_signs", .glo "word_by_sizes", .glo "symmetric_by_sums", .glo "count_symmetric", .glo "counts_of", .glo "words_of", .glo "turned_at", .glo "flipped_in", .glo "lots_of_signs", .glo "with_flips", .glo "count_with_flips", .glo "_law_rows", .glo "flip_lots", .glo "_law_flips_right", .glo "fits_word", .glo "need_word", .glo "function_of_counts", .glo "_law_roll", .glo "_law_choices", .glo "_law_sum", .glo "_law_lots", .glo "need_alike", .glo "joined_in", .glo "joined", .glo "_law_some", .glo "sign_function", .glo "_law_right", .glo "law", .free "abs", .free "all", .free "bool", .free "enumerate", .free "int", .free "isinstance", .free "len", .free "list", .free "range", .free "sorted", .free "str", .free "sum", .free "tuple", .free "zip", .int "MOST" 6, .str "AND" "and", .str "ANSWERS" "01", .str "SUM" "sum", .glo "LENGTHS", .glo "WORDS"]
def ex (K : PySem.W.Frag) : Bool := kTupB K "LENGTHS" (okInts [1, 2, 4, 8, 16, 32, 64]) && kTupB K "WORDS" (okStrs [[97, 110, 100], [111, 114], [115, 117, 109]]) && true
abbrev R : PySem.W.OpenRow := PySem.W.OpenLaw.row PySem.Challenge.rw_truthtold_k73_whole_even_sums
abbrev hk : PySem.W.Hook := He.hookX 4 fa fn [] [] ex
def ob (s : PySem.W.SharedT) : He.AlX := He.obsX 4 fa fn [] [] ex (HandSHeadRun.getT s)
theorem ob_eq (s : PySem.W.SharedT) : ob s = hk.obs s.abs := He.obsX_eq (HandSHeadRun.getT_eq s)
def loose : List Str := [Str.ofString "__name__", Str.ofString "TruthError", Str.ofString "InvalidFunction", Str.ofString "InvalidSign", Str.ofString "InvalidNumber", Str.ofString "InvalidWord", Str.ofString "InvalidLots", Str.ofString "MOST", Str.ofString "ANSWERS", Str.ofString "LENGTHS", Str.ofString "AND", Str.ofString "OR", Str.ofString "SUM", Str.ofString "WORDS", Str.ofString "is_integer", Str.ofString "is_whole", Str.ofString "need_whole", Str.ofString "is_tuple_of", Str.ofString "is_rising", Str.ofString "is_word", Str.ofString "fits_function", Str.ofString "need_function", Str.ofString "need_alike", Str.ofString "count_in", Str.ofString "fits_signs", Str.ofString "rows_in", Str.ofString "number_in", Str.ofString "answer_in", Str.ofString "function_by", Str.ofString "turned_at", Str.ofString "flipped_in", Str.ofString "joined_in", Str.ofString "joined", Str.ofString "sign_function", Str.ofString "fits_word", Str.ofString "need_word", Str.ofString "function_in_counts", Str.ofString "rows_by_ones", Str.ofString "paper_in", Str.ofString "counts_in", Str.ofString "function_of_counts", Str.ofString "counts_of", Str.ofString "lots_of_signs", Str.ofString "flip_lots", Str.ofString "is_odd_choice", Str.ofString "word_of_size", Str.ofString "word_by_sizes", Str.ofString "sizes_by_word", Str.ofString "word_sum", Str.ofString "words_of", Str.ofString "with_flips", Str.ofString "even_sum", Str.ofString "sum_form", Str.ofString "symmetric_by_sums", Str.ofString "count_symmetric", Str.ofString "count_with_flips", Str.ofString "_law_cup", Str.ofString "_law_roll", Str.ofString "_law_some", Str.ofString "_law_sort", Str.ofString "_law_like", Str.ofString "_law_rows", Str.ofString "_law_lots", Str.ofString "_law_choices", Str.ofString "_law_sum", Str.ofString "_law_right", Str.ofString "_law_flips_right"]
theorem run (w : World) : HandSHeadRun.RunEq R (PySem.W.view R.prog [72]) hk ob 4000 loose w := by
  intro os
  kernel_rfl
theorem fx_of {w : World} {K : PySem.W.Frag} {h : Heap} {mg : Str → Option Value} (X : K.In h) (G : h.Ns mainGlobals mg) (c : He.SaysX fa fn [] [] ex w h K) : Fx K mg := by
  have c1 : He.SaysD fa fn K := congrArg (fun z : He.AlT => z.1) c.t
  have c2 := c.more
  unfold ex at c2
  simp only [Bool.and_eq_true, and_true] at c2
  refine {
    n_abs := He.free_ok X G (c1.fact 54 (f := .free "abs") rfl)
    n_all := He.free_ok X G (c1.fact 55 (f := .free "all") rfl)
    n_bool := He.free_ok X G (c1.fact 56 (f := .free "bool") rfl)
    n_enumerate := He.free_ok X G (c1.fact 57 (f := .free "enumerate") rfl)
    n_int := He.free_ok X G (c1.fact 58 (f := .free "int") rfl)
    n_isinstance := He.free_ok X G (c1.fact 59 (f := .free "isinstance") rfl)
    n_len := He.free_ok X G (c1.fact 60 (f := .free "len") rfl)
    n_list := He.free_ok X G (c1.fact 61 (f := .free "list") rfl)
    n_range := He.free_ok X G (c1.fact 62 (f := .free "range") rfl)
    n_sorted := He.free_ok X G (c1.fact 63 (f := .free "sorted") rfl)
    n_str := He.free_ok X G (c1.fact 64 (f := .free "str") rfl)
    n_sum := He.free_ok X G (c1.fact 65 (f := .free "sum") rfl)
    n_tuple := He.free_ok X G (c1.fact 66 (f := .free "tuple") rfl)
    n_zip := He.free_ok X G (c1.fact 67 (f := .free "zip") rfl)
    g_MOST := He.int_ok X G (c1.fact 68 (f := .int "MOST" 6) rfl)
    g_AND := He.str_ok X G (c1.fact 69 (f := .str "AND" "and") rfl)
    g_ANSWERS := He.str_ok X G (c1.fact 70 (f := .str "ANSWERS" "01") rfl)
    g_SUM := He.str_ok X G (c1.fact 71 (f := .str "SUM" "sum") rfl)
    g_LENGTHS := He.glo_ok X G (c1.fact 72 (f := .glo "LENGTHS") rfl)
    g_WORDS := He.glo_ok X G (c1.fact 73 (f := .glo "WORDS") rfl)
    k_LENGTHS := kInts_of c2.1
    k_WORDS := fun pc F H => kStrs_rep (W := ⟨K, fun _ => 0⟩) c2.2 (by decide) (by decide) pc F H
    f__law_cup := c1.def_ 0 (d := ⟨("_law_cup", none), "_law_cup", "_law_cup", defArgs (top 61), defBody (top 61), defScope (top 61), [], []⟩) rfl
    m__law_cup := He.glo_ok X G (c1.fact 0 (f := .glo "_law_cup") rfl)
    f__law_sort := c1.def_ 1 (d := ⟨("_law_sort", none), "_law_sort", "_law_sort", defArgs (top 64), defBody (top 64), defScope (top 64), [], []⟩) rfl
    m__law_sort := He.glo_ok X G (c1.fact 1 (f := .glo "_law_sort") rfl)
    f__law_like := c1.def_ 2 (d := ⟨("_law_like", none), "_law_like", "_law_like", defArgs (top 65), defBody (top 65), defScope (top 65), [], []⟩) rfl
    m__law_like := He.glo_ok X G (c1.fact 2 (f := .glo "_law_like") rfl)
    f_is_integer := c1.def_ 3 (d := ⟨("is_integer", none), "is_integer", "is_integer", defArgs (top 15), defBody (top 15), defScope (top 15), [], []⟩) rfl
    m_is_integer := He.glo_ok X G (c1.fact 3 (f := .glo "is_integer") rfl)
    f_is_whole := c1.def_ 4 (d := ⟨("is_whole", none), "is_whole", "is_whole", defArgs (top 16), defBody (top 16), defScope (top 16), [], []⟩) rfl
    m_is_whole := He.glo_ok X G (c1.fact 4 (f := .glo "is_whole") rfl)
    f_need_whole := c1.def_ 5 (d := ⟨("need_whole", none), "need_whole", "need_whole", defArgs (top 17), defBody (top 17), defScope (top 17), [], []⟩) rfl
    m_need_whole := He.glo_ok X G (c1.fact 5 (f := .glo "need_whole") rfl)
    f_function_by := c1.def_ 6 (d := ⟨("function_by", none), "function_by", "function_by", defArgs (top 29), defBody (top 29), defScope (top 29), [], []⟩) rfl
    m_function_by := He.glo_ok X G (c1.fact 6 (f := .glo "function_by") rfl)
    f_rows_in := c1.def_ 7 (d := ⟨("rows_in", none), "rows_in", "rows_in", defArgs (top 26), defBody (top 26), defScope (top 26), [], []⟩) rfl
    m_rows_in := He.glo_ok X G (c1.fact 7 (f := .glo "rows_in") rfl)
    f_function_in_counts := c1.def_ 8 (d := ⟨("function_in_counts", none), "function_in_counts", "function_in_counts", defArgs (top 38), defBody (top 38), defScope (top 38), [], []⟩) rfl
    m_function_in_counts := He.glo_ok X G (c1.fact 8 (f := .glo "function_in_counts") rfl)
    f_is_odd_choice := c1.def_ 9 (d := ⟨("is_odd_choice", none), "is_odd_choice", "is_odd_choice", defArgs (top 48), defBody (top 48), defScope (top 48), [], []⟩) rfl
    m_is_odd_choice := He.glo_ok X G (c1.fact 9 (f := .glo "is_odd_choice") rfl)
    f_word_of_size := c1.def_ 10 (d := ⟨("word_of_size", none), "word_of_size", "word_of_size", defArgs (top 49), defBody (top 49), defScope (top 49), [], []⟩) rfl
    m_word_of_size := He.glo_ok X G (c1.fact 10 (f := .glo "word_of_size") rfl)
    f_even_sum := c1.def_ 11 (d := ⟨("even_sum", none), "even_sum", "even_sum", defArgs (top 55), defBody (top 55), defScope (top 55), [], []⟩) rfl
    m_even_sum := He.glo_ok X G (c1.fact 11 (f := .glo "even_sum") rfl)
    f_is_word := c1.def_ 12 (d := ⟨("is_word", none), "is_word", "is_word", defArgs (top 20), defBody (top 20), defScope (top 20), [], []⟩) rfl
    m_is_word := He.glo_ok X G (c1.fact 12 (f := .glo "is_word") rfl)
    f_fits_function := c1.def_ 13 (d := ⟨("fits_function", none), "fits_function", "fits_function", defArgs (top 21), defBody (top 21), defScope (top 21), [], []⟩) rfl
    m_fits_function := He.glo_ok X G (c1.fact 13 (f := .glo "fits_function") rfl)
    f_need_function := c1.def_ 14 (d := ⟨("need_function", none), "need_function", "need_function", defArgs (top 22), defBody (top 22), defScope (top 22), [], []⟩) rfl
    m_need_function := He.glo_ok X G (c1.fact 14 (f := .glo "need_function") rfl)
    f_rows_by_ones := c1.def_ 15 (d := ⟨("rows_by_ones", none), "rows_by_ones", "rows_by_ones", defArgs (top 39), defBody (top 39), defScope (top 39), [], []⟩) rfl
    m_rows_by_ones := He.glo_ok X G (c1.fact 15 (f := .glo "rows_by_ones") rfl)
    f_count_in := c1.def_ 16 (d := ⟨("count_in", none), "count_in", "count_in", defArgs (top 24), defBody (top 24), defScope (top 24), [], []⟩) rfl
    m_count_in := He.glo_ok X G (c1.fact 16 (f := .glo "count_in") rfl)
    f_number_in := c1.def_ 17 (d := ⟨("number_in", none), "number_in", "number_in", defArgs (top 27), defBody (top 27), defScope (top 27), [], []⟩) rfl
    m_number_in := He.glo_ok X G (c1.fact 17 (f := .glo "number_in") rfl)
    f_answer_in := c1.def_ 18 (d := ⟨("answer_in", none), "answer_in", "answer_in", defArgs (top 28), defBody (top 28), defScope (top 28), [], []⟩) rfl
    m_answer_in := He.glo_ok X G (c1.fact 18 (f := .glo "answer_in") rfl)
    f_paper_in := c1.def_ 19 (d := ⟨("paper_in", none), "paper_in", "paper_in", defArgs (top 40), defBody (top 40), defScope (top 40), [], []⟩) rfl
    m_paper_in := He.glo_ok X G (c1.fact 19 (f := .glo "paper_in") rfl)
    f_word_sum := c1.def_ 20 (d := ⟨("word_sum", none), "word_sum", "word_sum", defArgs (top 52), defBody (top 52), defScope (top 52), [], []⟩) rfl
    m_word_sum := He.glo_ok X G (c1.fact 20 (f := .glo "word_sum") rfl)
    f_sizes_by_word := c1.def_ 21 (d := ⟨("sizes_by_word", none), "sizes_by_word", "sizes_by_word", defArgs (top 51), defBody (top 51), defScope (top 51), [], []⟩) rfl
    m_sizes_by_word := He.glo_ok X G (c1.fact 21 (f := .glo "sizes_by_word") rfl)
    f_counts_in := c1.def_ 22 (d := ⟨("counts_in", none), "counts_in", "counts_in", defArgs (top 41), defBody (top 41), defScope (top 41), [], []⟩) rfl
    m_counts_in := He.glo_ok X G (c1.fact 22 (f := .glo "counts_in") rfl)
    f_sum_form := c1.def_ 23 (d := ⟨("sum_form", none), "sum_form", "sum_form", defArgs (top 56), defBody (top 56), defScope (top 56), [], []⟩) rfl
    m_sum_form := He.glo_ok X G (c1.fact 23 (f := .glo "sum_form") rfl)
    f_is_tuple_of := c1.def_ 24 (d := ⟨("is_tuple_of", none), "is_tuple_of", "is_tuple_of", defArgs (top 18), defBody (top 18), defScope (top 18), [], []⟩) rfl
    m_is_tuple_of := He.glo_ok X G (c1.fact 24 (f := .glo "is_tuple_of") rfl)
    f_is_rising := c1.def_ 25 (d := ⟨("is_rising", none), "is_rising", "is_rising", defArgs (top 19), defBody (top 19), defScope (top 19), [], []⟩) rfl
    m_is_rising := He.glo_ok X G (c1.fact 25 (f := .glo "is_rising") rfl)
    f_fits_signs := c1.def_ 26 (d := ⟨("fits_signs", none), "fits_signs", "fits_signs", defArgs (top 25), defBody (top 25), defScope (top 25), [], []⟩) rfl
    m_fits_signs := He.glo_ok X G (c1.fact 26 (f := .glo "fits_signs") rfl)
    f_word_by_sizes := c1.def_ 27 (d := ⟨("word_by_sizes", none), "word_by_sizes", "word_by_sizes", defArgs (top 50), defBody (top 50), defScope (top 50), [], []⟩) rfl
    m_word_by_sizes := He.glo_ok X G (c1.fact 27 (f := .glo "word_by_sizes") rfl)
    f_symmetric_by_sums := c1.def_ 28 (d := ⟨("symmetric_by_sums", none), "symmetric_by_sums", "symmetric_by_sums", defArgs (top 57), defBody (top 57), defScope (top 57), [], []⟩) rfl
    m_symmetric_by_sums := He.glo_ok X G (c1.fact 28 (f := .glo "symmetric_by_sums") rfl)
    f_count_symmetric := c1.def_ 29 (d := ⟨("count_symmetric", none), "count_symmetric", "count_symmetric", defArgs (top 58), defBody (top 58), defScope (top 58), [], []⟩) rfl
    m_count_symmetric := He.glo_ok X G (c1.fact 29 (f := .glo "count_symmetric") rfl)
    f_counts_of := c1.def_ 30 (d := ⟨("counts_of", none), "counts_of", "counts_of", defArgs (top 43), defBody (top 43), defScope (top 43), [], []⟩) rfl
    m_counts_of := He.glo_ok X G (c1.fact 30 (f := .glo "counts_of") rfl)
    f_words_of := c1.def_ 31 (d := ⟨("words_of", none), "words_of", "words_of", defArgs (top 53), defBody (top 53), defScope (top 53), [], []⟩) rfl
    m_words_of := He.glo_ok X G (c1.fact 31 (f := .glo "words_of") rfl)
    f_turned_at := c1.def_ 32 (d := ⟨("turned_at", none), "turned_at", "turned_at", defArgs (top 30), defBody (top 30), defScope (top 30), [], []⟩) rfl
    m_turned_at := He.glo_ok X G (c1.fact 32 (f := .glo "turned_at") rfl)
    f_flipped_in := c1.def_ 33 (d := ⟨("flipped_in", none), "flipped_in", "flipped_in", defArgs (top 31), defBody (top 31), defScope (top 31), [], []⟩) rfl
    m_flipped_in := He.glo_ok X G (c1.fact 33 (f := .glo "flipped_in") rfl)
    f_lots_of_signs := c1.def_ 34 (d := ⟨("lots_of_signs", none), "lots_of_signs", "lots_of_signs", defArgs (top 45), defBody (top 45), defScope (top 45), [], []⟩) rfl
    m_lots_of_signs := He.glo_ok X G (c1.fact 34 (f := .glo "lots_of_signs") rfl)
    f_with_flips := c1.def_ 35 (d := ⟨("with_flips", none), "with_flips", "with_flips", defArgs (top 54), defBody (top 54), defScope (top 54), [], []⟩) rfl
    m_with_flips := He.glo_ok X G (c1.fact 35 (f := .glo "with_flips") rfl)
    f_count_with_flips := c1.def_ 36 (d := ⟨("count_with_flips", none), "count_with_flips", "count_with_flips", defArgs (top 59), defBody (top 59), defScope (top 59), [], []⟩) rfl
    m_count_with_flips := He.glo_ok X G (c1.fact 36 (f := .glo "count_with_flips") rfl)
    f__law_rows := c1.def_ 37 (d := ⟨("_law_rows", none), "_law_rows", "_law_rows", defArgs (top 66), defBody (top 66), defScope (top 66), [], []⟩) rfl
    m__law_rows := He.glo_ok X G (c1.fact 37 (f := .glo "_law_rows") rfl)
    f_flip_lots := c1.def_ 38 (d := ⟨("flip_lots", none), "flip_lots", "flip_lots", defArgs (top 46), defBody (top 46), defScope (top 46), [], []⟩) rfl
    m_flip_lots := He.glo_ok X G (c1.fact 38 (f := .glo "flip_lots") rfl)
    f__law_flips_right := c1.def_ 39 (d := ⟨("_law_flips_right", none), "_law_flips_right", "_law_flips_right", defArgs (top 71), defBody (top 71), defScope (top 71), [], []⟩) rfl
    m__law_flips_right := He.glo_ok X G (c1.fact 39 (f := .glo "_law_flips_right") rfl)
    f_fits_word := c1.def_ 40 (d := ⟨("fits_word", none), "fits_word", "fits_word", defArgs (top 36), defBody (top 36), defScope (top 36), [], []⟩) rfl
    m_fits_word := He.glo_ok X G (c1.fact 40 (f := .glo "fits_word") rfl)
    f_need_word := c1.def_ 41 (d := ⟨("need_word", none), "need_word", "need_word", defArgs (top 37), defBody (top 37), defScope (top 37), [], []⟩) rfl
    m_need_word := He.glo_ok X G (c1.fact 41 (f := .glo "need_word") rfl)
    f_function_of_counts := c1.def_ 42 (d := ⟨("function_of_counts", none), "function_of_counts", "function_of_counts", defArgs (top 42), defBody (top 42), defScope (top 42), [], []⟩) rfl
    m_function_of_counts := He.glo_ok X G (c1.fact 42 (f := .glo "function_of_counts") rfl)
    f__law_roll := c1.def_ 43 (d := ⟨("_law_roll", none), "_law_roll", "_law_roll", defArgs (top 62), defBody (top 62), defScope (top 62), [], []⟩) rfl
    m__law_roll := He.glo_ok X G (c1.fact 43 (f := .glo "_law_roll") rfl)
    f__law_choices := c1.def_ 44 (d := ⟨("_law_choices", none), "_law_choices", "_law_choices", defArgs (top 68), defBody (top 68), defScope (top 68), [], []⟩) rfl
    m__law_choices := He.glo_ok X G (c1.fact 44 (f := .glo "_law_choices") rfl)
    f__law_sum := c1.def_ 45 (d := ⟨("_law_sum", none), "_law_sum", "_law_sum", defArgs (top 69), defBody (top 69), defScope (top 69), [], []⟩) rfl
    m__law_sum := He.glo_ok X G (c1.fact 45 (f := .glo "_law_sum") rfl)
    f__law_lots := c1.def_ 46 (d := ⟨("_law_lots", none), "_law_lots", "_law_lots", defArgs (top 67), defBody (top 67), defScope (top 67), [], []⟩) rfl
    m__law_lots := He.glo_ok X G (c1.fact 46 (f := .glo "_law_lots") rfl)
    f_need_alike := c1.def_ 47 (d := ⟨("need_alike", none), "need_alike", "need_alike", defArgs (top 23), defBody (top 23), defScope (top 23), [], []⟩) rfl
    m_need_alike := He.glo_ok X G (c1.fact 47 (f := .glo "need_alike") rfl)
    f_joined_in := c1.def_ 48 (d := ⟨("joined_in", none), "joined_in", "joined_in", defArgs (top 32), defBody (top 32), defScope (top 32), [], []⟩) rfl
    m_joined_in := He.glo_ok X G (c1.fact 48 (f := .glo "joined_in") rfl)
    f_joined := c1.def_ 49 (d := ⟨("joined", none), "joined", "joined", defArgs (top 33), defBody (top 33), defScope (top 33), [], []⟩) rfl
    m_joined := He.glo_ok X G (c1.fact 49 (f := .glo "joined") rfl)
    f__law_some := c1.def_ 50 (d := ⟨("_law_some", none), "_law_some", "_law_some", defArgs (top 63), defBody (top 63), defScope (top 63), [], []⟩) rfl
    m__law_some := He.glo_ok X G (c1.fact 50 (f := .glo "_law_some") rfl)
    f_sign_function := c1.def_ 51 (d := ⟨("sign_function", none), "sign_function", "sign_function", defArgs (top 34), defBody (top 34), defScope (top 34), [], []⟩) rfl
    m_sign_function := He.glo_ok X G (c1.fact 51 (f := .glo "sign_function") rfl)
    f__law_right := c1.def_ 52 (d := ⟨("_law_right", none), "_law_right", "_law_right", defArgs (top 70), defBody (top 70), defScope (top 70), [], []⟩) rfl
    m__law_right := He.glo_ok X G (c1.fact 52 (f := .glo "_law_right") rfl)
    f_law := c1.def_ 53 (d := ⟨("law", none), "law", "law", defArgs (top 72), defBody (top 72), defScope (top 72), [], []⟩) rfl
    m_law := He.glo_ok X G (c1.fact 53 (f := .glo "law") rfl)
  }
end K73
open PySem PySem.W PySem.Calls PyProof.Rows
theorem PySem.Challenge.cw_truthtold_k73_whole_even_sums_holds : PySem.Challenge.rw_truthtold_k73_whole_even_sums.Holds := by
  w_on; o_law
  refine HandSHeadRun.head_any (r := OpenLaw.row PySem.Challenge.rw_truthtold_k73_whole_even_sums) (q := view (OpenLaw.row PySem.Challenge.rw_truthtold_k73_whole_even_sums).prog [72]) (H := K73.hk) (ob := K73.ob) (M := 4000) (loose := K73.loose) (d := HandSHeadRun.topDef (OpenLaw.row PySem.Challenge.rw_truthtold_k73_whole_even_sums).prog 72) (kwd := []) K73.ob_eq
    (by kernel_rfl) (fun s => by kernel_rfl) K73.run (by kernel_rfl) (by kernel_rfl) (by kernel_rfl) (by rfl) (by first | assumption | decide +kernel) (by decide +kernel) ⟨rfl, rfl, rfl, rfl, rfl, by decide +kernel⟩ ?hw ?hc
  case hw => w_witness2
  case hc =>
    refine L2.walk_ofE (l := PySem.Challenge.rw_truthtold_k73_whole_even_sums) (n := 63) (k := 16) (x := "script") (CX := L2.CX0) rfl (by decide) (by kernel_rfl) ⟨rfl, by decide, by decide⟩ ?F (fun _ _ _ _ z => z)
    intro w mg fa h Y G hmg0
    obtain ⟨K, KX, c⟩ := Y
    have FX := K73.fx_of KX G c
    have hmg : mg ("law" : PySem.Str) = some (.ref fa) := by
      have e : (HandSHeadRun.topDef (OpenLaw.row PySem.Challenge.rw_truthtold_k73_whole_even_sums).prog 72).name = ("law" : PySem.Str) := by kernel_rfl
      rw [← e]
      exact hmg0
    have e := hmg.symm.trans FX.m_law
    cases e
    obtain ⟨fd, F⟩ := FX.f_law
    have b := L2.FunD.bindsA (ps := ["script"]) F fun _ _ _ _ _ _ us hl => match us, hl with | [_], _ => rfl
    refine ⟨K, fd, TT.spLaw ⟨K, fun _ => 0⟩, KX, fun s v => b s [v] rfl, fun H a ns hl _ hS => ⟨ns, .ref a, rfl, ?_, fun _ => rfl⟩, fun base _ _ => ?_⟩
    · rcases hS with hS | hS
      · exact .scr (fun z => z) hS hl
      · exact .scrK hS hl
    · exact K73.ok_law (cupOf := K73.cupOf) (P := (PySem.Challenge.rw_truthtold_k73_whole_even_sums).prog) (w := w) (base := base) K73.hlaw K73.hcup FX F
