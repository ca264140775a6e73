import PyProof.Rows.All
import Wide.All
import OpenK.AllK
import Wide.FinOn
import HandS.ForMost
import HandS.ForExc
import HandS.Wide
import HandS.IsInst
import PyProof.StrBlock2
import HandS.SortKw
import HandS.Style
import KE.KMinKey
import HandS.ExcIs
import HandS.TryOnly
import HandS.CallSlots
import HandS.SuiteRaise
import PySem.Challenge.RW_hoistworks_k08_whole_the_least_pull
set_option Elab.async false
set_option linter.all false
set_option maxRecDepth 100000
set_option maxHeartbeats 1000000
namespace Hw
open PySem L2

/-! data as the program's values stand for it -/
inductive Mark where
  | x | f | o
  deriving DecidableEq
inductive D where
  | non
  | bl (b : Bool)
  | int (i : Int)
  | str (s : Str)
  | scr (ns : List Int)
  | ho (m : Mark) (ws : List Int) (tb : List (List Int))
  | lst (m : Mark) (xs : List D)
  | tup (xs : List D)

def Ex (H H' : Hp) : Prop := ∀ a o, H a = some o → H' a = some o
theorem Ex.refl (H : Hp) : Ex H H := fun _ _ h => h
theorem Ex.trans {H H1 H2 : Hp} (a : Ex H H1) (b : Ex H1 H2) : Ex H H2 := fun x o h => b x o (a x o h)
theorem Ex.free {H H' : Hp} (e : Ex H H') {a : Addr} (h : H' a = none) : H a = none := by
  cases q : H a with
  | none => rfl
  | some o => rw [e a o q] at h; cases h
theorem Ex.new {H : Hp} {p : Addr} {o : HO} (h : H p = none) : Ex H (upd H p o) := fun a u e => by
  rw [upd_ne (ne_of_none e h)]; exact e
theorem Ex.mut {H H' : Hp} {p : Addr} {o : HO} (e : Ex H H') (h : H p = none) : Ex H (upd H' p o) := fun a u q => by
  rw [upd_ne (ne_of_none q h)]; exact e a u q

def mkOk (Hf : Hp) (a : Addr) : Mark → Prop
  | .x => True
  | .f => Hf a = none
  | .o => Hf a ≠ none

def hoF (l t : Addr) : List (Str × V) := [("heavy", .ref l), ("table", .ref t)]
/-- a tuple as it stands: tracked, or one of the module's own -/
def TupAt (K : PySem.W.Frag) (H : Hp) (a : Addr) (xs : List V) : Prop := H a = some (.tup xs) ∨ SqT K (fun _ => none) a xs
theorem TupAt.sq {K : PySem.W.Frag} {H : Hp} {a : Addr} {xs : List V} (h : TupAt K H a xs) : SqT K H a xs := by
  rcases h with h | h
  · exact SqT.of h
  · rcases h with (h | ⟨o, h⟩) | h
    · cases h
    · cases h
    · exact .inr h

mutual
def Rp (K : PySem.W.Frag) (C : Addr) (Hf H : Hp) : D → V → Prop
  | .non, v => v = .non
  | .bl b, v => v = .bl b
  | .int i, v => v = .int i
  | .str s, v => v = .str s
  | .scr ns, v => ∃ a, v = .ref a ∧ SqL K H a (ns.map V.int)
  | .ho m ws tb, v => ∃ a dx l t ts, v = .ref a ∧ mkOk Hf a m ∧ mkOk Hf l m ∧ mkOk Hf t m ∧ (∀ b ∈ ts, mkOk Hf b m) ∧ H a = some (.ins C dx (hoF l t)) ∧
      H l = some (.lst (ws.map V.int)) ∧ H t = some (.lst (ts.map V.ref)) ∧ Paired (fun (b : Addr) (r : List Int) => H b = some (.lst (r.map V.int))) ts tb
  | .lst m ds, v => ∃ a xs, v = .ref a ∧ mkOk Hf a m ∧ H a = some (.lst xs) ∧ RpAll K C Hf H ds xs
  | .tup ds, v => ∃ a xs, v = .ref a ∧ TupAt K H a xs ∧ RpAll K C Hf H ds xs
def RpAll (K : PySem.W.Frag) (C : Addr) (Hf H : Hp) : List D → List V → Prop
  | [], vs => vs = []
  | d :: ds, vs => ∃ v r, vs = v :: r ∧ Rp K C Hf H d v ∧ RpAll K C Hf H ds r
end

mutual
/-- the marks forgotten -/
def D.era : D → D
  | .ho _ ws tb => .ho .x ws tb
  | .lst _ ds => .lst .x (eraAll ds)
  | .tup ds => .tup (eraAll ds)
  | .non => .non
  | .bl b => .bl b
  | .int i => .int i
  | .str s => .str s
  | .scr ns => .scr ns
def eraAll : List D → List D
  | [] => []
  | d :: ds => d.era :: eraAll ds
end
mutual
/-- all marks are of new things -/
def D.fr : D → Bool
  | .ho m _ _ => decide (m = .f)
  | .lst m ds => decide (m = .f) && frAll ds
  | .tup ds => frAll ds
  | .scr _ => false
  | _ => true
def frAll : List D → Bool
  | [] => true
  | d :: ds => d.fr && frAll ds
end

section
variable {K : PySem.W.Frag} {C : Addr} {Hf Hf' H H' : Hp}
theorem TupAt.mono {a : Addr} {xs : List V} (e : ∀ a xs, H a = some (.tup xs) → H' a = some (.tup xs)) (h : TupAt K H a xs) : TupAt K H' a xs := h.imp (e a xs) id
theorem paired_imp {α β : Type} {F G : α → β → Prop} (h : ∀ a b, F a b → G a b) : ∀ {l : List α} {m : List β}, Paired F l m → Paired G l m
  | _, _, .nil => .nil
  | _, _, .cons a b => .cons (h _ _ a) (paired_imp h b)
mutual
theorem Rp.mono (e : Ex H H') : ∀ (d : D) (v : V), Rp K C Hf H d v → Rp K C Hf H' d v
  | .non, v, h => h
  | .bl b, v, h => h
  | .int i, v, h => h
  | .str s, v, h => h
  | .scr ns, v, h => by
    obtain ⟨a, q, ho⟩ := h
    refine ⟨a, q, ?_⟩
    rcases ho with (ho | ⟨o, ho⟩) | ho
    · exact .inl (.inl (e _ _ ho))
    · exact .inl (.inr ⟨o, e _ _ ho⟩)
    · exact .inr ho
  | .ho m ws tb, v, h => by
    obtain ⟨a, dx, l, t, ts, q, m1, m2, m3, m4, h1, h2, h3, h4⟩ := h
    exact ⟨a, dx, l, t, ts, q, m1, m2, m3, m4, e _ _ h1, e _ _ h2, e _ _ h3, paired_imp (fun b r q => e _ _ q) h4⟩
  | .lst m ds, v, h => by
    obtain ⟨a, xs, q, mk, h1, h2⟩ := h
    exact ⟨a, xs, q, mk, e _ _ h1, RpAll.mono e ds xs h2⟩
  | .tup ds, v, h => by
    obtain ⟨a, xs, q, h1, h2⟩ := h
    exact ⟨a, xs, q, h1.mono (fun a xs q => e _ _ q), RpAll.mono e ds xs h2⟩
theorem RpAll.mono (e : Ex H H') : ∀ (ds : List D) (vs : List V), RpAll K C Hf H ds vs → RpAll K C Hf H' ds vs
  | [], vs, h => h
  | d :: ds, vs, h => by
    obtain ⟨v, r, q, h1, h2⟩ := h
    exact ⟨v, r, q, Rp.mono e d v h1, RpAll.mono e ds r h2⟩
end
mutual
theorem Rp.era : ∀ (d : D) (v : V), Rp K C Hf H d v → Rp K C Hf' H d.era v
  | .non, v, h => h
  | .bl b, v, h => h
  | .int i, v, h => h
  | .str s, v, h => h
  | .scr ns, v, h => h
  | .ho m ws tb, v, h => by
    obtain ⟨a, dx, l, t, ts, q, m1, m2, m3, m4, h1⟩ := h
    exact ⟨a, dx, l, t, ts, q, trivial, trivial, trivial, fun _ _ => trivial, h1⟩
  | .lst m ds, v, h => by
    obtain ⟨a, xs, q, mk, h1, h2⟩ := h
    exact ⟨a, xs, q, trivial, h1, RpAll.era ds xs h2⟩
  | .tup ds, v, h => by
    obtain ⟨a, xs, q, h1, h2⟩ := h
    exact ⟨a, xs, q, h1, RpAll.era ds xs h2⟩
theorem RpAll.era : ∀ (ds : List D) (vs : List V), RpAll K C Hf H ds vs → RpAll K C Hf' H (eraAll ds) vs
  | [], vs, h => h
  | d :: ds, vs, h => by
    obtain ⟨v, r, q, h1, h2⟩ := h
    exact ⟨v, r, q, Rp.era d v h1, RpAll.era ds r h2⟩
end
/-- what is new stands in the base that the new things join -/
structure Into (H Hf' Hb' H' : Hp) : Prop where
  fr : ∀ a, H a = none → Hf' a = none
  nw : ∀ a o, H a = none → H' a = some o → Hb' a = some o
  tu : ∀ a xs, H' a = some (.tup xs) → Hb' a = some (.tup xs)
theorem mkf {m : Mark} (h : decide (m = .f) = true) {Hf : Hp} {a : Addr} (k : mkOk Hf a m) : Hf a = none := by
  have e : m = .f := of_decide_eq_true h
  subst e
  exact k
mutual
theorem Rp.into {Hb' : Hp} (I : Into H Hf' Hb' H') : ∀ (d : D) (v : V), d.fr = true → Rp K C H H' d v → Rp K C Hf' Hb' d v
  | .non, v, _, h => h
  | .bl b, v, _, h => h
  | .int i, v, _, h => h
  | .str s, v, _, h => h
  | .scr ns, v, f, h => by cases f
  | .ho m ws tb, v, f, h => by
    obtain ⟨a, dx, l, t, ts, q, m1, m2, m3, m4, h1, h2, h3, h4⟩ := h
    have e : m = .f := of_decide_eq_true f
    subst e
    refine ⟨a, dx, l, t, ts, q, I.fr _ m1, I.fr _ m2, I.fr _ m3, fun b hb => I.fr _ (m4 b hb), I.nw _ _ m1 h1, I.nw _ _ m2 h2, I.nw _ _ m3 h3, ?_⟩
    clear h3 f
    induction h4 with
    | nil => exact .nil
    | cons r _ ih => exact .cons (I.nw _ _ (m4 _ List.mem_cons_self) r) (ih fun b hb => m4 b (List.mem_cons_of_mem _ hb))
  | .lst m ds, v, f, h => by
    obtain ⟨a, xs, q, mk, h1, h2⟩ := h
    have f' : (decide (m = .f) && frAll ds) = true := f
    rw [Bool.and_eq_true] at f'
    have e : m = .f := of_decide_eq_true f'.1
    subst e
    exact ⟨a, xs, q, I.fr _ mk, I.nw _ _ mk h1, RpAll.into I ds xs f'.2 h2⟩
  | .tup ds, v, f, h => by
    obtain ⟨a, xs, q, h1, h2⟩ := h
    exact ⟨a, xs, q, h1.mono I.tu, RpAll.into I ds xs f h2⟩
theorem RpAll.into {Hb' : Hp} (I : Into H Hf' Hb' H') : ∀ (ds : List D) (vs : List V), frAll ds = true → RpAll K C H H' ds vs → RpAll K C Hf' Hb' ds vs
  | [], vs, _, h => h
  | d :: ds, vs, f, h => by
    obtain ⟨v, r, q, h1, h2⟩ := h
    have f' : (d.fr && frAll ds) = true := f
    rw [Bool.and_eq_true] at f'
    exact ⟨v, r, q, Rp.into I d v f'.1 h1, RpAll.into I ds r f'.2 h2⟩
end

/-! lists of data -/
theorem RpAll.length : ∀ {ds : List D} {vs : List V}, RpAll K C Hf H ds vs → vs.length = ds.length
  | [], vs, h => by cases h; rfl
  | d :: ds, vs, h => by
    obtain ⟨v, r, rfl, _, h2⟩ := h
    simp [RpAll.length h2]
theorem RpAll.nil : RpAll K C Hf H [] [] := rfl
theorem RpAll.cons {d : D} {ds : List D} {v : V} {vs : List V} (h : Rp K C Hf H d v) (t : RpAll K C Hf H ds vs) : RpAll K C Hf H (d :: ds) (v :: vs) := ⟨v, vs, rfl, h, t⟩
theorem RpAll.one {d : D} {v : V} (h : Rp K C Hf H d v) : RpAll K C Hf H [d] [v] := .cons h .nil
theorem RpAll.get : ∀ {ds : List D} {vs : List V} {i : Nat} {d : D}, RpAll K C Hf H ds vs → ds[i]? = some d → ∃ v, vs[i]? = some v ∧ Rp K C Hf H d v
  | [], _, _, _, _, e => by simp at e
  | d :: ds, vs, 0, d', h, e => by
    obtain ⟨v, r, rfl, h1, _⟩ := h
    simp at e; subst e
    exact ⟨v, rfl, h1⟩
  | d :: ds, vs, i + 1, d', h, e => by
    obtain ⟨v, r, rfl, _, h2⟩ := h
    obtain ⟨u, q, hu⟩ := RpAll.get (i := i) h2 (by simpa using e)
    exact ⟨u, by simpa using q, hu⟩
theorem RpAll.append : ∀ {ds es : List D} {vs us : List V}, RpAll K C Hf H ds vs → RpAll K C Hf H es us → RpAll K C Hf H (ds ++ es) (vs ++ us)
  | [], es, vs, us, h, t => by cases h; exact t
  | d :: ds, es, vs, us, h, t => by
    obtain ⟨v, r, rfl, h1, h2⟩ := h
    exact ⟨v, r ++ us, rfl, h1, RpAll.append h2 t⟩
theorem RpAll.take : ∀ {ds : List D} {vs : List V} (n : Nat), RpAll K C Hf H ds vs → RpAll K C Hf H (ds.take n) (vs.take n)
  | ds, vs, 0, _ => by simp only [List.take_zero]; exact .nil
  | [], vs, n + 1, h => by cases h; exact .nil
  | d :: ds, vs, n + 1, h => by
    obtain ⟨v, r, rfl, h1, h2⟩ := h
    exact ⟨v, r.take n, rfl, h1, RpAll.take n h2⟩
theorem RpAll.drop : ∀ {ds : List D} {vs : List V} (n : Nat), RpAll K C Hf H ds vs → RpAll K C Hf H (ds.drop n) (vs.drop n)
  | ds, vs, 0, h => h
  | [], vs, n + 1, h => by cases h; exact .nil
  | d :: ds, vs, n + 1, h => by
    obtain ⟨v, r, rfl, h1, h2⟩ := h
    exact RpAll.drop n h2
theorem RpAll.set : ∀ {ds : List D} {vs : List V} (n : Nat) {d : D} {v : V}, RpAll K C Hf H ds vs → Rp K C Hf H d v → RpAll K C Hf H (ds.set n d) (vs.set n v)
  | [], vs, n, d, v, h, _ => by cases h; exact .nil
  | _ :: ds, vs, 0, d, v, h, q => by
    obtain ⟨_, r, rfl, _, h2⟩ := h
    exact ⟨v, r, rfl, q, h2⟩
  | _ :: ds, vs, n + 1, d, v, h, q => by
    obtain ⟨u, r, rfl, h1, h2⟩ := h
    exact ⟨u, r.set n v, rfl, h1, RpAll.set n h2 q⟩
theorem RpAll.reverse {ds : List D} {vs : List V} (h : RpAll K C Hf H ds vs) : RpAll K C Hf H ds.reverse vs.reverse := by
  induction ds generalizing vs with
  | nil => cases h; exact .nil
  | cons d ds ih =>
    obtain ⟨v, r, rfl, h1, h2⟩ := h
    rw [List.reverse_cons, List.reverse_cons]
    exact (ih h2).append (.one h1)
theorem RpAll.ints : ∀ {ns : List Int} {vs : List V}, RpAll K C Hf H (ns.map D.int) vs → vs = ns.map V.int
  | [], vs, h => h
  | n :: ns, vs, h => by
    obtain ⟨v, r, rfl, h1, h2⟩ := h
    have e : v = V.int n := h1
    rw [e, RpAll.ints h2]; rfl
theorem RpAll.of_ints : ∀ (ns : List Int), RpAll K C Hf H (ns.map D.int) (ns.map V.int)
  | [] => .nil
  | n :: ns => .cons rfl (RpAll.of_ints ns)
theorem RpAll.strs : ∀ {ns : List Str} {vs : List V}, RpAll K C Hf H (ns.map D.str) vs → vs = ns.map V.str
  | [], vs, h => h
  | n :: ns, vs, h => by
    obtain ⟨v, r, rfl, h1, h2⟩ := h
    have e : v = V.str n := h1
    rw [e, RpAll.strs h2]; rfl
theorem RpAll.of_strs : ∀ (ns : List Str), RpAll K C Hf H (ns.map D.str) (ns.map V.str)
  | [] => .nil
  | n :: ns => .cons rfl (RpAll.of_strs ns)
theorem eraAll_map {α : Type} (f g : α → D) (h : ∀ a, (f a).era = g a) : ∀ l : List α, eraAll (l.map f) = l.map g
  | [] => rfl
  | a :: l => by
    show (f a).era :: eraAll (l.map f) = g a :: l.map g
    rw [h a, eraAll_map f g h l]
theorem frAll_map {α : Type} (f : α → D) (h : ∀ a, (f a).fr = true) : ∀ l : List α, frAll (l.map f) = true
  | [] => rfl
  | a :: l => by
    show ((f a).fr && frAll (l.map f)) = true
    rw [h a, frAll_map f h l]; rfl
end

/-! the frame's names, as data -/
inductive Fld where
  | dat (d : D)
  | own (xs : List D)
inductive Cell where
  | un
  | any
  | dat (d : D)
  | own (xs : List D)
  | ob (a : Addr) (C : Addr) (fs : List (Str × Fld))
  | rd (a : Addr) (C : Addr) (fs : List (Str × Fld))
  | tp (a : Addr) (fs : List (Str × Fld))
  | val (v : V)
  | raw (a : Addr) (vs : List V)
  | nt (a b : Addr) (fs : List (Str × Fld)) (ks : List D)

def FldsOk (K : PySem.W.Frag) (C : Addr) (Hf Hb H : Hp) : List Addr → List (Str × Fld) → List (Str × V) → Prop
  | l, [], vs => l = [] ∧ vs = []
  | l, (n, .dat d) :: fs, vs => ∃ v r, vs = (n, v) :: r ∧ Rp K C Hf Hb d v ∧ FldsOk K C Hf Hb H l fs r
  | l, (n, .own xs) :: fs, vs => ∃ p us r l', vs = (n, .ref p) :: r ∧ l = p :: l' ∧ H p = some (.lst us) ∧ RpAll K C Hf Hb xs us ∧ FldsOk K C Hf Hb H l' fs r
def CellOk (K : PySem.W.Frag) (C : Addr) (Hf Hb H : Hp) (l : List Addr) (s : Option V) : Cell → Prop
  | .un => l = [] ∧ s = none
  | .any => l = []
  | .dat d => l = [] ∧ ∃ v, s = some v ∧ Rp K C Hf Hb d v
  | .own xs => ∃ p us, l = [p] ∧ s = some (.ref p) ∧ H p = some (.lst us) ∧ RpAll K C Hf Hb xs us
  | .ob a C' fs => ∃ dx vs l', l = a :: l' ∧ s = some (.ref a) ∧ H a = some (.ins C' dx vs) ∧ FldsOk K C Hf Hb H l' fs vs
  | .rd a C' fs => ∃ dx vs l', l = [] ∧ s = some (.ref a) ∧ Hb a = some (.ins C' dx vs) ∧ FldsOk K C Hf Hb Hb l' fs vs
  | .tp a fs => ∃ vs, s = some (.ref a) ∧ H a = some (.tup (vs.map (·.2))) ∧ FldsOk K C Hf Hb H l fs vs
  | .val v => l = [] ∧ s = some v
  | .raw a vs => l = [] ∧ s = some (.ref a) ∧ Hb a = some (.tup vs)
  | .nt a b fs ks => ∃ vs p us l', l = p :: l' ∧ s = some (.ref a) ∧ H a = some (.tup [.ref b, .ref p]) ∧ H b = some (.tup (vs.map (·.2))) ∧ H p = some (.lst us) ∧ RpAll K C Hf Hb ks us ∧ FldsOk K C Hf Hb H l' fs vs

structure EnvB (K : PySem.W.Frag) (C : Addr) (Hf H0 Hb H : Hp) (L : List (List Addr)) (σ : St) (ρ : List Cell) : Prop where
  e0 : Ex H0 Hb
  e1 : Ex Hb H
  ef : Ex Hf H
  nw : ∀ a o, Hb a = some o → H0 a = some o ∨ Hf a = none
  tu : ∀ a xs, H a = some (.tup xs) → Hb a = some (.tup xs)
  len : σ.length = ρ.length
  lel : L.length = ρ.length
  cell : ∀ (i : Nat) (c : Cell), ρ[i]? = some c → ∃ s l, σ[i]? = some s ∧ L[i]? = some l ∧ CellOk K C Hf Hb H l s c
  dis : ∀ (i j : Nat) (li lj : List Addr) (a : Addr), L[i]? = some li → L[j]? = some lj → a ∈ li → a ∈ lj → i = j
  nd : ∀ (i : Nat) (l : List Addr), L[i]? = some l → l.Nodup
  fr : ∀ (i : Nat) (l : List Addr) (a : Addr), L[i]? = some l → a ∈ l → Hb a = none ∧ Hf a = none ∧ H a ≠ none
structure Step (Hb H Hb' H' : Hp) : Prop where
  hb : Ex Hb Hb'
  h : Ex H H'
  bh : Ex Hb' H'
  nw : ∀ a o, Hb' a = some o → Hb a = some o ∨ H a = none
  tu : ∀ a xs, H' a = some (.tup xs) → Hb' a = some (.tup xs)
section
variable {K : PySem.W.Frag} {C : Addr} {Hf H0 Hb H Hb' H' Hb'' H'' : Hp} {L : List (List Addr)} {σ : St} {ρ : List Cell}
theorem EnvB.step0 (E : EnvB K C Hf H0 Hb H L σ ρ) : Step Hb H Hb H := ⟨.refl _, .refl _, E.e1, fun _ _ h => .inl h, E.tu⟩
theorem Step.trans (a : Step Hb H Hb' H') (b : Step Hb' H' Hb'' H'') : Step Hb H Hb'' H'' :=
  ⟨a.hb.trans b.hb, a.h.trans b.h, b.bh, fun x o q => by
    rcases b.nw x o q with z | z
    · exact a.nw x o z
    · exact .inr (a.h.free z), b.tu⟩
theorem FldsOk.mono (eb : Ex Hb Hb') (e : Ex H H') : ∀ {fs : List (Str × Fld)} {l : List Addr} {vs : List (Str × V)}, FldsOk K C Hf Hb H l fs vs → FldsOk K C Hf Hb' H' l fs vs
  | [], l, vs, h => h
  | (n, .dat d) :: fs, l, vs, h => by
    obtain ⟨v, r, q, h1, h2⟩ := h
    exact ⟨v, r, q, Rp.mono eb d v h1, FldsOk.mono eb e h2⟩
  | (n, .own xs) :: fs, l, vs, h => by
    obtain ⟨p, us, r, l', q, q2, h0, h1, h2⟩ := h
    exact ⟨p, us, r, l', q, q2, e _ _ h0, RpAll.mono eb xs us h1, FldsOk.mono eb e h2⟩
theorem CellOk.mono (eb : Ex Hb Hb') (e : Ex H H') {l : List Addr} {s : Option V} : ∀ {c : Cell}, CellOk K C Hf Hb H l s c → CellOk K C Hf Hb' H' l s c
  | .un, h => h
  | .any, h => h
  | .dat d, h => by
    obtain ⟨q, v, q2, h1⟩ := h
    exact ⟨q, v, q2, Rp.mono eb d v h1⟩
  | .own xs, h => by
    obtain ⟨p, us, q, q2, h0, h1⟩ := h
    exact ⟨p, us, q, q2, e _ _ h0, RpAll.mono eb xs us h1⟩
  | .ob a C' fs, h => by
    obtain ⟨dx, vs, l', q, q2, h0, h1⟩ := h
    exact ⟨dx, vs, l', q, q2, e _ _ h0, FldsOk.mono eb e h1⟩
  | .rd a C' fs, h => by
    obtain ⟨dx, vs, l', q, q2, h0, h1⟩ := h
    exact ⟨dx, vs, l', q, q2, eb _ _ h0, FldsOk.mono eb eb h1⟩
  | .tp a fs, h => by
    obtain ⟨vs, q, h0, h1⟩ := h
    exact ⟨vs, q, e _ _ h0, FldsOk.mono eb e h1⟩
  | .val v, h => h
  | .raw a vs, h => ⟨h.1, h.2.1, eb _ _ h.2.2⟩
  | .nt a b fs ks, h => by
    obtain ⟨vs, p, us, l', q, q2, h0, h1, h2, h3, h4⟩ := h
    exact ⟨vs, p, us, l', q, q2, e _ _ h0, e _ _ h1, e _ _ h2, RpAll.mono eb ks us h3, FldsOk.mono eb e h4⟩
theorem EnvB.step (E : EnvB K C Hf H0 Hb H L σ ρ) (S : Step Hb H Hb' H') : EnvB K C Hf H0 Hb' H' L σ ρ where
  e0 := E.e0.trans S.hb
  e1 := S.bh
  ef := E.ef.trans S.h
  nw := fun a o q => by
    rcases S.nw a o q with z | z
    · exact E.nw a o z
    · exact .inr (E.ef.free z)
  tu := S.tu
  len := E.len
  lel := E.lel
  cell := fun i c q => by
    obtain ⟨s, l, h1, h2, h3⟩ := E.cell i c q
    exact ⟨s, l, h1, h2, h3.mono S.hb S.h⟩
  dis := E.dis
  nd := E.nd
  fr := fun i l a q m => by
    obtain ⟨h1, h2, h3⟩ := E.fr i l a q m
    refine ⟨?_, h2, fun z => h3 (S.h.free z)⟩
    cases q : Hb' a with
    | none => rfl
    | some o =>
      rcases S.nw a o q with z | z
      · rw [h1] at z; cases z
      · exact absurd z h3
/-- a call that changed nothing that stood: the base takes what is new -/
def joinH (H Hb H' : Hp) : Hp := fun a => if (H a).isNone then H' a else Hb a
theorem EnvB.join (E : EnvB K C Hf H0 Hb H L σ ρ) (e : Ex H H') : Step Hb H (joinH H Hb H') H' where
  hb := fun a o q => by
    unfold joinH
    rw [E.e1 a o q]
    exact q
  h := e
  bh := fun a o q => by
    unfold joinH at q
    by_cases z : H a = none
    · rw [z] at q; exact q
    · cases w : H a with
      | none => exact absurd w z
      | some u =>
        rw [w] at q
        have q' : Hb a = some o := q
        exact e _ _ (E.e1 _ _ q')
  nw := fun a o q => by
    unfold joinH at q
    cases w : H a with
    | none => exact .inr rfl
    | some u => rw [w] at q; exact .inl q
  tu := fun a xs q => by
    unfold joinH
    cases w : H a with
    | none => exact q
    | some u =>
      have z := e _ _ w
      rw [q] at z
      have z' : u = .tup xs := (Option.some.inj z).symm
      rw [z'] at w
      exact E.tu a xs w
theorem EnvB.joinInto (E : EnvB K C Hf H0 Hb H L σ ρ) (e : Ex H H') : Into H Hf (joinH H Hb H') H' where
  fr := fun a q => E.ef.free q
  nw := fun a o q z => by
    unfold joinH
    rw [q]; exact z
  tu := (E.join e).tu
end

/-! what readings evaluate to -/
section
variable (K : PySem.W.Frag) (C : Addr)
/-- the value stands for d; nothing that is owned is part of it -/
def EvD (te : TE) (ρ : List Cell) (d : D) : Prop := ∀ Hf H0 Hb H L σ, EnvB K C Hf H0 Hb H L σ ρ → ∀ Q : VK, (∀ v Hb' H', Step Hb H Hb' H' → Rp K C Hf Hb' d v → Q v H') → te σ H Q
/-- the value stands for d as the heap is now -/
def EvR (te : TE) (ρ : List Cell) (d : D) : Prop := ∀ Hf H0 Hb H L σ, EnvB K C Hf H0 Hb H L σ ρ → ∀ Q : VK, (∀ v Hb' H', Step Hb H Hb' H' → Rp K C Hf H' d v → Q v H') → te σ H Q
/-- a list, its items not owned -/
def EvS (te : TE) (ρ : List Cell) (xs : List D) : Prop := ∀ Hf H0 Hb H L σ, EnvB K C Hf H0 Hb H L σ ρ → ∀ Q : VK, (∀ p us Hb' H', Step Hb H Hb' H' → H' p = some (.lst us) → RpAll K C Hf Hb' xs us → Q (.ref p) H') → te σ H Q
/-- a new list -/
def EvL (te : TE) (ρ : List Cell) (xs : List D) : Prop := ∀ Hf H0 Hb H L σ, EnvB K C Hf H0 Hb H L σ ρ → ∀ Q : VK, (∀ p us Hb' H', Step Hb H Hb' H' → H p = none → Hb' p = none → H' p = some (.lst us) → RpAll K C Hf Hb' xs us → Q (.ref p) H') → te σ H Q
/-- a test -/
def EvB (t : TT) (ρ : List Cell) (b : Bool) : Prop := ∀ Hf H0 Hb H L σ, EnvB K C Hf H0 Hb H L σ ρ → ∀ Q : Bool → Hp → Prop, (∀ Hb' H', Step Hb H Hb' H' → Q b H') → t σ H Q
/-- arguments: as the heap is now -/
def EvA (ta : TA) (ρ : List Cell) (ds : List D) : Prop := ∀ Hf H0 Hb H L σ, EnvB K C Hf H0 Hb H L σ ρ → ∀ Q : List V → Hp → Prop, (∀ vs Hb' H', Step Hb H Hb' H' → RpAll K C Hf H' ds vs → Q vs H') → ta σ H Q
/-- arguments, none owned -/
def EvAD (ta : TA) (ρ : List Cell) (ds : List D) : Prop := ∀ Hf H0 Hb H L σ, EnvB K C Hf H0 Hb H L σ ρ → ∀ Q : List V → Hp → Prop, (∀ vs Hb' H', Step Hb H Hb' H' → RpAll K C Hf Hb' ds vs → Q vs H') → ta σ H Q
/-- a block, from names that stand so -/
def Go (Hf H0 : Hp) (t : TS) (Dn : Ends) (ρ : List Cell) : Prop := ∀ Hb H L σ, EnvB K C Hf H0 Hb H L σ ρ → t Dn σ H
end
end Hw
namespace Hw
open PySem L2

/-! operators by kind -/
def xAdd : TE → TE → TE := tOp (rI0 fun i j => .int (i + j))
def xSub : TE → TE → TE := tOp (rI0 fun i j => .int (i - j))
def xMul : TE → TE → TE := tOp (rI CMulW fun i j => .int (i * j))
def xDiv : TE → TE → TE := tOp (rI CDivW fun i j => .int (i / j))
def xMod : TE → TE → TE := tOp (rI (fun _ j => 0 < j) fun i j => .int (i % j))
def xPow : TE → TE → TE := tOp (rI CPow fun i j => .int (i ^ j.toNat))
def xNeg : TE → TE := tUn (rU fun i => .int (-i))
def xLt : TE → TE → TE := tOp (rI0 fun i j => .bl (decide (i < j)))
def xLe : TE → TE → TE := tOp (rI0 fun i j => .bl (decide (i ≤ j)))
def xGt : TE → TE → TE := tOp (rI0 fun i j => .bl (decide (j < i)))
def xGe : TE → TE → TE := tOp (rI0 fun i j => .bl (decide (j ≤ i)))
def xEq (K : PySem.W.Frag) : TE → TE → TE := tOp (rEqD K)
def xNe (K : PySem.W.Frag) : TE → TE → TE := tOp (rNeD K)
def rIsNn : R2 := fun x y H Q => y = .non ∧ Q (.bl (decide (x = .non))) H
def rNotNn : R2 := fun x y H Q => y = .non ∧ Q (.bl (!decide (x = .non))) H
def xIsN (a : TE) : TE := tOp rIsNn a (tC .non)
def xNotN (a : TE) : TE := tOp rNotNn a (tC .non)
def rLe0 : R2 := rI0 fun i j => .bl (decide (i ≤ j))
def rLt0 : R2 := rI0 fun i j => .bl (decide (i < j))
/-- a <= b < c, a <= b <= c -/
def xLeLt : TE → TE → TE → TE := tChain rLe0 rLt0
def xLeLe : TE → TE → TE → TE := tChain rLe0 rLe0
def xLtLt : TE → TE → TE → TE := tChain rLt0 rLt0
def xIdx (K : PySem.W.Frag) : TE → TE → TE := tOp (rIx K)
def xCat : TE → TE → TE := tOp rCat
def xRep : TE → TE → TE := tOp rRep
def rCatS : R2 := fun x y H Q => ∃ i j, x = .str i ∧ y = .str j ∧ i.length + j.length ≤ sizeLine ∧ Q (.str (i ++ j)) H
def xCatS : TE → TE → TE := tOp rCatS
def rLenU (K : PySem.W.Frag) : List V → Hp → VK → Prop := fun xs H Q => ∃ x n, xs = [x] ∧ LenV K x H n ∧ Q (.int n) H
def xLen (K : PySem.W.Frag) (a : TE) : TE := tCB (rLenU K) (tCons a tNil)
def rAbs : List V → Hp → VK → Prop := fun xs H Q => ∃ i, xs = [.int i] ∧ Q (.int (if i < 0 then -i else i)) H
def xAbs (a : TE) : TE := tCB rAbs (tCons a tNil)
def rInt1 : List V → Hp → VK → Prop := fun xs H Q => (∃ i, xs = [.int i] ∧ Q (.int i) H) ∨ ∃ k, xs = [.bl k] ∧ Q (.int (if k then 1 else 0)) H
def rIntS : List V → Hp → VK → Prop := fun xs H Q => ∃ a n, xs = [.str a] ∧ PySem.intText? a = some n ∧ a.length ≤ 640 ∧ Q (.int n) H
def xInt (a : TE) : TE := tCB (fun xs H Q => rInt1 xs H Q ∨ rIntS xs H Q) (tCons a tNil)
/-- isinstance(x, T), T a built-in type's name -/
def xIsi (K : PySem.W.Frag) (n : String) (a : TE) : TE := tCB (rIsi K) (tCons a (tCons (tC (.ty n)) tNil))
section
variable {X : Cx} {a b c : Expr} {ta tb tc : TE} {pos : Pos}
theorem pe_xAdd (ha : PE X a ta) (hb : PE X b tb) : PE X (.BinOp a .Add b pos) (xAdd ta tb) := pe_op op_add ha hb
theorem pe_xSub (ha : PE X a ta) (hb : PE X b tb) : PE X (.BinOp a .Sub b pos) (xSub ta tb) := pe_op op_sub ha hb
theorem pe_xMul (ha : PE X a ta) (hb : PE X b tb) : PE X (.BinOp a .Mult b pos) (xMul ta tb) := pe_op op_mulW ha hb
theorem pe_xDiv (ha : PE X a ta) (hb : PE X b tb) : PE X (.BinOp a .FloorDiv b pos) (xDiv ta tb) := pe_op op_fdivW ha hb
theorem pe_xMod (ha : PE X a ta) (hb : PE X b tb) : PE X (.BinOp a .Mod b pos) (xMod ta tb) := pe_op op_mod ha hb
theorem pe_xPow (ha : PE X a ta) (hb : PE X b tb) : PE X (.BinOp a .Pow b pos) (xPow ta tb) := pe_op op_pow ha hb
theorem pe_xNeg (ha : PE X a ta) : PE X (.UnaryOp .USub a pos) (xNeg ta) := pe_un un_neg ha
theorem pe_xCat (ha : PE X a ta) (hb : PE X b tb) : PE X (.BinOp a .Add b pos) (xCat ta tb) := pe_op op_cat ha hb
theorem pe_xRep (ha : PE X a ta) (hb : PE X b tb) : PE X (.BinOp a .Mult b pos) (xRep ta tb) := pe_op op_rep ha hb
theorem pe_xCatS (ha : PE X a ta) (hb : PE X b tb) : PE X (.BinOp a .Add b pos) (xCatS ta tb) := pe_op op_add_str ha hb
theorem pe_xLt (ha : PE X a ta) (hb : PE X b tb) : PE X (.Compare a [.Lt] [b] pos) (xLt ta tb) := pe_cmpR op_lt ha hb (nomark _)
theorem pe_xLe (ha : PE X a ta) (hb : PE X b tb) : PE X (.Compare a [.LtE] [b] pos) (xLe ta tb) := pe_cmpR op_le ha hb (nomark _)
theorem pe_xGt (ha : PE X a ta) (hb : PE X b tb) : PE X (.Compare a [.Gt] [b] pos) (xGt ta tb) := pe_cmpR op_gt ha hb (nomark _)
theorem pe_xGe (ha : PE X a ta) (hb : PE X b tb) : PE X (.Compare a [.GtE] [b] pos) (xGe ta tb) := pe_cmpR op_ge ha hb (nomark _)
theorem pe_xEq {k : Nat} (hr : Room k X.A) (ha : PE X a ta) (hb : PE X b tb) : PE X (.Compare a [.Eq] [b] pos) (xEq X.K ta tb) := pe_cmpR (op_eqD hr.units) ha hb (nomark _)
theorem pe_xNe {k : Nat} (hr : Room k X.A) (ha : PE X a ta) (hb : PE X b tb) : PE X (.Compare a [.NotEq] [b] pos) (xNe X.K ta tb) := pe_cmpR (op_neD hr.units) ha hb (nomark _)
theorem pe_xIsN {j p} (ha : PE X a ta) : PE X (.Compare a [.Is] [.Constant .none j p] pos) (xIsN ta) := pe_cmpR op_isN ha pe_non (nomark _)
theorem pe_xNotN {j p} (ha : PE X a ta) : PE X (.Compare a [.IsNot] [.Constant .none j p] pos) (xNotN ta) := pe_cmpR op_notN ha pe_non (nomark _)
theorem pt_xLt (ha : PE X a ta) (hb : PE X b tb) : PT X (.Compare a [.Lt] [b] pos) (tB (xLt ta tb)) := pt_cmpR op_lt ha hb (nomark _)
theorem pt_xLe (ha : PE X a ta) (hb : PE X b tb) : PT X (.Compare a [.LtE] [b] pos) (tB (xLe ta tb)) := pt_cmpR op_le ha hb (nomark _)
theorem pt_xGt (ha : PE X a ta) (hb : PE X b tb) : PT X (.Compare a [.Gt] [b] pos) (tB (xGt ta tb)) := pt_cmpR op_gt ha hb (nomark _)
theorem pt_xGe (ha : PE X a ta) (hb : PE X b tb) : PT X (.Compare a [.GtE] [b] pos) (tB (xGe ta tb)) := pt_cmpR op_ge ha hb (nomark _)
theorem pt_xEq {k : Nat} (hr : Room k X.A) (ha : PE X a ta) (hb : PE X b tb) : PT X (.Compare a [.Eq] [b] pos) (tB (xEq X.K ta tb)) := pt_cmpR (op_eqD hr.units) ha hb (nomark _)
theorem pt_xNe {k : Nat} (hr : Room k X.A) (ha : PE X a ta) (hb : PE X b tb) : PT X (.Compare a [.NotEq] [b] pos) (tB (xNe X.K ta tb)) := pt_cmpR (op_neD hr.units) ha hb (nomark _)
theorem pt_xIsN {j p} (ha : PE X a ta) : PT X (.Compare a [.Is] [.Constant .none j p] pos) (tB (xIsN ta)) := pt_cmpR op_isN ha pe_non (nomark _)
theorem pt_xNotN {j p} (ha : PE X a ta) : PT X (.Compare a [.IsNot] [.Constant .none j p] pos) (tB (xNotN ta)) := pt_cmpR op_notN ha pe_non (nomark _)
theorem pe_xLeLt (ha : PE X a ta) (hb : PE X b tb) (hc : PE X c tc) (hm : lastMarks [.LtE, .Lt] [b, c] = false := by with_unfolding_all rfl) : PE X (.Compare a [.LtE, .Lt] [b, c] pos) (xLeLt ta tb tc) := pe_chain op_le op_lt ha hb hc hm
theorem pe_xLeLe (ha : PE X a ta) (hb : PE X b tb) (hc : PE X c tc) (hm : lastMarks [.LtE, .LtE] [b, c] = false := by with_unfolding_all rfl) : PE X (.Compare a [.LtE, .LtE] [b, c] pos) (xLeLe ta tb tc) := pe_chain op_le op_le ha hb hc hm
theorem pe_xLtLt (ha : PE X a ta) (hb : PE X b tb) (hc : PE X c tc) (hm : lastMarks [.Lt, .Lt] [b, c] = false := by with_unfolding_all rfl) : PE X (.Compare a [.Lt, .Lt] [b, c] pos) (xLtLt ta tb tc) := pe_chain op_lt op_lt ha hb hc hm
theorem pt_xLeLt (ha : PE X a ta) (hb : PE X b tb) (hc : PE X c tc) (hm : lastMarks [.LtE, .Lt] [b, c] = false := by with_unfolding_all rfl) : PT X (.Compare a [.LtE, .Lt] [b, c] pos) (tB (xLeLt ta tb tc)) := pt_chain op_le op_lt ha hb hc hm
theorem pt_xLeLe (ha : PE X a ta) (hb : PE X b tb) (hc : PE X c tc) (hm : lastMarks [.LtE, .LtE] [b, c] = false := by with_unfolding_all rfl) : PT X (.Compare a [.LtE, .LtE] [b, c] pos) (tB (xLeLe ta tb tc)) := pt_chain op_le op_le ha hb hc hm
theorem pt_xLtLt (ha : PE X a ta) (hb : PE X b tb) (hc : PE X c tc) (hm : lastMarks [.Lt, .Lt] [b, c] = false := by with_unfolding_all rfl) : PT X (.Compare a [.Lt, .Lt] [b, c] pos) (tB (xLtLt ta tb tc)) := pt_chain op_lt op_lt ha hb hc hm
theorem pe_xIdx (ha : PE X a ta) (hb : PE X b tb) (hs : PlainIx b := by exact fun _ _ => rfl) : PE X (.Subscript a b pos) (xIdx X.K ta tb) := pe_ix ix_seq ha hb hs
theorem pe_xLen {p} (hm : X.mg "len" = none) (ha : PE X a ta) (hg : Gl X "len" := by rfl) (he : starEach (a :: []) X.env = (false, eval a X.env) :: starEach [] X.env := by rfl) : PE X (.Call (.Name "len" p) [a] [] pos) (xLen X.K ta) :=
  pe_callB call_len hg hm boot_len (pa_cons ha pa_nil he) (he := he)
theorem pe_xAbs {p} (hm : X.mg "abs" = none) (ha : PE X a ta) (hg : Gl X "abs" := by rfl) (he : starEach (a :: []) X.env = (false, eval a X.env) :: starEach [] X.env := by rfl) : PE X (.Call (.Name "abs" p) [a] [] pos) (xAbs ta) :=
  pe_callB call_abs hg hm (by decide +kernel) (pa_cons ha pa_nil he) (he := he)
theorem pe_xInt {p} (hm : X.mg "int" = none) (ha : PE X a ta) (hg : Gl X "int" := by rfl) (he : starEach (a :: []) X.env = (false, eval a X.env) :: starEach [] X.env := by rfl) : PE X (.Call (.Name "int" p) [a] [] pos) (xInt ta) :=
  pe_callTy (CallR.or call_int1 call_int_str) hg hm (by decide +kernel) (pa_cons ha pa_nil he) (he := he)
theorem pe_xIsi {p p2} {n : String} {x : Str} (hm : X.mg "isinstance" = none) (hn : X.mg x = none) (hv : bootBuiltins x = some (.type n)) (ha : PE X a ta) (hg : Gl X "isinstance" := by rfl) (hx : Gl X x := by rfl) (hxn : x ≠ "__name__" := by decide)
    (hdb : (x == ("__debug__" : Str)) = false := by decide)
    (he : starEach (a :: [.Name x p2]) X.env = (false, eval a X.env) :: starEach [.Name x p2] X.env := by rfl) (he2 : starEach [.Name x p2] X.env = (false, eval (.Name x p2) X.env) :: starEach [] X.env := by rfl) (hpl : (backTo pos (starEach [.Name x p2] X.env)).any (·.1) = false := by rfl) :
    PE X (.Call (.Name "isinstance" p) [a, .Name x p2] [] pos) (xIsi X.K n ta) :=
  pe_callB call_isi hg hm (by decide +kernel) (pa_cons ha (pa_cons (pe_bltn hx hn hv rfl hxn hdb) pa_nil he2) he) (he := he) (hpl := hpl)
end
end Hw
namespace Hw
open PySem L2

section
variable {K : PySem.W.Frag} {C : Addr} {ρ : List Cell} {te ta tb tc : TE} {t u : TT} {d d' : D} {xs ys : List D} {m n k : Int}
/-! from one kind of knowing to another -/
theorem EvD.r (h : EvD K C te ρ d) : EvR K C te ρ d := fun Hf H0 Hb H L σ E Q q => h Hf H0 Hb H L σ E Q fun v Hb' H' S r => q v Hb' H' S (Rp.mono S.bh d v r)
theorem EvD.s {mk : Mark} (h : EvD K C te ρ (.lst mk xs)) : EvS K C te ρ xs := fun Hf H0 Hb H L σ E Q q => h Hf H0 Hb H L σ E Q fun v Hb' H' S r => by
  obtain ⟨a, us, rfl, _, h1, h2⟩ := r
  exact q a us Hb' H' S (S.bh _ _ h1) h2
theorem EvL.s (h : EvL K C te ρ xs) : EvS K C te ρ xs := fun Hf H0 Hb H L σ E Q q => h Hf H0 Hb H L σ E Q fun p us Hb' H' S _ _ h1 h2 => q p us Hb' H' S h1 h2
theorem EvL.dat (h : EvL K C te ρ xs) : EvD K C te ρ (.lst .f xs) := fun Hf H0 Hb H L σ E Q q => h Hf H0 Hb H L σ E Q fun p us Hb' H' S n1 n2 h1 h2 => by
  refine q (.ref p) (upd Hb' p (.lst us)) H' ⟨S.hb.mut (E.e1.free n1), S.h, fun a o w => ?_, fun a o w => ?_, fun a ys w => ?_⟩ ⟨p, us, rfl, E.ef.free n1, upd_same, RpAll.mono (Ex.new n2) xs us h2⟩
  · by_cases z : a = p
    · subst z; rw [upd_same] at w; cases w; exact h1
    · rw [upd_ne z] at w; exact S.bh _ _ w
  · by_cases z : a = p
    · subst z; exact .inr n1
    · rw [upd_ne z] at w; exact S.nw _ _ w
  · rw [upd_ne (fun z => by subst z; rw [h1] at w; cases w)]
    exact S.tu _ _ w
theorem EvS.r (h : EvS K C te ρ xs) : EvR K C te ρ (.lst .x xs) := fun Hf H0 Hb H L σ E Q q => h Hf H0 Hb H L σ E Q fun p us Hb' H' S h1 h2 => q _ Hb' H' S ⟨p, us, rfl, trivial, h1, RpAll.mono S.bh xs us h2⟩
theorem EvR.era (h : EvR K C te ρ d) : EvR K C te ρ d.era := fun Hf H0 Hb H L σ E Q q => h Hf H0 Hb H L σ E Q fun v Hb' H' S r => q v Hb' H' S (Rp.era d v r)
theorem EvD.era (h : EvD K C te ρ d) : EvD K C te ρ d.era := fun Hf H0 Hb H L σ E Q q => h Hf H0 Hb H L σ E Q fun v Hb' H' S r => q v Hb' H' S (Rp.era d v r)
theorem EvR.to (h : EvR K C te ρ d) (e : d = d') : EvR K C te ρ d' := e ▸ h
theorem EvD.to (h : EvD K C te ρ d) (e : d = d') : EvD K C te ρ d' := e ▸ h
theorem EvS.to (h : EvS K C te ρ xs) (e : xs = ys) : EvS K C te ρ ys := e ▸ h
theorem EvL.to (h : EvL K C te ρ xs) (e : xs = ys) : EvL K C te ρ ys := e ▸ h
theorem EvB.to {b b' : Bool} (h : EvB K C t ρ b) (e : b = b') : EvB K C t ρ b' := e ▸ h
/-! names, constants -/
theorem ed_var {i : Nat} (h : ρ[i]? = some (.dat d)) : EvD K C (tVar i) ρ d := fun Hf H0 Hb H L σ E Q q => by
  obtain ⟨s, l, h1, _, _, v, rfl, h2⟩ := E.cell i _ h
  exact ⟨v, h1, q v Hb H E.step0 h2⟩
theorem es_own {i : Nat} (h : ρ[i]? = some (.own xs)) : EvS K C (tVar i) ρ xs := fun Hf H0 Hb H L σ E Q q => by
  obtain ⟨s, l, h1, _, p, us, _, rfl, h2, h3⟩ := E.cell i _ h
  exact ⟨_, h1, q p us Hb H E.step0 h2 h3⟩
theorem es_var {i : Nat} {mk : Mark} (h : ρ[i]? = some (.dat (.lst mk xs))) : EvS K C (tVar i) ρ xs := (ed_var h).s
theorem ed_int : EvD K C (tC (.int m)) ρ (.int m) := fun Hf H0 Hb H L σ E Q q => q _ Hb H E.step0 rfl
theorem ed_bl {b : Bool} : EvD K C (tC (.bl b)) ρ (.bl b) := fun Hf H0 Hb H L σ E Q q => q _ Hb H E.step0 rfl
theorem ed_non : EvD K C (tC .non) ρ .non := fun Hf H0 Hb H L σ E Q q => q _ Hb H E.step0 rfl
theorem ed_str {s : Str} : EvD K C (tC (.str s)) ρ (.str s) := fun Hf H0 Hb H L σ E Q q => q _ Hb H E.step0 rfl
/-- a tuple of the module's own -/
theorem ed_con {p : Addr} {vs : List V} (h : SqT K (fun _ => none) p vs) (hr : ∀ Hf H, RpAll K C Hf H xs vs) : EvD K C (tC (.ref p)) ρ (.tup xs) := fun Hf H0 Hb H L σ E Q q =>
  q _ Hb H E.step0 ⟨p, vs, rfl, .inr h, hr Hf Hb⟩
/-! two places -/
/-- two values at once -/
theorem two (ha : EvR K C ta ρ d) (hb : EvR K C tb ρ d') {Hf H0 Hb H : Hp} {L : List (List Addr)} {σ : St} (E : EnvB K C Hf H0 Hb H L σ ρ) {R : V → V → Hp → Prop}
    (q : ∀ x y Hb' H', Step Hb H Hb' H' → Rp K C Hf H' d x → Rp K C Hf H' d' y → R x y H') : ta σ H fun x H1 => tb σ H1 fun y H2 => R x y H2 :=
  ha Hf H0 Hb H L σ E _ fun x Hb1 H1 S1 r1 => hb Hf H0 Hb1 H1 L σ (E.step S1) _ fun y Hb2 H2 S2 r2 => q x y Hb2 H2 (S1.trans S2) (Rp.mono S2.h d x r1) r2
theorem ed_opI {g : Int → Int → Int} (ha : EvR K C ta ρ (.int m)) (hb : EvR K C tb ρ (.int n)) : EvD K C (tOp (rI0 fun i j => .int (g i j)) ta tb) ρ (.int (g m n)) := fun Hf H0 Hb H L σ E Q q =>
  two ha hb E fun x y Hb' H' S r1 r2 => ⟨m, n, r1, r2, q _ Hb' H' S rfl⟩
theorem ed_opIc {P : Int → Int → Prop} {g : Int → Int → Int} (ha : EvR K C ta ρ (.int m)) (hb : EvR K C tb ρ (.int n)) (hc : P m n) : EvD K C (tOp (rI P fun i j => .int (g i j)) ta tb) ρ (.int (g m n)) := fun Hf H0 Hb H L σ E Q q =>
  two ha hb E fun x y Hb' H' S r1 r2 => ⟨m, n, r1, r2, hc, q _ Hb' H' S rfl⟩
theorem ed_opB {g : Int → Int → Bool} (ha : EvR K C ta ρ (.int m)) (hb : EvR K C tb ρ (.int n)) : EvD K C (tOp (rI0 fun i j => .bl (g i j)) ta tb) ρ (.bl (g m n)) := fun Hf H0 Hb H L σ E Q q =>
  two ha hb E fun x y Hb' H' S r1 r2 => ⟨m, n, r1, r2, q _ Hb' H' S rfl⟩
theorem ed_add (ha : EvR K C ta ρ (.int m)) (hb : EvR K C tb ρ (.int n)) : EvD K C (xAdd ta tb) ρ (.int (m + n)) := ed_opI ha hb
theorem ed_sub (ha : EvR K C ta ρ (.int m)) (hb : EvR K C tb ρ (.int n)) : EvD K C (xSub ta tb) ρ (.int (m - n)) := ed_opI ha hb
theorem ed_mul (ha : EvR K C ta ρ (.int m)) (hb : EvR K C tb ρ (.int n)) (hc : CMulW m n) : EvD K C (xMul ta tb) ρ (.int (m * n)) := ed_opIc ha hb hc
theorem ed_div (ha : EvR K C ta ρ (.int m)) (hb : EvR K C tb ρ (.int n)) (hc : CDivW m n) : EvD K C (xDiv ta tb) ρ (.int (m / n)) := ed_opIc ha hb hc
theorem ed_mod (ha : EvR K C ta ρ (.int m)) (hb : EvR K C tb ρ (.int n)) (hc : 0 < n) : EvD K C (xMod ta tb) ρ (.int (m % n)) := ed_opIc ha hb hc
theorem ed_pow (ha : EvR K C ta ρ (.int m)) (hb : EvR K C tb ρ (.int n)) (hc : CPow m n) : EvD K C (xPow ta tb) ρ (.int (m ^ n.toNat)) := ed_opIc ha hb hc
theorem ed_neg (ha : EvR K C ta ρ (.int m)) : EvD K C (xNeg ta) ρ (.int (-m)) := fun Hf H0 Hb H L σ E Q q => ha Hf H0 Hb H L σ E _ fun x Hb1 H1 S r => ⟨m, r, q _ Hb1 H1 S rfl⟩
theorem ed_lt (ha : EvR K C ta ρ (.int m)) (hb : EvR K C tb ρ (.int n)) : EvD K C (xLt ta tb) ρ (.bl (decide (m < n))) := ed_opB ha hb
theorem ed_le (ha : EvR K C ta ρ (.int m)) (hb : EvR K C tb ρ (.int n)) : EvD K C (xLe ta tb) ρ (.bl (decide (m ≤ n))) := ed_opB ha hb
theorem ed_gt (ha : EvR K C ta ρ (.int m)) (hb : EvR K C tb ρ (.int n)) : EvD K C (xGt ta tb) ρ (.bl (decide (n < m))) := ed_opB ha hb
theorem ed_ge (ha : EvR K C ta ρ (.int m)) (hb : EvR K C tb ρ (.int n)) : EvD K C (xGe ta tb) ρ (.bl (decide (n ≤ m))) := ed_opB ha hb
theorem ed_chain {f g : Int → Int → Bool} (ha : EvR K C ta ρ (.int m)) (hb : EvR K C tb ρ (.int n)) (hc : EvR K C tc ρ (.int k)) :
    EvD K C (tChain (rI0 fun i j => .bl (f i j)) (rI0 fun i j => .bl (g i j)) ta tb tc) ρ (.bl (f m n && g n k)) := fun Hf H0 Hb H L σ E Q q =>
  two ha hb E fun x y Hb1 H1 S1 r1 r2 => by
    refine ⟨m, n, r1, r2, f m n, rfl, ?_⟩
    cases e : f m n with
    | true =>
      refine iteT ?_
      refine hc Hf H0 Hb1 H1 L σ (E.step S1) _ fun z Hb2 H2 S2 r3 => ⟨n, k, r2, r3, ?_⟩
      refine q _ Hb2 H2 (S1.trans S2) ?_
      show V.bl (g n k) = V.bl (f m n && g n k)
      rw [e]; rfl
    | false =>
      refine iteF ?_
      refine q _ Hb1 H1 S1 ?_
      show V.bl false = V.bl (f m n && g n k)
      rw [e]; rfl
theorem ed_leLt (ha : EvR K C ta ρ (.int m)) (hb : EvR K C tb ρ (.int n)) (hc : EvR K C tc ρ (.int k)) : EvD K C (xLeLt ta tb tc) ρ (.bl (decide (m ≤ n) && decide (n < k))) := ed_chain ha hb hc
theorem ed_leLe (ha : EvR K C ta ρ (.int m)) (hb : EvR K C tb ρ (.int n)) (hc : EvR K C tc ρ (.int k)) : EvD K C (xLeLe ta tb tc) ρ (.bl (decide (m ≤ n) && decide (n ≤ k))) := ed_chain ha hb hc
theorem ed_ltLt (ha : EvR K C ta ρ (.int m)) (hb : EvR K C tb ρ (.int n)) (hc : EvR K C tc ρ (.int k)) : EvD K C (xLtLt ta tb tc) ρ (.bl (decide (m < n) && decide (n < k))) := ed_chain ha hb hc
theorem ed_isN (ha : EvR K C ta ρ d) {b : Bool} (hb : ∀ Hf H v, Rp K C Hf H d v → decide (v = .non) = b) : EvD K C (xIsN ta) ρ (.bl b) := fun Hf H0 Hb H L σ E Q q => ha Hf H0 Hb H L σ E _ fun x Hb1 H1 S r => by
  refine ⟨rfl, q _ Hb1 H1 S ?_⟩
  show V.bl (decide (x = .non)) = V.bl b
  rw [hb _ _ _ r]
theorem ed_notN (ha : EvR K C ta ρ d) {b : Bool} (hb : ∀ Hf H v, Rp K C Hf H d v → (!decide (v = .non)) = b) : EvD K C (xNotN ta) ρ (.bl b) := fun Hf H0 Hb H L σ E Q q => ha Hf H0 Hb H L σ E _ fun x Hb1 H1 S r => by
  refine ⟨rfl, q _ Hb1 H1 S ?_⟩
  show V.bl (!decide (x = .non)) = V.bl b
  rw [hb _ _ _ r]
/-! and, or, not: as values, as tests -/
theorem ed_andV {a b : Bool} (ha : EvD K C ta ρ (.bl a)) (hb : a = true → EvD K C tb ρ (.bl b)) : EvD K C (tAndV ta tb) ρ (.bl (a && b)) := fun Hf H0 Hb H L σ E Q q => ha Hf H0 Hb H L σ E _ fun x Hb1 H1 S r => by
  refine ⟨a, r, ?_⟩
  cases a with
  | true => exact iteT (hb rfl Hf H0 Hb1 H1 L σ (E.step S) _ fun y Hb2 H2 S2 r2 => q y Hb2 H2 (S.trans S2) r2)
  | false => exact iteF (q _ Hb1 H1 S rfl)
theorem ed_orV {a b : Bool} (ha : EvD K C ta ρ (.bl a)) (hb : a = false → EvD K C tb ρ (.bl b)) : EvD K C (tOrV ta tb) ρ (.bl (a || b)) := fun Hf H0 Hb H L σ E Q q => ha Hf H0 Hb H L σ E _ fun x Hb1 H1 S r => by
  refine ⟨a, r, ?_⟩
  cases a with
  | true => exact iteT (q _ Hb1 H1 S rfl)
  | false => exact iteF (hb rfl Hf H0 Hb1 H1 L σ (E.step S) _ fun y Hb2 H2 S2 r2 => q y Hb2 H2 (S.trans S2) r2)
theorem ed_notV {a : Bool} (ha : EvD K C ta ρ (.bl a)) : EvD K C (tNotV ta) ρ (.bl (!a)) := fun Hf H0 Hb H L σ E Q q => ha Hf H0 Hb H L σ E _ fun x Hb1 H1 S r => ⟨a, r, q _ Hb1 H1 S rfl⟩
theorem eb_val {b : Bool} (h : EvD K C te ρ (.bl b)) : EvB K C (tB te) ρ b := fun Hf H0 Hb H L σ E Q q => h Hf H0 Hb H L σ E _ fun x Hb1 H1 S r => ⟨b, r, q Hb1 H1 S⟩
theorem eb_and {a b : Bool} (ha : EvB K C t ρ a) (hb : a = true → EvB K C u ρ b) : EvB K C (tAnd t u) ρ (a && b) := fun Hf H0 Hb H L σ E Q q => ha Hf H0 Hb H L σ E _ fun Hb1 H1 S => by
  cases a with
  | true => exact iteT (hb rfl Hf H0 Hb1 H1 L σ (E.step S) _ fun Hb2 H2 S2 => q Hb2 H2 (S.trans S2))
  | false => exact iteF (q Hb1 H1 S)
theorem eb_or {a b : Bool} (ha : EvB K C t ρ a) (hb : a = false → EvB K C u ρ b) : EvB K C (tOr t u) ρ (a || b) := fun Hf H0 Hb H L σ E Q q => ha Hf H0 Hb H L σ E _ fun Hb1 H1 S => by
  cases a with
  | true => exact iteT (q Hb1 H1 S)
  | false => exact iteF (hb rfl Hf H0 Hb1 H1 L σ (E.step S) _ fun Hb2 H2 S2 => q Hb2 H2 (S.trans S2))
theorem eb_not {a : Bool} (ha : EvB K C t ρ a) : EvB K C (tNot t) ρ (!a) := fun Hf H0 Hb H L σ E Q q => ha Hf H0 Hb H L σ E _ fun Hb1 H1 S => q Hb1 H1 S
theorem eb_yes : EvB K C tYes ρ true := fun Hf H0 Hb H L σ E Q q => q Hb H E.step0
theorem ed_if {b : Bool} (h : EvB K C t ρ b) (h1 : b = true → EvD K C ta ρ d) (h2 : b = false → EvD K C tb ρ d) : EvD K C (tIf t ta tb) ρ d := fun Hf H0 Hb H L σ E Q q => h Hf H0 Hb H L σ E _ fun Hb1 H1 S => by
  cases b with
  | true => exact iteT (h1 rfl Hf H0 Hb1 H1 L σ (E.step S) _ fun y Hb2 H2 S2 r2 => q y Hb2 H2 (S.trans S2) r2)
  | false => exact iteF (h2 rfl Hf H0 Hb1 H1 L σ (E.step S) _ fun y Hb2 H2 S2 r2 => q y Hb2 H2 (S.trans S2) r2)
/-! arguments, displays -/
theorem ea_nil : EvA K C tNil ρ [] := fun Hf H0 Hb H L σ E Q q => q [] Hb H E.step0 .nil
theorem ea_cons {tr : TA} (h : EvR K C te ρ d) (hr : EvA K C tr ρ xs) : EvA K C (tCons te tr) ρ (d :: xs) := fun Hf H0 Hb H L σ E Q q => h Hf H0 Hb H L σ E _ fun x Hb1 H1 S r =>
  hr Hf H0 Hb1 H1 L σ (E.step S) _ fun vs Hb2 H2 S2 r2 => q (x :: vs) Hb2 H2 (S.trans S2) (.cons (Rp.mono S2.h d x r) r2)
theorem eq_nil : EvAD K C tNil ρ [] := fun Hf H0 Hb H L σ E Q q => q [] Hb H E.step0 .nil
theorem eq_cons {tr : TA} (h : EvD K C te ρ d) (hr : EvAD K C tr ρ xs) : EvAD K C (tCons te tr) ρ (d :: xs) := fun Hf H0 Hb H L σ E Q q => h Hf H0 Hb H L σ E _ fun x Hb1 H1 S r =>
  hr Hf H0 Hb1 H1 L σ (E.step S) _ fun vs Hb2 H2 S2 r2 => q (x :: vs) Hb2 H2 (S.trans S2) (.cons (Rp.mono S2.hb d x r) r2)
theorem line_of {n : Nat} (h : n ≤ 100000) : n ≤ sizeLine := Nat.le_trans h (by decide)
theorem lineT {n : Nat} (h : n < 100000) : n < sizeLine := Nat.lt_of_lt_of_le h (by decide)
theorem ed_tup {t : TA} (h : EvAD K C t ρ xs) (hl : xs.length ≤ 100000) : EvD K C (tTup t) ρ (.tup xs) := fun Hf H0 Hb H L σ E Q q => h Hf H0 Hb H L σ E _ fun vs Hb1 H1 S r => by
  refine ⟨line_of (by rw [r.length]; exact hl), fun p hp => ?_⟩
  have hb : Hb1 p = none := S.bh.free hp
  refine q _ (upd Hb1 p (.tup vs)) (upd H1 p (.tup vs)) ⟨S.hb.trans (Ex.new hb), S.h.trans (Ex.new hp), fun a o w => ?_, fun a o w => ?_, fun a ys w => ?_⟩ ⟨p, vs, rfl, .inl upd_same, RpAll.mono (Ex.new hb) xs vs r⟩
  · by_cases z : a = p
    · subst z; rw [upd_same] at w; cases w; exact upd_same
    · rw [upd_ne z] at w ⊢; exact S.bh _ _ w
  · by_cases z : a = p
    · subst z; exact .inr (S.h.free hp)
    · rw [upd_ne z] at w; exact S.nw _ _ w
  · by_cases z : a = p
    · subst z; rw [upd_same] at w; cases w; exact upd_same
    · rw [upd_ne z] at w ⊢; exact S.tu _ _ w
/-- a new list at p: told as one of the owner's -/
theorem newList {Hb H Hb1 H1 : Hp} (S : Step Hb H Hb1 H1) {p : Addr} {vs : List V} (hp : H1 p = none) : Step Hb H Hb1 (upd H1 p (.lst vs)) where
  hb := S.hb
  h := S.h.trans (Ex.new hp)
  bh := fun a o w => by rw [upd_ne (ne_of_none (S.bh _ _ w) hp)]; exact S.bh _ _ w
  nw := S.nw
  tu := fun a ys w => by
    by_cases z : a = p
    · subst z; rw [upd_same] at w; cases w
    · rw [upd_ne z] at w; exact S.tu _ _ w
theorem el_lst {t : TA} (h : EvAD K C t ρ xs) (hl : xs.length ≤ 100000) : EvL K C (tLst t) ρ xs := fun Hf H0 Hb H L σ E Q q => h Hf H0 Hb H L σ E _ fun vs Hb1 H1 S r =>
  ⟨line_of (by rw [r.length]; exact hl), fun p hp => q p vs Hb1 _ (newList S hp) (S.h.free hp) (S.bh.free hp) upd_same r⟩
/-! items, lengths -/
theorem atI_of {α : Type} {l : List α} {i : Int} {x : α} (h0 : 0 ≤ i) (h : l[i.toNat]? = some x) : atI l i = some x := by
  have e : i = ((i.toNat : Nat) : Int) := by omega
  rw [e]; exact atI_nat h
theorem RpAll.atI {Hf H : Hp} {vs : List V} {i : Int} (r : RpAll K C Hf H xs vs) (h : atI xs i = some d) : ∃ v, atI vs i = some v ∧ Rp K C Hf H d v := by
  unfold L2.atI at h ⊢
  rw [r.length]
  cases e : ixN xs.length i with
  | none => rw [e] at h; cases h
  | some j =>
    rw [e] at h
    exact r.get h
theorem ed_idxS {i : Int} (ha : EvS K C ta ρ xs) (hb : EvR K C tb ρ (.int i)) (h : atI xs i = some d) : EvD K C (xIdx K ta tb) ρ d := fun Hf H0 Hb H L σ E Q q => ha Hf H0 Hb H L σ E _ fun p us Hb1 H1 S1 h1 h2 =>
  hb Hf H0 Hb1 H1 L σ (E.step S1) _ fun y Hb2 H2 S2 r2 => by
    obtain ⟨v, h3, h4⟩ := h2.atI h
    exact .inl ⟨p, us, i, v, rfl, r2, .of (S2.h _ _ h1), h3, q v Hb2 H2 (S1.trans S2) (Rp.mono S2.hb d v h4)⟩
theorem ed_idxT {i : Int} (ha : EvD K C ta ρ (.tup xs)) (hb : EvR K C tb ρ (.int i)) (h : atI xs i = some d) : EvD K C (xIdx K ta tb) ρ d := fun Hf H0 Hb H L σ E Q q => ha Hf H0 Hb H L σ E _ fun x Hb1 H1 S1 r1 =>
  hb Hf H0 Hb1 H1 L σ (E.step S1) _ fun y Hb2 H2 S2 r2 => by
    obtain ⟨p, us, rfl, h1, h2⟩ := r1
    obtain ⟨v, h3, h4⟩ := h2.atI h
    have h5 : TupAt K H2 p us := h1.mono fun a zs w => S2.h _ _ (S1.bh _ _ w)
    exact .inr (.inl ⟨p, us, i, v, rfl, r2, h5.sq, h3, q v Hb2 H2 (S1.trans S2) (Rp.mono S2.hb d v h4)⟩)
theorem ed_idxStr {s : Str} {i : Int} {c : Nat} (ha : EvR K C ta ρ (.str s)) (hb : EvR K C tb ρ (.int i)) (hz : s.length ≤ 100000) (h : atI s.cps.toList i = some c) : EvD K C (xIdx K ta tb) ρ (.str ⟨#[c]⟩) := fun Hf H0 Hb H L σ E Q q =>
  two ha hb E fun x y Hb' H' S r1 r2 => .inr (.inr ⟨s, i, c, r1, r2, line_of hz, h, q _ Hb' H' S rfl⟩)
theorem sq_mono {H H' : Hp} {a : Addr} {vs : List V} (e : Ex H H') (h : SqL K H a vs) : SqL K H' a vs := by
  rcases h with (h | ⟨o, h⟩) | h
  · exact .inl (.inl (e _ _ h))
  · exact .inl (.inr ⟨o, e _ _ h⟩)
  · exact .inr h
/-- the script's items -/
theorem ed_idxScr {ns : List Int} {i : Int} {z : Int} (ha : EvD K C ta ρ (.scr ns)) (hb : EvR K C tb ρ (.int i)) (h : atI ns i = some z) : EvD K C (xIdx K ta tb) ρ (.int z) := fun Hf H0 Hb H L σ E Q q => ha Hf H0 Hb H L σ E _ fun x Hb1 H1 S1 r1 =>
  hb Hf H0 Hb1 H1 L σ (E.step S1) _ fun y Hb2 H2 S2 r2 => by
    obtain ⟨p, rfl, h1⟩ := Rp.mono S1.bh _ _ r1
    have h3 : atI (ns.map V.int) i = some (V.int z) := by
      unfold L2.atI at h ⊢
      rw [List.length_map]
      cases e : ixN ns.length i with
      | none => rw [e] at h; cases h
      | some j =>
        rw [e] at h
        have h' : ns[j]? = some z := h
        show (ns.map V.int)[j]? = some (V.int z)
        rw [List.getElem?_map, h']; rfl
    exact .inl ⟨p, _, i, V.int z, rfl, r2, sq_mono S2.h h1, h3, q _ Hb2 H2 (S1.trans S2) rfl⟩
theorem ed_lenS (ha : EvS K C ta ρ xs) : EvD K C (xLen K ta) ρ (.int xs.length) := fun Hf H0 Hb H L σ E Q q => ha Hf H0 Hb H L σ E _ fun p us Hb1 H1 S1 h1 h2 =>
  ⟨.ref p, us.length, rfl, .inl ⟨us, .of h1, rfl⟩, q _ Hb1 H1 S1 (by show V.int (us.length : Int) = V.int (xs.length : Int); rw [h2.length])⟩
theorem ed_lenT (ha : EvD K C ta ρ (.tup xs)) : EvD K C (xLen K ta) ρ (.int xs.length) := fun Hf H0 Hb H L σ E Q q => ha Hf H0 Hb H L σ E _ fun x Hb1 H1 S1 r1 => by
  obtain ⟨p, us, rfl, h1, h2⟩ := r1
  refine ⟨.ref p, us.length, rfl, .inr ⟨us, ?_, rfl⟩, q _ Hb1 H1 S1 (by show V.int (us.length : Int) = V.int (xs.length : Int); rw [h2.length])⟩
  exact (h1.mono fun a zs w => S1.bh _ _ w).sq
theorem ed_lenStr {s : Str} (ha : EvR K C ta ρ (.str s)) (hz : s.length ≤ 100000) : EvD K C (xLen K ta) ρ (.int s.length) := fun Hf H0 Hb H L σ E Q q => ha Hf H0 Hb H L σ E _ fun x Hb1 H1 S1 r1 =>
  ⟨x, s.length, rfl, by rw [show x = V.str s from r1]; exact ⟨line_of hz, rfl⟩, q _ Hb1 H1 S1 rfl⟩
theorem ed_lenScr {ns : List Int} (ha : EvD K C ta ρ (.scr ns)) : EvD K C (xLen K ta) ρ (.int ns.length) := fun Hf H0 Hb H L σ E Q q => ha Hf H0 Hb H L σ E _ fun x Hb1 H1 S1 r1 => by
  obtain ⟨p, rfl, h1⟩ := Rp.mono S1.bh _ _ r1
  exact ⟨.ref p, (ns.map V.int).length, rfl, .inl ⟨_, h1, rfl⟩, q _ Hb1 H1 S1 (by show V.int _ = V.int _; rw [List.length_map])⟩
theorem ed_abs (ha : EvR K C ta ρ (.int m)) : EvD K C (xAbs ta) ρ (.int (m.natAbs : Int)) := fun Hf H0 Hb H L σ E Q q => ha Hf H0 Hb H L σ E _ fun x Hb1 H1 S1 r1 =>
  ⟨m, by rw [show x = V.int m from r1], q _ Hb1 H1 S1 (by show V.int _ = V.int _; congr 1; split <;> omega)⟩
theorem ed_intI (ha : EvR K C ta ρ (.int m)) : EvD K C (xInt ta) ρ (.int m) := fun Hf H0 Hb H L σ E Q q => ha Hf H0 Hb H L σ E _ fun x Hb1 H1 S1 r1 =>
  .inl (.inl ⟨m, by rw [show x = V.int m from r1], q _ Hb1 H1 S1 rfl⟩)
theorem ed_intB {b : Bool} (ha : EvR K C ta ρ (.bl b)) : EvD K C (xInt ta) ρ (.int (if b then 1 else 0)) := fun Hf H0 Hb H L σ E Q q => ha Hf H0 Hb H L σ E _ fun x Hb1 H1 S1 r1 =>
  .inl (.inr ⟨b, by rw [show x = V.bl b from r1], q _ Hb1 H1 S1 rfl⟩)
theorem ed_intS {s : Str} (ha : EvR K C ta ρ (.str s)) (h : PySem.intText? s = some n) (hz : s.length ≤ 640) : EvD K C (xInt ta) ρ (.int n) := fun Hf H0 Hb H L σ E Q q => ha Hf H0 Hb H L σ E _ fun x Hb1 H1 S1 r1 =>
  .inr ⟨s, n, by rw [show x = V.str s from r1], h, hz, q _ Hb1 H1 S1 rfl⟩
end
/-! equal data -/
mutual
/-- data as the library compares it: no instances, no script -/
def D.py : D → Option PyData
  | .non => some .none
  | .bl b => some (.bool b)
  | .int i => some (.int i)
  | .str s => some (.str s)
  | .lst _ ds => (pyAll ds).map .list
  | .tup ds => (pyAll ds).map .tuple
  | _ => none
def pyAll : List D → Option (List PyData)
  | [] => some []
  | d :: ds => match d.py, pyAll ds with
    | some p, some ps => some (p :: ps)
    | _, _ => none
end
section
variable {K : PySem.W.Frag} {C : Addr} {Hf H : Hp}
mutual
theorem Rp.py : ∀ (d : D) (v : V) (p : PyData), d.py = some p → Rp K C Hf H d v → Dp K H v p
  | .non, v, p, e, h => by cases e; cases h; exact .non
  | .bl b, v, p, e, h => by cases e; cases h; exact .bl b
  | .int i, v, p, e, h => by cases e; cases h; exact .int i
  | .str s, v, p, e, h => by cases e; cases h; exact .str s
  | .scr ns, v, p, e, h => by cases e
  | .ho m ws tb, v, p, e, h => by cases e
  | .lst m ds, v, p, e, h => by
    obtain ⟨a, xs, rfl, mk, h1, h2⟩ := h
    have e' : (pyAll ds).map .list = some p := e
    cases q : pyAll ds with
    | none => rw [q] at e'; cases e'
    | some ps =>
      rw [q] at e'; cases e'
      exact .lst (.of h1) (RpAll.py ds xs ps q h2)
  | .tup ds, v, p, e, h => by
    obtain ⟨a, xs, rfl, h1, h2⟩ := h
    have e' : (pyAll ds).map .tuple = some p := e
    cases q : pyAll ds with
    | none => rw [q] at e'; cases e'
    | some ps =>
      rw [q] at e'; cases e'
      exact .tup h1.sq (RpAll.py ds xs ps q h2)
theorem RpAll.py : ∀ (ds : List D) (vs : List V) (ps : List PyData), pyAll ds = some ps → RpAll K C Hf H ds vs → DpAll K H vs ps
  | [], vs, ps, e, h => by cases e; cases h; exact .nil
  | d :: ds, vs, ps, e, h => by
    obtain ⟨v, r, rfl, h1, h2⟩ := h
    unfold pyAll at e
    cases q : d.py with
    | none => rw [q] at e; cases e
    | some p =>
      cases q2 : pyAll ds with
      | none => rw [q, q2] at e; cases e
      | some qs =>
        rw [q, q2] at e; cases e
        exact .cons (Rp.py d v p q h1) (RpAll.py ds r qs q2 h2)
end
/-- the two are compared, with this answer -/
structure EqD (d e : D) (b : Bool) : Prop where
  ex : ∃ p q, d.py = some p ∧ e.py = some q ∧ SeqAt.shaped p = true ∧ SeqAt.shaped q = true ∧ PyData.eqv p q = b
variable {ρ : List Cell} {ta tb : TE} {d e : D} {b : Bool}
theorem ed_eq (ha : EvR K C ta ρ d) (hb : EvR K C tb ρ e) (h : EqD d e b) : EvD K C (xEq K ta tb) ρ (.bl b) := fun Hf H0 Hb H L σ E Q q => two ha hb E fun x y Hb' H' S r1 r2 => by
  obtain ⟨p1, p2, e1, e2, s1, s2, e3⟩ := h.ex
  refine ⟨p1, p2, Rp.py d x p1 e1 r1, Rp.py e y p2 e2 r2, s1, s2, ?_⟩
  rw [e3]
  exact q _ Hb' H' S rfl
theorem ed_ne (ha : EvR K C ta ρ d) (hb : EvR K C tb ρ e) (h : EqD d e b) : EvD K C (xNe K ta tb) ρ (.bl (!b)) := fun Hf H0 Hb H L σ E Q q => two ha hb E fun x y Hb' H' S r1 r2 => by
  obtain ⟨p1, p2, e1, e2, s1, s2, e3⟩ := h.ex
  refine ⟨p1, p2, Rp.py d x p1 e1 r1, Rp.py e y p2 e2 r2, s1, s2, ?_⟩
  rw [e3]
  exact q _ Hb' H' S rfl
theorem EqD.int {m n : Int} : EqD (.int m) (.int n) (decide (m = n)) := ⟨⟨_, _, rfl, rfl, rfl, rfl, by show (m == n) = _; by_cases h : m = n <;> simp [h]⟩⟩
theorem EqD.bl {m n : Bool} : EqD (.bl m) (.bl n) (m == n) := ⟨⟨_, _, rfl, rfl, rfl, rfl, rfl⟩⟩
theorem EqD.pair {m n k l : Int} : EqD (.tup [.int m, .int n]) (.tup [.int k, .int l]) (decide (m = k) && decide (n = l)) := ⟨⟨_, _, rfl, rfl, rfl, rfl, by
  show ((m == k) && ((n == l) && true)) = _
  by_cases h : m = k <;> by_cases h2 : n = l <;> simp [h, h2]⟩⟩
end
end Hw
namespace Hw
open PySem L2

/-- from names that stand so, N is reached -/
def At (K : PySem.W.Frag) (C : Addr) (Hf H0 : Hp) (N : St → Hp → Prop) (ρ : List Cell) : Prop := ∀ Hb H L σ, EnvB K C Hf H0 Hb H L σ ρ → N σ H
/-- some names stand so -/
def Gx (K : PySem.W.Frag) (C : Addr) (Hf H0 : Hp) (I : List Cell → Prop) : St → Hp → Prop := fun σ H => ∃ ρ Hb L, I ρ ∧ EnvB K C Hf H0 Hb H L σ ρ

section
variable {K : PySem.W.Frag} {C : Addr} {Hf H0 H1 Hb H Hb' H' : Hp} {L : List (List Addr)} {σ : St} {ρ ρ' : List Cell} {te ta tb : TE} {t u : TT} {d : D} {xs : List D} {D0 : Ends} {N : St → Hp → Prop} {s1 s2 : TS}
/-! the names change -/
theorem getElem?_set_cases {α : Type} {l : List α} {i j : Nat} {x y : α} (h : (l.set i x)[j]? = some y) : (j = i ∧ x = y ∧ i < l.length) ∨ (j ≠ i ∧ l[j]? = some y) := by
  by_cases e : j = i
  · subst e
    have hl : j < l.length := by
      have := (List.getElem?_eq_some_iff.mp h).1
      simpa using this
    rw [List.getElem?_set_self hl] at h
    exact .inl ⟨rfl, Option.some.inj h, hl⟩
  · rw [List.getElem?_set_ne (Ne.symm e)] at h
    exact .inr ⟨e, h⟩
/-- one name gets another cell, with footprint l -/
theorem EnvB.set (E : EnvB K C Hf H0 Hb H L σ ρ) {i : Nat} (hi : i < ρ.length) {c : Cell} {s : Option V} {l : List Addr} (hc : CellOk K C Hf Hb H l s c) (hn : l.Nodup)
    (hf : ∀ a ∈ l, Hb a = none ∧ Hf a = none ∧ H a ≠ none) (hd : ∀ (j : Nat) (lj : List Addr) (a : Addr), j ≠ i → L[j]? = some lj → a ∈ lj → a ∉ l) : EnvB K C Hf H0 Hb H (L.set i l) (σ.set i s) (ρ.set i c) where
  e0 := E.e0
  e1 := E.e1
  ef := E.ef
  nw := E.nw
  tu := E.tu
  len := by simp [E.len]
  lel := by simp [E.lel]
  cell := fun j c' q => by
    rcases getElem?_set_cases q with ⟨rfl, rfl, _⟩ | ⟨e, q⟩
    · exact ⟨s, l, List.getElem?_set_self (by rw [E.len]; exact hi), List.getElem?_set_self (by rw [E.lel]; exact hi), hc⟩
    · obtain ⟨s', l', h1, h2, h3⟩ := E.cell j c' q
      exact ⟨s', l', by rw [List.getElem?_set_ne (Ne.symm e)]; exact h1, by rw [List.getElem?_set_ne (Ne.symm e)]; exact h2, h3⟩
  dis := fun j k lj lk a q1 q2 m1 m2 => by
    rcases getElem?_set_cases q1 with ⟨e, e', _⟩ | ⟨e, w1⟩
    · rcases getElem?_set_cases q2 with ⟨e2, _, _⟩ | ⟨e2, w2⟩
      · exact e.trans e2.symm
      · exact absurd m1 (by rw [← e']; exact hd k lk a e2 w2 m2)
    · rcases getElem?_set_cases q2 with ⟨e2, e2', _⟩ | ⟨e2, w2⟩
      · exact absurd m2 (by rw [← e2']; exact hd j lj a e w1 m1)
      · exact E.dis j k lj lk a w1 w2 m1 m2
  nd := fun j lj q => by
    rcases getElem?_set_cases q with ⟨rfl, rfl, _⟩ | ⟨e, q⟩
    · exact hn
    · exact E.nd j lj q
  fr := fun j lj a q m => by
    rcases getElem?_set_cases q with ⟨rfl, rfl, _⟩ | ⟨e, q⟩
    · exact hf a m
    · exact E.fr j lj a q m
theorem EnvB.setDat (E : EnvB K C Hf H0 Hb H L σ ρ) {i : Nat} (hi : i < ρ.length) {v : V} (h : Rp K C Hf Hb d v) : EnvB K C Hf H0 Hb H (L.set i []) (σ.set i (some v)) (ρ.set i (.dat d)) :=
  E.set hi ⟨rfl, v, rfl, h⟩ List.nodup_nil (fun a m => nomatch m) fun _ _ _ _ _ _ m => nomatch m
theorem EnvB.setAny (E : EnvB K C Hf H0 Hb H L σ ρ) {i : Nat} (hi : i < ρ.length) (s : Option V) : EnvB K C Hf H0 Hb H (L.set i []) (σ.set i s) (ρ.set i .any) :=
  E.set hi rfl List.nodup_nil (fun a m => nomatch m) fun _ _ _ _ _ _ m => nomatch m
/-- H p = none ahead: nobody owns p -/
theorem EnvB.notOwned (E : EnvB K C Hf H0 Hb H L σ ρ) {p : Addr} (hp : H p = none) {j : Nat} {lj : List Addr} (q : L[j]? = some lj) : p ∉ lj := fun m => (E.fr j lj p q m).2.2 hp
theorem EnvB.setOwn (E : EnvB K C Hf H0 Hb H L σ ρ) (S : Step Hb H Hb' H') {i : Nat} (hi : i < ρ.length) {p : Addr} {us : List V} (hp : H p = none) (hb : Hb' p = none) (h1 : H' p = some (.lst us)) (h2 : RpAll K C Hf Hb' xs us) :
    EnvB K C Hf H0 Hb' H' (L.set i [p]) (σ.set i (some (.ref p))) (ρ.set i (.own xs)) := by
  refine (E.step S).set hi ⟨p, us, rfl, rfl, h1, h2⟩ (by simp) (fun a m => ?_) fun j lj a e q m z => ?_
  · have e : a = p := by simpa using m
    subst e
    exact ⟨hb, E.ef.free hp, by rw [h1]; exact fun z => nomatch z⟩
  · have e : a = p := by simpa using z
    subst e
    exact E.notOwned hp q m
theorem FldsOk.keep {p : Addr} (keep : ∀ a o, a ≠ p → H a = some o → H' a = some o) : ∀ {fs : List (Str × Fld)} {l : List Addr} {vs : List (Str × V)}, FldsOk K C Hf Hb H l fs vs → p ∉ l → FldsOk K C Hf Hb H' l fs vs
  | [], l, vs, h, _ => h
  | (n, .dat d) :: fs, l, vs, h, np => by
    obtain ⟨v, r, q1, q2, q3⟩ := h
    exact ⟨v, r, q1, q2, FldsOk.keep keep q3 np⟩
  | (n, .own zs) :: fs, l, vs, h, np => by
    obtain ⟨p3, us3, r, l3, q1, rfl, q2, q3, q4⟩ := h
    exact ⟨p3, us3, r, l3, q1, rfl, keep _ _ (fun z => np (by simp [z])) q2, q3, FldsOk.keep keep q4 (fun m => np (List.mem_cons_of_mem _ m))⟩
/-- an owned list's items change -/
theorem EnvB.mut (E : EnvB K C Hf H0 Hb H L σ ρ) {i : Nat} {xs ys : List D} (hi : ρ[i]? = some (.own xs)) {p : Addr} {us : List V} (hs : σ[i]? = some (some (.ref p))) (h2 : RpAll K C Hf Hb ys us) :
    EnvB K C Hf H0 Hb (upd H p (.lst us)) L σ (ρ.set i (.own ys)) := by
  obtain ⟨s, l, g1, g2, p', us', rfl, rfl, g3, g4⟩ := E.cell i _ hi
  rw [hs] at g1
  cases g1
  have hb : Hb p = none := (E.fr i _ p g2 (by simp)).1
  have hf : Hf p = none := (E.fr i _ p g2 (by simp)).2.1
  have keep : ∀ a o, a ≠ p → H a = some o → upd H p (.lst us) a = some o := fun a o ne q => by rw [upd_ne ne]; exact q
  refine ⟨E.e0, E.e1.mut hb, E.ef.mut hf, E.nw, fun a zs w => ?_, by simp [E.len], by simp [E.lel], fun j c q => ?_, E.dis, E.nd, fun j lj a q m => ?_⟩
  · by_cases z : a = p
    · subst z; rw [upd_same] at w; cases w
    · rw [upd_ne z] at w; exact E.tu a zs w
  · rcases getElem?_set_cases q with ⟨rfl, rfl, _⟩ | ⟨e, q⟩
    · exact ⟨_, _, hs, g2, p, us, rfl, rfl, upd_same, h2⟩
    · obtain ⟨s', l', k1, k2, k3⟩ := E.cell j c q
      refine ⟨s', l', k1, k2, ?_⟩
      have np : p ∉ l' := fun m => e (E.dis j i l' [p] p k2 g2 m (by simp))
      cases c with
      | un => exact k3
      | any => exact k3
      | dat d => exact k3
      | own zs =>
        obtain ⟨p2, us2, rfl, e2, k4, k5⟩ := k3
        exact ⟨p2, us2, rfl, e2, keep _ _ (fun z => np (by simp [z])) k4, k5⟩
      | rd a C' fs => exact k3
      | tp a fs =>
        obtain ⟨vs, e2, k4, k5⟩ := k3
        have nap : a ≠ p := fun z => by rw [z, g3] at k4; cases k4
        exact ⟨vs, e2, keep _ _ nap k4, FldsOk.keep keep k5 np⟩
      | val v => exact k3
      | raw a vs => exact k3
      | nt a b fs ks =>
        obtain ⟨vs, p3, us3, l3, rfl, e2, k4, k5, k6, k7, k8⟩ := k3
        have nap : a ≠ p := fun z => by rw [z, g3] at k4; cases k4
        have nbp : b ≠ p := fun z => by rw [z, g3] at k5; cases k5
        exact ⟨vs, p3, us3, l3, rfl, e2, keep _ _ nap k4, keep _ _ nbp k5, keep _ _ (fun z => np (by simp [z])) k6, k7, FldsOk.keep keep k8 (fun m => np (List.mem_cons_of_mem _ m))⟩
      | ob a C' fs =>
        obtain ⟨dx, vs, l2, rfl, e2, k4, k5⟩ := k3
        refine ⟨dx, vs, l2, rfl, e2, keep _ _ (fun z => np (by simp [z])) k4, ?_⟩
        exact FldsOk.keep keep k5 fun m => np (List.mem_cons_of_mem _ m)
  · obtain ⟨k1, k2, k3⟩ := E.fr j lj a q m
    refine ⟨k1, k2, ?_⟩
    by_cases z : a = p
    · subst z; rw [upd_same]; exact fun w => nomatch w
    · rw [upd_ne z]; exact k3
/-- an owned list is given up: it is data from now on -/
theorem EnvB.freeze (E : EnvB K C Hf H0 Hb H L σ ρ) {i : Nat} {xs : List D} (hi : ρ[i]? = some (.own xs)) : ∃ Hb', EnvB K C Hf H0 Hb' H (L.set i []) σ (ρ.set i (.dat (.lst .f xs))) := by
  obtain ⟨s, l, g1, g2, p, us, rfl, rfl, g3, g4⟩ := E.cell i _ hi
  obtain ⟨hb, hf, hn⟩ := E.fr i _ p g2 (by simp)
  have ee : Ex Hb (upd Hb p (.lst us)) := Ex.new hb
  have hil : i < ρ.length := (List.getElem?_eq_some_iff.mp hi).1
  have mo : ∀ {l s c}, CellOk K C Hf Hb H l s c → CellOk K C Hf (upd Hb p (.lst us)) H l s c := fun h => h.mono ee (Ex.refl H)
  refine ⟨upd Hb p (.lst us), E.e0.trans ee, fun a o q => ?_, E.ef, fun a o q => ?_, fun a zs w => ?_, by simp [E.len], by simp [E.lel], fun j c q => ?_, fun j k lj lk a q1 q2 m1 m2 => ?_, fun j lj q => ?_, fun j lj a q m => ?_⟩
  · by_cases z : a = p
    · subst z; rw [upd_same] at q; cases q; exact g3
    · rw [upd_ne z] at q; exact E.e1 _ _ q
  · by_cases z : a = p
    · subst z; exact .inr hf
    · rw [upd_ne z] at q; exact E.nw _ _ q
  · exact ee _ _ (E.tu a zs w)
  · rcases getElem?_set_cases q with ⟨rfl, rfl, _⟩ | ⟨e, q⟩
    · exact ⟨_, [], g1, List.getElem?_set_self (by rw [E.lel]; exact hil), rfl, _, rfl, p, us, rfl, hf, upd_same, RpAll.mono ee _ _ g4⟩
    · obtain ⟨s', l', k1, k2, k3⟩ := E.cell j c q
      exact ⟨s', l', k1, by rw [List.getElem?_set_ne (Ne.symm e)]; exact k2, mo k3⟩
  · rcases getElem?_set_cases q1 with ⟨rfl, rfl, _⟩ | ⟨e, q1⟩
    · exact nomatch m1
    · rcases getElem?_set_cases q2 with ⟨rfl, rfl, _⟩ | ⟨e2, q2⟩
      · exact nomatch m2
      · exact E.dis j k lj lk a q1 q2 m1 m2
  · rcases getElem?_set_cases q with ⟨rfl, rfl, _⟩ | ⟨e, q⟩
    · exact List.nodup_nil
    · exact E.nd j lj q
  · rcases getElem?_set_cases q with ⟨rfl, rfl, _⟩ | ⟨e, q⟩
    · exact nomatch m
    · obtain ⟨k1, k2, k3⟩ := E.fr j lj a q m
      refine ⟨?_, k2, k3⟩
      rw [upd_ne (fun z => ?_)]
      · exact k1
      · subst z; exact e (E.dis j i lj _ a q g2 m (by simp))
/-- a name's cell forgotten -/
theorem EnvB.forget (E : EnvB K C Hf H0 Hb H L σ ρ) {i : Nat} (hi : i < ρ.length) : EnvB K C Hf H0 Hb H (L.set i []) σ (ρ.set i .any) := by
  have hs : i < σ.length := by rw [E.len]; exact hi
  have e := E.setAny hi (σ[i]'hs)
  have q : σ.set i (σ[i]'hs) = σ := List.set_getElem_self hs
  rw [q] at e
  exact e
/-- the base moved up -/
theorem EnvB.rebase (E : EnvB K C Hf H0 Hb H L σ ρ) : EnvB K C Hf Hb Hb H L σ ρ :=
  { E with e0 := .refl _, nw := fun a o q => .inl q }
theorem EnvB.unbase (h01 : Ex H0 H1) (hn : ∀ a o, H1 a = some o → H0 a = some o ∨ Hf a = none) (E : EnvB K C Hf H1 Hb H L σ ρ) : EnvB K C Hf H0 Hb H L σ ρ :=
  { E with e0 := h01.trans E.e0, nw := fun a o q => (E.nw a o q).elim (hn a o) .inr }

/-! statements -/
theorem at_gx {I : List Cell → Prop} (h : I ρ) : At K C Hf H0 (Gx K C Hf H0 I) ρ := fun Hb H L σ E => ⟨ρ, Hb, L, h, E⟩
theorem At.of_gx {I : List Cell → Prop} (h : ∀ ρ, I ρ → At K C Hf H0 N ρ) : ∀ σ H, Gx K C Hf H0 I σ H → N σ H := fun σ H ⟨ρ, Hb, L, i, E⟩ => h ρ i Hb H L σ E
theorem At.freeze {i : Nat} (hi : ρ[i]? = some (.own xs)) (h : At K C Hf H0 N (ρ.set i (.dat (.lst .f xs)))) : At K C Hf H0 N ρ := fun Hb H L σ E =>
  let ⟨Hb', E'⟩ := E.freeze hi
  h Hb' H _ σ E'
theorem At.forget (i : Nat) (hi : i < ρ.length) (h : At K C Hf H0 N (ρ.set i .any)) : At K C Hf H0 N ρ := fun Hb H L σ E => h Hb H _ σ (E.forget hi)
theorem at_seq (h : At K C Hf H0 (s1 { D0 with nx := s2 D0 }) ρ) : At K C Hf H0 (tSeq s1 s2 D0) ρ := h
theorem at_next (h : At K C Hf H0 D0.nx ρ) : At K C Hf H0 (tNext D0) ρ := h
theorem at_asg {i : Nat} (h : EvD K C te ρ d) (hi : i < ρ.length) (k : At K C Hf H0 D0.nx (ρ.set i (.dat d))) : At K C Hf H0 (tAsg te (gName i) D0) ρ := fun Hb H L σ E =>
  h Hf H0 Hb H L σ E _ fun v Hb' H' S r => k Hb' H' _ _ ((E.step S).setDat hi r)
theorem at_asgL {i : Nat} (h : EvL K C te ρ xs) (hi : i < ρ.length) (k : At K C Hf H0 D0.nx (ρ.set i (.own xs))) : At K C Hf H0 (tAsg te (gName i) D0) ρ := fun Hb H L σ E =>
  h Hf H0 Hb H L σ E _ fun p us Hb' H' S n1 n2 h1 h2 => k Hb' H' _ _ (E.setOwn S hi n1 n2 h1 h2)
theorem at_drop (h : EvR K C te ρ d) (k : At K C Hf H0 D0.nx ρ) : At K C Hf H0 (tDrop te D0) ρ := fun Hb H L σ E =>
  h Hf H0 Hb H L σ E _ fun v Hb' H' S r => k Hb' H' _ _ (E.step S)
theorem at_if {b : Bool} (h : EvB K C t ρ b) (h1 : b = true → At K C Hf H0 (s1 D0) ρ) (h2 : b = false → At K C Hf H0 (s2 D0) ρ) : At K C Hf H0 (tIfS t s1 s2 D0) ρ := fun Hb H L σ E =>
  h Hf H0 Hb H L σ E _ fun Hb' H' S => by
    cases b with
    | true => exact iteT (h1 rfl Hb' H' _ _ (E.step S))
    | false => exact iteF (h2 rfl Hb' H' _ _ (E.step S))
/-- what a def hands back: data, all of its lists new -/
def RetD (K : PySem.W.Frag) (C : Addr) (Hf : Hp) (d : D) (Q : VK) : Prop := ∀ v H', Ex Hf H' → Rp K C Hf H' d v → Q v H'
/-- .. a new list, the caller's own -/
def RetL (K : PySem.W.Frag) (C : Addr) (Hf : Hp) (xs : List D) (Q : VK) : Prop := ∀ p us Hm H', Ex Hf Hm → Ex Hm H' → Hm p = none → H' p = some (.lst us) → (∀ a zs, H' a = some (.tup zs) → Hm a = some (.tup zs)) → RpAll K C Hf Hm xs us → Q (.ref p) H'
theorem at_ret (h : EvD K C te ρ d) (k : RetD K C Hf d D0.rt) : At K C Hf H0 (tRet te D0) ρ := fun Hb H L σ E =>
  h Hf H0 Hb H L σ E _ fun v Hb' H' S r => k v H' (E.ef.trans S.h) (Rp.mono S.bh d v r)
theorem at_retN (k : RetD K C Hf .non D0.rt) : At K C Hf H0 (tRetN D0) ρ := fun Hb H L σ E => k .non H E.ef rfl
/-- the end without return -/
theorem at_end {Q : VK} (k : RetD K C Hf .non Q) : At K C Hf H0 (fun _ H' => Q .non H') ρ := fun Hb H L σ E => k .non H E.ef rfl
theorem at_retL (hf : ∀ a, Hf a = H0 a) (h : EvL K C te ρ xs) (k : RetL K C Hf xs D0.rt) : At K C Hf H0 (tRet te D0) ρ := fun Hb H L σ E =>
  h Hf H0 Hb H L σ E _ fun p us Hb' H' S n1 n2 h1 h2 => k p us Hb' H' (fun a o q => S.hb _ _ (E.e0 _ _ (by rw [← hf]; exact q))) S.bh n2 h1 S.tu h2
theorem at_retOwn (hf : ∀ a, Hf a = H0 a) {i : Nat} (hi : ρ[i]? = some (.own xs)) (k : RetL K C Hf xs D0.rt) : At K C Hf H0 (tRet (tVar i) D0) ρ := fun Hb H L σ E => by
  obtain ⟨s, l, g1, g2, p, us, rfl, rfl, g3, g4⟩ := E.cell i _ hi
  exact ⟨_, g1, k p us Hb H (fun a o q => E.e0 _ _ (by rw [← hf]; exact q)) E.e1 (E.fr i _ p g2 (by simp)).1 g3 E.tu g4⟩
/-- x.append(e), x an owned list -/
theorem at_append {i : Nat} (hi : ρ[i]? = some (.own xs)) (h : EvD K C te ρ d) (hz : xs.length < 100000) (k : At K C Hf H0 D0.nx (ρ.set i (.own (xs ++ [d])))) : At K C Hf H0 (tDrop (tBM K "list" rAppend (tVar i) (tCons te tNil)) D0) ρ := fun Hb H L σ E => by
  obtain ⟨s, l, g1, g2, p, us, rfl, rfl, g3, g4⟩ := E.cell i _ hi
  refine ⟨_, g1, Or.inl ⟨rfl, _, .of g3⟩, h Hf H0 Hb H L σ E _ fun v Hb' H' S r => ?_⟩
  refine ⟨p, us, v, rfl, rfl, S.h _ _ g3, lineT (by rw [g4.length]; exact hz), ?_⟩
  have E' := E.step S
  exact k _ _ _ _ (E'.mut hi g1 ((RpAll.mono S.hb _ _ g4).append (.one r)))
/-- x[k] = e, x an owned list -/
theorem at_setItem {i : Nat} {j : Int} {n : Nat} (hi : ρ[i]? = some (.own xs)) (h : EvD K C te ρ d) (hb : EvR K C tb ρ (.int j)) (hj : ixN xs.length j = some n) (k : At K C Hf H0 D0.nx (ρ.set i (.own (xs.set n d)))) :
    At K C Hf H0 (tAsg te (gSub (tVar i) tb rSetL) D0) ρ := fun Hb H L σ E => by
  obtain ⟨s, l, g1, g2, p, us, rfl, rfl, g3, g4⟩ := E.cell i _ hi
  refine h Hf H0 Hb H L σ E _ fun v Hb' H' S r => ⟨_, g1, hb Hf H0 Hb' H' L σ (E.step S) _ fun y Hb2 H2 S2 r2 => ?_⟩
  refine ⟨p, us, j, n, rfl, r2, S2.h _ _ (S.h _ _ g3), by rw [g4.length]; exact hj, ?_⟩
  have E' := (E.step S).step S2
  exact k _ _ _ _ (E'.mut hi g1 (RpAll.set n (RpAll.mono S2.hb _ _ (RpAll.mono S.hb _ _ g4)) (Rp.mono S2.hb _ _ r)))
/-- x.reverse() -/
theorem at_reverse {i : Nat} (hi : ρ[i]? = some (.own xs)) (k : At K C Hf H0 D0.nx (ρ.set i (.own xs.reverse))) : At K C Hf H0 (tDrop (tBM0 K "list" rReverse (tVar i)) D0) ρ := fun Hb H L σ E => by
  obtain ⟨s, l, g1, g2, p, us, rfl, rfl, g3, g4⟩ := E.cell i _ hi
  exact ⟨_, g1, Or.inl ⟨rfl, _, .of g3⟩, p, us, rfl, rfl, g3, k _ _ _ _ (E.mut hi g1 g4.reverse)⟩

/-! loops -/
theorem at_forL {j : Nat} {m : Mark} {tl : TE} {body : TS} (h : EvD K C tl ρ (.lst m xs)) (I : Nat → List Cell → Prop) (h0 : I 0 ρ) (hlen : ∀ i ρ', I i ρ' → j < ρ'.length)
    (hs : ∀ (H1 : Hp) (i : Nat) (x : D) (ρ' : List Cell), xs[i]? = some x → I i ρ' → At K C Hf H1 (body { D0 with nx := Gx K C Hf H1 (I (i + 1)), ct := Gx K C Hf H1 (I (i + 1)), bk := D0.nx }) (ρ'.set j (.dat x)))
    (hd : ∀ ρ', I xs.length ρ' → At K C Hf H0 D0.nx ρ') : At K C Hf H0 (tFor (iList K tl) (gName j) body D0) ρ := fun Hb H L σ E => by
  refine h Hf H0 Hb H L σ E _ fun v Hb1 H1 S r => ?_
  obtain ⟨a, us, rfl, _, h1, h2⟩ := r
  have E1 := E.step S
  refine ⟨a, rfl, ⟨us, .of (S.bh _ _ h1)⟩, for_list (K := K) (a := a) (xs := us) (fun i σ' H' => Gx K C Hf Hb1 (I i) σ' H') ⟨ρ, Hb1, L, h0, E1.rebase⟩ (fun i σ' H' _ ⟨ρ', Hb', L', _, E'⟩ => .of (E'.e1 _ _ (E'.e0 _ _ h1))) ?_ ?_⟩
  · rintro i x σ' H' hx ⟨ρ', Hb', L', hI, E'⟩
    have hd' : ∃ y, xs[i]? = some y ∧ Rp K C Hf Hb1 y x := by
      have hl := h2.length
      have hi := (List.getElem?_eq_some_iff.mp hx).1
      obtain ⟨y, hy⟩ : ∃ y, xs[i]? = some y := ⟨xs[i]'(by omega), List.getElem?_eq_getElem _⟩
      obtain ⟨u, hu, ru⟩ := h2.get hy
      rw [hx] at hu; cases hu
      exact ⟨y, hy, ru⟩
    obtain ⟨y, hy, ry⟩ := hd'
    exact hs Hb1 i y ρ' hy hI Hb' H' _ _ (E'.setDat (hlen i ρ' hI) (Rp.mono E'.e0 _ _ ry))
  · rintro σ' H' ⟨ρ', Hb', L', hI, E'⟩
    rw [h2.length] at hI
    exact hd ρ' hI Hb' H' L' σ' (E'.unbase (E.e0.trans S.hb) E1.nw)
theorem at_forR {j : Nat} {n : Int} {ta : TA} {body : TS} (h : EvA K C ta ρ [.int n]) (hn : -1000000 ≤ n ∧ n ≤ 1000000) (I : Nat → List Cell → Prop) (h0 : I 0 ρ) (hlen : ∀ i ρ', I i ρ' → j < ρ'.length)
    (hs : ∀ (i : Nat) (ρ' : List Cell), (i : Int) < n → I i ρ' → At K C Hf H0 (body { D0 with nx := Gx K C Hf H0 (I (i + 1)), ct := Gx K C Hf H0 (I (i + 1)), bk := D0.nx }) (ρ'.set j (.dat (.int i))))
    (hd : ∀ ρ', I n.toNat ρ' → At K C Hf H0 D0.nx ρ') : At K C Hf H0 (tFor (iRng1 ta) (gName j) body D0) ρ := fun Hb H L σ E => by
  refine h Hf H0 Hb H L σ E _ fun vs Hb1 H1 S r => ?_
  obtain ⟨v, r', rfl, e1, e2⟩ := r
  have e2' : r' = [] := e2
  subst e2'
  have e1' : v = .int n := e1
  subst e1'
  refine ⟨n, rfl, by omega, by omega, for_range (lo := 0) (n := n.toNat) (fun i σ' H' => Gx K C Hf H0 (I i) σ' H') ⟨ρ, Hb1, L, h0, E.step S⟩ ?_ ?_⟩
  · rintro i σ' H' hi ⟨ρ', Hb', L', hI, E'⟩
    have e : (0 : Int) + (i : Int) = (i : Int) := Int.zero_add _
    rw [e]
    exact hs i ρ' (by omega) hI Hb' H' _ _ (E'.setDat (hlen i ρ' hI) rfl)
  · rintro σ' H' ⟨ρ', Hb', L', hI, E'⟩
    exact hd ρ' hI Hb' H' L' σ' E'
/-- for a, b in a list of pairs -/
theorem at_forP {j k : Nat} {m : Mark} {tl : TE} {body : TS} (h : EvD K C tl ρ (.lst m xs)) (I : Nat → List Cell → Prop) (h0 : I 0 ρ) (hlen : ∀ i ρ', I i ρ' → j < ρ'.length ∧ k < ρ'.length)
    (hs : ∀ (H1 : Hp) (i : Nat) (x : D) (ρ' : List Cell), xs[i]? = some x → I i ρ' → ∃ y z, x = .tup [y, z] ∧ At K C Hf H1 (body { D0 with nx := Gx K C Hf H1 (I (i + 1)), ct := Gx K C Hf H1 (I (i + 1)), bk := D0.nx }) ((ρ'.set j (.dat y)).set k (.dat z)))
    (hd : ∀ ρ', I xs.length ρ' → At K C Hf H0 D0.nx ρ') : At K C Hf H0 (tFor (iList K tl) (gTup K 2 (gCons (gName j) (gCons (gName k) gNil))) body D0) ρ := fun Hb H L σ E => by
  refine h Hf H0 Hb H L σ E _ fun v Hb1 H1 S r => ?_
  obtain ⟨a, us, rfl, _, h1, h2⟩ := r
  have E1 := E.step S
  refine ⟨a, rfl, ⟨us, .of (S.bh _ _ h1)⟩, for_list (K := K) (a := a) (xs := us) (fun i σ' H' => Gx K C Hf Hb1 (I i) σ' H') ⟨ρ, Hb1, L, h0, E1.rebase⟩ (fun i σ' H' _ ⟨ρ', Hb', L', _, E'⟩ => .of (E'.e1 _ _ (E'.e0 _ _ h1))) ?_ ?_⟩
  · rintro i x σ' H' hx ⟨ρ', Hb', L', hI, E'⟩
    have hd' : ∃ y, xs[i]? = some y ∧ Rp K C Hf Hb1 y x := by
      have hl := h2.length
      have hi := (List.getElem?_eq_some_iff.mp hx).1
      obtain ⟨y, hy⟩ : ∃ y, xs[i]? = some y := ⟨xs[i]'(by omega), List.getElem?_eq_getElem _⟩
      obtain ⟨u, hu, ru⟩ := h2.get hy
      rw [hx] at hu; cases hu
      exact ⟨y, hy, ru⟩
    obtain ⟨w, hy, ry⟩ := hd'
    obtain ⟨y, z, rfl, go⟩ := hs Hb1 i w ρ' hy hI
    obtain ⟨b, ws, rfl, h3, v1, r1, rfl, q1, v2, r2, rfl, q2, q3⟩ := ry
    have q3' : r2 = [] := q3
    subst q3'
    have l1 := (hlen i ρ' hI).1
    have l2 := (hlen i ρ' hI).2
    refine ⟨b, _, rfl, (h3.mono fun a zs w => E'.e1 _ _ (E'.e0 _ _ w)).sq, rfl, v1, _, rfl, v2, _, rfl, rfl, ?_⟩
    exact go Hb' H' _ _ ((E'.setDat l1 (Rp.mono E'.e0 _ _ q1)).setDat (by simpa using l2) (Rp.mono E'.e0 _ _ q2))
  · rintro σ' H' ⟨ρ', Hb', L', hI, E'⟩
    rw [h2.length] at hI
    exact hd ρ' hI Hb' H' L' σ' (E'.unbase (E.e0.trans S.hb) E1.nw)
/-- while: I with a measure; the test's answer by the names -/
theorem at_while {tc : TT} {body : TS} (I : Nat → List Cell → Prop) (m0 : Nat) (h0 : I m0 ρ)
    (hs : ∀ (m : Nat) (ρ' : List Cell), I m ρ' → ∃ b, EvB K C tc ρ' b ∧ (b = true → At K C Hf H0 (body { D0 with nx := Gx K C Hf H0 (fun r => ∃ m', m' < m ∧ I m' r), ct := Gx K C Hf H0 (fun r => ∃ m', m' < m ∧ I m' r), bk := D0.nx }) ρ') ∧
      (b = false → At K C Hf H0 D0.nx ρ')) : At K C Hf H0 (tWhile tc body D0) ρ := fun Hb H L σ E => by
  refine ⟨fun m σ' H' => Gx K C Hf H0 (I m) σ' H', ⟨m0, ρ, Hb, L, h0, E⟩, ?_⟩
  rintro m σ' H' ⟨ρ', Hb', L', hI, E'⟩
  obtain ⟨b, hb, h1, h2⟩ := hs m ρ' hI
  refine hb Hf H0 Hb' H' L' σ' E' _ fun Hb2 H2 S2 => ?_
  cases b with
  | true =>
    refine iteT ⟨Gx K C Hf H0 (fun r => ∃ m', m' < m ∧ I m' r), ?_, h1 rfl Hb2 H2 _ _ (E'.step S2)⟩
    rintro σ3 H3 ⟨ρ3, Hb3, L3, ⟨m', hm, hI3⟩, E3⟩
    exact ⟨m', hm, ρ3, Hb3, L3, hI3, E3⟩
  | false => exact iteF (h2 rfl Hb2 H2 _ _ (E'.step S2))

/-! the same, something behind -/
theorem sq_asg {i : Nat} (h : EvD K C te ρ d) (hi : i < ρ.length) (k : At K C Hf H0 (s2 D0) (ρ.set i (.dat d))) : At K C Hf H0 (tSeq (tAsg te (gName i)) s2 D0) ρ := at_seq (at_asg h hi k)
theorem sq_asgL {i : Nat} (h : EvL K C te ρ xs) (hi : i < ρ.length) (k : At K C Hf H0 (s2 D0) (ρ.set i (.own xs))) : At K C Hf H0 (tSeq (tAsg te (gName i)) s2 D0) ρ := at_seq (at_asgL h hi k)
theorem sq_drop (h : EvR K C te ρ d) (k : At K C Hf H0 (s2 D0) ρ) : At K C Hf H0 (tSeq (tDrop te) s2 D0) ρ := at_seq (at_drop h k)
theorem sq_if {s3 s4 : TS} {b : Bool} (h : EvB K C t ρ b) (h1 : b = true → At K C Hf H0 (s3 { D0 with nx := s2 D0 }) ρ) (h2 : b = false → At K C Hf H0 (s4 { D0 with nx := s2 D0 }) ρ) : At K C Hf H0 (tSeq (tIfS t s3 s4) s2 D0) ρ := at_seq (at_if h h1 h2)
/-- an if without else -/
theorem sq_when {s3 : TS} {b : Bool} (h : EvB K C t ρ b) (h1 : b = true → At K C Hf H0 (s3 { D0 with nx := s2 D0 }) ρ) (h2 : b = false → At K C Hf H0 (s2 D0) ρ) : At K C Hf H0 (tSeq (tIfS t s3 tNext) s2 D0) ρ := at_seq (at_if h h1 h2)
theorem at_when {s3 : TS} {b : Bool} (h : EvB K C t ρ b) (h1 : b = true → At K C Hf H0 (s3 D0) ρ) (h2 : b = false → At K C Hf H0 D0.nx ρ) : At K C Hf H0 (tIfS t s3 tNext D0) ρ := at_if h h1 h2
theorem sq_append {i : Nat} (hi : ρ[i]? = some (.own xs)) (h : EvD K C te ρ d) (hz : xs.length < 100000) (k : At K C Hf H0 (s2 D0) (ρ.set i (.own (xs ++ [d])))) : At K C Hf H0 (tSeq (tDrop (tBM K "list" rAppend (tVar i) (tCons te tNil))) s2 D0) ρ := at_seq (at_append hi h hz k)
theorem sq_setItem {i : Nat} {j : Int} {n : Nat} (hi : ρ[i]? = some (.own xs)) (h : EvD K C te ρ d) (hb : EvR K C tb ρ (.int j)) (hj : ixN xs.length j = some n) (k : At K C Hf H0 (s2 D0) (ρ.set i (.own (xs.set n d)))) :
    At K C Hf H0 (tSeq (tAsg te (gSub (tVar i) tb rSetL)) s2 D0) ρ := at_seq (at_setItem hi h hb hj k)
theorem sq_reverse {i : Nat} (hi : ρ[i]? = some (.own xs)) (k : At K C Hf H0 (s2 D0) (ρ.set i (.own xs.reverse))) : At K C Hf H0 (tSeq (tDrop (tBM0 K "list" rReverse (tVar i))) s2 D0) ρ := at_seq (at_reverse hi k)
theorem sq_forL {j : Nat} {m : Mark} {tl : TE} {body : TS} (h : EvD K C tl ρ (.lst m xs)) (I : Nat → List Cell → Prop) (h0 : I 0 ρ) (hlen : ∀ i ρ', I i ρ' → j < ρ'.length)
    (hs : ∀ (H1 : Hp) (i : Nat) (x : D) (ρ' : List Cell), xs[i]? = some x → I i ρ' → At K C Hf H1 (body { D0 with nx := Gx K C Hf H1 (I (i + 1)), ct := Gx K C Hf H1 (I (i + 1)), bk := s2 D0 }) (ρ'.set j (.dat x)))
    (hd : ∀ ρ', I xs.length ρ' → At K C Hf H0 (s2 D0) ρ') : At K C Hf H0 (tSeq (tFor (iList K tl) (gName j) body) s2 D0) ρ := at_seq (at_forL h I h0 hlen hs hd)
theorem sq_forR {j : Nat} {n : Int} {ta : TA} {body : TS} (h : EvA K C ta ρ [.int n]) (hn : -1000000 ≤ n ∧ n ≤ 1000000) (I : Nat → List Cell → Prop) (h0 : I 0 ρ) (hlen : ∀ i ρ', I i ρ' → j < ρ'.length)
    (hs : ∀ (i : Nat) (ρ' : List Cell), (i : Int) < n → I i ρ' → At K C Hf H0 (body { D0 with nx := Gx K C Hf H0 (I (i + 1)), ct := Gx K C Hf H0 (I (i + 1)), bk := s2 D0 }) (ρ'.set j (.dat (.int i))))
    (hd : ∀ ρ', I n.toNat ρ' → At K C Hf H0 (s2 D0) ρ') : At K C Hf H0 (tSeq (tFor (iRng1 ta) (gName j) body) s2 D0) ρ := at_seq (at_forR h hn I h0 hlen hs hd)
theorem sq_forP {j k : Nat} {m : Mark} {tl : TE} {body : TS} (h : EvD K C tl ρ (.lst m xs)) (I : Nat → List Cell → Prop) (h0 : I 0 ρ) (hlen : ∀ i ρ', I i ρ' → j < ρ'.length ∧ k < ρ'.length)
    (hs : ∀ (H1 : Hp) (i : Nat) (x : D) (ρ' : List Cell), xs[i]? = some x → I i ρ' → ∃ y z, x = .tup [y, z] ∧ At K C Hf H1 (body { D0 with nx := Gx K C Hf H1 (I (i + 1)), ct := Gx K C Hf H1 (I (i + 1)), bk := s2 D0 }) ((ρ'.set j (.dat y)).set k (.dat z)))
    (hd : ∀ ρ', I xs.length ρ' → At K C Hf H0 (s2 D0) ρ') : At K C Hf H0 (tSeq (tFor (iList K tl) (gTup K 2 (gCons (gName j) (gCons (gName k) gNil))) body) s2 D0) ρ := at_seq (at_forP h I h0 hlen hs hd)
theorem sq_while {tc : TT} {body : TS} (I : Nat → List Cell → Prop) (m0 : Nat) (h0 : I m0 ρ)
    (hs : ∀ (m : Nat) (ρ' : List Cell), I m ρ' → ∃ b, EvB K C tc ρ' b ∧ (b = true → At K C Hf H0 (body { D0 with nx := Gx K C Hf H0 (fun r => ∃ m', m' < m ∧ I m' r), ct := Gx K C Hf H0 (fun r => ∃ m', m' < m ∧ I m' r), bk := s2 D0 }) ρ') ∧
      (b = false → At K C Hf H0 (s2 D0) ρ')) : At K C Hf H0 (tSeq (tWhile tc body) s2 D0) ρ := at_seq (at_while I m0 h0 hs)

/-! defs -/
/-- a def that reads its arguments and hands back data -/
def spD (K : PySem.W.Frag) (C : Addr) (R : List D → D → Prop) : Sp := fun vs H Q _ => ∃ ds d, RpAll K C H H ds vs ∧ R ds d ∧ RetD K C H d Q
def spL (K : PySem.W.Frag) (C : Addr) (R : List D → List D → Prop) : Sp := fun vs H Q _ => ∃ ds xs, RpAll K C H H ds vs ∧ R ds xs ∧ RetL K C H xs Q
/-- at a def's entry -/
def uns : Nat → List Cell
  | 0 => []
  | n + 1 => .un :: uns n
theorem EnvB.start : ∀ (ds : List D) (vs : List V) (n : Nat), RpAll K C H H ds vs → EnvB K C H H H H (List.replicate (ds.length + n) []) (vs.map some ++ List.replicate n none) (ds.map .dat ++ uns n) := fun ds vs n r => by
  have hu : ∀ n, (uns n).length = n := fun n => by induction n with | zero => rfl | succ n ih => show (uns n).length + 1 = n + 1; rw [ih]
  have hug : ∀ (n i : Nat) (c : Cell), (uns n)[i]? = some c → c = .un ∧ i < n := fun n => by
    induction n with
    | zero => intro i c q; cases q
    | succ n ih =>
      intro i c q
      cases i with
      | zero => exact ⟨(Option.some.inj q).symm, Nat.succ_pos _⟩
      | succ i => obtain ⟨h1, h2⟩ := ih i c q; exact ⟨h1, Nat.succ_lt_succ h2⟩
  have hl := r.length
  refine ⟨.refl _, .refl _, .refl _, fun a o q => .inl q, fun a xs q => q, by simp [hu, hl], by simp [hu], fun i c q => ?_, fun i j li lj a q1 q2 m1 m2 => ?_, fun i l q => ?_, fun i l a q m => ?_⟩
  · have hi : i < ds.length + n := by
      have := (List.getElem?_eq_some_iff.mp q).1
      simpa [hu] using this
    have g2 : (List.replicate (ds.length + n) ([] : List Addr))[i]? = some [] := by rw [List.getElem?_replicate, if_pos hi]
    by_cases z : i < ds.length
    · rw [List.getElem?_append_left (by simpa using z), List.getElem?_map] at q
      cases e : ds[i]? with
      | none => rw [e] at q; cases q
      | some d =>
        rw [e] at q; cases q
        obtain ⟨v, hv, rv⟩ := r.get e
        refine ⟨some v, [], ?_, g2, rfl, v, rfl, rv⟩
        rw [List.getElem?_append_left (by simp [hl, z]), List.getElem?_map, hv]; rfl
    · rw [List.getElem?_append_right (by simpa using z)] at q
      obtain ⟨rfl, h2⟩ := hug _ _ _ q
      refine ⟨none, [], ?_, g2, rfl, rfl⟩
      rw [List.getElem?_append_right (by simp [hl]; omega), List.getElem?_replicate, if_pos (by simp [hl] at h2 ⊢; omega)]
  · rw [List.getElem?_replicate] at q1; split at q1 <;> cases q1; exact nomatch m1
  · rw [List.getElem?_replicate] at q; split at q <;> cases q; exact List.nodup_nil
  · rw [List.getElem?_replicate] at q; split at q <;> cases q; exact nomatch m
theorem start_at {ds : List D} {vs : List V} {N : List Str} {n : Nat} {G : St → Hp → Prop} (r : RpAll K C H H ds vs) (hn : N.length - vs.length = n) (h : At K C H H G (ds.map .dat ++ uns n)) : G (start N vs) H := by
  subst hn
  exact h H H _ _ (EnvB.start ds vs _ r)

/-! calls -/
theorem ev_call {R : List D → D → Prop} {E : XK} {t : TA} {ds ds' : List D} (h : EvA K C t ρ ds) (he : eraAll ds = ds') (hR : R ds' d) (hf : d.fr = true) : EvD K C (tCall (spD K C R) [] E t) ρ d := fun Hf H0 Hb H L σ E0 Q q =>
  h Hf H0 Hb H L σ E0 _ fun vs Hb1 H1 S r => by
    refine ⟨ds', d, ?_, hR, fun v H' e r2 => ?_⟩
    · rw [List.append_nil]
      have r' := RpAll.era (Hf' := H1) _ _ r
      rw [he] at r'
      exact r'
    · have E1 := E0.step S
      exact q v (joinH H1 Hb1 H') H' (S.trans (E1.join e)) (Rp.into (E1.joinInto e) d v hf r2)
theorem ev_callL {R : List D → List D → Prop} {E : XK} {t : TA} {ds ds' : List D} (h : EvA K C t ρ ds) (he : eraAll ds = ds') (hR : R ds' xs) (hf : frAll xs = true) : EvL K C (tCall (spL K C R) [] E t) ρ xs := fun Hf H0 Hb H L σ E0 Q q =>
  h Hf H0 Hb H L σ E0 _ fun vs Hb1 H1 S r => by
    refine ⟨ds', xs, ?_, hR, fun p us Hm H' e em n1 h1 tu r2 => ?_⟩
    · rw [List.append_nil]
      have r' := RpAll.era (Hf' := H1) _ _ r
      rw [he] at r'
      exact r'
    · have E1 := E0.step S
      have J := E1.join e
      have p1 : H1 p = none := e.free n1
      have jp : joinH H1 Hb1 Hm p = none := by
        unfold joinH
        rw [p1]; exact n1
      refine q p us (joinH H1 Hb1 Hm) H' (S.trans ⟨J.hb, e.trans em, J.bh.trans em, J.nw, fun a zs w => J.tu a zs (tu a zs w)⟩) (S.h.free p1) jp h1 (RpAll.into (E1.joinInto e) xs us hf r2)
end
end Hw
namespace Hw
open PySem L2
abbrev St := L2.St
abbrev envOfC := @PyProof.Rows.envOfC

section
variable {K : PySem.W.Frag} {C : Addr} {ρ : List Cell} {te : TE} {tt : TT} {d : D}
/-! comprehensions: one name, at place j -/
theorem wipe1 (σ : St) (j : Nat) (x : Option V) : wipe ((wipe σ [j]).set j x) [j] = wipe σ [j] := by
  show ((σ.set j none).set j x).set j none = σ.set j none
  simp
theorem wipeSet (σ : St) (j : Nat) (x : Option V) : (wipe σ [j]).set j x = σ.set j x := by
  show (σ.set j none).set j x = σ.set j x
  simp
/-- what stands between the turns: the new list at p holds ys -/
def Acc (K : PySem.W.Frag) (C : Addr) (Hf Hb H : Hp) (p : Addr) (ys : List D) (H' : Hp) : Prop := ∃ Hb' us, Step Hb H Hb' H' ∧ Hb' p = none ∧ H' p = some (.lst us) ∧ RpAll K C Hf Hb' ys us
theorem Acc.start {Hf H0 Hb H : Hp} {L : List (List Addr)} {σ : St} (E : EnvB K C Hf H0 Hb H L σ ρ) {p : Addr} (hp : H p = none) : Acc K C Hf Hb H p [] (upd H p (.lst [])) :=
  ⟨Hb, [], newList E.step0 hp, E.e1.free hp, upd_same, .nil⟩
theorem Acc.turn {Hf H0 Hb H H' : Hp} {L : List (List Addr)} {σ : St} {p : Addr} {ys : List D} {j : Nat} {b : Bool} {v : V} {y : D} {x : D} (E : EnvB K C Hf H0 Hb H L σ ρ) (hp : H p = none) (hj : j < ρ.length) (A : Acc K C Hf Hb H p ys H') (hz : ys.length < 100000)
    (hx : Rp K C Hf Hb x v) (ht : EvB K C tt (ρ.set j (.dat x)) b) (he : b = true → EvD K C te (ρ.set j (.dat x)) y) {ys' : List D} (hy : (match b with | true => ys ++ [y] | false => ys) = ys') :
    wipe ((wipe σ [j]).set j (some v)) [j] = wipe σ [j] ∧ tt ((wipe σ [j]).set j (some v)) H' fun b H3 => if b = true then te ((wipe σ [j]).set j (some v)) H3 fun z H4 => ∃ acc, H4 p = some (.lst acc) ∧ acc.length < sizeLine ∧ Acc K C Hf Hb H p ys' (upd H4 p (.lst (acc ++ [z])))
      else Acc K C Hf Hb H p ys' H3 := by
  subst hy
  refine ⟨wipe1 _ _ _, ?_⟩
  rw [wipeSet]
  obtain ⟨Hb', us, S, n1, h1, h2⟩ := A
  have Ex' : EnvB K C Hf H0 Hb' H' (L.set j []) (σ.set j (some v)) (ρ.set j (.dat x)) := (E.step S).setDat hj (Rp.mono S.hb _ _ hx)
  refine ht Hf H0 Hb' H' _ _ Ex' _ fun Hb2 H2 S2 => ?_
  have n2 : Hb2 p = none := by
    cases q : Hb2 p with
    | none => rfl
    | some o =>
      rcases S2.nw p o q with z | z
      · rw [n1] at z; cases z
      · rw [h1] at z; cases z
  cases b with
  | false => exact iteF ⟨Hb2, us, S.trans S2, n2, S2.h _ _ h1, RpAll.mono S2.hb _ _ h2⟩
  | true =>
    refine iteT (he rfl Hf H0 Hb2 H2 _ _ (Ex'.step S2) _ fun z Hb3 H3 S3 r3 => ?_)
    have S13 := (S.trans S2).trans S3
    have n3 : Hb3 p = none := by
      cases q : Hb3 p with
      | none => rfl
      | some o =>
        rcases S3.nw p o q with z | z
        · rw [n2] at z; cases z
        · rw [S2.h _ _ h1] at z; cases z
    refine ⟨us, S3.h _ _ (S2.h _ _ h1), lineT (by rw [h2.length]; exact hz), Hb3, us ++ [z], ⟨S13.hb, S13.h.mut hp, S13.bh.mut n3, S13.nw, fun a zs w => ?_⟩, n3, upd_same, (RpAll.mono S3.hb _ _ (RpAll.mono S2.hb _ _ h2)).append (.one r3)⟩
    by_cases q : a = p
    · subst q; rw [upd_same] at w; cases w
    · rw [upd_ne q] at w; exact S13.tu _ _ w
theorem filterMap_take {α β : Type} {g : α → Option β} {l : List α} {i : Nat} {x : α} (h : l[i]? = some x) : (l.take (i + 1)).filterMap g = (l.take i).filterMap g ++ (match g x with | some y => [y] | none => []) := by
  rw [List.take_add_one, h, List.filterMap_append]
  congr 1
  show List.filterMap g [x] = _
  cases e : g x <;> simp [List.filterMap, e]
theorem len_filterMap_take {α β : Type} (g : α → Option β) (l : List α) (i : Nat) : ((l.take i).filterMap g).length ≤ l.length := by
  have h1 := List.length_filterMap_le g (l.take i)
  have h2 := List.length_take_le' i l
  omega
/-- [e for x in l if t]: over data told by as -/
theorem el_lc {α : Type} {as : List α} {f : α → D} {g : α → Option D} {m : Mark} {tl : TE} {j : Nat} (hl : EvD K C tl ρ (.lst m (as.map f))) (hz : as.length < 100000) (hj : j < ρ.length)
    (h : ∀ a ∈ as, match g a with
      | some y => EvB K C tt (ρ.set j (.dat (f a))) true ∧ EvD K C te (ρ.set j (.dat (f a))) y
      | none => EvB K C tt (ρ.set j (.dat (f a))) false) : EvL K C (tLc (iList K tl) (gName j) tt te [j]) ρ (as.filterMap g) := fun Hf H0 Hb H L σ E Q q =>
  hl Hf H0 Hb H L σ E _ fun v Hb1 H1 S r => by
    obtain ⟨a, us, rfl, _, h1, h2⟩ := r
    have E1 := E.step S
    refine ⟨a, rfl, ⟨us, .of (S.bh _ _ h1)⟩, fun p hp => lc_list (K := K) (a := a) (xs := us) (fun i H' => Acc K C Hf Hb1 H1 p ((as.take i).filterMap g) H') (Acc.start E1 hp) (fun i H' _ A => ?_) (fun i x H' hx A => ?_) fun H' A => ?_⟩
    · obtain ⟨Hb', _, S', _⟩ := A
      exact .of (S'.bh _ _ (S'.hb _ _ h1))
    · have hl' : us.length = as.length := by simpa using h2.length
      have hi : i < as.length := by have := (List.getElem?_eq_some_iff.mp hx).1; omega
      have ha : as[i]? = some as[i] := List.getElem?_eq_getElem hi
      obtain ⟨u, hu, ru⟩ := h2.get (i := i) (d := f as[i]) (by rw [List.getElem?_map, ha]; rfl)
      rw [hx] at hu; cases hu
      have hh := h as[i] (List.getElem_mem hi)
      have lz : ((as.take i).filterMap g).length < 100000 := by have := len_filterMap_take g as i; omega
      have tk := filterMap_take (g := g) ha
      show wipe ((wipe σ [j]).set j (some x)) [j] = wipe σ [j] ∧ _
      rw [tk]
      cases e : g as[i] with
      | some y =>
        rw [e] at hh
        exact Acc.turn E1 hp hj A lz ru hh.1 (fun _ => hh.2) rfl
      | none =>
        rw [e] at hh
        exact Acc.turn (te := te) (y := .non) E1 hp hj A lz ru hh (fun z => nomatch z) (List.append_nil _).symm
    · have hl' : us.length = as.length := by simpa using h2.length
      rw [hl', List.take_length] at A
      obtain ⟨Hb', us', S', n1, g1, g2⟩ := A
      exact q p us' Hb' H' (S.trans S') (S.h.free hp) n1 g1 g2
theorem filterMap_some {α β : Type} (g : α → β) (l : List α) : l.filterMap (fun a => some (g a)) = l.map g := by
  induction l with
  | nil => rfl
  | cons a l ih => simp [ih]
theorem el_lcMap {α : Type} {as : List α} {f g : α → D} {m : Mark} {tl : TE} {j : Nat} (hl : EvD K C tl ρ (.lst m (as.map f))) (hz : as.length < 100000) (hj : j < ρ.length)
    (h : ∀ a ∈ as, EvD K C te (ρ.set j (.dat (f a))) (g a)) : EvL K C (tLc (iList K tl) (gName j) tYes te [j]) ρ (as.map g) := by
  rw [← filterMap_some]
  exact el_lc hl hz hj fun a ha => ⟨eb_yes, h a ha⟩
/-- over range(n) -/
theorem el_lcR {n : Int} {g : Nat → Option D} {ta : TA} {j : Nat} (hl : EvA K C ta ρ [.int n]) (hz : -100000 < n ∧ n < 100000) (hj : j < ρ.length)
    (h : ∀ i : Nat, (i : Int) < n → match g i with
      | some y => EvB K C tt (ρ.set j (.dat (.int i))) true ∧ EvD K C te (ρ.set j (.dat (.int i))) y
      | none => EvB K C tt (ρ.set j (.dat (.int i))) false) : EvL K C (tLc (iRng1 ta) (gName j) tt te [j]) ρ ((List.range n.toNat).filterMap g) := fun Hf H0 Hb H L σ E Q q =>
  hl Hf H0 Hb H L σ E _ fun vs Hb1 H1 S r => by
    obtain ⟨v, r', rfl, e1, e2⟩ := r
    have e2' : r' = [] := e2
    subst e2'
    have e1' : v = .int n := e1
    subst e1'
    have E1 := E.step S
    refine ⟨n, rfl, by omega, by omega, fun p hp => lc_range (lo := 0) (n := n.toNat) (fun i H' => Acc K C Hf Hb1 H1 p (((List.range n.toNat).take i).filterMap g) H') (Acc.start E1 hp) (fun i H' hi A => ?_) fun H' A => ?_⟩
    · have e : (0 : Int) + (i : Int) = (i : Int) := Int.zero_add _
      have ha : (List.range n.toNat)[i]? = some i := by rw [List.getElem?_range hi]
      have hh := h i (by omega)
      have lz : (((List.range n.toNat).take i).filterMap g).length < 100000 := by
        have := len_filterMap_take g (List.range n.toNat) i
        rw [List.length_range] at this
        omega
      have tk := filterMap_take (g := g) ha
      show wipe ((wipe σ [j]).set j (some (V.int (0 + (i : Int))))) [j] = wipe σ [j] ∧ _
      rw [tk]
      simp only [e]
      have ru : Rp K C Hf Hb1 (.int i) (V.int (i : Int)) := rfl
      cases e : g i with
      | some y =>
        rw [e] at hh
        exact Acc.turn E1 hp hj A lz ru hh.1 (fun _ => hh.2) rfl
      | none =>
        rw [e] at hh
        exact Acc.turn (te := te) (y := .non) E1 hp hj A lz ru hh (fun z => nomatch z) (List.append_nil _).symm
    · have e : (List.range n.toNat).take n.toNat = List.range n.toNat := List.take_of_length_le (by simp)
      rw [e] at A
      obtain ⟨Hb', us', S', n1, g1, g2⟩ := A
      exact q p us' Hb' H' (S.trans S') (S.h.free hp) n1 g1 g2
theorem el_lcRMap {n : Int} {g : Nat → D} {ta : TA} {j : Nat} (hl : EvA K C ta ρ [.int n]) (hz : -100000 < n ∧ n < 100000) (hj : j < ρ.length)
    (h : ∀ i : Nat, (i : Int) < n → EvD K C te (ρ.set j (.dat (.int i))) (g i)) : EvL K C (tLc (iRng1 ta) (gName j) tYes te [j]) ρ ((List.range n.toNat).map g) := by
  rw [← filterMap_some]
  exact el_lcR hl hz hj fun i hi => ⟨eb_yes, h i hi⟩
end

/-! a def of the text, called by its name -/
def Okf (P : Program) (w : World) (K : PySem.W.Frag) (mg : Str → Option Value) (base : Heap) (x : Str) (ps : List Str) (k : Nat) (sp : Sp) : Prop :=
  ∃ f fd, mg x = some (.ref f) ∧ PySem.W.keepIn K (.ref f) = true ∧ Binds K fd ps [] ∧ FnOk P w K mg base (L2.CX P w) k f fd ps sp
def FnAt (K : PySem.W.Frag) (mg : Str → Option Value) (x name : Str) (st : Stmt) (ps : List Str) : Prop :=
  ∃ f fd, mg x = some (.ref f) ∧ Fun K name name st f fd ∧ Binds K fd ps []
section
variable {P : Program} {w : World} {K : PySem.W.Frag} {mg : Str → Option Value} {base : Heap}
theorem Okf.mk {x name : Str} {st : Stmt} {ps N : List Str} {k : Nat} {sp : Sp} (F : FnAt K mg x name st ps) (S : FnScope N ps (defScope st)) (len : ∀ vs H Q E, sp vs H Q E → vs.length = ps.length) (t : XK → TS)
    (hd : ∀ (f : Addr) (cdv : Value) (A : Around) (outer : List Env) (s : Shared) (H : Hp) (E : XK), Room k (A.deeper (envOfC name (defScope st) s.heap.objs.size f cdv)) → PSs (cxOf (L2.CX P w) P w K mg base N name (defScope st) f cdv A outer s H E) (defBody st) (t E))
    (hp : ∀ vs H Q E, sp vs H Q E → t E { nx := fun _ H' => Q .non H', rt := Q } (start N vs) H) : Okf P w K mg base x ps (k + 1) sp := by
  obtain ⟨f, fd, hm, F, b⟩ := F
  exact ⟨f, fd, hm, F.kp, b, F.okX S len fun cdv A outer s H vs Q E hr h => ⟨t E, hd f cdv A outer s H E hr, hp vs H Q E h⟩⟩
theorem Okf.lvl {x : Str} {ps : List Str} {j k : Nat} {sp : Sp} (O : Okf P w K mg base x ps j sp) (h : j ≤ k) : Okf P w K mg base x ps k sp := by
  obtain ⟨f, fd, hm, kp, b, F⟩ := O
  exact ⟨f, fd, hm, kp, b, F.mono h⟩
end
section
variable {X : Cx} {x : Str} {p pos : Pos} {e : Expr} {es : List Expr} {t : TA} {ps : List Str} {k : Nat} {sp : Sp}
theorem pe_callO (O : Okf X.prog X.w X.K X.mg X.base x ps k sp) (hr : Room k X.A) (ha : PA X (e :: es) t) (hg : Gl X x := by rfl) (hdb : (x == ("__debug__" : Str)) = false := by decide)
    (he : starEach (e :: es) X.env = (false, eval e X.env) :: starEach es X.env := by rfl) (hpl : (backTo pos (starEach es X.env)).any (·.1) = false := by rfl) : PE X (.Call (.Name x p) (e :: es) [] pos) (tCall sp [] E0 t) := by
  obtain ⟨f, fd, hm, kp, b, F⟩ := O
  exact pe_call F hr hg hm kp b .nil passL ha hdb he hpl
end
end Hw
namespace Hw
open PySem L2
def rRepS : R2 := fun x y H Q => ∃ a n, x = .str a ∧ y = .int n ∧ MulOk a n ∧ Q (.str (Txt.mul a n)) H
theorem op_repS {X : Cx} : OpR X (binaryOp .Mult) rRepS := by
  intro pins s σ H x y v u Q I rx ry h
  obtain ⟨a, n, rfl, rfl, hc, q⟩ := h
  obtain ⟨t, rfl⟩ := rx
  obtain ⟨t', rfl⟩ := ry
  exact SB.mul hc fun t' k => ⟨.str _, H, I.tok _, ⟨_, rfl⟩, q⟩
def xRepS : TE → TE → TE := tOp rRepS
theorem pe_xRepS {X : Cx} {a b : Expr} {ta tb : TE} {pos : Pos} (ha : PE X a ta) (hb : PE X b tb) : PE X (.BinOp a .Mult b pos) (xRepS ta tb) := pe_op op_repS ha hb
def D.tn : D → Option String
  | .non => some "NoneType"
  | .bl _ => some "bool"
  | .int _ => some "int"
  | .str _ => some "str"
  | .lst _ _ => some "list"
  | .tup _ => some "tuple"
  | _ => none
section
variable {K : PySem.W.Frag} {C : Addr} {ρ : List Cell} {te ta tb tc : TE} {t u : TT} {d d' : D} {xs ys : List D} {m n k : Int} {Hf H : Hp}
theorem Rp.ty {v : V} {T : String} (h : d.tn = some T) (r : Rp K C Hf H d v) : TyX K H v (.type T) := by
  cases d with
  | non => cases h; cases r; exact .base .non
  | bl b => cases h; cases r; exact .base (.bl b)
  | int b => cases h; cases r; exact .base (.int b)
  | str b => cases h; cases r; exact .base (.str b)
  | scr ns => cases h
  | ho m ws tb => cases h
  | lst m ds =>
    cases h
    obtain ⟨a, us, rfl, _, h1, _⟩ := r
    exact .base (.lst h1)
  | tup ds =>
    cases h
    obtain ⟨a, us, rfl, h1, _⟩ := r
    rcases h1 with h1 | h1
    · exact .base (.tup h1)
    · rcases h1 with (h1 | ⟨o, h1⟩) | ⟨o, its, n, h1, h2, _⟩
      · cases h1
      · cases h1
      · exact .kTuple h1 h2
theorem ed_isi {T n : String} {b : Bool} (ha : EvR K C ta ρ d) (h : d.tn = some T) (hk : kitB T n = some b) : EvD K C (xIsi K n ta) ρ (.bl b) := fun Hf H0 Hb H L σ E Q q => ha Hf H0 Hb H L σ E _ fun x Hb1 H1 S r =>
  ⟨x, .ty n, .type T, .type n, b, rfl, .ty n, r.ty h, kit_ty hk, q _ Hb1 H1 S rfl⟩
theorem ed_catS {a b : Str} (ha : EvR K C ta ρ (.str a)) (hb : EvR K C tb ρ (.str b)) (hz : a.length + b.length ≤ 100000) : EvD K C (xCatS ta tb) ρ (.str (a ++ b)) := fun Hf H0 Hb H L σ E Q q =>
  two ha hb E fun x y Hb' H' S r1 r2 => ⟨a, b, r1, r2, line_of hz, q _ Hb' H' S rfl⟩
theorem ed_repS {a : Str} (ha : EvR K C ta ρ (.str a)) (hb : EvR K C tb ρ (.int n)) (hz : MulOk a n) : EvD K C (xRepS ta tb) ρ (.str (Txt.mul a n)) := fun Hf H0 Hb H L σ E Q q =>
  two ha hb E fun x y Hb' H' S r1 r2 => ⟨a, n, r1, r2, hz, q _ Hb' H' S rfl⟩
/-! the same things said of one another -/
theorem EqD.frac {x y : Rat} : EqD (.tup [.int x.num, .int (x.den : Int)]) (.tup [.int y.num, .int (y.den : Int)]) (decide (x = y)) := by
  obtain ⟨p, q, e1, e2, s1, s2, e3⟩ := (EqD.pair (m := x.num) (n := x.den) (k := y.num) (l := y.den)).ex
  refine ⟨⟨p, q, e1, e2, s1, s2, ?_⟩⟩
  rw [e3, ← Bool.decide_and]
  apply decide_eq_decide.mpr
  constructor
  · rintro ⟨h1, h2⟩
    exact Rat.ext h1 (Int.ofNat_inj.mp h2)
  · rintro rfl; exact ⟨rfl, rfl⟩
end
end Hw
namespace Hw
open PySem L2

/-! fractions -/
def dF (q : Rat) : D := .tup [.int q.num, .int (q.den : Int)]
def Sz (n : Nat) (q : Rat) : Prop := q.num.natAbs < 2 ^ n ∧ q.den < 2 ^ n
theorem dF_era (q : Rat) : (dF q).era = dF q := rfl
theorem dF_fr (q : Rat) : (dF q).fr = true := rfl
theorem gcd_pos_of {a b : Int} (h : b ≠ 0) : 0 < Int.gcd a b := Int.gcd_pos_of_ne_zero_right a h
/-- the fraction as the loop reckons it -/
theorem divInt_num {a b : Int} (h : 0 < b) : (Rat.divInt a b).num = a / (Int.gcd a.natAbs b : Int) := by
  rw [Rat.num_divInt, Int.sign_eq_one_of_pos h, Int.one_mul]
  congr 2
  rw [Int.gcd_comm]
  simp [Int.gcd]
theorem divInt_den {a b : Int} (h : 0 < b) : ((Rat.divInt a b).den : Int) = b / (Int.gcd a.natAbs b : Int) := by
  rw [Rat.den_divInt, if_neg (by omega)]
  have e : b.gcd a = Int.gcd (a.natAbs : Int) b := by rw [Int.gcd_comm]; simp [Int.gcd]
  rw [e]
  have hb : b = (b.natAbs : Int) := by omega
  have : ((b.natAbs / Int.gcd (a.natAbs : Int) b : Nat) : Int) = (b.natAbs : Int) / (Int.gcd (a.natAbs : Int) b : Int) := by simp
  rw [this, ← hb]
theorem dF_div {a b : Int} (h : 0 < b) : dF (Rat.divInt a b) = .tup [.int (a / (Int.gcd a.natAbs b : Int)), .int (b / (Int.gcd a.natAbs b : Int))] := by
  unfold dF
  rw [divInt_num h, divInt_den h]
theorem divInt_neg2 (a b : Int) : Rat.divInt (0 - a) (0 - b) = Rat.divInt a b := by
  rw [Int.zero_sub, Int.zero_sub]
  exact Rat.neg_divInt_neg a b
theorem Sz.mono {m n : Nat} {q : Rat} (h : Sz m q) (l : m ≤ n) : Sz n q :=
  ⟨Nat.lt_of_lt_of_le h.1 (Nat.pow_le_pow_right (by decide) l), Nat.lt_of_lt_of_le h.2 (Nat.pow_le_pow_right (by decide) l)⟩
theorem sz_div {n : Nat} {a b : Int} (hb : b ≠ 0) (h1 : a.natAbs < 2 ^ n) (h2 : b.natAbs < 2 ^ n) : Sz n (Rat.divInt a b) := by
  have key : ∀ a b : Int, 0 < b → a.natAbs < 2 ^ n → b.natAbs < 2 ^ n → Sz n (Rat.divInt a b) := fun a b hb h1 h2 => by
    constructor
    · rw [divInt_num hb]
      refine Nat.lt_of_le_of_lt ?_ h1
      rw [Int.natAbs_ediv_of_dvd (by
        have := Int.gcd_dvd_left (a.natAbs : Int) b
        exact Int.dvd_natAbs.mp this)]
      exact Nat.div_le_self _ _
    · rw [Rat.den_divInt, if_neg (by omega)]
      exact Nat.lt_of_le_of_lt (Nat.div_le_self _ _) h2
  by_cases h : 0 < b
  · exact key a b h h1 h2
  · rw [← divInt_neg2]
    exact key _ _ (by omega) (by omega) (by omega)
theorem rat_eq (q : Rat) : q = Rat.divInt q.num q.den := (Rat.num_divInt_den q).symm
theorem den_pos (q : Rat) : (0 : Int) < q.den := by have := q.den_pos; omega
theorem den_ne (q : Rat) : (q.den : Int) ≠ 0 := by have := den_pos q; omega
theorem add_eq (x y : Rat) : x + y = Rat.divInt (x.num * y.den + y.num * x.den) (x.den * y.den) := by
  conv => lhs; rw [rat_eq x, rat_eq y]
  exact Rat.divInt_add_divInt _ _ (den_ne x) (den_ne y)
theorem sub_eq (x y : Rat) : x - y = Rat.divInt (x.num * y.den - y.num * x.den) (x.den * y.den) := by
  conv => lhs; rw [rat_eq x, rat_eq y]
  exact Rat.divInt_sub_divInt _ _ (den_ne x) (den_ne y)
theorem mul_eq (x y : Rat) : x * y = Rat.divInt (x.num * y.num) (x.den * y.den) := by
  conv => lhs; rw [rat_eq x, rat_eq y]
  exact Rat.divInt_mul_divInt _ _
theorem div_eq (x y : Rat) : x / y = Rat.divInt (x.num * y.den) (x.den * y.num) := by
  conv => lhs; rw [rat_eq x, rat_eq y]
  rw [Rat.div_def, Rat.inv_divInt, Rat.divInt_mul_divInt]
theorem den_prod_ne (x y : Rat) : (x.den : Int) * y.den ≠ 0 := Int.mul_ne_zero (den_ne x) (den_ne y)
theorem num_ne {y : Rat} (h : y ≠ 0) : y.num ≠ 0 := fun e => h (Rat.num_eq_zero.mp e)
theorem lt_add {a b : Int} {n : Nat} (h1 : a.natAbs < 2 ^ n) (h2 : b.natAbs < 2 ^ n) : (a + b).natAbs < 2 ^ (n + 1) ∧ (a - b).natAbs < 2 ^ (n + 1) := by
  have h5 : (2 : Nat) ^ (n + 1) = 2 ^ n * 2 := Nat.pow_succ ..
  omega
theorem natAbs_den (q : Rat) : (q.den : Int).natAbs = q.den := by simp
section
variable {m n : Nat} {x y : Rat}
theorem Sz.den (h : Sz n x) : ((x.den : Nat) : Int).natAbs < 2 ^ n := by rw [natAbs_den]; exact h.2
theorem Sz.cross (h : Sz m x) (k : Sz n y) : (x.num * y.den).natAbs < 2 ^ (m + n) := wide_lt h.1 k.den
theorem Sz.dens (h : Sz m x) (k : Sz n y) : ((x.den : Int) * y.den).natAbs < 2 ^ (m + n) := wide_lt h.den k.den
theorem Sz.up {a : Int} {m n : Nat} (h : a.natAbs < 2 ^ m) (l : m ≤ n) : a.natAbs < 2 ^ n := Nat.lt_of_lt_of_le h (Nat.pow_le_pow_right (by decide) l)
theorem Sz.add (h : Sz m x) (k : Sz n y) : Sz (m + n + 1) (x + y) := by
  rw [add_eq]
  refine sz_div (den_prod_ne x y) (lt_add (h.cross k) (by rw [Nat.add_comm]; exact k.cross h)).1 (Sz.up (h.dens k) (by omega))
theorem Sz.sub (h : Sz m x) (k : Sz n y) : Sz (m + n + 1) (x - y) := by
  rw [sub_eq]
  refine sz_div (den_prod_ne x y) (lt_add (h.cross k) (by rw [Nat.add_comm]; exact k.cross h)).2 (Sz.up (h.dens k) (by omega))
theorem Sz.mul (h : Sz m x) (k : Sz n y) : Sz (m + n) (x * y) := by
  rw [mul_eq]
  exact sz_div (den_prod_ne x y) (wide_lt h.1 k.1) (h.dens k)
theorem Sz.div (h : Sz m x) (k : Sz n y) (hy : y ≠ 0) : Sz (m + n) (x / y) := by
  rw [div_eq]
  exact sz_div (Int.mul_ne_zero (den_ne x) (num_ne hy)) (h.cross k) (wide_lt h.den k.1)
theorem Sz.mulw (ha : m + n ≤ 1000000) (h0 : 0 < m) (h1 : 0 < n) {a b : Int} (h : a.natAbs < 2 ^ m) (k : b.natAbs < 2 ^ n) : CMulW a b := wide_mul h k h0 h1 ha
theorem sz_int {z : Int} (h0 : 0 < n) (h : z.natAbs < 2 ^ n) : Sz n (z : Rat) := by
  refine ⟨?_, ?_⟩
  · rw [Rat.num_intCast]; exact h
  · rw [Rat.den_intCast]
    have : 0 < 2 ^ n := Nat.pos_of_ne_zero (by simp)
    cases n with
    | zero => omega
    | succ n => rw [Nat.pow_succ]; have := Nat.pos_of_ne_zero (show (2 : Nat) ^ n ≠ 0 by simp); omega
end
theorem dF_int (z : Int) : dF (z : Rat) = .tup [.int z, .int 1] := by
  unfold dF
  rw [Rat.num_intCast, Rat.den_intCast]; rfl
/-! kinds of data, and what is left of them without marks -/
abbrev dI (r : List Int) : List D := r.map D.int
def dRows (m : Mark) (tb : List (List Int)) : List D := tb.map fun r => .lst m (dI r)
def dP (p : Int × Int) : D := .tup [.int p.1, .int p.2]
abbrev dRope (m : Mark) (ps : List (Int × Int)) : D := .lst m (ps.map dP)
abbrev dRopes (m : Mark) (rs : List (List (Int × Int))) : List D := rs.map (dRope m)
abbrev dFs (qs : List Rat) : List D := qs.map dF
abbrev dS (ss : List Str) : List D := ss.map D.str
theorem era_dF (q : Rat) : (dF q).era = dF q := rfl
theorem era_dP (q : Int × Int) : (dP q).era = dP q := rfl
theorem era_dFs (q : List Rat) : eraAll (q.map dF) = q.map dF := eraAll_map _ _ (fun _ => rfl) _
theorem era_dI (q : List Int) : eraAll (q.map D.int) = q.map D.int := eraAll_map _ _ (fun _ => rfl) _
theorem era_dS (q : List Str) : eraAll (q.map D.str) = q.map D.str := eraAll_map _ _ (fun _ => rfl) _
theorem era_dPs (q : List (Int × Int)) : eraAll (q.map dP) = q.map dP := eraAll_map _ _ (fun _ => rfl) _
theorem era_dRows (m : Mark) (tb : List (List Int)) : eraAll (dRows m tb) = dRows .x tb := eraAll_map _ _ (fun r => by show D.lst .x (eraAll (dI r)) = _; rw [era_dI]) _
theorem era_dRopes (m : Mark) (rs : List (List (Int × Int))) : eraAll (rs.map (dRope m)) = rs.map (dRope .x) := eraAll_map _ _ (fun r => by show D.lst .x (eraAll (r.map dP)) = _; rw [era_dPs]) _
theorem fr_dFs (q : List Rat) : frAll (q.map dF) = true := frAll_map _ (fun _ => rfl) _
theorem fr_dI (q : List Int) : frAll (q.map D.int) = true := frAll_map _ (fun _ => rfl) _
theorem fr_dS (q : List Str) : frAll (q.map D.str) = true := frAll_map _ (fun _ => rfl) _
theorem fr_dPs (q : List (Int × Int)) : frAll (q.map dP) = true := frAll_map _ (fun _ => rfl) _
theorem fr_dRows (tb : List (List Int)) : frAll (dRows .f tb) = true := frAll_map _ (fun r => by show (decide (Mark.f = .f) && frAll (dI r)) = true; rw [fr_dI]; rfl) _
theorem fr_dRopes (rs : List (List (Int × Int))) : frAll (rs.map (dRope .f)) = true := frAll_map _ (fun r => by show (decide (Mark.f = .f) && frAll (r.map dP)) = true; rw [fr_dPs]; rfl) _
end Hw
namespace Hw
open PySem L2
/-! what the defs promise: fractions, the law's own reckoning -/
def R_common (ds : List D) (d : D) : Prop := ∃ a b : Int, 0 ≤ a ∧ 0 ≤ b ∧ ds = [.int a, .int b] ∧ d = .int (Int.gcd a b)
def R_fraction (ds : List D) (d : D) : Prop := ∃ a b : Int, b ≠ 0 ∧ b.natAbs < 2 ^ 8500 ∧ ds = [.int a, .int b] ∧ d = dF (Rat.divInt a b)
def R_plus (ds : List D) (d : D) : Prop := ∃ x y : Rat, Sz 4000 x ∧ Sz 4000 y ∧ ds = [dF x, dF y] ∧ d = dF (x + y)
def R_minus (ds : List D) (d : D) : Prop := ∃ x y : Rat, Sz 4000 x ∧ Sz 4000 y ∧ ds = [dF x, dF y] ∧ d = dF (x - y)
def R_times (ds : List D) (d : D) : Prop := ∃ x y : Rat, Sz 4000 x ∧ Sz 4000 y ∧ ds = [dF x, dF y] ∧ d = dF (x * y)
def R_over (ds : List D) (d : D) : Prop := ∃ x y : Rat, Sz 4000 x ∧ Sz 4000 y ∧ y ≠ 0 ∧ ds = [dF x, dF y] ∧ d = dF (x / y)
def R_less (ds : List D) (d : D) : Prop := ∃ x y : Rat, Sz 4000 x ∧ Sz 4000 y ∧ ds = [dF x, dF y] ∧ d = .bl (decide (x < y))
def R_cell (ds : List D) (d : D) : Prop := ∃ (ns : List Int) (k : Nat), ds = [.scr ns, .int k] ∧ d = .int (ns.getD k 0)
def R_whole (ds : List D) (d : D) : Prop := ∃ i : Int, ds = [.int i] ∧ d = .bl true
def R_low (ds : List D) (d : D) : Prop := ∃ a b : Int, 0 < b ∧ b.natAbs < 2 ^ 8500 ∧ ds = [.int a, .int b] ∧ d = dF (Rat.divInt a b)
/-- the law's plus: of any two tuples with bottoms above nought -/
def R_lplus (ds : List D) (d : D) : Prop := ∃ a b c e : Int, 0 < b ∧ 0 < e ∧ a.natAbs < 2 ^ 4000 ∧ b.natAbs < 2 ^ 4000 ∧ c.natAbs < 2 ^ 4000 ∧ e.natAbs < 2 ^ 4000 ∧ ds = [.tup [.int a, .int b], .tup [.int c, .int e]] ∧ d = dF (Rat.divInt a b + Rat.divInt c e)
def R_part (ds : List D) (d : D) : Prop := ∃ x : Rat, Sz 8500 x ∧ ds = [dF x] ∧ d = .bl true
def bots : List Int := [1, 1, 2, 3, 7, 1000003]
def mosts : List Int := [9, 99, 10 ^ 12]
def fracOf (c : Int) : Rat := Rat.divInt (c / 18 % (2 * mosts.getD (c / 6 % 3).toNat 0 + 1) - mosts.getD (c / 6 % 3).toNat 0) (bots.getD (c % 6).toNat 1)
def R_lfraction (ds : List D) (d : D) : Prop := ∃ c : Int, ds = [.int c] ∧ d = dF (fracOf c)
/-- k01: the told fraction is the one of top and bottom -/
def R_same (ds : List D) (d : D) : Prop := ∃ (x : Rat) (a b : Int), Sz 8500 x ∧ b ≠ 0 ∧ b.natAbs < 2 ^ 8500 ∧ x = Rat.divInt a b ∧ ds = [dF x, .int a, .int b] ∧ d = .bl true
section
variable (K : PySem.W.Frag) (C : Addr)
abbrev sp_common : Sp := spD K C R_common
abbrev sp_fraction : Sp := spD K C R_fraction
abbrev sp_plus : Sp := spD K C R_plus
abbrev sp_minus : Sp := spD K C R_minus
abbrev sp_times : Sp := spD K C R_times
abbrev sp_over : Sp := spD K C R_over
abbrev sp_less : Sp := spD K C R_less
abbrev sp_law_cell_at : Sp := spD K C R_cell
abbrev sp_law_whole : Sp := spD K C R_whole
abbrev sp_law_low : Sp := spD K C R_low
abbrev sp_law_plus : Sp := spD K C R_lplus
abbrev sp_law_part : Sp := spD K C R_part
abbrev sp_law_fraction : Sp := spD K C R_lfraction
abbrev sp_law_same : Sp := spD K C R_same
end
section
variable {a b c : Int} {x y : Rat} {ns : List Int} {k : Nat}
theorem rc_common (ha : 0 ≤ a) (hb : 0 ≤ b) : R_common [.int a, .int b] (.int (Int.gcd a b)) := ⟨a, b, ha, hb, rfl, rfl⟩
theorem rc_fraction (hb : b ≠ 0) (hz : b.natAbs < 2 ^ 8500) : R_fraction [.int a, .int b] (dF (Rat.divInt a b)) := ⟨a, b, hb, hz, rfl, rfl⟩
theorem rc_plus (h1 : Sz 4000 x) (h2 : Sz 4000 y) : R_plus [dF x, dF y] (dF (x + y)) := ⟨x, y, h1, h2, rfl, rfl⟩
theorem rc_minus (h1 : Sz 4000 x) (h2 : Sz 4000 y) : R_minus [dF x, dF y] (dF (x - y)) := ⟨x, y, h1, h2, rfl, rfl⟩
theorem rc_times (h1 : Sz 4000 x) (h2 : Sz 4000 y) : R_times [dF x, dF y] (dF (x * y)) := ⟨x, y, h1, h2, rfl, rfl⟩
theorem rc_over (h1 : Sz 4000 x) (h2 : Sz 4000 y) (h : y ≠ 0) : R_over [dF x, dF y] (dF (x / y)) := ⟨x, y, h1, h2, h, rfl, rfl⟩
theorem rc_less (h1 : Sz 4000 x) (h2 : Sz 4000 y) : R_less [dF x, dF y] (.bl (decide (x < y))) := ⟨x, y, h1, h2, rfl, rfl⟩
theorem rc_cell (h : c = (k : Int)) : R_cell [.scr ns, .int c] (.int (ns.getD k 0)) := ⟨ns, k, by rw [h], rfl⟩
theorem rc_whole : R_whole [.int a] (.bl true) := ⟨a, rfl, rfl⟩
theorem rc_low (hb : 0 < b) (hz : b.natAbs < 2 ^ 8500) : R_low [.int a, .int b] (dF (Rat.divInt a b)) := ⟨a, b, hb, hz, rfl, rfl⟩
theorem rc_part (h : Sz 8500 x) : R_part [dF x] (.bl true) := ⟨x, h, rfl, rfl⟩
theorem rc_lfraction : R_lfraction [.int c] (dF (fracOf c)) := ⟨c, rfl, rfl⟩
end
theorem fracOf_sz (c : Int) : Sz 50 (fracOf c) := by
  unfold fracOf
  have h1 : (c % 6).toNat = 0 ∨ (c % 6).toNat = 1 ∨ (c % 6).toNat = 2 ∨ (c % 6).toNat = 3 ∨ (c % 6).toNat = 4 ∨ (c % 6).toNat = 5 := by omega
  have h2 : (c / 6 % 3).toNat = 0 ∨ (c / 6 % 3).toNat = 1 ∨ (c / 6 % 3).toNat = 2 := by omega
  have hb : bots.getD (c % 6).toNat 1 ≠ 0 ∧ (bots.getD (c % 6).toNat 1).natAbs < 2 ^ 50 := by
    rcases h1 with h | h | h | h | h | h <;> rw [h] <;> decide
  refine sz_div hb.1 ?_ hb.2
  rcases h2 with h | h | h <;> rw [h] <;> simp [mosts] <;> omega
end Hw
namespace Hw
open PySem L2
/-- common: one other rest -/
def t_common (K : PySem.W.Frag) (C : Addr) : TS := (tSeq (tWhile (tB (xGt (tVar 1) (tC (.int 0)))) (tSeq (tAsg (xMod (tVar 0) (tVar 1)) (gName 2)) (tSeq (tAsg (tVar 1) (gName 0)) (tAsg (tVar 2) (gName 1))))) (tRet (tVar 0)))
abbrev n_common : List Str := ["one", "other", "rest"]
/-- fraction: top bottom far -/
def t_fraction (K : PySem.W.Frag) (C : Addr) : TS := (tSeq (tIfS (tB (xLt (tVar 1) (tC (.int 0)))) (tSeq (tAsg (xSub (tC (.int 0)) (tVar 0)) (gName 0)) (tAsg (xSub (tC (.int 0)) (tVar 1)) (gName 1))) tNext) (tSeq (tAsg (tCall (sp_common K C) [] E0 (tCons (xAbs (tVar 0)) (tCons (tVar 1) tNil))) (gName 2)) (tRet (tTup (tCons (xDiv (tVar 0) (tVar 2)) (tCons (xDiv (tVar 1) (tVar 2)) tNil))))))
abbrev n_fraction : List Str := ["top", "bottom", "far"]
/-- plus: one other -/
def t_plus (K : PySem.W.Frag) (C : Addr) : TS := (tRet (tCall (sp_fraction K C) [] E0 (tCons (xAdd (xMul (xIdx K (tVar 0) (tC (.int 0))) (xIdx K (tVar 1) (tC (.int 1)))) (xMul (xIdx K (tVar 1) (tC (.int 0))) (xIdx K (tVar 0) (tC (.int 1))))) (tCons (xMul (xIdx K (tVar 0) (tC (.int 1))) (xIdx K (tVar 1) (tC (.int 1)))) tNil))))
abbrev n_plus : List Str := ["one", "other"]
/-- minus: one other -/
def t_minus (K : PySem.W.Frag) (C : Addr) : TS := (tRet (tCall (sp_fraction K C) [] E0 (tCons (xSub (xMul (xIdx K (tVar 0) (tC (.int 0))) (xIdx K (tVar 1) (tC (.int 1)))) (xMul (xIdx K (tVar 1) (tC (.int 0))) (xIdx K (tVar 0) (tC (.int 1))))) (tCons (xMul (xIdx K (tVar 0) (tC (.int 1))) (xIdx K (tVar 1) (tC (.int 1)))) tNil))))
abbrev n_minus : List Str := ["one", "other"]
/-- times: one other -/
def t_times (K : PySem.W.Frag) (C : Addr) : TS := (tRet (tCall (sp_fraction K C) [] E0 (tCons (xMul (xIdx K (tVar 0) (tC (.int 0))) (xIdx K (tVar 1) (tC (.int 0)))) (tCons (xMul (xIdx K (tVar 0) (tC (.int 1))) (xIdx K (tVar 1) (tC (.int 1)))) tNil))))
abbrev n_times : List Str := ["one", "other"]
/-- over: one other -/
def t_over (K : PySem.W.Frag) (C : Addr) : TS := (tRet (tCall (sp_fraction K C) [] E0 (tCons (xMul (xIdx K (tVar 0) (tC (.int 0))) (xIdx K (tVar 1) (tC (.int 1)))) (tCons (xMul (xIdx K (tVar 0) (tC (.int 1))) (xIdx K (tVar 1) (tC (.int 0)))) tNil))))
abbrev n_over : List Str := ["one", "other"]
/-- less: one other -/
def t_less (K : PySem.W.Frag) (C : Addr) : TS := (tRet (xLt (xMul (xIdx K (tVar 0) (tC (.int 0))) (xIdx K (tVar 1) (tC (.int 1)))) (xMul (xIdx K (tVar 1) (tC (.int 0))) (xIdx K (tVar 0) (tC (.int 1))))))
abbrev n_less : List Str := ["one", "other"]
/-- _law_cell_at: script k -/
def t_law_cell_at (K : PySem.W.Frag) (C : Addr) : TS := (tSeq (tIfS (tB (xLt (tVar 1) (xLen K (tVar 0)))) (tRet (xIdx K (tVar 0) (tVar 1))) tNext) (tRet (tC (.int 0))))
abbrev n_law_cell_at : List Str := ["script", "k"]
/-- _law_whole: found -/
def t_law_whole (K : PySem.W.Frag) (C : Addr) : TS := (tRet (tAndV (xIsi K "int" (tVar 0)) (tNotV (xIsi K "bool" (tVar 0)))))
abbrev n_law_whole : List Str := ["found"]
/-- _law_low: top bottom one other rest -/
def t_law_low (K : PySem.W.Frag) (C : Addr) : TS := (tSeq (tAsg (xAbs (tVar 0)) (gName 2)) (tSeq (tAsg (tVar 1) (gName 3)) (tSeq (tWhile (tB (xGt (tVar 3) (tC (.int 0)))) (tSeq (tAsg (xMod (tVar 2) (tVar 3)) (gName 4)) (tSeq (tAsg (tVar 3) (gName 2)) (tAsg (tVar 4) (gName 3))))) (tRet (tTup (tCons (xDiv (tVar 0) (tVar 2)) (tCons (xDiv (tVar 1) (tVar 2)) tNil)))))))
abbrev n_law_low : List Str := ["top", "bottom", "one", "other", "rest"]
/-- _law_plus: one other -/
def t_law_plus (K : PySem.W.Frag) (C : Addr) : TS := (tRet (tCall (sp_law_low K C) [] E0 (tCons (xAdd (xMul (xIdx K (tVar 0) (tC (.int 0))) (xIdx K (tVar 1) (tC (.int 1)))) (xMul (xIdx K (tVar 1) (tC (.int 0))) (xIdx K (tVar 0) (tC (.int 1))))) (tCons (xMul (xIdx K (tVar 0) (tC (.int 1))) (xIdx K (tVar 1) (tC (.int 1)))) tNil))))
abbrev n_law_plus : List Str := ["one", "other"]
/-- _law_part: found -/
def t_law_part (K : PySem.W.Frag) (C : Addr) : TS := (tSeq (tIfS (tOr (tNot (tB (xIsi K "tuple" (tVar 0)))) (tOr (tB (xNe K (xLen K (tVar 0)) (tC (.int 2)))) (tOr (tNot (tB (tCall (sp_law_whole K C) [] E0 (tCons (xIdx K (tVar 0) (tC (.int 0))) tNil)))) (tNot (tB (tCall (sp_law_whole K C) [] E0 (tCons (xIdx K (tVar 0) (tC (.int 1))) tNil))))))) (tRet (tC (.bl false))) tNext) (tRet (tAndV (xGt (xIdx K (tVar 0) (tC (.int 1))) (tC (.int 0))) (xEq K (tCall (sp_law_low K C) [] E0 (tCons (xIdx K (tVar 0) (tC (.int 0))) (tCons (xIdx K (tVar 0) (tC (.int 1))) tNil))) (tVar 0)))))
abbrev n_law_part : List Str := ["found"]
/-- _law_fraction: cell bottom most -/
def t_law_fraction (K : PySem.W.Frag) (C : Addr) : TS := (tSeq (tAsg (xIdx K (tLst (tCons (tC (.int 1)) (tCons (tC (.int 1)) (tCons (tC (.int 2)) (tCons (tC (.int 3)) (tCons (tC (.int 7)) (tCons (tC (.int 1000003)) tNil))))))) (xMod (tVar 0) (tC (.int 6)))) (gName 1)) (tSeq (tAsg (xIdx K (tLst (tCons (tC (.int 9)) (tCons (tC (.int 99)) (tCons (xPow (tC (.int 10)) (tC (.int 12))) tNil)))) (xMod (xDiv (tVar 0) (tC (.int 6))) (tC (.int 3)))) (gName 2)) (tRet (tCall (sp_law_low K C) [] E0 (tCons (xSub (xMod (xDiv (tVar 0) (tC (.int 18))) (xAdd (xMul (tC (.int 2)) (tVar 2)) (tC (.int 1)))) (tVar 2)) (tCons (tVar 1) tNil))))))
abbrev n_law_fraction : List Str := ["cell", "bottom", "most"]
/-- _law_same: found top bottom -/
def t_law_same (K : PySem.W.Frag) (C : Addr) : TS := (tSeq (tIfS (tB (xLt (tVar 2) (tC (.int 0)))) (tSeq (tAsg (xSub (tC (.int 0)) (tVar 1)) (gName 1)) (tAsg (xSub (tC (.int 0)) (tVar 2)) (gName 2))) tNext) (tRet (tAndV (tCall (sp_law_part K C) [] E0 (tCons (tVar 0) tNil)) (xEq K (tVar 0) (tCall (sp_law_low K C) [] E0 (tCons (tVar 1) (tCons (tVar 2) tNil)))))))
abbrev n_law_same : List Str := ["found", "top", "bottom"]
/-- law: script one other great a b c d found -/
def t_law_k01 (K : PySem.W.Frag) (C : Addr) : TS := (tSeq (tAsg (tCall (sp_law_fraction K C) [] E0 (tCons (tCall (sp_law_cell_at K C) [] E0 (tCons (tVar 0) (tCons (tC (.int 0)) tNil))) tNil)) (gName 1)) (tSeq (tAsg (tCall (sp_law_fraction K C) [] E0 (tCons (tCall (sp_law_cell_at K C) [] E0 (tCons (tVar 0) (tCons (tC (.int 1)) tNil))) tNil)) (gName 2)) (tSeq (tIfS (tB (xEq K (xMod (tCall (sp_law_cell_at K C) [] E0 (tCons (tVar 0) (tCons (tC (.int 2)) tNil))) (tC (.int 5))) (tC (.int 1)))) (tSeq (tAsg (xInt (xCatS (tC (.str "1")) (xRepS (tC (.str "0")) (tC (.int 50))))) (gName 3)) (tAsg (tCall (sp_law_low K C) [] E0 (tCons (xSub (xMod (tCall (sp_law_cell_at K C) [] E0 (tCons (tVar 0) (tCons (tC (.int 0)) tNil))) (tVar 3)) (xDiv (tVar 3) (tC (.int 2)))) (tCons (xAdd (tC (.int 1)) (xMod (tCall (sp_law_cell_at K C) [] E0 (tCons (tVar 0) (tCons (tC (.int 1)) tNil))) (tVar 3))) tNil))) (gName 1))) tNext) (tSeq (tAsg (xIdx K (tVar 1) (tC (.int 0))) (gName 4)) (tSeq (tAsg (xIdx K (tVar 1) (tC (.int 1))) (gName 5)) (tSeq (tAsg (xIdx K (tVar 2) (tC (.int 0))) (gName 6)) (tSeq (tAsg (xIdx K (tVar 2) (tC (.int 1))) (gName 7)) (tSeq (tIfS (tOr (tNot (tB (tCall (sp_law_same K C) [] E0 (tCons (tCall (sp_plus K C) [] E0 (tCons (tVar 1) (tCons (tVar 2) tNil))) (tCons (xAdd (xMul (tVar 4) (tVar 7)) (xMul (tVar 6) (tVar 5))) (tCons (xMul (tVar 5) (tVar 7)) tNil)))))) (tNot (tB (tCall (sp_law_same K C) [] E0 (tCons (tCall (sp_minus K C) [] E0 (tCons (tVar 1) (tCons (tVar 2) tNil))) (tCons (xSub (xMul (tVar 4) (tVar 7)) (xMul (tVar 6) (tVar 5))) (tCons (xMul (tVar 5) (tVar 7)) tNil))))))) (tRet (tC (.bl false))) tNext) (tSeq (tIfS (tNot (tB (tCall (sp_law_same K C) [] E0 (tCons (tCall (sp_times K C) [] E0 (tCons (tVar 1) (tCons (tVar 2) tNil))) (tCons (xMul (tVar 4) (tVar 6)) (tCons (xMul (tVar 5) (tVar 7)) tNil)))))) (tRet (tC (.bl false))) tNext) (tSeq (tIfS (tAnd (tB (xNe K (tVar 6) (tC (.int 0)))) (tNot (tB (tCall (sp_law_same K C) [] E0 (tCons (tCall (sp_over K C) [] E0 (tCons (tVar 1) (tCons (tVar 2) tNil))) (tCons (xMul (tVar 4) (tVar 7)) (tCons (xMul (tVar 5) (tVar 6)) tNil))))))) (tRet (tC (.bl false))) tNext) (tSeq (tAsg (tCall (sp_less K C) [] E0 (tCons (tVar 1) (tCons (tVar 2) tNil))) (gName 8)) (tRet (tAndV (xIsi K "bool" (tVar 8)) (xEq K (tVar 8) (xLt (xMul (tVar 4) (tVar 7)) (xMul (tVar 6) (tVar 5)))))))))))))))))
abbrev n_law_k01 : List Str := ["script", "one", "other", "great", "a", "b", "c", "d", "found"]
end Hw
namespace Hw
open PySem L2
local macro_rules | `(tactic| walk_at "sd") => `(tactic| first
  | exact rfl
  | decide +kernel
  | (exact Nat.le_of_ble_eq_true rfl)
  | assumption
  | (exact Sz.mono (by assumption) (by decide))
  | decide
  | omega
  | (exact eraAll_map _ _ (fun _ => rfl) _)
  | (exact frAll_map _ (fun _ => rfl) _)
  | exact EqD.frac
  | exact EqD.int
  | exact EqD.bl
  | exact EqD.pair
  | skip)
local macro_rules | `(tactic| walk_at "R") => `(tactic| first
  | (with_reducible apply rc_common) <;> walk_at "sd"
  | (with_reducible apply rc_fraction) <;> walk_at "sd"
  | (with_reducible apply rc_plus) <;> walk_at "sd"
  | (with_reducible apply rc_minus) <;> walk_at "sd"
  | (with_reducible apply rc_times) <;> walk_at "sd"
  | (with_reducible apply rc_over) <;> walk_at "sd"
  | (with_reducible apply rc_less) <;> walk_at "sd"
  | (with_reducible apply rc_cell) <;> walk_at "sd"
  | (with_reducible apply rc_whole) <;> walk_at "sd"
  | (with_reducible apply rc_low) <;> walk_at "sd"
  | (with_reducible apply rc_part) <;> walk_at "sd"
  | (with_reducible apply rc_lfraction) <;> walk_at "sd")
local macro_rules | `(tactic| walk_at "evD") => `(tactic| first
  | with_reducible exact ed_int
  | with_reducible exact ed_bl
  | with_reducible exact ed_non
  | with_reducible exact ed_str
  | (with_reducible apply ed_var) <;> walk_at "go"
  | (with_reducible apply ed_add) <;> walk_at "go"
  | (with_reducible apply ed_sub) <;> walk_at "go"
  | (with_reducible apply ed_mul) <;> walk_at "go"
  | (with_reducible apply ed_div) <;> walk_at "go"
  | (with_reducible apply ed_mod) <;> walk_at "go"
  | (with_reducible apply ed_pow) <;> walk_at "go"
  | (with_reducible apply ed_neg) <;> walk_at "go"
  | (with_reducible apply ed_lt) <;> walk_at "go"
  | (with_reducible apply ed_le) <;> walk_at "go"
  | (with_reducible apply ed_gt) <;> walk_at "go"
  | (with_reducible apply ed_ge) <;> walk_at "go"
  | (with_reducible apply ed_leLt) <;> walk_at "go"
  | (with_reducible apply ed_leLe) <;> walk_at "go"
  | (with_reducible apply ed_ltLt) <;> walk_at "go"
  | (with_reducible apply ed_eq) <;> walk_at "go"
  | (with_reducible apply ed_ne) <;> walk_at "go"
  | (with_reducible apply ed_idxT) <;> walk_at "go"
  | (with_reducible apply ed_idxS) <;> walk_at "go"
  | (with_reducible apply ed_idxScr) <;> walk_at "go"
  | (with_reducible apply ed_lenS) <;> walk_at "go"
  | (with_reducible apply ed_lenT) <;> walk_at "go"
  | (with_reducible apply ed_lenScr) <;> walk_at "go"
  | (with_reducible apply ed_abs) <;> walk_at "go"
  | (with_reducible apply ed_intI) <;> walk_at "go"
  | (with_reducible apply ed_intB) <;> walk_at "go"
  | (with_reducible apply ed_intS) <;> walk_at "go"
  | (with_reducible apply ed_andV) <;> walk_at "go"
  | (with_reducible apply ed_orV) <;> walk_at "go"
  | (with_reducible apply ed_notV) <;> walk_at "go"
  | (with_reducible apply ed_tup) <;> walk_at "go"
  | (with_reducible apply ev_call) <;> walk_at "go"
  | (with_reducible apply ed_isi) <;> walk_at "go"
  | (with_reducible apply ed_catS) <;> walk_at "go"
  | (with_reducible apply ed_repS) <;> walk_at "go"
  | (with_reducible apply EvL.dat) <;> walk_at "go")
local macro_rules | `(tactic| walk_at "evR") => `(tactic| first
  | (with_reducible apply EvD.r) <;> walk_at "go"
  | (with_reducible apply EvS.r) <;> walk_at "go")
local macro_rules | `(tactic| walk_at "evS") => `(tactic| first
  | (with_reducible apply es_own) <;> walk_at "go"
  | (with_reducible apply EvD.s) <;> walk_at "go"
  | (with_reducible apply EvL.s) <;> walk_at "go")
local macro_rules | `(tactic| walk_at "evL") => `(tactic| first
  | (with_reducible apply el_lst) <;> walk_at "go"
  | (with_reducible apply ev_callL) <;> walk_at "go")
local macro_rules | `(tactic| walk_at "evA") => `(tactic| first
  | with_reducible exact ea_nil
  | (with_reducible apply ea_cons) <;> walk_at "go")
local macro_rules | `(tactic| walk_at "evQ") => `(tactic| first
  | with_reducible exact eq_nil
  | (with_reducible apply eq_cons) <;> walk_at "go")
local macro_rules | `(tactic| walk_at "evB") => `(tactic| first
  | (with_reducible apply eb_and) <;> walk_at "go"
  | (with_reducible apply eb_or) <;> walk_at "go"
  | (with_reducible apply eb_not) <;> walk_at "go"
  | (with_reducible apply eb_val) <;> walk_at "go")
local macro_rules | `(tactic| walk_at "era") => `(tactic| first
  | ((simp only [eraAll, D.era, era_dF, era_dP, era_dFs, era_dI, era_dS, era_dPs, era_dRows, era_dRopes]); done)
  | ((simp only [eraAll, D.era, era_dF, era_dP, era_dFs, era_dI, era_dS, era_dPs, era_dRows, era_dRopes]); exact rfl))
local macro_rules | `(tactic| walk_at "frs") => `(tactic| first
  | exact rfl
  | exact fr_dFs _
  | exact fr_dI _
  | exact fr_dS _
  | exact fr_dPs _
  | exact fr_dRows _
  | exact fr_dRopes _
  | (simp only [frAll, D.fr, fr_dFs, fr_dI, fr_dS, fr_dPs, fr_dRows, fr_dRopes, decide_true, Bool.and_true, Bool.true_and]; done))
local macro_rules | `(tactic| walk_at "go") => `(tactic| first
  | ((with_reducible show eraAll _ = _); walk_at "era")
  | ((with_reducible show D.fr _ = true); walk_at "frs")
  | ((with_reducible show frAll _ = true); walk_at "frs")
  | ((with_reducible show _ = some (Cell.dat _)); exact rfl)
  | ((with_reducible show _ = some (Cell.own _)); exact rfl)
  | ((with_reducible show D.tn _ = some _); exact rfl)
  | ((with_reducible show atI _ _ = some _); first | exact rfl | assumption)
  | ((with_reducible show EvD _ _ _ _ _); walk_at "evD")
  | ((with_reducible show EvR _ _ _ _ _); walk_at "evR")
  | ((with_reducible show EvS _ _ _ _ _); walk_at "evS")
  | ((with_reducible show EvL _ _ _ _ _); walk_at "evL")
  | ((with_reducible show EvA _ _ _ _ _); walk_at "evA")
  | ((with_reducible show EvAD _ _ _ _ _); walk_at "evQ")
  | ((with_reducible show EvB _ _ _ _ _); walk_at "evB")
  | ((with_reducible show _ = _ → _); intro hv; walk_at "go")
  | ((fail_if_success (with_reducible show EvD _ _ _ _ _)); (fail_if_success (with_reducible show EvR _ _ _ _ _)); (fail_if_success (with_reducible show EvS _ _ _ _ _)); (fail_if_success (with_reducible show EvL _ _ _ _ _)); (fail_if_success (with_reducible show EvA _ _ _ _ _)); (fail_if_success (with_reducible show EvAD _ _ _ _ _)); (fail_if_success (with_reducible show EvB _ _ _ _ _)); (fail_if_success (with_reducible show _ = some (Cell.dat _))); (fail_if_success (with_reducible show _ = some (Cell.own _))); (fail_if_success (with_reducible show atI _ _ = some _)); (fail_if_success (with_reducible show D.tn _ = some _)); (fail_if_success (with_reducible show eraAll _ = _)); (fail_if_success (with_reducible show D.fr _ = true)); (fail_if_success (with_reducible show frAll _ = true)); first | walk_at "R" | walk_at "sd"))
local macro_rules | `(tactic| walk_at "len") => `(tactic| first
  | exact (by decide)
  | (simp; done)
  | omega)
local macro_rules | `(tactic| walk_at "st") => `(tactic| first
  | ((with_reducible show At _ _ _ _ _ _); try dsimp only [List.set])
  | ((with_reducible show _ = _ → At _ _ _ _ _ _); intro hb)
  | ((with_reducible show _ < _); walk_at "len")
  | walk_at "go")
local macro_rules | `(tactic| walk_at "asg") => `(tactic| first
  | (with_reducible apply sq_asg) <;> walk_at "st"
  | (with_reducible apply at_asg) <;> walk_at "st")
local macro_rules | `(tactic| walk_at "asgL") => `(tactic| first
  | (with_reducible apply sq_asgL) <;> walk_at "st"
  | (with_reducible apply at_asgL) <;> walk_at "st")
local macro_rules | `(tactic| walk_at "app") => `(tactic| first
  | (with_reducible apply sq_append) <;> walk_at "st"
  | (with_reducible apply at_append) <;> walk_at "st")
local macro_rules | `(tactic| walk_at "ret") => `(tactic| first
  | (with_reducible apply at_ret) <;> walk_at "st")
local macro_rules | `(tactic| walk_at "when") => `(tactic| first
  | (with_reducible apply sq_when) <;> walk_at "st"
  | (with_reducible apply at_when) <;> walk_at "st")
local macro_rules | `(tactic| walk_at "if") => `(tactic| first
  | (with_reducible apply sq_if) <;> walk_at "st"
  | (with_reducible apply at_if) <;> walk_at "st")
section
variable {K : PySem.W.Frag} {C : Addr}
theorem gcd_step {x y : Int} (hx : 0 ≤ x) (hy : 0 < y) : Int.gcd y (x % y) = Int.gcd x y := by
  have e1 : (x.natAbs % y.natAbs) = (x % y).natAbs := by
    obtain ⟨a, rfl⟩ := Int.eq_ofNat_of_zero_le hx
    obtain ⟨b, rfl⟩ := Int.eq_ofNat_of_zero_le (Int.le_of_lt hy)
    simp; rfl
  show Nat.gcd y.natAbs (x % y).natAbs = Nat.gcd x.natAbs y.natAbs
  rw [← e1, Nat.gcd_comm x.natAbs, Nat.gcd_rec y.natAbs x.natAbs, Nat.gcd_comm]
/-- a promise's arguments and its way out, at a def's entry -/
abbrev Body (t : TS) (N : List Str) (sp : Sp) : Prop := ∀ vs H Q E, sp vs H Q E → t { nx := fun _ H' => Q .non H', rt := Q } (start N vs) H
theorem p_common : Body (t_common K C) n_common (sp_common K C) := by
  rintro vs H Q E ⟨ds, d, r, ⟨a, b, ha, hb, rfl, rfl⟩, k⟩
  refine start_at r (n := 1) (by rw [r.length]; rfl) (sq_while (fun m ρ' => ∃ (x y : Int) (c : Cell), ρ' = [.dat (.int x), .dat (.int y), c] ∧ 0 ≤ x ∧ 0 ≤ y ∧ m = y.toNat ∧ Int.gcd x y = Int.gcd a b) b.toNat ⟨a, b, .un, rfl, ha, hb, rfl, rfl⟩ ?_)
  rintro m ρ' ⟨x, y, c, rfl, hx, hy, rfl, hg⟩
  refine ⟨_, by walk_at "evB", fun hb => ?_, fun hb => ?_⟩
  · have hy0 : 0 < y := of_decide_eq_true hb
    walk_at "asg"
    walk_at "asg"
    walk_at "asg"
    refine at_gx ⟨(x % y).toNat, ?_, y, x % y, _, rfl, hy, Int.emod_nonneg _ (by omega), rfl, ?_⟩
    · have := Int.emod_lt_of_pos x hy0; have := Int.emod_nonneg x (show y ≠ 0 by omega); omega
    · rw [← hg]
      exact gcd_step hx hy0
  · have hy0 : y = 0 := by have : ¬ 0 < y := of_decide_eq_false hb; omega
    subst hy0
    walk_at "ret"
    rw [show (Int.gcd a b : Int) = x by rw [← hg]; simp; omega] at k
    exact k
theorem gcdw {a b : Int} (hb : 0 < b) (h : b.natAbs < 2 ^ 8500) : CDivW a (Int.gcd (a.natAbs : Int) b : Int) := by
  have h1 : 0 < Int.gcd (a.natAbs : Int) b := Int.gcd_pos_of_ne_zero_right _ (by omega)
  refine wide_div (b := 8500) (by omega) ?_ (by decide) (by decide)
  have h2 : Int.gcd (a.natAbs : Int) b ≤ b.natAbs := Nat.le_of_dvd (by omega) (Nat.gcd_dvd_right _ _)
  have h3 : ((Int.gcd (a.natAbs : Int) b : Nat) : Int).natAbs = Int.gcd (a.natAbs : Int) b := by simp
  omega
theorem gcdw2 {a b : Int} (hb : 0 < b) (h : b.natAbs < 2 ^ 8500) : CDivW b (Int.gcd (a.natAbs : Int) b : Int) := ⟨(gcdw (a := a) hb h).1, (gcdw (a := a) hb h).2⟩
theorem p_fraction : Body (t_fraction K C) n_fraction (sp_fraction K C) := by
  rintro vs H Q E ⟨ds, d, r, ⟨a, b, hb, hz, rfl, rfl⟩, k⟩
  have fin : ∀ (x y : Int) (c : Cell), 0 < y → y.natAbs < 2 ^ 8500 → Rat.divInt x y = Rat.divInt a b → ∀ D0 : Ends, D0.rt = Q → At K C H H (tSeq (tAsg (tCall (sp_common K C) [] E0 (tCons (xAbs (tVar 0)) (tCons (tVar 1) tNil))) (gName 2)) (tRet (tTup (tCons (xDiv (tVar 0) (tVar 2)) (tCons (xDiv (tVar 1) (tVar 2)) tNil)))) D0) [.dat (.int x), .dat (.int y), c] := by
    intro x y c hy hz e D0 hD
    have g1 := gcdw (a := x) hy hz
    have g2 := gcdw2 (a := x) hy hz
    walk_at "asg"
    walk_at "ret"
    rw [hD, ← dF_div hy, e]
    exact k
  refine start_at r (n := 1) (by rw [r.length]; rfl) ?_
  unfold t_fraction
  walk_at "when"
  · have h0 : b < 0 := of_decide_eq_true (by assumption)
    walk_at "asg"
    walk_at "asg"
    exact fin _ _ _ (by omega) (by omega) (divInt_neg2 a b) _ rfl
  · have h0 : ¬ b < 0 := of_decide_eq_false (by assumption)
    exact fin _ _ _ (by omega) hz rfl _ rfl
theorem sz_cross {x y : Rat} (h : Sz 4000 x) (k : Sz 4000 y) : CMulW x.num y.den := wide_mul h.1 k.den (by decide) (by decide) (by decide)
theorem sz_nums {x y : Rat} (h : Sz 4000 x) (k : Sz 4000 y) : CMulW x.num y.num := wide_mul h.1 k.1 (by decide) (by decide) (by decide)
theorem sz_dens {x y : Rat} (h : Sz 4000 x) (k : Sz 4000 y) : CMulW x.den y.den := wide_mul h.den k.den (by decide) (by decide) (by decide)
theorem sz_crosd {x y : Rat} (h : Sz 4000 x) (k : Sz 4000 y) : CMulW x.den y.num := wide_mul h.den k.1 (by decide) (by decide) (by decide)
theorem sz_den2 {x y : Rat} (h : Sz 4000 x) (k : Sz 4000 y) : ((x.den : Int) * y.den).natAbs < 2 ^ 8500 := Sz.up (h.dens k) (by decide)
theorem sz_den3 {x y : Rat} (h : Sz 4000 x) (k : Sz 4000 y) : ((x.den : Int) * y.num).natAbs < 2 ^ 8500 := Sz.up (wide_lt h.den k.1) (by decide)
theorem p_plus : Body (t_plus K C) n_plus (sp_plus K C) := by
  rintro vs H Q E ⟨ds, d, r, ⟨x, y, hx, hy, rfl, rfl⟩, k⟩
  refine start_at r (n := 0) (by rw [r.length]; rfl) ?_
  have a1 := sz_cross hx hy; have a2 := sz_cross hy hx; have a3 := sz_dens hx hy; have a4 := den_prod_ne x y; have a5 := sz_den2 hx hy
  unfold t_plus
  walk_at "ret"
  rw [← add_eq]; exact k
theorem p_minus : Body (t_minus K C) n_minus (sp_minus K C) := by
  rintro vs H Q E ⟨ds, d, r, ⟨x, y, hx, hy, rfl, rfl⟩, k⟩
  refine start_at r (n := 0) (by rw [r.length]; rfl) ?_
  have a1 := sz_cross hx hy; have a2 := sz_cross hy hx; have a3 := sz_dens hx hy; have a4 := den_prod_ne x y; have a5 := sz_den2 hx hy
  unfold t_minus
  walk_at "ret"
  rw [← sub_eq]; exact k
theorem p_times : Body (t_times K C) n_times (sp_times K C) := by
  rintro vs H Q E ⟨ds, d, r, ⟨x, y, hx, hy, rfl, rfl⟩, k⟩
  refine start_at r (n := 0) (by rw [r.length]; rfl) ?_
  have a1 := sz_nums hx hy; have a3 := sz_dens hx hy; have a4 := den_prod_ne x y; have a5 := sz_den2 hx hy
  unfold t_times
  walk_at "ret"
  rw [← mul_eq]; exact k
theorem p_over : Body (t_over K C) n_over (sp_over K C) := by
  rintro vs H Q E ⟨ds, d, r, ⟨x, y, hx, hy, h0, rfl, rfl⟩, k⟩
  refine start_at r (n := 0) (by rw [r.length]; rfl) ?_
  have a1 := sz_cross hx hy; have a3 := sz_crosd hx hy; have a4 := Int.mul_ne_zero (den_ne x) (num_ne h0); have a5 := sz_den3 hx hy
  unfold t_over
  walk_at "ret"
  rw [← div_eq]; exact k
theorem p_less : Body (t_less K C) n_less (sp_less K C) := by
  rintro vs H Q E ⟨ds, d, r, ⟨x, y, hx, hy, rfl, rfl⟩, k⟩
  refine start_at r (n := 0) (by rw [r.length]; rfl) ?_
  have a1 := sz_cross hx hy; have a2 := sz_cross hy hx
  unfold t_less
  walk_at "ret"
  rw [show decide (x.num * y.den < y.num * x.den) = decide (x < y) from decide_eq_decide.mpr (Rat.lt_iff x y).symm]
  exact k
theorem p_law_cell_at : Body (t_law_cell_at K C) n_law_cell_at (sp_law_cell_at K C) := by
  rintro vs H Q E ⟨ds, d, r, ⟨ns, j, rfl, rfl⟩, k⟩
  refine start_at r (n := 0) (by rw [r.length]; rfl) ?_
  unfold t_law_cell_at
  by_cases hj : j < ns.length
  · have h1 : atI ns (j : Int) = some (ns.getD j 0) := by
      rw [List.getD_eq_getElem?_getD, List.getElem?_eq_getElem hj]
      exact atI_nat (List.getElem?_eq_getElem hj)
    walk_at "when"
    · walk_at "ret"
    · have : ¬ (j : Int) < ns.length := of_decide_eq_false (by assumption)
      omega
  · have h0 : ns.getD j 0 = 0 := by rw [List.getD_eq_getElem?_getD, List.getElem?_eq_none (by omega)]; rfl
    rw [h0] at k
    walk_at "when"
    · have : (j : Int) < ns.length := of_decide_eq_true (by assumption)
      omega
    · walk_at "ret"
theorem p_law_whole : Body (t_law_whole K C) n_law_whole (sp_law_whole K C) := by
  rintro vs H Q E ⟨ds, d, r, ⟨i, rfl, rfl⟩, k⟩
  refine start_at r (n := 0) (by rw [r.length]; rfl) ?_
  unfold t_law_whole
  walk_at "ret"
theorem p_law_low : Body (t_law_low K C) n_law_low (sp_law_low K C) := by
  rintro vs H Q E ⟨ds, d, r, ⟨a, b, hb, hz, rfl, rfl⟩, k⟩
  have g1 := gcdw (a := a) hb hz
  have g2 := gcdw2 (a := a) hb hz
  refine start_at r (n := 3) (by rw [r.length]; rfl) ?_
  unfold t_law_low
  walk_at "asg"
  walk_at "asg"
  refine sq_while (fun m ρ' => ∃ (x y : Int) (c : Cell), ρ' = [.dat (.int a), .dat (.int b), .dat (.int x), .dat (.int y), c] ∧ 0 ≤ x ∧ 0 ≤ y ∧ m = y.toNat ∧ Int.gcd x y = Int.gcd (a.natAbs : Int) b) b.toNat ⟨(a.natAbs : Int), b, .un, rfl, by omega, by omega, rfl, rfl⟩ ?_
  rintro m ρ' ⟨x, y, c, rfl, hx, hy, rfl, hg⟩
  refine ⟨_, by walk_at "evB", fun hb => ?_, fun hb => ?_⟩
  · have hy0 : 0 < y := of_decide_eq_true hb
    walk_at "asg"
    walk_at "asg"
    walk_at "asg"
    refine at_gx ⟨(x % y).toNat, ?_, y, x % y, _, rfl, hy, Int.emod_nonneg _ (by omega), rfl, ?_⟩
    · have := Int.emod_lt_of_pos x hy0; have := Int.emod_nonneg x (show y ≠ 0 by omega); omega
    · rw [← hg]
      exact gcd_step hx hy0
  · have hy0 : y = 0 := by have : ¬ 0 < y := of_decide_eq_false hb; omega
    subst hy0
    have e : (Int.gcd (a.natAbs : Int) b : Int) = x := by rw [← hg]; simp; omega
    rw [e] at g1 g2
    walk_at "ret"
    rw [dF_div (by assumption), e] at k
    exact k
theorem p_law_plus : Body (t_law_plus K C) n_law_plus (sp_law_plus K C) := by
  rintro vs H Q E ⟨ds, d, r, ⟨a, b, c, e, hb, he, z1, z2, z3, z4, rfl, rfl⟩, k⟩
  refine start_at r (n := 0) (by rw [r.length]; rfl) ?_
  have w : ∀ {i j : Int}, i.natAbs < 2 ^ 4000 → j.natAbs < 2 ^ 4000 → CMulW i j := fun h k => wide_mul h k (by decide) (by decide) (by decide)
  have a1 := w z1 z4; have a2 := w z3 z2; have a3 := w z2 z4
  have a4 : (0 : Int) < b * e := Int.mul_pos hb he
  have a5 : (b * e).natAbs < 2 ^ 8500 := Sz.up (wide_lt z2 z4) (by decide)
  unfold t_law_plus
  walk_at "ret"
  rw [← Rat.divInt_add_divInt _ _ (by omega) (by omega)]; exact k
theorem p_law_part : Body (t_law_part K C) n_law_part (sp_law_part K C) := by
  rintro vs H Q E ⟨ds, d, r, ⟨x, hx, rfl, rfl⟩, k⟩
  refine start_at r (n := 0) (by rw [r.length]; rfl) ?_
  have a1 := den_pos x; have a2 : (x.den : Int).natAbs < 2 ^ 8500 := hx.den
  unfold t_law_part
  walk_at "when"
  · rename_i hb; exact absurd hb (by simp)
  · walk_at "ret"
    rw [← rat_eq]
    have e : (decide (0 < (x.den : Int)) && decide (x = x)) = true := by rw [decide_eq_true a1]; simp
    rw [e]
    exact k
end
end Hw
namespace Hw
open PySem L2
local macro_rules | `(tactic| walk_at "sd") => `(tactic| first
  | exact rfl
  | decide +kernel
  | (exact Nat.le_of_ble_eq_true rfl)
  | assumption
  | (exact Sz.mono (by assumption) (by decide))
  | decide
  | omega
  | (exact eraAll_map _ _ (fun _ => rfl) _)
  | (exact frAll_map _ (fun _ => rfl) _)
  | exact EqD.frac
  | exact EqD.int
  | exact EqD.bl
  | exact EqD.pair
  | skip)
local macro_rules | `(tactic| walk_at "R") => `(tactic| first
  | (with_reducible apply rc_common) <;> walk_at "sd"
  | (with_reducible apply rc_fraction) <;> walk_at "sd"
  | (with_reducible apply rc_plus) <;> walk_at "sd"
  | (with_reducible apply rc_minus) <;> walk_at "sd"
  | (with_reducible apply rc_times) <;> walk_at "sd"
  | (with_reducible apply rc_over) <;> walk_at "sd"
  | (with_reducible apply rc_less) <;> walk_at "sd"
  | (with_reducible apply rc_cell) <;> walk_at "sd"
  | (with_reducible apply rc_whole) <;> walk_at "sd"
  | (with_reducible apply rc_low) <;> walk_at "sd"
  | (with_reducible apply rc_part) <;> walk_at "sd"
  | (with_reducible apply rc_lfraction) <;> walk_at "sd")
local macro_rules | `(tactic| walk_at "evD") => `(tactic| first
  | with_reducible exact ed_int
  | with_reducible exact ed_bl
  | with_reducible exact ed_non
  | with_reducible exact ed_str
  | (with_reducible apply ed_var) <;> walk_at "go"
  | (with_reducible apply ed_add) <;> walk_at "go"
  | (with_reducible apply ed_sub) <;> walk_at "go"
  | (with_reducible apply ed_mul) <;> walk_at "go"
  | (with_reducible apply ed_div) <;> walk_at "go"
  | (with_reducible apply ed_mod) <;> walk_at "go"
  | (with_reducible apply ed_pow) <;> walk_at "go"
  | (with_reducible apply ed_neg) <;> walk_at "go"
  | (with_reducible apply ed_lt) <;> walk_at "go"
  | (with_reducible apply ed_le) <;> walk_at "go"
  | (with_reducible apply ed_gt) <;> walk_at "go"
  | (with_reducible apply ed_ge) <;> walk_at "go"
  | (with_reducible apply ed_leLt) <;> walk_at "go"
  | (with_reducible apply ed_leLe) <;> walk_at "go"
  | (with_reducible apply ed_ltLt) <;> walk_at "go"
  | (with_reducible apply ed_eq) <;> walk_at "go"
  | (with_reducible apply ed_ne) <;> walk_at "go"
  | (with_reducible apply ed_idxT) <;> walk_at "go"
  | (with_reducible apply ed_idxS) <;> walk_at "go"
  | (with_reducible apply ed_idxScr) <;> walk_at "go"
  | (with_reducible apply ed_lenS) <;> walk_at "go"
  | (with_reducible apply ed_lenT) <;> walk_at "go"
  | (with_reducible apply ed_lenScr) <;> walk_at "go"
  | (with_reducible apply ed_abs) <;> walk_at "go"
  | (with_reducible apply ed_intI) <;> walk_at "go"
  | (with_reducible apply ed_intB) <;> walk_at "go"
  | (with_reducible apply ed_intS) <;> walk_at "go"
  | (with_reducible apply ed_andV) <;> walk_at "go"
  | (with_reducible apply ed_orV) <;> walk_at "go"
  | (with_reducible apply ed_notV) <;> walk_at "go"
  | (with_reducible apply ed_tup) <;> walk_at "go"
  | (with_reducible apply ev_call) <;> walk_at "go"
  | (with_reducible apply ed_isi) <;> walk_at "go"
  | (with_reducible apply ed_catS) <;> walk_at "go"
  | (with_reducible apply ed_repS) <;> walk_at "go"
  | (with_reducible apply EvL.dat) <;> walk_at "go")
local macro_rules | `(tactic| walk_at "evR") => `(tactic| first
  | (with_reducible apply EvD.r) <;> walk_at "go"
  | (with_reducible apply EvS.r) <;> walk_at "go")
local macro_rules | `(tactic| walk_at "evS") => `(tactic| first
  | (with_reducible apply es_own) <;> walk_at "go"
  | (with_reducible apply EvD.s) <;> walk_at "go"
  | (with_reducible apply EvL.s) <;> walk_at "go")
local macro_rules | `(tactic| walk_at "evL") => `(tactic| first
  | (with_reducible apply el_lst) <;> walk_at "go"
  | (with_reducible apply ev_callL) <;> walk_at "go")
local macro_rules | `(tactic| walk_at "evA") => `(tactic| first
  | with_reducible exact ea_nil
  | (with_reducible apply ea_cons) <;> walk_at "go")
local macro_rules | `(tactic| walk_at "evQ") => `(tactic| first
  | with_reducible exact eq_nil
  | (with_reducible apply eq_cons) <;> walk_at "go")
local macro_rules | `(tactic| walk_at "evB") => `(tactic| first
  | (with_reducible apply eb_and) <;> walk_at "go"
  | (with_reducible apply eb_or) <;> walk_at "go"
  | (with_reducible apply eb_not) <;> walk_at "go"
  | (with_reducible apply eb_val) <;> walk_at "go")
local macro_rules | `(tactic| walk_at "era") => `(tactic| first
  | ((simp only [eraAll, D.era, era_dF, era_dP, era_dFs, era_dI, era_dS, era_dPs, era_dRows, era_dRopes]); done)
  | ((simp only [eraAll, D.era, era_dF, era_dP, era_dFs, era_dI, era_dS, era_dPs, era_dRows, era_dRopes]); exact rfl))
local macro_rules | `(tactic| walk_at "frs") => `(tactic| first
  | exact rfl
  | exact fr_dFs _
  | exact fr_dI _
  | exact fr_dS _
  | exact fr_dPs _
  | exact fr_dRows _
  | exact fr_dRopes _
  | (simp only [frAll, D.fr, fr_dFs, fr_dI, fr_dS, fr_dPs, fr_dRows, fr_dRopes, decide_true, Bool.and_true, Bool.true_and]; done))
local macro_rules | `(tactic| walk_at "go") => `(tactic| first
  | ((with_reducible show eraAll _ = _); walk_at "era")
  | ((with_reducible show D.fr _ = true); walk_at "frs")
  | ((with_reducible show frAll _ = true); walk_at "frs")
  | ((with_reducible show _ = some (Cell.dat _)); exact rfl)
  | ((with_reducible show _ = some (Cell.own _)); exact rfl)
  | ((with_reducible show D.tn _ = some _); exact rfl)
  | ((with_reducible show atI _ _ = some _); first | exact rfl | assumption)
  | ((with_reducible show EvD _ _ _ _ _); walk_at "evD")
  | ((with_reducible show EvR _ _ _ _ _); walk_at "evR")
  | ((with_reducible show EvS _ _ _ _ _); walk_at "evS")
  | ((with_reducible show EvL _ _ _ _ _); walk_at "evL")
  | ((with_reducible show EvA _ _ _ _ _); walk_at "evA")
  | ((with_reducible show EvAD _ _ _ _ _); walk_at "evQ")
  | ((with_reducible show EvB _ _ _ _ _); walk_at "evB")
  | ((with_reducible show _ = _ → _); intro hv; walk_at "go")
  | ((fail_if_success (with_reducible show EvD _ _ _ _ _)); (fail_if_success (with_reducible show EvR _ _ _ _ _)); (fail_if_success (with_reducible show EvS _ _ _ _ _)); (fail_if_success (with_reducible show EvL _ _ _ _ _)); (fail_if_success (with_reducible show EvA _ _ _ _ _)); (fail_if_success (with_reducible show EvAD _ _ _ _ _)); (fail_if_success (with_reducible show EvB _ _ _ _ _)); (fail_if_success (with_reducible show _ = some (Cell.dat _))); (fail_if_success (with_reducible show _ = some (Cell.own _))); (fail_if_success (with_reducible show atI _ _ = some _)); (fail_if_success (with_reducible show D.tn _ = some _)); (fail_if_success (with_reducible show eraAll _ = _)); (fail_if_success (with_reducible show D.fr _ = true)); (fail_if_success (with_reducible show frAll _ = true)); first | walk_at "R" | walk_at "sd"))
local macro_rules | `(tactic| walk_at "len") => `(tactic| first
  | exact (by decide)
  | (simp; done)
  | omega)
local macro_rules | `(tactic| walk_at "st") => `(tactic| first
  | ((with_reducible show At _ _ _ _ _ _); try dsimp only [List.set])
  | ((with_reducible show _ = _ → At _ _ _ _ _ _); intro hb)
  | ((with_reducible show _ < _); walk_at "len")
  | walk_at "go")
local macro_rules | `(tactic| walk_at "asg") => `(tactic| first
  | (with_reducible apply sq_asg) <;> walk_at "st"
  | (with_reducible apply at_asg) <;> walk_at "st")
local macro_rules | `(tactic| walk_at "asgL") => `(tactic| first
  | (with_reducible apply sq_asgL) <;> walk_at "st"
  | (with_reducible apply at_asgL) <;> walk_at "st")
local macro_rules | `(tactic| walk_at "app") => `(tactic| first
  | (with_reducible apply sq_append) <;> walk_at "st"
  | (with_reducible apply at_append) <;> walk_at "st")
local macro_rules | `(tactic| walk_at "ret") => `(tactic| first
  | (with_reducible apply at_ret) <;> walk_at "st")
local macro_rules | `(tactic| walk_at "when") => `(tactic| first
  | (with_reducible apply sq_when) <;> walk_at "st"
  | (with_reducible apply at_when) <;> walk_at "st")
local macro_rules | `(tactic| walk_at "if") => `(tactic| first
  | (with_reducible apply sq_if) <;> walk_at "st"
  | (with_reducible apply at_if) <;> walk_at "st")
section
variable {K : PySem.W.Frag} {C : Addr}
theorem atI_menu {α : Type} {l : List α} {i : Int} (d : α) (h0 : 0 ≤ i) (h1 : i < l.length) : atI l i = some (l.getD i.toNat d) := by
  refine atI_of h0 ?_
  rw [List.getD_eq_getElem?_getD, List.getElem?_eq_getElem (by omega)]; rfl
theorem getD_map {α β : Type} (f : α → β) (l : List α) (i : Nat) (a : α) : (l.map f).getD i (f a) = f (l.getD i a) := by
  rw [List.getD_eq_getElem?_getD, List.getD_eq_getElem?_getD, List.getElem?_map]
  cases l[i]? <;> rfl
theorem atI_ints {l : List Int} {i : Int} (a : Int) (h0 : 0 ≤ i) (h1 : i < l.length) : atI (l.map D.int) i = some (.int (l.getD i.toNat a)) := by
  rw [atI_menu (.int a) h0 (by simpa using h1), getD_map]
theorem p_law_fraction : Body (t_law_fraction K C) n_law_fraction (sp_law_fraction K C) := by
  rintro vs H Q E ⟨ds, d, r, ⟨c, rfl, rfl⟩, k⟩
  refine start_at r (n := 2) (by rw [r.length]; rfl) ?_
  have a1 : atI [D.int 1, .int 1, .int 2, .int 3, .int 7, .int 1000003] (c % 6) = some (.int (bots.getD (c % 6).toNat 1)) := atI_ints (l := bots) 1 (by omega) (by show c % 6 < 6; omega)
  have a2 : atI [D.int 9, .int 99, .int (10 ^ (12 : Int).toNat)] (c / 6 % 3) = some (.int (mosts.getD (c / 6 % 3).toNat 0)) := atI_ints (l := mosts) 0 (by omega) (by show c / 6 % 3 < 3; omega)
  have a3 : CPow 10 12 := by refine ⟨by decide, by decide, by decide⟩
  have a4 : CDivW c 6 := ⟨by decide, by decide +kernel⟩
  have a5 : CDivW c 18 := ⟨by decide, by decide +kernel⟩
  have hm : mosts.getD (c / 6 % 3).toNat 0 = 9 ∨ mosts.getD (c / 6 % 3).toNat 0 = 99 ∨ mosts.getD (c / 6 % 3).toNat 0 = 10 ^ 12 := by
    have h2 : (c / 6 % 3).toNat = 0 ∨ (c / 6 % 3).toNat = 1 ∨ (c / 6 % 3).toNat = 2 := by omega
    rcases h2 with h | h | h <;> rw [h] <;> decide
  have hb : 0 < bots.getD (c % 6).toNat 1 ∧ (bots.getD (c % 6).toNat 1).natAbs < 2 ^ 8500 := by
    have h1 : (c % 6).toNat = 0 ∨ (c % 6).toNat = 1 ∨ (c % 6).toNat = 2 ∨ (c % 6).toNat = 3 ∨ (c % 6).toNat = 4 ∨ (c % 6).toNat = 5 := by omega
    have key : ∀ j, j < 6 → 0 < bots.getD j 1 ∧ (bots.getD j 1).natAbs < 2 ^ 30 := by decide
    have h3 := key (c % 6).toNat (by omega)
    exact ⟨h3.1, Sz.up h3.2 (by decide)⟩
  have b1 := hb.1
  have b2 := hb.2
  unfold fracOf at k
  generalize mosts.getD (c / 6 % 3).toNat 0 = mm at *
  generalize bots.getD (c % 6).toNat 1 = bb at *
  have a6 : CMulW 2 mm := by refine wide_mul (a := 2) (b := 60) (by decide) (by omega) (by decide) (by decide) (by decide)
  have a7 : 0 < 2 * mm + 1 := by omega
  unfold t_law_fraction
  walk_at "asg"
  walk_at "asg"
  walk_at "ret"
theorem p_law_same : Body (t_law_same K C) n_law_same (sp_law_same K C) := by
  rintro vs H Q E ⟨ds, d, r, ⟨x, a, b, hx, hb, hz, e, rfl, rfl⟩, k⟩
  have fin : ∀ (a b : Int), 0 < b → b.natAbs < 2 ^ 8500 → x = Rat.divInt a b → ∀ D0 : Ends, D0.rt = Q →
      At K C H H (tRet (tAndV (tCall (sp_law_part K C) [] E0 (tCons (tVar 0) tNil)) (xEq K (tVar 0) (tCall (sp_law_low K C) [] E0 (tCons (tVar 1) (tCons (tVar 2) tNil))))) D0) [.dat (dF x), .dat (.int a), .dat (.int b)] := by
    intro a b hb hz e D0 hD
    walk_at "ret"
    rw [hD, ← e]
    simpa using k
  refine start_at r (n := 0) (by rw [r.length]; rfl) ?_
  unfold t_law_same
  walk_at "when"
  · walk_at "asg"
    walk_at "asg"
    have h0 : b < 0 := of_decide_eq_true (by assumption)
    exact fin _ _ (by omega) (by omega) (by rw [divInt_neg2]; exact e) _ rfl
  · have h0 : ¬ b < 0 := of_decide_eq_false (by assumption)
    exact fin _ _ (by omega) hz e _ rfl
end
end Hw
namespace Hw
open PySem L2
/-- the built-ins that the text calls are still the built-ins -/
structure Bt (mg : Str → Option Value) : Prop where
  b_len : mg "len" = none
  b_abs : mg "abs" = none
  b_int : mg "int" = none
  b_isinstance : mg "isinstance" = none
  b_bool : mg "bool" = none
  b_tuple : mg "tuple" = none
  b_list : mg "list" = none
  b_str : mg "str" = none
  b_sum : mg "sum" = none
  b_min : mg "min" = none
  b_max : mg "max" = none
  b_range : mg "range" = none
  b_sorted : mg "sorted" = none
  b_set : mg "set" = none
  b_ValueError : mg "ValueError" = none
section
variable {P : Program} {w : World} {K : PySem.W.Frag} {mg : Str → Option Value} {h : Heap}
theorem FnAt.of {x name : Str} {st : Stmt} {ps : List Str} {f : Addr} {oc : Value} {od an : Option Addr} {osl : Array (Option Value)} {kV doc pm cdv ct : Value} (X : K.In h) (G : h.Ns mainGlobals mg) (a : PySem.W.nsIn K mainGlobals x = some (some (.ref f)))
    (l : K.lookup f = some ⟨oc, od, .func (PySem.W.fnOf name name (defArgs st) (defBody st) (defScope st) .none kV doc pm an cdv ct), osl⟩) (c : PySem.W.codeIn K cdv name = true) (k : PySem.W.keepIn K (.ref f) = true)
    (b : ∀ (kV doc pm : Value) (an : Option Addr) (cdv ct : Value) (us : List Value), us.length = ps.length → bindArgs (PySem.W.fnOf name name (defArgs st) (defBody st) (defScope st) .none kV doc pm an cdv ct) ⟨us, []⟩ = pure (ps.zip us)) : FnAt K mg x name st ps :=
  ⟨f, _, PySem.W.mg_of X G a, fun_mk l c k, (fun_mk (st := st) l c k).binds b⟩
/-- the law itself -/
def LawAt (K : PySem.W.Frag) (fa : Addr) (st : Stmt) (fd : FuncData) : Prop := Fun K "law" "law" st fa fd ∧ ∀ (s : Shared) (u : Value), BindsTo s fd ⟨[u], []⟩ [("script", u)]
theorem LawAt.of {st : Stmt} {f fa : Addr} {oc : Value} {od an : Option Addr} {osl : Array (Option Value)} {kV doc pm cdv ct : Value} (X : K.In h) (G : h.Ns mainGlobals mg) (hfa : mg "law" = some (.ref fa)) (a : PySem.W.nsIn K mainGlobals "law" = some (some (.ref f)))
    (l : K.lookup f = some ⟨oc, od, .func (PySem.W.fnOf "law" "law" (defArgs st) (defBody st) (defScope st) .none kV doc pm an cdv ct), osl⟩) (c : PySem.W.codeIn K cdv "law" = true) (k : PySem.W.keepIn K (.ref f) = true)
    (b : ∀ (kV doc pm : Value) (an : Option Addr) (cdv ct : Value) (u : Value), bindArgs (PySem.W.fnOf "law" "law" (defArgs st) (defBody st) (defScope st) .none kV doc pm an cdv ct) ⟨[u], []⟩ = pure ([("script", u)] : List (Str × Value))) : ∃ fd, LawAt K fa st fd := by
  have e := hfa.symm.trans (PySem.W.mg_of X G a)
  cases e
  exact ⟨_, fun_mk l c k, fun s u => .of_eq (b _ _ _ _ _ _ u)⟩
theorem LawAt.ok {base : Heap} {fa : Addr} {st : Stmt} {fd : FuncData} {N : List Str} {k : Nat} {sp : Sp} (F : LawAt K fa st fd) (S : FnScope N ["script"] (defScope st)) (len : ∀ vs H Q E, sp vs H Q E → vs.length = 1) (t : XK → TS)
    (hd : ∀ (f : Addr) (cdv : Value) (A : Around) (outer : List Env) (s : Shared) (H : Hp) (E : XK), Room k (A.deeper (envOfC "law" (defScope st) s.heap.objs.size f cdv)) → PSs (cxOf (L2.CX P w) P w K mg base N "law" (defScope st) f cdv A outer s H E) (defBody st) (t E))
    (hp : ∀ vs H Q E, sp vs H Q E → t E { nx := fun _ H' => Q .non H', rt := Q } (start N vs) H) : FnOk P w K mg base (L2.CX P w) (k + 1) fa fd ["script"] sp :=
  F.1.okX S len fun cdv A outer s H vs Q E hr h => ⟨t E, hd fa cdv A outer s H E hr, hp vs H Q E h⟩
theorem noCX (w : World) (H : Hp) (s : Shared) (e : Value) (s' : Shared) (h : L2.CX P w [] H s (fun _ _ _ => False) e s') : False := by
  obtain ⟨_, _, _, _, _, _, _, _, _, _, _, _, z⟩ := h
  exact z
end
/-- how long the arguments are, by what the promise knows -/
theorem lenD {K : PySem.W.Frag} {C : Addr} {R : List D → D → Prop} {n : Nat} (hR : ∀ ds d, R ds d → ds.length = n) : ∀ vs H Q E, spD K C R vs H Q E → vs.length = n := fun vs H Q E ⟨ds, d, r, q, _⟩ => by rw [r.length, hR _ _ q]
theorem lenL {K : PySem.W.Frag} {C : Addr} {R : List D → List D → Prop} {n : Nat} (hR : ∀ ds d, R ds d → ds.length = n) : ∀ vs H Q E, spL K C R vs H Q E → vs.length = n := fun vs H Q E ⟨ds, d, r, q, _⟩ => by rw [r.length, hR _ _ q]
def R_law (ds : List D) (d : D) : Prop := ∃ ns : List Int, ns.length ≤ 63 ∧ ds = [.scr ns] ∧ d = .bl true
abbrev sp_law (K : PySem.W.Frag) (C : Addr) : Sp := spD K C R_law
def spRaw (K : PySem.W.Frag) : Sp := fun vs H Q _ => ∃ (a : Addr) (ns : List Int), vs = [.ref a] ∧ ns.length ≤ 63 ∧ SqL K H a (ns.map V.int) ∧ ∀ H', Q (.bl true) H'
theorem law_end {l : PySem.W.OpenLaw} {q : Program} {loose : List Str} {XP : (Str → Option Value) → Heap → Prop} {YP : World → Heap → Prop} {d : DefRec} {K : Params → PySem.W.Frag} {k : Nat} (hk : k ≤ 60) (hn : l.most = some 63) (hdf : d.params.defaults = [])
    (hY : ∀ (w : World) (h : Heap), YP w h → (K w.params).In h)
    (F : ∀ (w : World) (mg : Str → Option Value) (fa : Addr) (h : Heap), (K w.params).In h → h.Ns mainGlobals mg → mg d.name = some (.ref fa) →
      ∃ (C : Addr) (st : Stmt) (fd : FuncData), LawAt (K w.params) fa st fd ∧ ∀ base : Heap, FnOk l.prog w (K w.params) mg base (L2.CX l.prog w) k fa fd ["script"] (sp_law (K w.params) C)) :
    PySem.W.WalkO q loose XP YP l.row.toRowW d [] (fun f vs => PySem.call f vs) :=
  L2.walk_of (n := 63) (k := k) (x := "script") (CX := fun w => L2.CX l.prog w) (sp := fun w => spRaw (K w.params)) hn (by decide) hdf ((show Room 60 callerA from ⟨rfl, by decide, by decide⟩).mono hk) hY
    (fun w mg fa h KX G hfa => by
      obtain ⟨C, st, fd, L, ok⟩ := F w mg fa h KX G hfa
      refine ⟨fd, L.2, fun base _ _ => (ok base).imp fun vs H Q E h => ?_⟩
      obtain ⟨a, ns, rfl, hl, hS, k⟩ := h
      refine ⟨[.scr ns], .bl true, .one ⟨a, rfl, hS⟩, ⟨ns, hl, rfl, rfl⟩, fun v H' _ r => ?_⟩
      rw [show v = .bl true from r]
      exact k H')
    (fun w H a ns hl _ hS => ⟨a, ns, rfl, hl, hS, fun _ => rfl⟩) fun w H s e s' h => noCX w H s e s' h
end Hw
namespace Hw
open PySem L2
local macro_rules | `(tactic| walk_at "sd") => `(tactic| first
  | exact rfl
  | decide +kernel
  | (exact Nat.le_of_ble_eq_true rfl)
  | assumption
  | (exact Sz.mono (by assumption) (by decide))
  | decide
  | omega
  | (exact eraAll_map _ _ (fun _ => rfl) _)
  | (exact frAll_map _ (fun _ => rfl) _)
  | exact EqD.frac
  | exact EqD.int
  | exact EqD.bl
  | exact EqD.pair
  | skip)
local macro_rules | `(tactic| walk_at "R") => `(tactic| first
  | (with_reducible apply rc_common) <;> walk_at "sd"
  | (with_reducible apply rc_fraction) <;> walk_at "sd"
  | (with_reducible apply rc_plus) <;> walk_at "sd"
  | (with_reducible apply rc_minus) <;> walk_at "sd"
  | (with_reducible apply rc_times) <;> walk_at "sd"
  | (with_reducible apply rc_over) <;> walk_at "sd"
  | (with_reducible apply rc_less) <;> walk_at "sd"
  | (with_reducible apply rc_cell) <;> walk_at "sd"
  | (with_reducible apply rc_whole) <;> walk_at "sd"
  | (with_reducible apply rc_low) <;> walk_at "sd"
  | (with_reducible apply rc_part) <;> walk_at "sd"
  | (with_reducible apply rc_lfraction) <;> walk_at "sd")
local macro_rules | `(tactic| walk_at "evD") => `(tactic| first
  | with_reducible exact ed_int
  | with_reducible exact ed_bl
  | with_reducible exact ed_non
  | with_reducible exact ed_str
  | (with_reducible apply ed_var) <;> walk_at "go"
  | (with_reducible apply ed_add) <;> walk_at "go"
  | (with_reducible apply ed_sub) <;> walk_at "go"
  | (with_reducible apply ed_mul) <;> walk_at "go"
  | (with_reducible apply ed_div) <;> walk_at "go"
  | (with_reducible apply ed_mod) <;> walk_at "go"
  | (with_reducible apply ed_pow) <;> walk_at "go"
  | (with_reducible apply ed_neg) <;> walk_at "go"
  | (with_reducible apply ed_lt) <;> walk_at "go"
  | (with_reducible apply ed_le) <;> walk_at "go"
  | (with_reducible apply ed_gt) <;> walk_at "go"
  | (with_reducible apply ed_ge) <;> walk_at "go"
  | (with_reducible apply ed_leLt) <;> walk_at "go"
  | (with_reducible apply ed_leLe) <;> walk_at "go"
  | (with_reducible apply ed_ltLt) <;> walk_at "go"
  | (with_reducible apply ed_eq) <;> walk_at "go"
  | (with_reducible apply ed_ne) <;> walk_at "go"
  | (with_reducible apply ed_idxT) <;> walk_at "go"
  | (with_reducible apply ed_idxS) <;> walk_at "go"
  | (with_reducible apply ed_idxScr) <;> walk_at "go"
  | (with_reducible apply ed_lenS) <;> walk_at "go"
  | (with_reducible apply ed_lenT) <;> walk_at "go"
  | (with_reducible apply ed_lenScr) <;> walk_at "go"
  | (with_reducible apply ed_abs) <;> walk_at "go"
  | (with_reducible apply ed_intI) <;> walk_at "go"
  | (with_reducible apply ed_intB) <;> walk_at "go"
  | (with_reducible apply ed_intS) <;> walk_at "go"
  | (with_reducible apply ed_andV) <;> walk_at "go"
  | (with_reducible apply ed_orV) <;> walk_at "go"
  | (with_reducible apply ed_notV) <;> walk_at "go"
  | (with_reducible apply ed_tup) <;> walk_at "go"
  | (with_reducible apply ev_call) <;> walk_at "go"
  | (with_reducible apply ed_isi) <;> walk_at "go"
  | (with_reducible apply ed_catS) <;> walk_at "go"
  | (with_reducible apply ed_repS) <;> walk_at "go"
  | (with_reducible apply EvL.dat) <;> walk_at "go")
local macro_rules | `(tactic| walk_at "evR") => `(tactic| first
  | (with_reducible apply EvD.r) <;> walk_at "go"
  | (with_reducible apply EvS.r) <;> walk_at "go")
local macro_rules | `(tactic| walk_at "evS") => `(tactic| first
  | (with_reducible apply es_own) <;> walk_at "go"
  | (with_reducible apply EvD.s) <;> walk_at "go"
  | (with_reducible apply EvL.s) <;> walk_at "go")
local macro_rules | `(tactic| walk_at "evL") => `(tactic| first
  | (with_reducible apply el_lst) <;> walk_at "go"
  | (with_reducible apply ev_callL) <;> walk_at "go")
local macro_rules | `(tactic| walk_at "evA") => `(tactic| first
  | with_reducible exact ea_nil
  | (with_reducible apply ea_cons) <;> walk_at "go")
local macro_rules | `(tactic| walk_at "evQ") => `(tactic| first
  | with_reducible exact eq_nil
  | (with_reducible apply eq_cons) <;> walk_at "go")
local macro_rules | `(tactic| walk_at "evB") => `(tactic| first
  | (with_reducible apply eb_and) <;> walk_at "go"
  | (with_reducible apply eb_or) <;> walk_at "go"
  | (with_reducible apply eb_not) <;> walk_at "go"
  | (with_reducible apply eb_val) <;> walk_at "go")
local macro_rules | `(tactic| walk_at "era") => `(tactic| first
  | ((simp only [eraAll, D.era, era_dF, era_dP, era_dFs, era_dI, era_dS, era_dPs, era_dRows, era_dRopes]); done)
  | ((simp only [eraAll, D.era, era_dF, era_dP, era_dFs, era_dI, era_dS, era_dPs, era_dRows, era_dRopes]); exact rfl))
local macro_rules | `(tactic| walk_at "frs") => `(tactic| first
  | exact rfl
  | exact fr_dFs _
  | exact fr_dI _
  | exact fr_dS _
  | exact fr_dPs _
  | exact fr_dRows _
  | exact fr_dRopes _
  | (simp only [frAll, D.fr, fr_dFs, fr_dI, fr_dS, fr_dPs, fr_dRows, fr_dRopes, decide_true, Bool.and_true, Bool.true_and]; done))
local macro_rules | `(tactic| walk_at "go") => `(tactic| first
  | ((with_reducible show eraAll _ = _); walk_at "era")
  | ((with_reducible show D.fr _ = true); walk_at "frs")
  | ((with_reducible show frAll _ = true); walk_at "frs")
  | ((with_reducible show _ = some (Cell.dat _)); exact rfl)
  | ((with_reducible show _ = some (Cell.own _)); exact rfl)
  | ((with_reducible show D.tn _ = some _); exact rfl)
  | ((with_reducible show atI _ _ = some _); first | exact rfl | assumption)
  | ((with_reducible show EvD _ _ _ _ _); walk_at "evD")
  | ((with_reducible show EvR _ _ _ _ _); walk_at "evR")
  | ((with_reducible show EvS _ _ _ _ _); walk_at "evS")
  | ((with_reducible show EvL _ _ _ _ _); walk_at "evL")
  | ((with_reducible show EvA _ _ _ _ _); walk_at "evA")
  | ((with_reducible show EvAD _ _ _ _ _); walk_at "evQ")
  | ((with_reducible show EvB _ _ _ _ _); walk_at "evB")
  | ((with_reducible show _ = _ → _); intro hv; walk_at "go")
  | ((fail_if_success (with_reducible show EvD _ _ _ _ _)); (fail_if_success (with_reducible show EvR _ _ _ _ _)); (fail_if_success (with_reducible show EvS _ _ _ _ _)); (fail_if_success (with_reducible show EvL _ _ _ _ _)); (fail_if_success (with_reducible show EvA _ _ _ _ _)); (fail_if_success (with_reducible show EvAD _ _ _ _ _)); (fail_if_success (with_reducible show EvB _ _ _ _ _)); (fail_if_success (with_reducible show _ = some (Cell.dat _))); (fail_if_success (with_reducible show _ = some (Cell.own _))); (fail_if_success (with_reducible show atI _ _ = some _)); (fail_if_success (with_reducible show D.tn _ = some _)); (fail_if_success (with_reducible show eraAll _ = _)); (fail_if_success (with_reducible show D.fr _ = true)); (fail_if_success (with_reducible show frAll _ = true)); first | walk_at "R" | walk_at "sd"))
local macro_rules | `(tactic| walk_at "len") => `(tactic| first
  | exact (by decide)
  | (simp; done)
  | omega)
local macro_rules | `(tactic| walk_at "st") => `(tactic| first
  | ((with_reducible show At _ _ _ _ _ _); try dsimp only [List.set])
  | ((with_reducible show _ = _ → At _ _ _ _ _ _); intro hb)
  | ((with_reducible show _ < _); walk_at "len")
  | walk_at "go")
local macro_rules | `(tactic| walk_at "asg") => `(tactic| first
  | (with_reducible apply sq_asg) <;> walk_at "st"
  | (with_reducible apply at_asg) <;> walk_at "st")
local macro_rules | `(tactic| walk_at "asgL") => `(tactic| first
  | (with_reducible apply sq_asgL) <;> walk_at "st"
  | (with_reducible apply at_asgL) <;> walk_at "st")
local macro_rules | `(tactic| walk_at "app") => `(tactic| first
  | (with_reducible apply sq_append) <;> walk_at "st"
  | (with_reducible apply at_append) <;> walk_at "st")
local macro_rules | `(tactic| walk_at "ret") => `(tactic| first
  | (with_reducible apply at_ret) <;> walk_at "st")
local macro_rules | `(tactic| walk_at "when") => `(tactic| first
  | (with_reducible apply sq_when) <;> walk_at "st"
  | (with_reducible apply at_when) <;> walk_at "st")
local macro_rules | `(tactic| walk_at "if") => `(tactic| first
  | (with_reducible apply sq_if) <;> walk_at "st"
  | (with_reducible apply at_if) <;> walk_at "st")
/-! built-ins over lists; slices -/
def x_sum (K : PySem.W.Frag) (a : TE) : TE := tCB (rSum K) (tCons a tNil)
def x_min (K : PySem.W.Frag) (a : TE) : TE := tCB (rMin K) (tCons a tNil)
def x_max (K : PySem.W.Frag) (a : TE) : TE := tCB (rMax K) (tCons a tNil)
def rListOf (K : PySem.W.Frag) : List V → Hp → VK → Prop := fun xs H Q => ∃ p ys, xs = [.ref p] ∧ (SqL K H p ys ∨ SqT K H p ys) ∧ ∀ l, H l = none → Q (.ref l) (upd H l (.lst ys))
def x_list (K : PySem.W.Frag) (a : TE) : TE := tCB (rListOf K) (tCons a tNil)
section
variable {X : Cx} {a b c : Expr} {ta tb tc : TE} {pos : Pos}
theorem pe_x_sum {p} (hm : X.mg "sum" = none) (ha : PE X a ta) (hc : X.calm = true := by rfl) (hg : Gl X "sum" := by rfl) (he : starEach (a :: []) X.env = (false, eval a X.env) :: starEach [] X.env := by rfl) : PE X (.Call (.Name "sum" p) [a] [] pos) (x_sum X.K ta) :=
  pe_callB (cr_sum hc) hg hm (by decide +kernel) (pa_cons ha pa_nil he) (he := he)
theorem pe_x_min {p} (hm : X.mg "min" = none) (ha : PE X a ta) (hc : X.calm = true := by rfl) (hg : Gl X "min" := by rfl) (he : starEach (a :: []) X.env = (false, eval a X.env) :: starEach [] X.env := by rfl) : PE X (.Call (.Name "min" p) [a] [] pos) (x_min X.K ta) :=
  pe_callB (cr_min hc) hg hm (by decide +kernel) (pa_cons ha pa_nil he) (he := he)
theorem pe_x_max {p} (hm : X.mg "max" = none) (ha : PE X a ta) (hc : X.calm = true := by rfl) (hg : Gl X "max" := by rfl) (he : starEach (a :: []) X.env = (false, eval a X.env) :: starEach [] X.env := by rfl) : PE X (.Call (.Name "max" p) [a] [] pos) (x_max X.K ta) :=
  pe_callB (cr_max hc) hg hm (by decide +kernel) (pa_cons ha pa_nil he) (he := he)
theorem pe_x_list {p} (hm : X.mg "list" = none) (ha : PE X a ta) (hg : Gl X "list" := by rfl) (he : starEach (a :: []) X.env = (false, eval a X.env) :: starEach [] X.env := by rfl) : PE X (.Call (.Name "list" p) [a] [] pos) (x_list X.K ta) :=
  pe_callTy call_list_of hg hm (by decide +kernel) (pa_cons ha pa_nil he) (he := he)
end
structure IsMin (ns : List Int) (m : Int) : Prop where
  mem : m ∈ ns
  le : ∀ y ∈ ns, m ≤ y
structure IsMax (ns : List Int) (m : Int) : Prop where
  mem : m ∈ ns
  le : ∀ y ∈ ns, y ≤ m
theorem IsMin.uniq {ns : List Int} {m k : Int} (a : IsMin ns m) (b : IsMin ns k) : m = k := Int.le_antisymm (a.le _ b.mem) (b.le _ a.mem)
theorem IsMax.uniq {ns : List Int} {m k : Int} (a : IsMax ns m) (b : IsMax ns k) : m = k := Int.le_antisymm (b.le _ a.mem) (a.le _ b.mem)
theorem exMin : ∀ {ns : List Int}, ns ≠ [] → ∃ m, IsMin ns m
  | [], h => absurd rfl h
  | [a], _ => ⟨a, by simp, by simp⟩
  | a :: b :: l, _ => by
    obtain ⟨m, h1, h2⟩ := exMin (ns := b :: l) (by simp)
    by_cases h : a ≤ m
    · exact ⟨a, by simp, fun y hy => by
        rcases List.mem_cons.mp hy with rfl | hy
        · exact Int.le_refl _
        · exact Int.le_trans h (h2 y hy)⟩
    · exact ⟨m, List.mem_cons_of_mem _ h1, fun y hy => by
        rcases List.mem_cons.mp hy with rfl | hy
        · omega
        · exact h2 y hy⟩
theorem exMax : ∀ {ns : List Int}, ns ≠ [] → ∃ m, IsMax ns m
  | [], h => absurd rfl h
  | [a], _ => ⟨a, by simp, by simp⟩
  | a :: b :: l, _ => by
    obtain ⟨m, h1, h2⟩ := exMax (ns := b :: l) (by simp)
    by_cases h : m ≤ a
    · exact ⟨a, by simp, fun y hy => by
        rcases List.mem_cons.mp hy with rfl | hy
        · exact Int.le_refl _
        · exact Int.le_trans (h2 y hy) h⟩
    · exact ⟨m, List.mem_cons_of_mem _ h1, fun y hy => by
        rcases List.mem_cons.mp hy with rfl | hy
        · omega
        · exact h2 y hy⟩
section
variable {K : PySem.W.Frag} {C : Addr} {ρ : List Cell} {te ta tb tc : TE} {t u : TT} {d d' : D} {xs ys : List D} {m n k : Int} {Hf H : Hp}
theorem ed_sum {ns : List Int} (ha : EvS K C ta ρ (ns.map .int)) : EvD K C (x_sum K ta) ρ (.int ns.sum) := fun Hf H0 Hb H L σ E Q q => ha Hf H0 Hb H L σ E _ fun p us Hb1 H1 S h1 h2 =>
  ⟨p, ns, rfl, .of (by rw [h1, h2.ints]), q _ Hb1 H1 S rfl⟩
theorem ed_min {ns : List Int} {m : Int} (ha : EvS K C ta ρ (ns.map .int)) (hm : IsMin ns m) : EvD K C (x_min K ta) ρ (.int m) := fun Hf H0 Hb H L σ E Q q => ha Hf H0 Hb H L σ E _ fun p us Hb1 H1 S h1 h2 =>
  ⟨p, ns, rfl, .of (by rw [h1, h2.ints]), List.length_pos_of_mem hm.mem, fun k k1 k2 => q _ Hb1 H1 S (by rw [IsMin.uniq ⟨k1, k2⟩ hm]; rfl)⟩
theorem ed_max {ns : List Int} {m : Int} (ha : EvS K C ta ρ (ns.map .int)) (hm : IsMax ns m) : EvD K C (x_max K ta) ρ (.int m) := fun Hf H0 Hb H L σ E Q q => ha Hf H0 Hb H L σ E _ fun p us Hb1 H1 S h1 h2 =>
  ⟨p, ns, rfl, .of (by rw [h1, h2.ints]), List.length_pos_of_mem hm.mem, fun k k1 k2 => q _ Hb1 H1 S (by rw [IsMax.uniq ⟨k1, k2⟩ hm]; rfl)⟩
theorem el_list (ha : EvS K C ta ρ xs) : EvL K C (x_list K ta) ρ xs := fun Hf H0 Hb H L σ E Q q => ha Hf H0 Hb H L σ E _ fun p us Hb1 H1 S h1 h2 =>
  ⟨p, us, rfl, .inl (.of h1), fun l hl => q l us Hb1 _ (newList S hl) (S.h.free hl) (S.bh.free hl) upd_same h2⟩
theorem el_cat (ha : EvS K C ta ρ xs) (hb : EvS K C tb ρ ys) (hz : xs.length + ys.length ≤ 100000) : EvL K C (xCat ta tb) ρ (xs ++ ys) := fun Hf H0 Hb H L σ E Q q => ha Hf H0 Hb H L σ E _ fun p us Hb1 H1 S h1 h2 =>
  hb Hf H0 Hb1 H1 L σ (E.step S) _ fun p2 us2 Hb2 H2 S2 h3 h4 =>
    ⟨p, p2, us, us2, rfl, rfl, S2.h _ _ h1, h3, line_of (by rw [h2.length, h4.length]; exact hz), fun l hl => q l _ Hb2 _ (newList (S.trans S2) hl) ((S.trans S2).h.free hl) (S2.bh.free hl) upd_same ((RpAll.mono S2.hb _ _ h2).append h4)⟩
theorem RpAll.rep {vs : List V} (h : RpAll K C Hf H xs vs) : ∀ n : Nat, RpAll K C Hf H (List.replicate n xs).flatten (List.replicate n vs).flatten
  | 0 => .nil
  | n + 1 => by
    rw [List.replicate_succ, List.replicate_succ, List.flatten_cons, List.flatten_cons]
    exact h.append (RpAll.rep h n)
theorem el_rep {n : Int} (ha : EvS K C ta ρ xs) (hb : EvR K C tb ρ (.int n)) (hn : -100000 ≤ n ∧ n ≤ 100000) (hz : xs.length * n.toNat ≤ 100000) : EvL K C (xRep ta tb) ρ (List.replicate n.toNat xs).flatten := fun Hf H0 Hb H L σ E Q q => ha Hf H0 Hb H L σ E _ fun p us Hb1 H1 S h1 h2 =>
  hb Hf H0 Hb1 H1 L σ (E.step S) _ fun y Hb2 H2 S2 r =>
    ⟨p, n, us, rfl, r, S2.h _ _ h1, by omega, by omega, line_of (by rw [h2.length]; exact hz), fun l hl => q l _ Hb2 _ (newList (S.trans S2) hl) ((S.trans S2).h.free hl) (S2.bh.free hl) upd_same ((RpAll.mono S2.hb _ _ h2).rep _)⟩
/-- what a slice picks -/
def cutD (xs : List D) (lo hi : Option Int) : List D := (xs.drop (HT.sIx xs.length 0 lo)).take (HT.sIx xs.length xs.length hi - HT.sIx xs.length 0 lo)
def EvO (K : PySem.W.Frag) (C : Addr) (to : TO) (ρ : List Cell) (o : Option Int) : Prop := ∀ Hf H0 Hb H L σ, EnvB K C Hf H0 Hb H L σ ρ → ∀ Q : Option Int → Hp → Prop, (∀ Hb' H', Step Hb H Hb' H' → Q o H') → to σ H Q
theorem eo_none : EvO K C tNoPart ρ none := fun Hf H0 Hb H L σ E Q q => q Hb H E.step0
theorem eo_some (h : EvR K C te ρ (.int n)) : EvO K C (tPart te) ρ (some n) := fun Hf H0 Hb H L σ E Q q => h Hf H0 Hb H L σ E _ fun x Hb1 H1 S r => ⟨n, r, q Hb1 H1 S⟩
theorem el_slice {to tu : TO} {lo hi : Option Int} (ha : EvS K C ta ρ xs) (hl : EvO K C to ρ lo) (hu : EvO K C tu ρ hi) : EvL K C (tSl (rSlL K) ta to tu) ρ (cutD xs lo hi) := fun Hf H0 Hb H L σ E Q q => ha Hf H0 Hb H L σ E _ fun p us Hb1 H1 S h1 h2 =>
  hl Hf H0 Hb1 H1 L σ (E.step S) _ fun Hb2 H2 S2 => hu Hf H0 Hb2 H2 L σ ((E.step S).step S2) _ fun Hb3 H3 S3 =>
    have S13 := (S.trans S2).trans S3
    ⟨p, us, rfl, .of (S3.h _ _ (S2.h _ _ h1)), fun l hl => q l _ Hb3 _ (newList S13 hl) (S13.h.free hl) (S3.bh.free hl) upd_same (by
      unfold cutV cutD
      rw [h2.length]
      exact RpAll.take _ (RpAll.drop _ (RpAll.mono S3.hb _ _ (RpAll.mono S2.hb _ _ h2))))⟩

/-! attributes -/
theorem ht_ne : ¬ (("heavy" : Str) = "table") := by decide +kernel
theorem th_ne : ¬ (("table" : Str) = "heavy") := by decide +kernel
theorem hoF_put (l t : Addr) : putF "table" (.ref t) (putF "heavy" (.ref l) []) = hoF l t := by
  show (if ("heavy" : Str) = "table" then [(("heavy" : Str), V.ref t)] else (("heavy" : Str), V.ref l) :: putF "table" (V.ref t) []) = hoF l t
  rw [if_neg ht_ne]; rfl
theorem hoF_heavy (l t : Addr) : (hoF l t).lookup ("heavy" : Str) = some (V.ref l) := by
  rw [← hoF_put, lookup_putF, if_neg ht_ne, lookup_putF, if_pos rfl]
theorem hoF_table (l t : Addr) : (hoF l t).lookup ("table" : Str) = some (V.ref t) := by
  rw [← hoF_put, lookup_putF, if_pos rfl]
theorem hoF_no (l t : Addr) {m : Str} (h1 : ¬ m = "heavy") (h2 : ¬ m = "table") : (hoF l t).lookup m = none := by
  rw [← hoF_put, lookup_putF, if_neg h2, lookup_putF, if_neg h1]; rfl
/-- what the class Hoist is -/
structure HoT (K : PySem.W.Frag) (C : Addr) : Prop where
  cl : Cls K C
  nH : NoAttr K C "heavy"
  nT : NoAttr K C "table"
theorem rows_of {m : Mark} : ∀ {ts : List Addr} {tb : List (List Int)}, (∀ b ∈ ts, mkOk Hf b m) → Paired (fun (b : Addr) (r : List Int) => H b = some (.lst (r.map V.int))) ts tb → RpAll K C Hf H (dRows m tb) (ts.map V.ref)
  | _, _, _, .nil => .nil
  | _, _, hm, .cons h t => .cons ⟨_, _, rfl, hm _ List.mem_cons_self, h, RpAll.of_ints _⟩ (rows_of (fun b hb => hm b (List.mem_cons_of_mem _ hb)) t)
theorem of_rows {m : Mark} : ∀ {tb : List (List Int)} {us : List V}, RpAll K C Hf H (dRows m tb) us → ∃ ts : List Addr, us = ts.map V.ref ∧ (∀ b ∈ ts, mkOk Hf b m) ∧ Paired (fun (b : Addr) (r : List Int) => H b = some (.lst (r.map V.int))) ts tb
  | [], us, h => ⟨[], h, by simp, .nil⟩
  | r :: tb, us, h => by
    obtain ⟨v, r', rfl, ⟨a, xs, rfl, hm, h1, h2⟩, h3⟩ := h
    obtain ⟨ts, rfl, h4, h5⟩ := of_rows h3
    rw [h2.ints] at h1
    refine ⟨a :: ts, rfl, fun b hb => ?_, .cons h1 h5⟩
    rcases List.mem_cons.mp hb with rfl | hb
    · exact hm
    · exact h4 b hb
theorem ed_heavy {m : Mark} {ws : List Int} {tb : List (List Int)} (T : HoT K C) (ha : EvD K C ta ρ (.ho m ws tb)) : EvD K C (tFld K ta "heavy") ρ (.lst m (dI ws)) := fun Hf H0 Hb H L σ E Q q => ha Hf H0 Hb H L σ E _ fun x Hb1 H1 S r => by
  obtain ⟨a, dx, l, t, ts, rfl, m1, m2, m3, m4, h1, h2, h3, h4⟩ := r
  exact ⟨a, C, dx, hoF l t, .ref l, rfl, S.bh _ _ h1, T.cl, T.nH, hoF_heavy l t, q _ Hb1 H1 S ⟨l, _, rfl, m2, h2, RpAll.of_ints ws⟩⟩
theorem ed_table {m : Mark} {ws : List Int} {tb : List (List Int)} (T : HoT K C) (ha : EvD K C ta ρ (.ho m ws tb)) : EvD K C (tFld K ta "table") ρ (.lst m (dRows m tb)) := fun Hf H0 Hb H L σ E Q q => ha Hf H0 Hb H L σ E _ fun x Hb1 H1 S r => by
  obtain ⟨a, dx, l, t, ts, rfl, m1, m2, m3, m4, h1, h2, h3, h4⟩ := r
  exact ⟨a, C, dx, hoF l t, .ref t, rfl, S.bh _ _ h1, T.cl, T.nT, hoF_table l t, q _ Hb1 H1 S ⟨t, _, rfl, m3, h3, rows_of m4 h4⟩⟩
end
end Hw
namespace Hw
open PySem L2
local macro_rules | `(tactic| walk_at "sd") => `(tactic| first
  | exact rfl
  | decide +kernel
  | (exact Nat.le_of_ble_eq_true rfl)
  | assumption
  | (exact Sz.mono (by assumption) (by decide))
  | decide
  | omega
  | (exact eraAll_map _ _ (fun _ => rfl) _)
  | (exact frAll_map _ (fun _ => rfl) _)
  | exact EqD.frac
  | exact EqD.int
  | exact EqD.bl
  | exact EqD.pair
  | skip)
local macro_rules | `(tactic| walk_at "R") => `(tactic| first
  | (with_reducible apply rc_common) <;> walk_at "sd"
  | (with_reducible apply rc_fraction) <;> walk_at "sd"
  | (with_reducible apply rc_plus) <;> walk_at "sd"
  | (with_reducible apply rc_minus) <;> walk_at "sd"
  | (with_reducible apply rc_times) <;> walk_at "sd"
  | (with_reducible apply rc_over) <;> walk_at "sd"
  | (with_reducible apply rc_less) <;> walk_at "sd"
  | (with_reducible apply rc_cell) <;> walk_at "sd"
  | (with_reducible apply rc_whole) <;> walk_at "sd"
  | (with_reducible apply rc_low) <;> walk_at "sd"
  | (with_reducible apply rc_part) <;> walk_at "sd"
  | (with_reducible apply rc_lfraction) <;> walk_at "sd")
local macro_rules | `(tactic| walk_at "evD") => `(tactic| first
  | with_reducible exact ed_int
  | with_reducible exact ed_bl
  | with_reducible exact ed_non
  | with_reducible exact ed_str
  | (with_reducible apply ed_var) <;> walk_at "go"
  | (with_reducible apply ed_add) <;> walk_at "go"
  | (with_reducible apply ed_sub) <;> walk_at "go"
  | (with_reducible apply ed_mul) <;> walk_at "go"
  | (with_reducible apply ed_div) <;> walk_at "go"
  | (with_reducible apply ed_mod) <;> walk_at "go"
  | (with_reducible apply ed_pow) <;> walk_at "go"
  | (with_reducible apply ed_neg) <;> walk_at "go"
  | (with_reducible apply ed_lt) <;> walk_at "go"
  | (with_reducible apply ed_le) <;> walk_at "go"
  | (with_reducible apply ed_gt) <;> walk_at "go"
  | (with_reducible apply ed_ge) <;> walk_at "go"
  | (with_reducible apply ed_leLt) <;> walk_at "go"
  | (with_reducible apply ed_leLe) <;> walk_at "go"
  | (with_reducible apply ed_ltLt) <;> walk_at "go"
  | (with_reducible apply ed_eq) <;> walk_at "go"
  | (with_reducible apply ed_ne) <;> walk_at "go"
  | (with_reducible apply ed_idxT) <;> walk_at "go"
  | (with_reducible apply ed_idxS) <;> walk_at "go"
  | (with_reducible apply ed_idxScr) <;> walk_at "go"
  | (with_reducible apply ed_lenS) <;> walk_at "go"
  | (with_reducible apply ed_lenT) <;> walk_at "go"
  | (with_reducible apply ed_lenScr) <;> walk_at "go"
  | (with_reducible apply ed_abs) <;> walk_at "go"
  | (with_reducible apply ed_intI) <;> walk_at "go"
  | (with_reducible apply ed_intB) <;> walk_at "go"
  | (with_reducible apply ed_intS) <;> walk_at "go"
  | (with_reducible apply ed_andV) <;> walk_at "go"
  | (with_reducible apply ed_orV) <;> walk_at "go"
  | (with_reducible apply ed_notV) <;> walk_at "go"
  | (with_reducible apply ed_tup) <;> walk_at "go"
  | (with_reducible apply ev_call) <;> walk_at "go"
  | (with_reducible apply ed_isi) <;> walk_at "go"
  | (with_reducible apply ed_catS) <;> walk_at "go"
  | (with_reducible apply ed_repS) <;> walk_at "go"
  | (with_reducible apply EvL.dat) <;> walk_at "go")
local macro_rules | `(tactic| walk_at "evR") => `(tactic| first
  | (with_reducible apply EvD.r) <;> walk_at "go"
  | (with_reducible apply EvS.r) <;> walk_at "go")
local macro_rules | `(tactic| walk_at "evS") => `(tactic| first
  | (with_reducible apply es_own) <;> walk_at "go"
  | (with_reducible apply EvD.s) <;> walk_at "go"
  | (with_reducible apply EvL.s) <;> walk_at "go")
local macro_rules | `(tactic| walk_at "evL") => `(tactic| first
  | (with_reducible apply el_lst) <;> walk_at "go"
  | (with_reducible apply ev_callL) <;> walk_at "go")
local macro_rules | `(tactic| walk_at "evA") => `(tactic| first
  | with_reducible exact ea_nil
  | (with_reducible apply ea_cons) <;> walk_at "go")
local macro_rules | `(tactic| walk_at "evQ") => `(tactic| first
  | with_reducible exact eq_nil
  | (with_reducible apply eq_cons) <;> walk_at "go")
local macro_rules | `(tactic| walk_at "evB") => `(tactic| first
  | (with_reducible apply eb_and) <;> walk_at "go"
  | (with_reducible apply eb_or) <;> walk_at "go"
  | (with_reducible apply eb_not) <;> walk_at "go"
  | (with_reducible apply eb_val) <;> walk_at "go")
local macro_rules | `(tactic| walk_at "era") => `(tactic| first
  | ((simp only [eraAll, D.era, era_dF, era_dP, era_dFs, era_dI, era_dS, era_dPs, era_dRows, era_dRopes]); done)
  | ((simp only [eraAll, D.era, era_dF, era_dP, era_dFs, era_dI, era_dS, era_dPs, era_dRows, era_dRopes]); exact rfl))
local macro_rules | `(tactic| walk_at "frs") => `(tactic| first
  | exact rfl
  | exact fr_dFs _
  | exact fr_dI _
  | exact fr_dS _
  | exact fr_dPs _
  | exact fr_dRows _
  | exact fr_dRopes _
  | (simp only [frAll, D.fr, fr_dFs, fr_dI, fr_dS, fr_dPs, fr_dRows, fr_dRopes, decide_true, Bool.and_true, Bool.true_and]; done))
local macro_rules | `(tactic| walk_at "go") => `(tactic| first
  | ((with_reducible show eraAll _ = _); walk_at "era")
  | ((with_reducible show D.fr _ = true); walk_at "frs")
  | ((with_reducible show frAll _ = true); walk_at "frs")
  | ((with_reducible show _ = some (Cell.dat _)); exact rfl)
  | ((with_reducible show _ = some (Cell.own _)); exact rfl)
  | ((with_reducible show D.tn _ = some _); exact rfl)
  | ((with_reducible show atI _ _ = some _); first | exact rfl | assumption)
  | ((with_reducible show EvD _ _ _ _ _); walk_at "evD")
  | ((with_reducible show EvR _ _ _ _ _); walk_at "evR")
  | ((with_reducible show EvS _ _ _ _ _); walk_at "evS")
  | ((with_reducible show EvL _ _ _ _ _); walk_at "evL")
  | ((with_reducible show EvA _ _ _ _ _); walk_at "evA")
  | ((with_reducible show EvAD _ _ _ _ _); walk_at "evQ")
  | ((with_reducible show EvB _ _ _ _ _); walk_at "evB")
  | ((with_reducible show _ = _ → _); intro hv; walk_at "go")
  | ((fail_if_success (with_reducible show EvD _ _ _ _ _)); (fail_if_success (with_reducible show EvR _ _ _ _ _)); (fail_if_success (with_reducible show EvS _ _ _ _ _)); (fail_if_success (with_reducible show EvL _ _ _ _ _)); (fail_if_success (with_reducible show EvA _ _ _ _ _)); (fail_if_success (with_reducible show EvAD _ _ _ _ _)); (fail_if_success (with_reducible show EvB _ _ _ _ _)); (fail_if_success (with_reducible show _ = some (Cell.dat _))); (fail_if_success (with_reducible show _ = some (Cell.own _))); (fail_if_success (with_reducible show atI _ _ = some _)); (fail_if_success (with_reducible show D.tn _ = some _)); (fail_if_success (with_reducible show eraAll _ = _)); (fail_if_success (with_reducible show D.fr _ = true)); (fail_if_success (with_reducible show frAll _ = true)); first | walk_at "R" | walk_at "sd"))
local macro_rules | `(tactic| walk_at "len") => `(tactic| first
  | exact (by decide)
  | (simp; done)
  | omega)
local macro_rules | `(tactic| walk_at "st") => `(tactic| first
  | ((with_reducible show At _ _ _ _ _ _); try dsimp only [List.set])
  | ((with_reducible show _ = _ → At _ _ _ _ _ _); intro hb)
  | ((with_reducible show _ < _); walk_at "len")
  | walk_at "go")
local macro_rules | `(tactic| walk_at "asg") => `(tactic| first
  | (with_reducible apply sq_asg) <;> walk_at "st"
  | (with_reducible apply at_asg) <;> walk_at "st")
local macro_rules | `(tactic| walk_at "asgL") => `(tactic| first
  | (with_reducible apply sq_asgL) <;> walk_at "st"
  | (with_reducible apply at_asgL) <;> walk_at "st")
local macro_rules | `(tactic| walk_at "app") => `(tactic| first
  | (with_reducible apply sq_append) <;> walk_at "st"
  | (with_reducible apply at_append) <;> walk_at "st")
local macro_rules | `(tactic| walk_at "ret") => `(tactic| first
  | (with_reducible apply at_ret) <;> walk_at "st")
local macro_rules | `(tactic| walk_at "when") => `(tactic| first
  | (with_reducible apply sq_when) <;> walk_at "st"
  | (with_reducible apply at_when) <;> walk_at "st")
local macro_rules | `(tactic| walk_at "if") => `(tactic| first
  | (with_reducible apply sq_if) <;> walk_at "st"
  | (with_reducible apply at_if) <;> walk_at "st")
/-! an object that this frame alone holds -/
def putFld (n : Str) (f : Fld) : List (Str × Fld) → List (Str × Fld)
  | [] => [(n, f)]
  | (g, x) :: r => if g = n then (g, f) :: r else (g, x) :: putFld n f r
section
variable {K : PySem.W.Frag} {C C' : Addr} {Hf H0 Hb H Hb' H' : Hp} {L : List (List Addr)} {σ : St} {ρ : List Cell} {te ta tb : TE} {d : D} {xs ys : List D} {D0 : Ends} {s2 : TS}
theorem FldsOk.names : ∀ {fs : List (Str × Fld)} {l : List Addr} {vs : List (Str × V)}, FldsOk K C Hf Hb H l fs vs → vs.map (·.1) = fs.map (·.1)
  | [], l, vs, h => by rw [h.2]; rfl
  | (n, .dat d) :: fs, l, vs, h => by
    obtain ⟨v, r, rfl, _, h2⟩ := h
    simp [h2.names]
  | (n, .own ys) :: fs, l, vs, h => by
    obtain ⟨p, us, r, l', rfl, _, _, _, h2⟩ := h
    simp [h2.names]
theorem FldsOk.len {fs : List (Str × Fld)} {l : List Addr} {vs : List (Str × V)} (h : FldsOk K C Hf Hb H l fs vs) : vs.length = fs.length := by
  have := congrArg List.length h.names
  simpa using this
theorem FldsOk.dat : ∀ {fs : List (Str × Fld)} {l : List Addr} {vs : List (Str × V)} {n : Str}, FldsOk K C Hf Hb H l fs vs → fs.lookup n = some (.dat d) → ∃ v, vs.lookup n = some v ∧ Rp K C Hf Hb d v
  | [], l, vs, n, h, e => by cases e
  | (g, .dat d') :: fs, l, vs, n, h, e => by
    obtain ⟨v, r, rfl, h1, h2⟩ := h
    by_cases q : (n == g) = true
    · simp only [List.lookup, q] at e ⊢
      cases e
      exact ⟨v, rfl, h1⟩
    · simp only [Bool.not_eq_true] at q
      simp only [List.lookup, q] at e ⊢
      exact h2.dat e
  | (g, .own ys) :: fs, l, vs, n, h, e => by
    obtain ⟨p, us, r, l', rfl, _, _, _, h2⟩ := h
    by_cases q : (n == g) = true
    · simp only [List.lookup, q] at e
      cases e
    · simp only [Bool.not_eq_true] at q
      simp only [List.lookup, q] at e ⊢
      exact h2.dat e
theorem FldsOk.own : ∀ {fs : List (Str × Fld)} {l : List Addr} {vs : List (Str × V)} {n : Str}, FldsOk K C Hf Hb H l fs vs → fs.lookup n = some (.own xs) → ∃ p us, vs.lookup n = some (.ref p) ∧ p ∈ l ∧ H p = some (.lst us) ∧ RpAll K C Hf Hb xs us
  | [], l, vs, n, h, e => by cases e
  | (g, .dat d') :: fs, l, vs, n, h, e => by
    obtain ⟨v, r, rfl, h1, h2⟩ := h
    by_cases q : (n == g) = true
    · simp only [List.lookup, q] at e
      cases e
    · simp only [Bool.not_eq_true] at q
      simp only [List.lookup, q] at e ⊢
      exact h2.own e
  | (g, .own ys) :: fs, l, vs, n, h, e => by
    obtain ⟨p, us, r, l', rfl, rfl, h0, h1, h2⟩ := h
    by_cases q : (n == g) = true
    · simp only [List.lookup, q] at e ⊢
      cases e
      exact ⟨p, us, rfl, List.mem_cons_self, h0, h1⟩
    · simp only [Bool.not_eq_true] at q
      simp only [List.lookup, q] at e ⊢
      obtain ⟨p2, us2, g1, g2, g3⟩ := h2.own e
      exact ⟨p2, us2, g1, List.mem_cons_of_mem _ g2, g3⟩
/-- a field set to data -/
theorem FldsOk.putDat {v : V} {n : Str} (hv : Rp K C Hf Hb d v) : ∀ {fs : List (Str × Fld)} {l : List Addr} {vs : List (Str × V)}, FldsOk K C Hf Hb H l fs vs →
    ∃ l', FldsOk K C Hf Hb H l' (putFld n (.dat d) fs) (putF n v vs) ∧ (∀ a ∈ l', a ∈ l) ∧ (l.Nodup → l'.Nodup)
  | [], l, vs, h => by
    obtain ⟨rfl, rfl⟩ := h
    exact ⟨[], ⟨v, [], rfl, hv, rfl, rfl⟩, fun a m => m, fun h => h⟩
  | (g, .dat d') :: fs, l, vs, h => by
    obtain ⟨u, r, rfl, h1, h2⟩ := h
    unfold putFld putF
    by_cases q : g = n
    · rw [if_pos q, if_pos q]
      exact ⟨l, ⟨v, r, rfl, hv, h2⟩, fun a m => m, fun h => h⟩
    · rw [if_neg q, if_neg q]
      obtain ⟨l', g1, g2, g3⟩ := h2.putDat (n := n) hv
      exact ⟨l', ⟨u, _, rfl, h1, g1⟩, g2, g3⟩
  | (g, .own ys) :: fs, l, vs, h => by
    obtain ⟨p, us, r, l1, rfl, rfl, h0, h1, h2⟩ := h
    unfold putFld putF
    by_cases q : g = n
    · rw [if_pos q, if_pos q]
      exact ⟨l1, ⟨v, r, rfl, hv, h2⟩, fun a m => List.mem_cons_of_mem _ m, fun h => (List.nodup_cons.mp h).2⟩
    · rw [if_neg q, if_neg q]
      obtain ⟨l', g1, g2, g3⟩ := h2.putDat (n := n) hv
      refine ⟨p :: l', ⟨p, us, _, l', rfl, rfl, h0, h1, g1⟩, fun a m => ?_, fun h => ?_⟩
      · rcases List.mem_cons.mp m with rfl | m
        · exact List.mem_cons_self
        · exact List.mem_cons_of_mem _ (g2 a m)
      · have hn := List.nodup_cons.mp h
        exact List.nodup_cons.mpr ⟨fun m => hn.1 (g2 p m), g3 hn.2⟩
/-- a field set to a new list of its own -/
theorem FldsOk.putOwn {p : Addr} {us : List V} {n : Str} (h0 : H p = some (.lst us)) (hv : RpAll K C Hf Hb xs us) : ∀ {fs : List (Str × Fld)} {l : List Addr} {vs : List (Str × V)}, FldsOk K C Hf Hb H l fs vs → p ∉ l →
    ∃ l', FldsOk K C Hf Hb H l' (putFld n (.own xs) fs) (putF n (.ref p) vs) ∧ (∀ a ∈ l', a = p ∨ a ∈ l) ∧ (l.Nodup → l'.Nodup)
  | [], l, vs, h, np => by
    obtain ⟨rfl, rfl⟩ := h
    exact ⟨[p], ⟨p, us, [], [], rfl, rfl, h0, hv, rfl, rfl⟩, fun a m => .inl (by simpa using m), fun h => by simp⟩
  | (g, .dat d') :: fs, l, vs, h, np => by
    obtain ⟨u, r, rfl, h1, h2⟩ := h
    unfold putFld putF
    by_cases q : g = n
    · rw [if_pos q, if_pos q]
      refine ⟨p :: l, ⟨p, us, r, l, rfl, rfl, h0, hv, h2⟩, fun a m => List.mem_cons.mp m, fun h => List.nodup_cons.mpr ⟨np, h⟩⟩
    · rw [if_neg q, if_neg q]
      obtain ⟨l', g1, g2, g3⟩ := h2.putOwn (n := n) h0 hv np
      exact ⟨l', ⟨u, _, rfl, h1, g1⟩, g2, g3⟩
  | (g, .own ys) :: fs, l, vs, h, np => by
    obtain ⟨p1, us1, r, l1, rfl, rfl, h3, h1, h2⟩ := h
    have np1 : p ∉ l1 := fun m => np (List.mem_cons_of_mem _ m)
    unfold putFld putF
    by_cases q : g = n
    · rw [if_pos q, if_pos q]
      refine ⟨p :: l1, ⟨p, us, r, l1, rfl, rfl, h0, hv, h2⟩, fun a m => ?_, fun h => List.nodup_cons.mpr ⟨np1, (List.nodup_cons.mp h).2⟩⟩
      rcases List.mem_cons.mp m with rfl | m
      · exact .inl rfl
      · exact .inr (List.mem_cons_of_mem _ m)
    · rw [if_neg q, if_neg q]
      obtain ⟨l', g1, g2, g3⟩ := h2.putOwn (n := n) h0 hv np1
      refine ⟨p1 :: l', ⟨p1, us1, _, l', rfl, rfl, h3, h1, g1⟩, fun a m => ?_, fun h => ?_⟩
      · rcases List.mem_cons.mp m with rfl | m
        · exact .inr List.mem_cons_self
        · exact (g2 a m).imp id (List.mem_cons_of_mem _)
      · have hn := List.nodup_cons.mp h
        refine List.nodup_cons.mpr ⟨fun m => ?_, g3 hn.2⟩
        rcases g2 p1 m with e | e
        · exact np (by rw [← e]; exact List.mem_cons_self)
        · exact hn.1 e
/-- a field's own list is changed in place -/
theorem FldsOk.mutOwn {n : Str} {us' : List V} {p : Addr} (hv : RpAll K C Hf Hb ys us') : ∀ {fs : List (Str × Fld)} {l : List Addr} {vs : List (Str × V)}, FldsOk K C Hf Hb H l fs vs → fs.lookup n = some (.own xs) → vs.lookup n = some (.ref p) → l.Nodup →
    FldsOk K C Hf Hb (upd H p (.lst us')) l (putFld n (.own ys) fs) vs
  | [], l, vs, h, e, _, _ => by cases e
  | (g, .dat d') :: fs, l, vs, h, e, ev, hn => by
    obtain ⟨v, r, rfl, h1, h2⟩ := h
    by_cases q : (n == g) = true
    · simp only [List.lookup, q] at e
      cases e
    · simp only [Bool.not_eq_true] at q
      simp only [List.lookup, q] at e ev
      have q' : ¬ g = n := fun z => by subst z; simp at q
      unfold putFld
      rw [if_neg q']
      exact ⟨v, r, rfl, h1, h2.mutOwn hv e ev hn⟩
  | (g, .own zs) :: fs, l, vs, h, e, ev, hn => by
    obtain ⟨p1, us, r, l', rfl, rfl, h0, h1, h2⟩ := h
    have hn' := List.nodup_cons.mp hn
    by_cases q : (n == g) = true
    · simp only [List.lookup, q] at e ev
      cases ev
      have q' : g = n := (beq_iff_eq.mp q).symm
      unfold putFld
      rw [if_pos q']
      exact ⟨p, us', r, l', rfl, rfl, upd_same, hv, FldsOk.keep (fun a o ne z => by rw [upd_ne ne]; exact z) h2 hn'.1⟩
    · simp only [Bool.not_eq_true] at q
      simp only [List.lookup, q] at e ev
      have q' : ¬ g = n := fun z => by subst z; simp at q
      obtain ⟨p2, us2, k1, k2, _⟩ := h2.own e
      rw [ev] at k1
      cases k1
      unfold putFld
      rw [if_neg q']
      exact ⟨p1, us, r, l', rfl, rfl, by rw [upd_ne (fun z => hn'.1 (by rw [z]; exact k2))]; exact h0, h1, h2.mutOwn hv e ev hn'.2⟩

/-- one of the owned objects of a cell is stored to: the cell is forgotten, the others stand -/
theorem EnvB.poke (E : EnvB K C Hf H0 Hb H L σ ρ) {i : Nat} {l : List Addr} (hl : L[i]? = some l) {p : Addr} (hp : p ∈ l) {o : HO} (ho : ∀ zs, o ≠ .tup zs) : EnvB K C Hf H0 Hb (upd H p o) (L.set i []) σ (ρ.set i .any) := by
  obtain ⟨hb, hf, hn⟩ := E.fr i l p hl hp
  have hil : i < ρ.length := by have := (List.getElem?_eq_some_iff.mp hl).1; rw [E.lel] at this; exact this
  have E1 := E.forget hil
  have keep : ∀ a o', a ≠ p → H a = some o' → upd H p o a = some o' := fun a o' ne q => by rw [upd_ne ne]; exact q
  refine ⟨E1.e0, E1.e1.mut hb, E1.ef.mut hf, E1.nw, fun a zs w => ?_, E1.len, E1.lel, fun j c q => ?_, E1.dis, E1.nd, fun j lj a q m => ?_⟩
  · by_cases z : a = p
    · subst z; rw [upd_same] at w; exact absurd (Option.some.inj w) (ho zs)
    · rw [upd_ne z] at w; exact E.tu a zs w
  · obtain ⟨s', l', k1, k2, k3⟩ := E1.cell j c q
    refine ⟨s', l', k1, k2, ?_⟩
    have np : p ∉ l' := fun m => by
      rcases getElem?_set_cases k2 with ⟨_, e, _⟩ | ⟨e, k2⟩
      · rw [← e] at m; exact nomatch m
      · exact e (E.dis j i l' l p k2 hl m hp)
    cases c with
    | un => exact k3
    | any => exact k3
    | dat d => exact k3
    | own zs =>
      obtain ⟨p2, us2, rfl, e2, k4, k5⟩ := k3
      exact ⟨p2, us2, rfl, e2, keep _ _ (fun z => np (by simp [z])) k4, k5⟩
    | rd a C' fs => exact k3
    | tp a fs =>
      obtain ⟨vs, e2, k4, k5⟩ := k3
      have nap : a ≠ p := fun z => by
        have w := E.e1 _ _ (E.tu _ _ k4)
        rw [z] at w
        have := E.tu _ _ w
        rw [hb] at this; cases this
      exact ⟨vs, e2, keep _ _ nap k4, FldsOk.keep keep k5 np⟩
    | val v => exact k3
    | raw a vs => exact k3
    | nt a b fs ks =>
      obtain ⟨vs, p3, us3, l3, rfl, e2, k4, k5, k6, k7, k8⟩ := k3
      have nt : ∀ c zs, H c = some (.tup zs) → c ≠ p := fun c zs q z => by
        have w := E.tu _ _ q
        rw [z, hb] at w; cases w
      exact ⟨vs, p3, us3, l3, rfl, e2, keep _ _ (nt _ _ k4) k4, keep _ _ (nt _ _ k5) k5, keep _ _ (fun z => np (by simp [z])) k6, k7, FldsOk.keep keep k8 (fun m => np (List.mem_cons_of_mem _ m))⟩
    | ob a C' fs =>
      obtain ⟨dx, vs, l2, rfl, e2, k4, k5⟩ := k3
      exact ⟨dx, vs, l2, rfl, e2, keep _ _ (fun z => np (by simp [z])) k4, FldsOk.keep keep k5 fun m => np (List.mem_cons_of_mem _ m)⟩
  · obtain ⟨k1, k2, k3⟩ := E1.fr j lj a q m
    refine ⟨k1, k2, ?_⟩
    by_cases z : a = p
    · subst z; rw [upd_same]; exact fun w => nomatch w
    · rw [upd_ne z]; exact k3
/-- and the cell is told anew -/
theorem EnvB.retell (E : EnvB K C Hf H0 Hb H L σ ρ) {i : Nat} {l l' : List Addr} (hl : L[i]? = some l) {p : Addr} (hp : p ∈ l) {o : HO} (ho : ∀ zs, o ≠ .tup zs) {c : Cell} {s : Option V} (hs : σ[i]? = some s) (hc : CellOk K C Hf Hb (upd H p o) l' s c)
    (hn : l'.Nodup) (hsub : ∀ a ∈ l', a ∈ l ∨ (Hb a = none ∧ Hf a = none ∧ H a ≠ none ∧ ∀ (j : Nat) (lj : List Addr), L[j]? = some lj → a ∉ lj)) : ∃ L', EnvB K C Hf H0 Hb (upd H p o) L' σ (ρ.set i c) := by
  have hil : i < ρ.length := by have := (List.getElem?_eq_some_iff.mp hl).1; rw [E.lel] at this; exact this
  have E1 := E.poke hl hp ho
  have hp' := E.fr i l p hl hp
  have up : ∀ a, H a ≠ none → upd H p o a ≠ none := fun a h => by
    by_cases z : a = p
    · subst z; rw [upd_same]; exact fun w => nomatch w
    · rw [upd_ne z]; exact h
  have E2 := E1.set (i := i) (by simpa using hil) hc hn (fun a m => by
    rcases hsub a m with h | ⟨h1, h2, h3, _⟩
    · obtain ⟨k1, k2, k3⟩ := E.fr i l a hl h
      exact ⟨k1, k2, up a k3⟩
    · exact ⟨h1, h2, up a h3⟩) (fun j lj a ne q m z => by
    rw [List.getElem?_set_ne (Ne.symm ne)] at q
    rcases hsub a z with h | ⟨_, _, _, h4⟩
    · exact ne (E.dis j i lj l a q hl m h)
    · exact h4 j lj q m)
  refine ⟨(L.set i []).set i l', ?_⟩
  have e1 : σ.set i s = σ := by
    obtain ⟨h1, h2⟩ := List.getElem?_eq_some_iff.mp hs
    rw [← h2]
    exact List.set_getElem_self h1
  have e2 : (ρ.set i .any).set i c = ρ.set i c := by simp
  rw [e1, e2] at E2
  exact E2
/-! the object's fields -/
theorem ed_fld {i : Nat} {a : Addr} {fs : List (Str × Fld)} {n : Str} (cl : Cls K C') (na : NoAttr K C' n) (h : ρ[i]? = some (.ob a C' fs)) (hn : fs.lookup n = some (.dat d)) : EvD K C (tFld K (tVar i) n) ρ d := fun Hf H0 Hb H L σ E Q q => by
  obtain ⟨s, l, h1, _, dx, vs, l', _, rfl, h2, h3⟩ := E.cell i _ h
  obtain ⟨v, h4, h5⟩ := h3.dat hn
  exact ⟨_, h1, a, C', dx, vs, v, rfl, h2, cl, na, h4, q v Hb H E.step0 h5⟩
theorem es_fld {i : Nat} {a : Addr} {fs : List (Str × Fld)} {n : Str} (cl : Cls K C') (na : NoAttr K C' n) (h : ρ[i]? = some (.ob a C' fs)) (hn : fs.lookup n = some (.own xs)) : EvS K C (tFld K (tVar i) n) ρ xs := fun Hf H0 Hb H L σ E Q q => by
  obtain ⟨s, l, h1, _, dx, vs, l', _, rfl, h2, h3⟩ := E.cell i _ h
  obtain ⟨p, us, h4, _, h5, h6⟩ := h3.own hn
  exact ⟨_, h1, a, C', dx, vs, .ref p, rfl, h2, cl, na, h4, q p us Hb H E.step0 h5 h6⟩
theorem at_fld {i : Nat} {a : Addr} {fs : List (Str × Fld)} {n : Str} (cl : Cls K C') (na : NoAttr K C' n) (h : ρ[i]? = some (.ob a C' fs)) (hz : fs.length < 1000) (hv : EvD K C te ρ d) (k : At K C Hf H0 D0.nx (ρ.set i (.ob a C' (putFld n (.dat d) fs)))) : At K C Hf H0 (sFld K (tVar i) te n D0) ρ := fun Hb H L σ E =>
  hv Hf H0 Hb H L σ E _ fun v Hb1 H1 S r => by
    have E1 := E.step S
    obtain ⟨s, l, h1, hl, dx, vs, l', rfl, rfl, h2, h3⟩ := E1.cell i _ h
    obtain ⟨l2, g1, g2, g3⟩ := h3.putDat (n := n) r
    have hnd := List.nodup_cons.mp (E1.nd i _ hl)
    refine ⟨_, h1, a, C', dx, vs, rfl, h2, cl, na, by rw [h3.len]; exact hz, ?_⟩
    obtain ⟨L', E2⟩ := E1.retell hl (p := a) List.mem_cons_self (o := .ins C' dx (putF n v vs)) (fun zs z => nomatch z) h1 (c := .ob a C' (putFld n (.dat d) fs)) (l' := a :: l2)
      ⟨dx, _, l2, rfl, rfl, upd_same, FldsOk.keep (fun b o ne z => by rw [upd_ne ne]; exact z) g1 fun m => hnd.1 (g2 a m)⟩ (List.nodup_cons.mpr ⟨fun m => hnd.1 (g2 a m), g3 hnd.2⟩)
      (fun b m => .inl (by
        rcases List.mem_cons.mp m with rfl | m
        · exact List.mem_cons_self
        · exact List.mem_cons_of_mem _ (g2 b m)))
    exact k _ _ _ _ E2
theorem at_fldL {i : Nat} {a : Addr} {fs : List (Str × Fld)} {n : Str} (cl : Cls K C') (na : NoAttr K C' n) (h : ρ[i]? = some (.ob a C' fs)) (hz : fs.length < 1000) (hv : EvL K C te ρ xs) (k : At K C Hf H0 D0.nx (ρ.set i (.ob a C' (putFld n (.own xs) fs)))) : At K C Hf H0 (sFld K (tVar i) te n D0) ρ := fun Hb H L σ E =>
  hv Hf H0 Hb H L σ E _ fun p us Hb1 H1 S n1 n2 p1 p2 => by
    have E1 := E.step S
    obtain ⟨s, l, h1, hl, dx, vs, l', rfl, rfl, h2, h3⟩ := E1.cell i _ h
    have npl : ∀ (j : Nat) (lj : List Addr), L[j]? = some lj → p ∉ lj := fun j lj q => E.notOwned n1 q
    have np : p ∉ l' := fun m => npl i _ hl (List.mem_cons_of_mem _ m)
    have nap : a ≠ p := fun z => npl i _ hl (by rw [← z]; exact List.mem_cons_self)
    obtain ⟨l2, g1, g2, g3⟩ := h3.putOwn (n := n) p1 p2 np
    have hnd := List.nodup_cons.mp (E1.nd i _ hl)
    have na2 : a ∉ l2 := fun m => by
      rcases g2 a m with e | e
      · exact nap e
      · exact hnd.1 e
    refine ⟨_, h1, a, C', dx, vs, rfl, h2, cl, na, by rw [h3.len]; exact hz, ?_⟩
    obtain ⟨L', E2⟩ := E1.retell hl (p := a) List.mem_cons_self (o := .ins C' dx (putF n (.ref p) vs)) (fun zs z => nomatch z) h1 (c := .ob a C' (putFld n (.own xs) fs)) (l' := a :: l2)
      ⟨dx, _, l2, rfl, rfl, upd_same, FldsOk.keep (fun b o ne z => by rw [upd_ne ne]; exact z) g1 na2⟩ (List.nodup_cons.mpr ⟨na2, g3 hnd.2⟩)
      (fun b m => by
        rcases List.mem_cons.mp m with rfl | m
        · exact .inl List.mem_cons_self
        · rcases g2 b m with e | e
          · subst e
            exact .inr ⟨n2, E.ef.free n1, by rw [p1]; exact (fun z => nomatch z), npl⟩
          · exact .inl (List.mem_cons_of_mem _ e))
    exact k _ _ _ _ E2
theorem ed_fldA {i : Nat} {a : Addr} {fs : List (Str × Fld)} {n : Str} (h : ρ[i]? = some (.ob a C' fs)) (hn : fs.lookup n = some (.dat d)) (cl : Cls K C') (na : NoAttr K C' n) : EvD K C (tFld K (tVar i) n) ρ d := ed_fld cl na h hn
theorem es_fldA {i : Nat} {a : Addr} {fs : List (Str × Fld)} {n : Str} (h : ρ[i]? = some (.ob a C' fs)) (hn : fs.lookup n = some (.own xs)) (cl : Cls K C') (na : NoAttr K C' n) : EvS K C (tFld K (tVar i) n) ρ xs := es_fld cl na h hn
theorem sq_fld {i : Nat} {a : Addr} {fs : List (Str × Fld)} {n : Str} (cl : Cls K C') (na : NoAttr K C' n) (h : ρ[i]? = some (.ob a C' fs)) (hz : fs.length < 1000) (hv : EvD K C te ρ d) (k : At K C Hf H0 (s2 D0) (ρ.set i (.ob a C' (putFld n (.dat d) fs)))) : At K C Hf H0 (tSeq (sFld K (tVar i) te n) s2 D0) ρ := at_seq (at_fld cl na h hz hv k)
theorem sq_fldL {i : Nat} {a : Addr} {fs : List (Str × Fld)} {n : Str} (cl : Cls K C') (na : NoAttr K C' n) (h : ρ[i]? = some (.ob a C' fs)) (hz : fs.length < 1000) (hv : EvL K C te ρ xs) (k : At K C Hf H0 (s2 D0) (ρ.set i (.ob a C' (putFld n (.own xs) fs)))) : At K C Hf H0 (tSeq (sFld K (tVar i) te n) s2 D0) ρ := at_seq (at_fldL cl na h hz hv k)
end
end Hw
namespace Hw
open PySem L2
/-! ## hoists: making one, its methods -/
/-- the heap without x -/
def hide (H : Hp) (x : Addr) : Hp := fun a => if a = x then none else H a
theorem hide_ex (H : Hp) (x : Addr) : Ex (hide H x) H := fun a o q => by
  unfold hide at q
  by_cases z : a = x
  · rw [if_pos z] at q; cases q
  · rw [if_neg z] at q; exact q
/-- what a new hoist leaves behind: it and its lists are new -/
structure MadeHo (C : Addr) (H H' : Hp) (x : Addr) (ws : List Int) (tb : List (List Int)) : Prop where
  keep : ∀ a o, a ≠ x → H a = some o → H' a = some o
  ex : ∃ dx l t ts, H l = none ∧ H t = none ∧ (∀ b ∈ ts, H b = none) ∧ H' x = some (.ins C dx (hoF l t)) ∧ H' l = some (.lst (ws.map V.int)) ∧ H' t = some (.lst (ts.map V.ref)) ∧
    Paired (fun (b : Addr) (r : List Int) => H' b = some (.lst (r.map V.int))) ts tb
/-- __init__ of a hoist -/
def spMk (K : PySem.W.Frag) (C : Addr) (R : List D → List Int → List (List Int) → Prop) : Sp := fun vs H Q _ => ∃ x dx vs' ds ws tb, vs = .ref x :: vs' ∧ H x = some (.ins C dx []) ∧ RpAll K C (hide H x) (hide H x) ds vs' ∧ R ds ws tb ∧
  ∀ H', MadeHo C H H' x ws tb → Q .non H'
def OkI (P : Program) (w : World) (K : PySem.W.Frag) (mg : Str → Option Value) (base : Heap) (C : Addr) (ps : List Str) (k : Nat) (sp : Sp) : Prop :=
  ∃ f fd, Mk K C f ∧ Binds K fd ps [] ∧ FnOk P w K mg base (L2.CX P w) k f fd ps sp
def OkM (P : Program) (w : World) (K : PySem.W.Frag) (mg : Str → Option Value) (base : Heap) (C : Addr) (m : Str) (ps : List Str) (k : Nat) (sp : Sp) : Prop :=
  ∃ f fd, Meth K C m f ∧ Binds K fd ps [] ∧ FnOk P w K mg base (L2.CX P w) k f fd ps sp
def InitAt (K : PySem.W.Frag) (C : Addr) (qual : Str) (st : Stmt) (ps : List Str) : Prop := ∃ f fd, Mk K C f ∧ Fun K "__init__" qual st f fd ∧ Binds K fd ps []
def MethAt (K : PySem.W.Frag) (C : Addr) (m qual : Str) (st : Stmt) (ps : List Str) : Prop := ∃ f fd, Meth K C m f ∧ Fun K m qual st f fd ∧ Binds K fd ps []
section
variable {P : Program} {w : World} {K : PySem.W.Frag} {mg : Str → Option Value} {base h : Heap} {C : Addr}
theorem OkI.mk {qual : Str} {st : Stmt} {ps N : List Str} {k : Nat} {sp : Sp} (F : InitAt K C qual st ps) (S : FnScope N ps (defScope st)) (len : ∀ vs H Q E, sp vs H Q E → vs.length = ps.length) (t : XK → TS)
    (hd : ∀ (f : Addr) (cdv : Value) (A : Around) (outer : List Env) (s : Shared) (H : Hp) (E : XK), Room k (A.deeper (envOfC qual (defScope st) s.heap.objs.size f cdv)) → PSs (cxOf (L2.CX P w) P w K mg base N qual (defScope st) f cdv A outer s H E) (defBody st) (t E))
    (hp : ∀ vs H Q E, sp vs H Q E → t E { nx := fun _ H' => Q .non H', rt := Q } (start N vs) H) : OkI P w K mg base C ps (k + 1) sp := by
  obtain ⟨f, fd, hm, F, b⟩ := F
  exact ⟨f, fd, hm, b, F.okX S len fun cdv A outer s H vs Q E hr h => ⟨t E, hd f cdv A outer s H E hr, hp vs H Q E h⟩⟩
theorem OkM.mk {m qual : Str} {st : Stmt} {ps N : List Str} {k : Nat} {sp : Sp} (F : MethAt K C m qual st ps) (S : FnScope N ps (defScope st)) (len : ∀ vs H Q E, sp vs H Q E → vs.length = ps.length) (t : XK → TS)
    (hd : ∀ (f : Addr) (cdv : Value) (A : Around) (outer : List Env) (s : Shared) (H : Hp) (E : XK), Room k (A.deeper (envOfC qual (defScope st) s.heap.objs.size f cdv)) → PSs (cxOf (L2.CX P w) P w K mg base N qual (defScope st) f cdv A outer s H E) (defBody st) (t E))
    (hp : ∀ vs H Q E, sp vs H Q E → t E { nx := fun _ H' => Q .non H', rt := Q } (start N vs) H) : OkM P w K mg base C m ps (k + 1) sp := by
  obtain ⟨f, fd, hm, F, b⟩ := F
  exact ⟨f, fd, hm, b, F.okX S len fun cdv A outer s H vs Q E hr h => ⟨t E, hd f cdv A outer s H E hr, hp vs H Q E h⟩⟩
theorem InitAt.of {qual : Str} {st : Stmt} {ps : List Str} {f : Addr} {oc : Value} {od an : Option Addr} {osl : Array (Option Value)} {kV doc pm cdv ct : Value} (mk : PySem.W.makesIn K C = true) (a : PySem.W.findIn K (.ref C) "__init__" = some (some (.ref f))) (i : PySem.W.isFn K (.ref f) = true)
    (l : K.lookup f = some ⟨oc, od, .func (PySem.W.fnOf "__init__" qual (defArgs st) (defBody st) (defScope st) .none kV doc pm an cdv ct), osl⟩) (c : PySem.W.codeIn K cdv qual = true) (k : PySem.W.keepIn K (.ref f) = true) (kC : PySem.W.keepIn K (.ref C) = true)
    (b : ∀ (kV doc pm : Value) (an : Option Addr) (cdv ct : Value) (us : List Value), us.length = ps.length → bindArgs (PySem.W.fnOf "__init__" qual (defArgs st) (defBody st) (defScope st) .none kV doc pm an cdv ct) ⟨us, []⟩ = pure (ps.zip us)) : InitAt K C qual st ps :=
  ⟨f, _, ⟨mk, a, i, kC⟩, fun_mk l c k, (fun_mk (st := st) l c k).binds b⟩
theorem MethAt.of {m qual : Str} {st : Stmt} {ps : List Str} {f : Addr} {oc : Value} {od an : Option Addr} {osl : Array (Option Value)} {kV doc pm cdv ct : Value} (a : PySem.W.findIn K (.ref C) m = some (some (.ref f))) (i : PySem.W.isFn K (.ref f) = true)
    (l : K.lookup f = some ⟨oc, od, .func (PySem.W.fnOf m qual (defArgs st) (defBody st) (defScope st) .none kV doc pm an cdv ct), osl⟩) (c : PySem.W.codeIn K cdv qual = true) (k : PySem.W.keepIn K (.ref f) = true)
    (b : ∀ (kV doc pm : Value) (an : Option Addr) (cdv ct : Value) (us : List Value), us.length = ps.length → bindArgs (PySem.W.fnOf m qual (defArgs st) (defBody st) (defScope st) .none kV doc pm an cdv ct) ⟨us, []⟩ = pure (ps.zip us)) : MethAt K C m qual st ps :=
  ⟨f, _, ⟨a, i, k⟩, fun_mk l c k, (fun_mk (st := st) l c k).binds b⟩
end
section
variable {X : Cx} {x m : Str} {p pos apos : Pos} {e o : Expr} {es : List Expr} {t : TA} {to : TE} {ps : List Str} {k : Nat} {sp : Sp} {C : Addr}
theorem pe_makeO (O : OkI X.prog X.w X.K X.mg X.base C ps k sp) (hr : Room (k + 1) X.A) (hm : X.mg x = some (.ref C)) (ha : PA X (e :: es) t) (hg : Gl X x := by rfl) (hdb : (x == ("__debug__" : Str)) = false := by decide)
    (he : starEach (e :: es) X.env = (false, eval e X.env) :: starEach es X.env := by rfl) (hpl : (backTo pos (starEach es X.env)).any (·.1) = false := by rfl) : PE X (.Call (.Name x p) (e :: es) [] pos) (tMake C sp [] E0 t) := by
  obtain ⟨f, fd, M, b, F⟩ := O
  exact pe_make M F hr hg hm b .nil passL ha hdb he hpl
theorem pe_methO {pl : Sem Bool} (O : OkM X.prog X.w X.K X.mg X.base C m ps k sp) (hr : Room k X.A) (c : Cls X.K C) (ho : PE X o to) (ha : PA X (e :: es) t)
    (hst : starEach (e :: es) X.env = (false, eval e X.env) :: starEach es X.env := by rfl) (hpl : (backTo pos (starEach es X.env)).any (·.1) = false := by rfl)
    (ht : eval (.Call (.Attribute o m apos) (e :: es) [] pos) X.env = (do
      let ov ← eval o X.env
      standAt apos.atName
      let (f, first) ← holding [ov] (getMethod ov m pl)
      callWith pos f first (backTo pos (starEach (e :: es) X.env)) (backToKw pos (keywordEach [] X.env))) := by rfl) : PE X (.Call (.Attribute o m apos) (e :: es) [] pos) (tMeth C m sp [] E0 to t) := by
  obtain ⟨f, fd, M, b, F⟩ := O
  exact pe_meth ho c M F hr b .nil passL ha hst hpl ht
theorem pe_methO0 {pl : Sem Bool} (O : OkM X.prog X.w X.K X.mg X.base C m ps k sp) (hr : Room k X.A) (c : Cls X.K C) (ho : PE X o to)
    (ht : eval (.Call (.Attribute o m apos) [] [] pos) X.env = (do
      let ov ← eval o X.env
      standAt apos.atName
      let (f, first) ← holding [ov] (getMethod ov m pl)
      callWith pos f first (backTo pos (starEach [] X.env)) (backToKw pos (keywordEach [] X.env))) := by rfl) : PE X (.Call (.Attribute o m apos) [] [] pos) (tMeth C m sp [] E0 to tNil) := by
  obtain ⟨f, fd, M, b, F⟩ := O
  exact pe_meth0 ho c M F hr b .nil passL ht
end
section
variable {K : PySem.W.Frag} {C : Addr} {ρ : List Cell} {te ta tb : TE} {d : D} {t : TA}
/-- Hoist(..): a new hoist -/
theorem ed_make {R : List D → List Int → List (List Int) → Prop} {E : XK} {ds ds' : List D} {ws : List Int} {tb : List (List Int)} (h : EvAD K C t ρ ds) (he : eraAll ds = ds') (hR : R ds' ws tb) : EvD K C (tMake C (spMk K C R) [] E t) ρ (.ho .f ws tb) := fun Hf H0 Hb H L σ E0 Q q =>
  h Hf H0 Hb H L σ E0 _ fun vs Hb1 H1 S r => by
    intro x dx hx hdx ne
    have E1 := E0.step S
    have sub : Ex Hb1 (hide (upd (upd H1 dx (.own x)) x (.ins C dx [])) x) := fun a o w => by
      have w1 := S.bh a o w
      have ax : a ≠ x := ne_of_none w1 hx
      unfold hide
      rw [if_neg ax, upd_ne ax, upd_ne (ne_of_none w1 hdx)]
      exact w1
    have up : Ex H1 (upd (upd H1 dx (.own x)) x (.ins C dx [])) := (Ex.new hdx).trans (Ex.new (by rw [upd_ne (Ne.symm ne)]; exact hx))
    refine ⟨x, dx, vs, ds', ws, tb, by simp, upd_same, ?_, hR, fun H' M => ⟨rfl, ?_⟩⟩
    · have r' := RpAll.era (Hf' := hide (upd (upd H1 dx (.own x)) x (.ins C dx [])) x) _ _ r
      rw [he] at r'
      exact RpAll.mono sub _ _ r'
    · obtain ⟨keep, dx', l, t', ts, n1, n2, n3, m1, m2, m3, m4⟩ := M
      have e1 : Ex H1 H' := fun a o w => keep a o (ne_of_none w hx) (up a o w)
      have fr : ∀ a, upd (upd H1 dx (.own x)) x (.ins C dx []) a = none → H1 a = none := fun a w => up.free w
      have J := E1.join e1
      refine q (.ref x) (joinH H1 Hb1 H') H' (S.trans J) ?_
      have I := E1.joinInto e1
      refine ⟨x, dx', l, t', ts, rfl, I.fr _ hx, I.fr _ (fr _ n1), I.fr _ (fr _ n2), fun b hb => I.fr _ (fr _ (n3 b hb)), I.nw _ _ hx m1, I.nw _ _ (fr _ n1) m2, I.nw _ _ (fr _ n2) m3, ?_⟩
      clear m3 hR h he q
      induction m4 with
      | nil => exact .nil
      | cons r1 _ ih => exact .cons (I.nw _ _ (fr _ (n3 _ List.mem_cons_self)) r1) (ih fun b hb => n3 b (List.mem_cons_of_mem _ hb))
/-- o.m(..) of a hoist -/
theorem meth_args {ds ds' : List D} {ws : List Int} {tb : List (List Int)} {mk : Mark} {m : Str} (ho : EvD K C te ρ (.ho mk ws tb)) (h : EvA K C t ρ ds) (he : eraAll ds = ds') (h1 : ¬ m = "heavy") (h2 : ¬ m = "table") {Hf H0 Hb H : Hp} {L : List (List Addr)} {σ : St} (E0 : EnvB K C Hf H0 Hb H L σ ρ) {sp : Sp} {E : XK} {Q : VK}
    (k : ∀ vs Hb1 H1, Step Hb H Hb1 H1 → RpAll K C H1 H1 (.ho .x ws tb :: ds') vs → sp vs H1 Q E) : tMeth C m sp [] E te t σ H Q := by
  refine ho Hf H0 Hb H L σ E0 _ fun v Hb1 H1 S r => ?_
  have r' := Rp.mono S.bh _ _ r
  obtain ⟨a, dx, l, t', ts, rfl, m1, m2, m3, m4, g1, g2⟩ := r'
  refine ⟨a, dx, _, rfl, g1, hoF_no l t' h1 h2, h Hf H0 Hb1 H1 L σ (E0.step S) _ fun vs Hb2 H2 S2 r2 => ?_⟩
  have r3 := RpAll.era (Hf' := H2) _ _ r2
  rw [he] at r3
  have r4 := Rp.era (Hf' := H2) _ _ (Rp.mono (S.bh.trans S2.h) _ _ r)
  rw [List.append_nil]
  exact k _ Hb2 H2 (S.trans S2) (.cons r4 r3)
theorem ed_meth {R : List D → D → Prop} {E : XK} {ds ds' : List D} {ws : List Int} {tb : List (List Int)} {mk : Mark} {m : Str} (ho : EvD K C te ρ (.ho mk ws tb)) (h : EvA K C t ρ ds) (he : eraAll ds = ds') (hR : R (.ho .x ws tb :: ds') d) (hf : d.fr = true) (h1 : ¬ m = "heavy") (h2 : ¬ m = "table") :
    EvD K C (tMeth C m (spD K C R) [] E te t) ρ d := fun Hf H0 Hb H L σ E0 Q q => meth_args ho h he h1 h2 E0 fun vs Hb1 H1 S r => ⟨_, d, r, hR, fun v H' e r2 => by
    have E1 := E0.step S
    exact q v (joinH H1 Hb1 H') H' (S.trans (E1.join e)) (Rp.into (E1.joinInto e) d v hf r2)⟩
theorem el_meth {R : List D → List D → Prop} {E : XK} {ds ds' xs : List D} {ws : List Int} {tb : List (List Int)} {mk : Mark} {m : Str} (ho : EvD K C te ρ (.ho mk ws tb)) (h : EvA K C t ρ ds) (he : eraAll ds = ds') (hR : R (.ho .x ws tb :: ds') xs) (hf : frAll xs = true) (h1 : ¬ m = "heavy") (h2 : ¬ m = "table") :
    EvL K C (tMeth C m (spL K C R) [] E te t) ρ xs := fun Hf H0 Hb H L σ E0 Q q => meth_args ho h he h1 h2 E0 fun vs Hb1 H1 S r => ⟨_, xs, r, hR, fun p us Hm H' e em n1 g1 tu r2 => by
    have E1 := E0.step S
    have J := E1.join e
    have p1 : H1 p = none := e.free n1
    have jp : joinH H1 Hb1 Hm p = none := by
      unfold joinH
      rw [p1]; exact n1
    exact q p us (joinH H1 Hb1 Hm) H' (S.trans ⟨J.hb, e.trans em, J.bh.trans em, J.nw, fun a zs w => J.tu a zs (tu a zs w)⟩) (S.h.free p1) jp g1 (RpAll.into (E1.joinInto e) xs us hf r2)⟩
end
/-- at __init__'s entry: self is the frame's own, without attributes -/
theorem startMk {K : PySem.W.Frag} {C : Addr} {H : Hp} {ds : List D} {vs : List V} {N : List Str} {n : Nat} {G : St → Hp → Prop} {x dx : Addr} (hx : H x = some (.ins C dx [])) (r : RpAll K C (hide H x) (hide H x) ds vs) (hn : N.length - (vs.length + 1) = n)
    (h : At K C (hide H x) (hide H x) G (.ob x C [] :: (ds.map .dat ++ uns n))) : G (start N (.ref x :: vs)) H := by
  subst hn
  have hx0 : hide H x x = none := by unfold hide; rw [if_pos rfl]
  have E := EnvB.start (.non :: ds) (.non :: vs) (N.length - (vs.length + 1)) (H := hide H x) (K := K) (C := C) (.cons rfl r)
  have E1 := E.step (Hb' := hide H x) (H' := H) ⟨.refl _, hide_ex H x, hide_ex H x, fun a o q => .inl q, fun a zs w => by
    unfold hide
    by_cases z : a = x
    · subst z; rw [hx] at w; cases w
    · rw [if_neg z]; exact w⟩
  have E2 := E1.set (i := 0) (by simp) (c := .ob x C []) (s := some (.ref x)) (l := [x]) ⟨dx, [], [], rfl, rfl, hx, rfl, rfl⟩ (by simp) (fun a m => by
    have e : a = x := by simpa using m
    subst e
    exact ⟨hx0, hx0, by rw [hx]; exact fun z => nomatch z⟩) (fun j lj a ne q m => by
    rw [List.getElem?_replicate] at q
    split at q <;> cases q
    exact nomatch m)
  exact h _ _ _ _ E2
/-- at __init__'s end -/
theorem at_endMk {K : PySem.W.Frag} {C : Addr} {H H0 : Hp} {x dx : Addr} {ρ : List Cell} {ws : List Int} {tb : List (List Int)} {Q : VK} (hx : H x = some (.ins C dx [])) (h : ρ[0]? = some (.ob x C [("heavy", .dat (.lst .f (dI ws))), ("table", .dat (.lst .f (dRows .f tb)))]))
    (hs : ∀ H', MadeHo C H H' x ws tb → Q .non H') : At K C (hide H x) H0 (fun _ H' => Q .non H') ρ := fun Hb H' L σ E => by
  obtain ⟨s, l, h1, hl, dx', vs, l', rfl, rfl, h2, h3⟩ := E.cell 0 _ h
  refine hs H' ⟨fun b o ne w => E.ef b o (by unfold hide; rw [if_neg ne]; exact w), ?_⟩
  obtain ⟨v1, r1, rfl, ⟨l1, us1, rfl, m1, g1, g2⟩, v2, r2, rfl, ⟨t1, us2, rfl, m2, g3, g4⟩, _, e⟩ := h3
  subst e
  obtain ⟨ts, rfl, m3, m4⟩ := of_rows g4
  rw [g2.ints] at g1
  have nx : ∀ b us, Hb b = some (.lst us) → hide H x b = none → H b = none := fun b us q w => by
    unfold hide at w
    by_cases z : b = x
    · subst z
      have w2 := E.e1 _ _ q
      rw [h2] at w2; cases w2
    · rw [if_neg z] at w; exact w
  refine ⟨dx', l1, t1, ts, nx _ _ g1 m1, nx _ _ g3 m2, fun b hb => ?_, h2, E.e1 _ _ g1, E.e1 _ _ g3, paired_imp (fun b r q => E.e1 _ _ q) m4⟩
  have : ∀ {ts : List Addr} {tb : List (List Int)}, Paired (fun (b : Addr) (r : List Int) => Hb b = some (.lst (r.map V.int))) ts tb → ∀ b ∈ ts, ∃ us, Hb b = some (.lst us) := fun h => by
    induction h with
    | nil => intro b hb; exact nomatch hb
    | cons r _ ih =>
      intro b hb
      rcases List.mem_cons.mp hb with rfl | hb
      · exact ⟨_, r⟩
      · exact ih b hb
  obtain ⟨us, q⟩ := this m4 b hb
  exact nx _ _ q (m3 b hb)
end Hw
namespace Hw
open PySem L2
/-! ## hoists as data, and what is reckoned of them -/
def sumAt (ps : List (Int × Int)) (b : Int) : Int := ((ps.filter fun p => decide (p.1 = b)).map (·.2)).sum
def tbOf (n : Nat) (rs : List (List (Int × Int))) : List (List Int) := rs.map fun ps => (List.range n).map fun (b : Nat) => sumAt ps b
structure PairsOk (n : Int) (ps : List (Int × Int)) : Prop where
  len : ps.length ≤ 12
  all : ∀ p ∈ ps, (0 ≤ p.1 ∧ p.1 < n) ∧ (-9 ≤ p.2 ∧ p.2 ≤ 9)
structure ValidH (ws : List Int) (rs : List (List (Int × Int))) : Prop where
  w1 : 1 ≤ ws.length
  w4 : ws.length ≤ 4
  r5 : rs.length ≤ 5
  wv : ∀ w ∈ ws, 0 ≤ w ∧ w ≤ 1000
  ps : ∀ p ∈ rs, PairsOk ws.length p
  st : ∀ r ∈ tbOf ws.length rs, ∀ z ∈ r, -9 ≤ z ∧ z ≤ 9
def tget (tb : List (List Int)) (r b : Nat) : Int := (tb.getD r []).getD b 0
/-- weights and strands of a hoist -/
structure HoOk (ws : List Int) (tb : List (List Int)) : Prop where
  w1 : 1 ≤ ws.length
  w4 : ws.length ≤ 4
  r5 : tb.length ≤ 5
  wv : ∀ w ∈ ws, 0 ≤ w ∧ w ≤ 1000
  row : ∀ r ∈ tb, r.length = ws.length
  st : ∀ r ∈ tb, ∀ z ∈ r, -9 ≤ z ∧ z ≤ 9
def R_see_pairs (ds : List D) (d : D) : Prop := ∃ (ps : List (Int × Int)) (n : Int), PairsOk n ps ∧ ds = [dRope .x ps, .int n] ∧ d = .non
def R_hsum (ds : List D) (d : D) : Prop := ∃ (ps : List (Int × Int)) (b : Int), ps.length ≤ 1000 ∧ ds = [dRope .x ps, .int b] ∧ d = .int (sumAt ps b)
def R_init (ds : List D) (ws : List Int) (tb : List (List Int)) : Prop := ∃ rs, ValidH ws rs ∧ ds = [.lst .x (dI ws), .lst .x (dRopes .x rs)] ∧ tb = tbOf ws.length rs
/-! the law's own -/
def menu : List Int := [0, 2, 1, 2, 0, -1, 1, 4, -2, 6, 0, 9, 1, -5, 2, -9]
def rowOf (c : Int) (n : Nat) : List Int := (List.range n).map fun j => menu.getD ((c / 16 ^ j) % 16).toNat 0
def tableOf (ns : List Int) (first ropes bodies : Nat) : List (List Int) := (List.range ropes).map fun r => rowOf (ns.getD (first + r) 0) bodies
def R_table (ds : List D) (xs : List D) : Prop := ∃ (ns : List Int) (first ropes bodies : Nat), ropes ≤ 10 ∧ bodies ≤ 10 ∧ ds = [.scr ns, .int first, .int ropes, .int bodies] ∧ xs = dRows .f (tableOf ns first ropes bodies)
def pairsOf (row : List Int) : List (Int × Int) := (List.range row.length).filterMap fun j => if row.getD j 0 = 0 then none else some ((j : Int), row.getD j 0)
def ropeOf (cell : Int) (row : List Int) : List (Int × Int) :=
  if cell % 3 = 1 then (pairsOf row).reverse else if cell % 3 = 2 then [((row.length : Int) - 1, 0), (0, 1)] ++ pairsOf row ++ [(0, -1)] else pairsOf row
def ropesOf (tb : List (List Int)) (cell : Int) : List (List (Int × Int)) := tb.map (ropeOf cell)
def R_lropes (ds : List D) (xs : List D) : Prop := ∃ (tb : List (List Int)) (cell : Int), (∀ r ∈ tb, 1 ≤ r.length ∧ r.length ≤ 10) ∧ tb.length ≤ 100 ∧ ds = [.lst .x (dRows .x tb), .int cell] ∧ xs = dRopes .f (ropesOf tb cell)
/-- sums of fractions -/
def R_summedp (ds : List D) (d : D) : Prop := ∃ qs : List Rat, (∀ q ∈ qs, Sz 150 q) ∧ qs.length ≤ 20 ∧ ds = [.lst .x (qs.map dF)] ∧ d = dF qs.sum
/-- what pulls lift at a body -/
def liftAt (tb : List (List Int)) (ps : List Rat) (b : Nat) : Rat := ((List.range tb.length).map fun r => ps.getD r 0 * (tget tb r b : Rat)).sum
def spareOf (row : List Int) (ms : List Rat) : Rat := ((List.range row.length).map fun b => (row.getD b 0 : Rat) * ms.getD b 0).sum
def gainOf (ws : List Int) (ms : List Rat) : Rat := ((List.range ms.length).map fun b => (ws.getD b 0 : Rat) * ms.getD b 0).sum
def SzL (n : Nat) (qs : List Rat) : Prop := ∀ q ∈ qs, Sz n q
def liftL (ws : List Int) (tb : List (List Int)) (ps : List Rat) : List Rat := (List.range ws.length).map (liftAt tb ps)
def wF (ws : List Int) : List Rat := ws.map fun (w : Int) => (w : Rat)
def holdsB (ws : List Int) (tb : List (List Int)) (ps : List Rat) : Bool := decide (∀ p ∈ ps, ¬ p < 0) && decide (liftL ws tb ps = wF ws)
def letB (tb : List (List Int)) (ms : List Rat) : Bool := decide (∀ r ∈ tb, ¬ spareOf r ms < 0)
def R_lifted (ds : List D) (xs : List D) : Prop := ∃ ws tb ps, HoOk ws tb ∧ SzL 100 ps ∧ ps.length = tb.length ∧ ds = [.ho .x ws tb, .lst .x (dFs ps)] ∧ xs = dFs (liftL ws tb ps)
def R_holds (ds : List D) (d : D) : Prop := ∃ ws tb ps, HoOk ws tb ∧ SzL 100 ps ∧ ps.length = tb.length ∧ ds = [.ho .x ws tb, .lst .x (dFs ps)] ∧ d = .bl (holdsB ws tb ps)
def R_spare (ds : List D) (xs : List D) : Prop := ∃ ws tb ms, HoOk ws tb ∧ SzL 100 ms ∧ ms.length = ws.length ∧ ds = [.ho .x ws tb, .lst .x (dFs ms)] ∧ xs = dFs (tb.map fun r => spareOf r ms)
def R_gain (ds : List D) (d : D) : Prop := ∃ ws tb ms, HoOk ws tb ∧ SzL 100 ms ∧ ms.length = ws.length ∧ ds = [.ho .x ws tb, .lst .x (dFs ms)] ∧ d = dF (gainOf ws ms)
def R_is_let (ds : List D) (d : D) : Prop := ∃ ws tb ms, HoOk ws tb ∧ SzL 100 ms ∧ ms.length = ws.length ∧ ds = [.ho .x ws tb, .lst .x (dFs ms)] ∧ d = .bl (letB tb ms)
def R_lsum (ds : List D) (d : D) : Prop := ∃ tb ps, ∃ b : Nat, tb.length ≤ 5 ∧ (∀ r ∈ tb, b < r.length) ∧ (∀ r ∈ tb, ∀ z ∈ r, -9 ≤ z ∧ z ≤ 9) ∧ SzL 100 ps ∧ ps.length = tb.length ∧ ds = [.lst .x (dRows .x tb), .lst .x (dFs ps), .int b] ∧ d = dF (liftAt tb ps b)
def R_lspare (ds : List D) (d : D) : Prop := ∃ row ms, row.length ≤ 5 ∧ (∀ z ∈ row, -2000 ≤ z ∧ z ≤ 2000) ∧ SzL 500 ms ∧ ms.length = row.length ∧ ds = [.lst .x (dI row), .lst .x (dFs ms)] ∧ d = dF (spareOf row ms)
def R_held (ds : List D) (d : D) : Prop := ∃ ws tb ps, HoOk ws tb ∧ SzL 100 ps ∧ ps.length = tb.length ∧ ds = [.lst .x (dI ws), .lst .x (dRows .x tb), .lst .x (dFs ps)] ∧ d = .bl (holdsB ws tb ps)
def R_parts (ds : List D) (d : D) : Prop := ∃ qs : List Rat, SzL 8500 qs ∧ qs.length ≤ 1000 ∧ ds = [.lst .x (dFs qs), .int qs.length] ∧ d = .bl true
/-! drawn hoists -/
def bodiesOf (ns : List Int) : Nat := (1 + ns.getD 0 0 % 4).toNat
def ropesN (ns : List Int) : Nat := (ns.getD 0 0 / 4 % 6).toNat
def drawnTb (ns : List Int) : List (List Int) := tableOf ns 2 (ropesN ns) (bodiesOf ns)
def wmenu : List Int := [21, 21, 4, 1001, 21]
def drawnW0 (ns : List Int) : List Int := (List.range (bodiesOf ns)).map fun b => ns.getD (7 + b) 0 / 5 % wmenu.getD (ns.getD (7 + b) 0 % 5).toNat 1
def madeP (ns : List Int) (r : Nat) : Int := ns.getD (7 + r) 0 / 7 % 9
def drawnMade (ns : List Int) : List Int := (List.range (bodiesOf ns)).map fun b => ((List.range (ropesN ns)).map fun r => tget (drawnTb ns) r b * madeP ns r).sum
def drawnWs (ns : List Int) : List Int := if ns.getD 1 0 % 3 > 0 ∧ ∀ w ∈ drawnMade ns, 0 ≤ w ∧ w ≤ 1000 then drawnMade ns else drawnW0 ns
def R_drawn (ds : List D) (d : D) : Prop := ∃ ns, ds = [.scr ns] ∧ d = .tup [.lst .f (dI (drawnWs ns)), .lst .f (dRows .f (drawnTb ns))]
def rowF (ns : List Int) (first many : Nat) : List Rat := (List.range many).map fun k => fracOf (ns.getD (first + k) 0)
def R_lrow (ds : List D) (xs : List D) : Prop := ∃ (ns : List Int) (first many : Nat), many ≤ 100 ∧ ds = [.scr ns, .int first, .int many] ∧ xs = dFs (rowF ns first many)
section
variable {ps : List (Int × Int)} {n b c cell : Int} {ws row ns : List Int} {tb : List (List Int)} {rs : List (List (Int × Int))} {qs ms : List Rat} {first ropes bodies many : Nat}
theorem rc_see_pairs (h : PairsOk n ps) : R_see_pairs [dRope .x ps, .int n] .non := ⟨ps, n, h, rfl, rfl⟩
theorem rc_hsum (h : ps.length ≤ 1000) : R_hsum [dRope .x ps, .int b] (.int (sumAt ps b)) := ⟨ps, b, h, rfl, rfl⟩
theorem rc_table {a b c : Int} (ha : a = (first : Int)) (hb : b = (ropes : Int)) (hc : c = (bodies : Int)) (h1 : ropes ≤ 10) (h2 : bodies ≤ 10) : R_table [.scr ns, .int a, .int b, .int c] (dRows .f (tableOf ns first ropes bodies)) := ⟨ns, first, ropes, bodies, h1, h2, by rw [ha, hb, hc], rfl⟩
theorem rc_lropes (h : ∀ r ∈ tb, 1 ≤ r.length ∧ r.length ≤ 10) (h2 : tb.length ≤ 100) : R_lropes [.lst .x (dRows .x tb), .int cell] (dRopes .f (ropesOf tb cell)) := ⟨tb, cell, h, h2, rfl, rfl⟩
theorem rc_summedp (h : ∀ q ∈ qs, Sz 150 q) (h2 : qs.length ≤ 20) : R_summedp [.lst .x (qs.map dF)] (dF qs.sum) := ⟨qs, h, h2, rfl, rfl⟩
theorem rc_lifted (h : HoOk ws tb) (h1 : SzL 100 qs) (h2 : qs.length = tb.length) : R_lifted [.ho .x ws tb, .lst .x (dFs qs)] (dFs (liftL ws tb qs)) := ⟨ws, tb, qs, h, h1, h2, rfl, rfl⟩
theorem rc_holds (h : HoOk ws tb) (h1 : SzL 100 qs) (h2 : qs.length = tb.length) : R_holds [.ho .x ws tb, .lst .x (dFs qs)] (.bl (holdsB ws tb qs)) := ⟨ws, tb, qs, h, h1, h2, rfl, rfl⟩
theorem rc_spare (h : HoOk ws tb) (h1 : SzL 100 qs) (h2 : qs.length = ws.length) : R_spare [.ho .x ws tb, .lst .x (dFs qs)] (dFs (tb.map fun r => spareOf r qs)) := ⟨ws, tb, qs, h, h1, h2, rfl, rfl⟩
theorem rc_gain (h : HoOk ws tb) (h1 : SzL 100 qs) (h2 : qs.length = ws.length) : R_gain [.ho .x ws tb, .lst .x (dFs qs)] (dF (gainOf ws qs)) := ⟨ws, tb, qs, h, h1, h2, rfl, rfl⟩
theorem rc_is_let (h : HoOk ws tb) (h1 : SzL 100 qs) (h2 : qs.length = ws.length) : R_is_let [.ho .x ws tb, .lst .x (dFs qs)] (.bl (letB tb qs)) := ⟨ws, tb, qs, h, h1, h2, rfl, rfl⟩
theorem rc_lsum {b : Nat} {z : Int} (hz : z = (b : Int)) (h0 : tb.length ≤ 5) (h1 : ∀ r ∈ tb, b < r.length) (h2 : ∀ r ∈ tb, ∀ z ∈ r, -9 ≤ z ∧ z ≤ 9) (h3 : SzL 100 qs) (h4 : qs.length = tb.length) : R_lsum [.lst .x (dRows .x tb), .lst .x (dFs qs), .int z] (dF (liftAt tb qs b)) := ⟨tb, qs, b, h0, h1, h2, h3, h4, by rw [hz], rfl⟩
theorem rc_lspare (h0 : row.length ≤ 5) (h2 : ∀ z ∈ row, -2000 ≤ z ∧ z ≤ 2000) (h3 : SzL 100 qs) (h4 : qs.length = row.length) : R_lspare [.lst .x (dI row), .lst .x (dFs qs)] (dF (spareOf row qs)) := ⟨row, qs, h0, h2, fun q hq => (h3 q hq).mono (by decide), h4, rfl, rfl⟩
theorem rc_lspare5 (h0 : row.length ≤ 5) (h2 : ∀ z ∈ row, -2000 ≤ z ∧ z ≤ 2000) (h3 : SzL 500 qs) (h4 : qs.length = row.length) : R_lspare [.lst .x (dI row), .lst .x (dFs qs)] (dF (spareOf row qs)) := ⟨row, qs, h0, h2, h3, h4, rfl, rfl⟩
theorem rc_held (h : HoOk ws tb) (h1 : SzL 100 qs) (h2 : qs.length = tb.length) : R_held [.lst .x (dI ws), .lst .x (dRows .x tb), .lst .x (dFs qs)] (.bl (holdsB ws tb qs)) := ⟨ws, tb, qs, h, h1, h2, rfl, rfl⟩
theorem rc_parts (h : SzL 8500 qs) (h2 : qs.length ≤ 1000) (hn : n = qs.length) : R_parts [.lst .x (dFs qs), .int n] (.bl true) := ⟨qs, h, h2, by rw [hn], rfl⟩
theorem rc_drawn : R_drawn [.scr ns] (.tup [.lst .f (dI (drawnWs ns)), .lst .f (dRows .f (drawnTb ns))]) := ⟨ns, rfl, rfl⟩
theorem rc_lrow {a b : Int} (ha : a = (first : Int)) (hb : b = (many : Int)) (h : many ≤ 100) : R_lrow [.scr ns, .int a, .int b] (dFs (rowF ns first many)) := ⟨ns, first, many, h, by rw [ha, hb], rfl⟩
theorem rc_lplus {a b c e : Int} (hb : 0 < b) (he : 0 < e) (h1 : a.natAbs < 2 ^ 4000) (h2 : b.natAbs < 2 ^ 4000) (h3 : c.natAbs < 2 ^ 4000) (h4 : e.natAbs < 2 ^ 4000) : R_lplus [.tup [.int a, .int b], .tup [.int c, .int e]] (dF (Rat.divInt a b + Rat.divInt c e)) := ⟨a, b, c, e, hb, he, h1, h2, h3, h4, rfl, rfl⟩
theorem rc_times_int {x : Rat} {z : Int} (h1 : Sz 4000 x) (h2 : Sz 4000 (z : Rat)) : R_times [dF x, .tup [.int z, .int 1]] (dF (x * z)) := ⟨x, z, h1, h2, by rw [dF_int], rfl⟩
theorem rc_int_times {x : Rat} {z : Int} (h1 : Sz 4000 (z : Rat)) (h2 : Sz 4000 x) : R_times [.tup [.int z, .int 1], dF x] (dF (z * x)) := ⟨z, x, h1, h2, by rw [dF_int], rfl⟩
theorem rc_less0 {x : Rat} (h1 : Sz 4000 x) : R_less [dF x, .tup [.int 0, .int 1]] (.bl (decide (x < 0))) := ⟨x, 0, h1, ⟨by decide, by decide⟩, rfl, rfl⟩
theorem rc_init {rs : List (List (Int × Int))} (h : ValidH ws rs) : R_init [.lst .x (dI ws), .lst .x (dRopes .x rs)] ws (tbOf ws.length rs) := ⟨rs, h, rfl, rfl⟩
end
section
variable (K : PySem.W.Frag) (C : Addr)
abbrev sp_see_pairs : Sp := spD K C R_see_pairs
abbrev sp_summed_hoist : Sp := spD K C R_hsum
abbrev sp_Hoist_init : Sp := spMk K C R_init
abbrev sp_law_table : Sp := spL K C R_table
abbrev sp_law_ropes : Sp := spL K C R_lropes
abbrev sp_summed_parts : Sp := spD K C R_summedp
abbrev sp_lifted : Sp := spL K C R_lifted
abbrev sp_holds : Sp := spD K C R_holds
abbrev sp_spare : Sp := spL K C R_spare
abbrev sp_gain : Sp := spD K C R_gain
abbrev sp_is_let : Sp := spD K C R_is_let
abbrev sp_law_sum : Sp := spD K C R_lsum
abbrev sp_law_spare : Sp := spD K C R_lspare
abbrev sp_law_held : Sp := spD K C R_held
abbrev sp_law_parts : Sp := spD K C R_parts
abbrev sp_law_drawn : Sp := spD K C R_drawn
abbrev sp_law_row : Sp := spL K C R_lrow
end
end Hw
namespace Hw
open PySem L2
/-- summed: row total part -/
def t_summed_parts (K : PySem.W.Frag) (C : Addr) (pNOUGHT : Addr) : TS := (tSeq (tAsg (tC (.ref pNOUGHT)) (gName 1)) (tSeq (tFor (iList K (tVar 0)) (gName 2) (tAsg (tCall (sp_plus K C) [] E0 (tCons (tVar 1) (tCons (tVar 2) tNil))) (gName 1))) (tRet (tVar 1))))
abbrev n_summed_parts : List Str := ["row", "total", "part"]
/-- lifted: hoist pulls found body r -/
def t_lifted (K : PySem.W.Frag) (C : Addr) : TS := (tSeq (tAsg (tLst tNil) (gName 2)) (tSeq (tFor (iRng1 (tCons (xLen K (tFld K (tVar 0) "heavy")) tNil)) (gName 3) (tDrop (tBM K "list" rAppend (tVar 2) (tCons (tCall (sp_summed_parts K C) [] E0 (tCons (tLc (iRng1 (tCons (xLen K (tFld K (tVar 0) "table")) tNil)) (gName 4) tYes (tCall (sp_times K C) [] E0 (tCons (xIdx K (tVar 1) (tVar 4)) (tCons (tTup (tCons (xIdx K (xIdx K (tFld K (tVar 0) "table") (tVar 4)) (tVar 3)) (tCons (tC (.int 1)) tNil))) tNil))) [4]) tNil)) tNil)))) (tRet (tVar 2))))
abbrev n_lifted : List Str := ["hoist", "pulls", "found", "body", "r"]
/-- holds: hoist pulls pull weight -/
def t_holds (K : PySem.W.Frag) (C : Addr) (pNOUGHT : Addr) : TS := (tSeq (tFor (iList K (tVar 1)) (gName 2) (tIfS (tB (tCall (sp_less K C) [] E0 (tCons (tVar 2) (tCons (tC (.ref pNOUGHT)) tNil)))) (tRet (tC (.bl false))) tNext)) (tRet (xEq K (tCall (sp_lifted K C) [] E0 (tCons (tVar 0) (tCons (tVar 1) tNil))) (tLc (iList K (tFld K (tVar 0) "heavy")) (gName 3) tYes (tTup (tCons (tVar 3) (tCons (tC (.int 1)) tNil))) [3]))))
abbrev n_holds : List Str := ["hoist", "pulls", "pull", "weight"]
/-- see_pairs: pairs bodies body number -/
def t_see_pairs (K : PySem.W.Frag) (C : Addr) : TS := (tSeq (tIfS (tB (xGt (xLen K (tVar 0)) (tC (.int 12)))) tNever tNext) (tFor (iList K (tVar 0)) (gTup K 2 (gCons (gName 2) (gCons (gName 3) gNil))) (tIfS (tOr (tNot (tB (xLeLt (tC (.int 0)) (tVar 2) (tVar 1)))) (tNot (tB (xLeLe (xNeg (tC (.int 9))) (tVar 3) (tC (.int 9)))))) tNever tNext)))
abbrev n_see_pairs : List Str := ["pairs", "bodies", "body", "number"]
/-- summed: pairs body pair -/
def t_summed_hoist (K : PySem.W.Frag) (C : Addr) : TS := (tRet (x_sum K (tLc (iList K (tVar 0)) (gName 2) (tB (xEq K (xIdx K (tVar 2) (tC (.int 0))) (tVar 1))) (xIdx K (tVar 2) (tC (.int 1))) [2])))
abbrev n_summed_hoist : List Str := ["pairs", "body", "pair"]
/-- Hoist.__init__: self weights ropes weight pairs body row -/
def t_Hoist_init (K : PySem.W.Frag) (C : Addr) : TS := (tSeq (tIfS (tOr (tNot (tB (xLeLe (tC (.int 1)) (xLen K (tVar 1)) (tC (.int 4))))) (tB (xGt (xLen K (tVar 2)) (tC (.int 5))))) tNever tNext) (tSeq (tFor (iList K (tVar 1)) (gName 3) (tIfS (tNot (tB (xLeLe (tC (.int 0)) (tVar 3) (tC (.int 1000))))) tNever tNext)) (tSeq (tFor (iList K (tVar 2)) (gName 4) (tDrop (tCall (sp_see_pairs K C) [] E0 (tCons (tVar 4) (tCons (xLen K (tVar 1)) tNil))))) (tSeq (sFld K (tVar 0) (x_list K (tVar 1)) "heavy") (tSeq (sFld K (tVar 0) (tLc (iList K (tVar 2)) (gName 4) tYes (tLc (iRng1 (tCons (xLen K (tVar 1)) tNil)) (gName 5) tYes (tCall (sp_summed_hoist K C) [] E0 (tCons (tVar 4) (tCons (tVar 5) tNil))) [5]) [4]) "table") (tFor (iList K (tFld K (tVar 0) "table")) (gName 6) (tIfS (tOr (tB (xLt (x_min K (tVar 6)) (xNeg (tC (.int 9))))) (tB (xGt (x_max K (tVar 6)) (tC (.int 9))))) tNever tNext)))))))
abbrev n_Hoist_init : List Str := ["self", "weights", "ropes", "weight", "pairs", "body", "row"]
/-- _law_table: script first ropes bodies table r cell row body -/
def t_law_table (K : PySem.W.Frag) (C : Addr) : TS := (tSeq (tAsg (tLst tNil) (gName 4)) (tSeq (tFor (iRng1 (tCons (tVar 2) tNil)) (gName 5) (tSeq (tAsg (tCall (sp_law_cell_at K C) [] E0 (tCons (tVar 0) (tCons (xAdd (tVar 1) (tVar 5)) tNil))) (gName 6)) (tSeq (tAsg (tLst tNil) (gName 7)) (tSeq (tFor (iRng1 (tCons (tVar 3) tNil)) (gName 8) (tSeq (tDrop (tBM K "list" rAppend (tVar 7) (tCons (xIdx K (tLst (tCons (tC (.int 0)) (tCons (tC (.int 2)) (tCons (tC (.int 1)) (tCons (tC (.int 2)) (tCons (tC (.int 0)) (tCons (xNeg (tC (.int 1))) (tCons (tC (.int 1)) (tCons (tC (.int 4)) (tCons (xNeg (tC (.int 2))) (tCons (tC (.int 6)) (tCons (tC (.int 0)) (tCons (tC (.int 9)) (tCons (tC (.int 1)) (tCons (xNeg (tC (.int 5))) (tCons (tC (.int 2)) (tCons (xNeg (tC (.int 9))) tNil))))))))))))))))) (xMod (tVar 6) (tC (.int 16)))) tNil))) (tAsg (xDiv (tVar 6) (tC (.int 16))) (gName 6)))) (tDrop (tBM K "list" rAppend (tVar 4) (tCons (tVar 7) tNil))))))) (tRet (tVar 4))))
abbrev n_law_table : List Str := ["script", "first", "ropes", "bodies", "table", "r", "cell", "row", "body"]
/-- _law_ropes: table cell ropes row pairs body -/
def t_law_ropes (K : PySem.W.Frag) (C : Addr) : TS := (tSeq (tAsg (tLst tNil) (gName 2)) (tSeq (tFor (iList K (tVar 0)) (gName 3) (tSeq (tAsg (tLst tNil) (gName 4)) (tSeq (tFor (iRng1 (tCons (xLen K (tVar 3)) tNil)) (gName 5) (tIfS (tB (xNe K (xIdx K (tVar 3) (tVar 5)) (tC (.int 0)))) (tDrop (tBM K "list" rAppend (tVar 4) (tCons (tTup (tCons (tVar 5) (tCons (xIdx K (tVar 3) (tVar 5)) tNil))) tNil))) tNext)) (tSeq (tIfS (tB (xEq K (xMod (tVar 1) (tC (.int 3))) (tC (.int 1)))) (tDrop (tBM0 K "list" rReverse (tVar 4))) tNext) (tSeq (tIfS (tB (xEq K (xMod (tVar 1) (tC (.int 3))) (tC (.int 2)))) (tAsg (xCat (xCat (tLst (tCons (tTup (tCons (xSub (xLen K (tVar 3)) (tC (.int 1))) (tCons (tC (.int 0)) tNil))) (tCons (tTup (tCons (tC (.int 0)) (tCons (tC (.int 1)) tNil))) tNil))) (tVar 4)) (tLst (tCons (tTup (tCons (tC (.int 0)) (tCons (xNeg (tC (.int 1))) tNil))) tNil))) (gName 4)) tNext) (tDrop (tBM K "list" rAppend (tVar 2) (tCons (tVar 4) tNil)))))))) (tRet (tVar 2))))
abbrev n_law_ropes : List Str := ["table", "cell", "ropes", "row", "pairs", "body"]
/-- _law_sum: table pulls body total r -/
def t_law_sum (K : PySem.W.Frag) (C : Addr) : TS := (tSeq (tAsg (tTup (tCons (tC (.int 0)) (tCons (tC (.int 1)) tNil))) (gName 3)) (tSeq (tFor (iRng1 (tCons (xLen K (tVar 0)) tNil)) (gName 4) (tAsg (tCall (sp_law_plus K C) [] E0 (tCons (tVar 3) (tCons (tTup (tCons (xMul (xIdx K (xIdx K (tVar 1) (tVar 4)) (tC (.int 0))) (xIdx K (xIdx K (tVar 0) (tVar 4)) (tVar 2))) (tCons (xIdx K (xIdx K (tVar 1) (tVar 4)) (tC (.int 1))) tNil))) tNil))) (gName 3))) (tRet (tVar 3))))
abbrev n_law_sum : List Str := ["table", "pulls", "body", "total", "r"]
/-- _law_held: weights table pulls pull body -/
def t_law_held (K : PySem.W.Frag) (C : Addr) : TS := (tSeq (tFor (iList K (tVar 2)) (gName 3) (tIfS (tB (xLt (xIdx K (tVar 3) (tC (.int 0))) (tC (.int 0)))) (tRet (tC (.bl false))) tNext)) (tSeq (tFor (iRng1 (tCons (xLen K (tVar 0)) tNil)) (gName 4) (tIfS (tB (xNe K (tCall (sp_law_sum K C) [] E0 (tCons (tVar 1) (tCons (tVar 2) (tCons (tVar 4) tNil)))) (tTup (tCons (xIdx K (tVar 0) (tVar 4)) (tCons (tC (.int 1)) tNil))))) (tRet (tC (.bl false))) tNext)) (tRet (tC (.bl true)))))
abbrev n_law_held : List Str := ["weights", "table", "pulls", "pull", "body"]
/-- _law_parts: found many part -/
def t_law_parts (K : PySem.W.Frag) (C : Addr) : TS := (tSeq (tIfS (tOr (tNot (tB (xIsi K "list" (tVar 0)))) (tB (xNe K (xLen K (tVar 0)) (tVar 1)))) (tRet (tC (.bl false))) tNext) (tSeq (tFor (iList K (tVar 0)) (gName 2) (tIfS (tNot (tB (tCall (sp_law_part K C) [] E0 (tCons (tVar 2) tNil)))) (tRet (tC (.bl false))) tNext)) (tRet (tC (.bl true)))))
abbrev n_law_parts : List Str := ["found", "many", "part"]
/-- _law_drawn: script bodies ropes table weights body cell made r -/
def t_law_drawn (K : PySem.W.Frag) (C : Addr) : TS := (tSeq (tAsg (xAdd (tC (.int 1)) (xMod (tCall (sp_law_cell_at K C) [] E0 (tCons (tVar 0) (tCons (tC (.int 0)) tNil))) (tC (.int 4)))) (gName 1)) (tSeq (tAsg (xMod (xDiv (tCall (sp_law_cell_at K C) [] E0 (tCons (tVar 0) (tCons (tC (.int 0)) tNil))) (tC (.int 4))) (tC (.int 6))) (gName 2)) (tSeq (tAsg (tCall (sp_law_table K C) [] E0 (tCons (tVar 0) (tCons (tC (.int 2)) (tCons (tVar 2) (tCons (tVar 1) tNil))))) (gName 3)) (tSeq (tAsg (tLst tNil) (gName 4)) (tSeq (tFor (iRng1 (tCons (tVar 1) tNil)) (gName 5) (tSeq (tAsg (tCall (sp_law_cell_at K C) [] E0 (tCons (tVar 0) (tCons (xAdd (tC (.int 7)) (tVar 5)) tNil))) (gName 6)) (tDrop (tBM K "list" rAppend (tVar 4) (tCons (xMod (xDiv (tVar 6) (tC (.int 5))) (xIdx K (tLst (tCons (tC (.int 21)) (tCons (tC (.int 21)) (tCons (tC (.int 4)) (tCons (tC (.int 1001)) (tCons (tC (.int 21)) tNil)))))) (xMod (tVar 6) (tC (.int 5))))) tNil))))) (tSeq (tIfS (tB (xGt (xMod (tCall (sp_law_cell_at K C) [] E0 (tCons (tVar 0) (tCons (tC (.int 1)) tNil))) (tC (.int 3))) (tC (.int 0)))) (tSeq (tAsg (tLst tNil) (gName 7)) (tSeq (tFor (iRng1 (tCons (tVar 1) tNil)) (gName 5) (tDrop (tBM K "list" rAppend (tVar 7) (tCons (x_sum K (tLc (iRng1 (tCons (tVar 2) tNil)) (gName 8) tYes (xMul (xIdx K (xIdx K (tVar 3) (tVar 8)) (tVar 5)) (xMod (xDiv (tCall (sp_law_cell_at K C) [] E0 (tCons (tVar 0) (tCons (xAdd (tC (.int 7)) (tVar 8)) tNil))) (tC (.int 7))) (tC (.int 9)))) [8])) tNil)))) (tIfS (tAnd (tB (xGe (x_min K (tVar 7)) (tC (.int 0)))) (tB (xLe (x_max K (tVar 7)) (tC (.int 1000))))) (tAsg (tVar 7) (gName 4)) tNext))) tNext) (tRet (tTup (tCons (tVar 4) (tCons (tVar 3) tNil))))))))))
abbrev n_law_drawn : List Str := ["script", "bodies", "ropes", "table", "weights", "body", "cell", "made", "r"]
/-- _law_row: script first many k -/
def t_law_row (K : PySem.W.Frag) (C : Addr) : TS := (tRet (tLc (iRng1 (tCons (tVar 2) tNil)) (gName 3) tYes (tCall (sp_law_fraction K C) [] E0 (tCons (tCall (sp_law_cell_at K C) [] E0 (tCons (tVar 0) (tCons (xAdd (tVar 1) (tVar 3)) tNil))) tNil)) [3]))
abbrev n_law_row : List Str := ["script", "first", "many", "k"]
/-- spare: hoist motion found row body -/
def t_spare (K : PySem.W.Frag) (C : Addr) : TS := (tSeq (tAsg (tLst tNil) (gName 2)) (tSeq (tFor (iList K (tFld K (tVar 0) "table")) (gName 3) (tDrop (tBM K "list" rAppend (tVar 2) (tCons (tCall (sp_summed_parts K C) [] E0 (tCons (tLc (iRng1 (tCons (xLen K (tVar 3)) tNil)) (gName 4) tYes (tCall (sp_times K C) [] E0 (tCons (tTup (tCons (xIdx K (tVar 3) (tVar 4)) (tCons (tC (.int 1)) tNil))) (tCons (xIdx K (tVar 1) (tVar 4)) tNil))) [4]) tNil)) tNil)))) (tRet (tVar 2))))
abbrev n_spare : List Str := ["hoist", "motion", "found", "row", "body"]
/-- gain: hoist motion body -/
def t_gain (K : PySem.W.Frag) (C : Addr) : TS := (tRet (tCall (sp_summed_parts K C) [] E0 (tCons (tLc (iRng1 (tCons (xLen K (tVar 1)) tNil)) (gName 2) tYes (tCall (sp_times K C) [] E0 (tCons (tTup (tCons (xIdx K (tFld K (tVar 0) "heavy") (tVar 2)) (tCons (tC (.int 1)) tNil))) (tCons (xIdx K (tVar 1) (tVar 2)) tNil))) [2]) tNil)))
abbrev n_gain : List Str := ["hoist", "motion", "body"]
/-- is_let: hoist motion part -/
def t_is_let (K : PySem.W.Frag) (C : Addr) (pNOUGHT : Addr) : TS := (tSeq (tFor (iList K (tCall (sp_spare K C) [] E0 (tCons (tVar 0) (tCons (tVar 1) tNil)))) (gName 2) (tIfS (tB (tCall (sp_less K C) [] E0 (tCons (tVar 2) (tCons (tC (.ref pNOUGHT)) tNil)))) (tRet (tC (.bl false))) tNext)) (tRet (tC (.bl true))))
abbrev n_is_let : List Str := ["hoist", "motion", "part"]
/-- _law_spare: row motion total body -/
def t_law_spare (K : PySem.W.Frag) (C : Addr) : TS := (tSeq (tAsg (tTup (tCons (tC (.int 0)) (tCons (tC (.int 1)) tNil))) (gName 2)) (tSeq (tFor (iRng1 (tCons (xLen K (tVar 0)) tNil)) (gName 3) (tAsg (tCall (sp_law_plus K C) [] E0 (tCons (tVar 2) (tCons (tTup (tCons (xMul (xIdx K (tVar 0) (tVar 3)) (xIdx K (xIdx K (tVar 1) (tVar 3)) (tC (.int 0)))) (tCons (xIdx K (xIdx K (tVar 1) (tVar 3)) (tC (.int 1))) tNil))) tNil))) (gName 2))) (tRet (tVar 2))))
abbrev n_law_spare : List Str := ["row", "motion", "total", "body"]
end Hw
namespace Hw
open PySem L2
local macro_rules | `(tactic| walk_at "sd") => `(tactic| first
  | exact rfl
  | decide +kernel
  | (exact Nat.le_of_ble_eq_true rfl)
  | assumption
  | (exact Sz.mono (by assumption) (by decide))
  | decide
  | omega
  | (exact eraAll_map _ _ (fun _ => rfl) _)
  | (exact frAll_map _ (fun _ => rfl) _)
  | exact EqD.frac
  | exact EqD.int
  | exact EqD.bl
  | exact EqD.pair
  | skip)
local macro_rules | `(tactic| walk_at "R") => `(tactic| first
  | (with_reducible apply rc_common) <;> walk_at "sd"
  | (with_reducible apply rc_fraction) <;> walk_at "sd"
  | (with_reducible apply rc_plus) <;> walk_at "sd"
  | (with_reducible apply rc_minus) <;> walk_at "sd"
  | (with_reducible apply rc_times) <;> walk_at "sd"
  | (with_reducible apply rc_over) <;> walk_at "sd"
  | (with_reducible apply rc_less) <;> walk_at "sd"
  | (with_reducible apply rc_cell) <;> walk_at "sd"
  | (with_reducible apply rc_whole) <;> walk_at "sd"
  | (with_reducible apply rc_low) <;> walk_at "sd"
  | (with_reducible apply rc_part) <;> walk_at "sd"
  | (with_reducible apply rc_lfraction) <;> walk_at "sd")
local macro_rules | `(tactic| walk_at "evD") => `(tactic| first
  | with_reducible exact ed_int
  | with_reducible exact ed_bl
  | with_reducible exact ed_non
  | with_reducible exact ed_str
  | (with_reducible apply ed_var) <;> walk_at "go"
  | (with_reducible apply ed_add) <;> walk_at "go"
  | (with_reducible apply ed_sub) <;> walk_at "go"
  | (with_reducible apply ed_mul) <;> walk_at "go"
  | (with_reducible apply ed_div) <;> walk_at "go"
  | (with_reducible apply ed_mod) <;> walk_at "go"
  | (with_reducible apply ed_pow) <;> walk_at "go"
  | (with_reducible apply ed_neg) <;> walk_at "go"
  | (with_reducible apply ed_lt) <;> walk_at "go"
  | (with_reducible apply ed_le) <;> walk_at "go"
  | (with_reducible apply ed_gt) <;> walk_at "go"
  | (with_reducible apply ed_ge) <;> walk_at "go"
  | (with_reducible apply ed_leLt) <;> walk_at "go"
  | (with_reducible apply ed_leLe) <;> walk_at "go"
  | (with_reducible apply ed_ltLt) <;> walk_at "go"
  | (with_reducible apply ed_eq) <;> walk_at "go"
  | (with_reducible apply ed_ne) <;> walk_at "go"
  | (with_reducible apply ed_idxT) <;> walk_at "go"
  | (with_reducible apply ed_idxS) <;> walk_at "go"
  | (with_reducible apply ed_idxScr) <;> walk_at "go"
  | (with_reducible apply ed_lenS) <;> walk_at "go"
  | (with_reducible apply ed_lenT) <;> walk_at "go"
  | (with_reducible apply ed_lenScr) <;> walk_at "go"
  | (with_reducible apply ed_abs) <;> walk_at "go"
  | (with_reducible apply ed_intI) <;> walk_at "go"
  | (with_reducible apply ed_intB) <;> walk_at "go"
  | (with_reducible apply ed_intS) <;> walk_at "go"
  | (with_reducible apply ed_andV) <;> walk_at "go"
  | (with_reducible apply ed_orV) <;> walk_at "go"
  | (with_reducible apply ed_notV) <;> walk_at "go"
  | (with_reducible apply ed_tup) <;> walk_at "go"
  | (with_reducible apply ev_call) <;> walk_at "go"
  | (with_reducible apply ed_isi) <;> walk_at "go"
  | (with_reducible apply ed_catS) <;> walk_at "go"
  | (with_reducible apply ed_repS) <;> walk_at "go"
  | (with_reducible apply EvL.dat) <;> walk_at "go")
local macro_rules | `(tactic| walk_at "evR") => `(tactic| first
  | (with_reducible apply EvD.r) <;> walk_at "go"
  | (with_reducible apply EvS.r) <;> walk_at "go")
local macro_rules | `(tactic| walk_at "evS") => `(tactic| first
  | (with_reducible apply es_own) <;> walk_at "go"
  | (with_reducible apply EvD.s) <;> walk_at "go"
  | (with_reducible apply EvL.s) <;> walk_at "go")
local macro_rules | `(tactic| walk_at "evL") => `(tactic| first
  | (with_reducible apply el_lst) <;> walk_at "go"
  | (with_reducible apply ev_callL) <;> walk_at "go")
local macro_rules | `(tactic| walk_at "evA") => `(tactic| first
  | with_reducible exact ea_nil
  | (with_reducible apply ea_cons) <;> walk_at "go")
local macro_rules | `(tactic| walk_at "evQ") => `(tactic| first
  | with_reducible exact eq_nil
  | (with_reducible apply eq_cons) <;> walk_at "go")
local macro_rules | `(tactic| walk_at "evB") => `(tactic| first
  | (with_reducible apply eb_and) <;> walk_at "go"
  | (with_reducible apply eb_or) <;> walk_at "go"
  | (with_reducible apply eb_not) <;> walk_at "go"
  | (with_reducible apply eb_val) <;> walk_at "go")
local macro_rules | `(tactic| walk_at "era") => `(tactic| first
  | ((simp only [eraAll, D.era, era_dF, era_dP, era_dFs, era_dI, era_dS, era_dPs, era_dRows, era_dRopes]); done)
  | ((simp only [eraAll, D.era, era_dF, era_dP, era_dFs, era_dI, era_dS, era_dPs, era_dRows, era_dRopes]); exact rfl))
local macro_rules | `(tactic| walk_at "frs") => `(tactic| first
  | exact rfl
  | exact fr_dFs _
  | exact fr_dI _
  | exact fr_dS _
  | exact fr_dPs _
  | exact fr_dRows _
  | exact fr_dRopes _
  | (simp only [frAll, D.fr, fr_dFs, fr_dI, fr_dS, fr_dPs, fr_dRows, fr_dRopes, decide_true, Bool.and_true, Bool.true_and]; done))
local macro_rules | `(tactic| walk_at "go") => `(tactic| first
  | ((with_reducible show eraAll _ = _); walk_at "era")
  | ((with_reducible show D.fr _ = true); walk_at "frs")
  | ((with_reducible show frAll _ = true); walk_at "frs")
  | ((with_reducible show _ = some (Cell.dat _)); exact rfl)
  | ((with_reducible show _ = some (Cell.own _)); exact rfl)
  | ((with_reducible show D.tn _ = some _); exact rfl)
  | ((with_reducible show atI _ _ = some _); first | exact rfl | assumption)
  | ((with_reducible show EvD _ _ _ _ _); walk_at "evD")
  | ((with_reducible show EvR _ _ _ _ _); walk_at "evR")
  | ((with_reducible show EvS _ _ _ _ _); walk_at "evS")
  | ((with_reducible show EvL _ _ _ _ _); walk_at "evL")
  | ((with_reducible show EvA _ _ _ _ _); walk_at "evA")
  | ((with_reducible show EvAD _ _ _ _ _); walk_at "evQ")
  | ((with_reducible show EvB _ _ _ _ _); walk_at "evB")
  | ((with_reducible show _ = _ → _); intro hv; walk_at "go")
  | ((fail_if_success (with_reducible show EvD _ _ _ _ _)); (fail_if_success (with_reducible show EvR _ _ _ _ _)); (fail_if_success (with_reducible show EvS _ _ _ _ _)); (fail_if_success (with_reducible show EvL _ _ _ _ _)); (fail_if_success (with_reducible show EvA _ _ _ _ _)); (fail_if_success (with_reducible show EvAD _ _ _ _ _)); (fail_if_success (with_reducible show EvB _ _ _ _ _)); (fail_if_success (with_reducible show _ = some (Cell.dat _))); (fail_if_success (with_reducible show _ = some (Cell.own _))); (fail_if_success (with_reducible show atI _ _ = some _)); (fail_if_success (with_reducible show D.tn _ = some _)); (fail_if_success (with_reducible show eraAll _ = _)); (fail_if_success (with_reducible show D.fr _ = true)); (fail_if_success (with_reducible show frAll _ = true)); first | walk_at "R" | walk_at "sd"))
local macro_rules | `(tactic| walk_at "len") => `(tactic| first
  | exact (by decide)
  | (simp; done)
  | omega)
local macro_rules | `(tactic| walk_at "st") => `(tactic| first
  | ((with_reducible show At _ _ _ _ _ _); try dsimp only [List.set])
  | ((with_reducible show _ = _ → At _ _ _ _ _ _); intro hb)
  | ((with_reducible show _ < _); walk_at "len")
  | walk_at "go")
local macro_rules | `(tactic| walk_at "asg") => `(tactic| first
  | (with_reducible apply sq_asg) <;> walk_at "st"
  | (with_reducible apply at_asg) <;> walk_at "st")
local macro_rules | `(tactic| walk_at "asgL") => `(tactic| first
  | (with_reducible apply sq_asgL) <;> walk_at "st"
  | (with_reducible apply at_asgL) <;> walk_at "st")
local macro_rules | `(tactic| walk_at "app") => `(tactic| first
  | (with_reducible apply sq_append) <;> walk_at "st"
  | (with_reducible apply at_append) <;> walk_at "st")
local macro_rules | `(tactic| walk_at "ret") => `(tactic| first
  | (with_reducible apply at_ret) <;> walk_at "st")
local macro_rules | `(tactic| walk_at "when") => `(tactic| first
  | (with_reducible apply sq_when) <;> walk_at "st"
  | (with_reducible apply at_when) <;> walk_at "st")
local macro_rules | `(tactic| walk_at "if") => `(tactic| first
  | (with_reducible apply sq_if) <;> walk_at "st"
  | (with_reducible apply at_if) <;> walk_at "st")
local macro_rules | `(tactic| walk_at "fd") => `(tactic| first
  | exact rfl
  | assumption)
local macro_rules | `(tactic| walk_at "R") => `(tactic| first
  | (with_reducible apply rc_see_pairs) <;> walk_at "sd"
  | (with_reducible apply rc_hsum) <;> walk_at "sd"
  | (with_reducible apply rc_table) <;> walk_at "sd"
  | (with_reducible apply rc_lropes) <;> walk_at "sd"
  | (with_reducible apply rc_summedp) <;> walk_at "sd"
  | (with_reducible apply rc_lifted) <;> walk_at "sd"
  | (with_reducible apply rc_holds) <;> walk_at "sd"
  | (with_reducible apply rc_spare) <;> walk_at "sd"
  | (with_reducible apply rc_gain) <;> walk_at "sd"
  | (with_reducible apply rc_is_let) <;> walk_at "sd"
  | (with_reducible apply rc_lsum) <;> walk_at "sd"
  | (with_reducible apply rc_lspare) <;> walk_at "sd"
  | (with_reducible apply rc_held) <;> walk_at "sd"
  | (with_reducible apply rc_parts) <;> walk_at "sd"
  | (with_reducible apply rc_drawn) <;> walk_at "sd"
  | (with_reducible apply rc_lrow) <;> walk_at "sd"
  | (with_reducible apply rc_lplus) <;> walk_at "sd"
  | (with_reducible apply rc_times_int) <;> walk_at "sd"
  | (with_reducible apply rc_int_times) <;> walk_at "sd"
  | (with_reducible apply rc_less0) <;> walk_at "sd"
  | (with_reducible apply rc_init) <;> walk_at "sd")
local macro_rules | `(tactic| walk_at "evD") => `(tactic| first
  | (with_reducible apply ed_sum) <;> walk_at "go"
  | (with_reducible apply ed_min) <;> walk_at "go"
  | (with_reducible apply ed_max) <;> walk_at "go"
  | (with_reducible apply ed_heavy) <;> walk_at "go"
  | (with_reducible apply ed_table) <;> walk_at "go"
  | (with_reducible apply ed_make) <;> walk_at "go"
  | (with_reducible apply ed_meth) <;> walk_at "go"
  | (with_reducible apply ed_fldA) <;> walk_at "fd")
local macro_rules | `(tactic| walk_at "evL") => `(tactic| first
  | (with_reducible apply el_list) <;> walk_at "go"
  | (with_reducible apply el_cat) <;> walk_at "go"
  | (with_reducible apply el_rep) <;> walk_at "go"
  | (with_reducible apply el_slice) <;> walk_at "go"
  | (with_reducible apply el_meth) <;> walk_at "go")
local macro_rules | `(tactic| walk_at "evS") => `(tactic| first
  | (with_reducible apply es_fldA) <;> walk_at "fd")
local macro_rules | `(tactic| walk_at "evO") => `(tactic| first
  | with_reducible exact eo_none
  | (with_reducible apply eo_some) <;> walk_at "go")
local macro_rules | `(tactic| walk_at "go") => `(tactic| first
  | ((with_reducible show EvO _ _ _ _ _); walk_at "evO"))
local macro_rules | `(tactic| walk_at "fld") => `(tactic| first
  | (with_reducible apply sq_fld) <;> walk_at "st"
  | (with_reducible apply at_fld) <;> walk_at "st")
local macro_rules | `(tactic| walk_at "fldL") => `(tactic| first
  | (with_reducible apply sq_fldL) <;> walk_at "st"
  | (with_reducible apply at_fldL) <;> walk_at "st")
local macro_rules | `(tactic| walk_at "drop") => `(tactic| first
  | (with_reducible apply sq_drop) <;> walk_at "st"
  | (with_reducible apply at_drop) <;> walk_at "st")
section
variable {K : PySem.W.Frag} {C : Addr}
theorem range_map_succ {α : Type} (f : Nat → α) (i : Nat) : (List.range (i + 1)).map f = (List.range i).map f ++ [f i] := by simp [List.range_succ]
theorem range_fm_succ {α : Type} (f : Nat → Option α) (i : Nat) : (List.range (i + 1)).filterMap f = (List.range i).filterMap f ++ (match f i with | some y => [y] | none => []) := by
  rw [List.range_succ, List.filterMap_append]
  congr 1
  show List.filterMap f [i] = _
  cases e : f i <;> simp [List.filterMap, e]
theorem take_succ_map {α β : Type} (f : α → β) {l : List α} {i : Nat} {x : α} (h : l[i]? = some x) : (l.take (i + 1)).map f = (l.take i).map f ++ [f x] := by
  rw [List.take_add_one, h, List.map_append]; rfl
theorem map_some {α β : Type} {f : α → β} {l : List α} {i : Nat} {y : β} (h : (l.map f)[i]? = some y) : ∃ x, l[i]? = some x ∧ y = f x := by
  rw [List.getElem?_map] at h
  cases e : l[i]? with
  | none => rw [e] at h; cases h
  | some x => rw [e] at h; exact ⟨x, rfl, (Option.some.inj h).symm⟩
theorem mem_of_some {α : Type} {l : List α} {i : Nat} {x : α} (h : l[i]? = some x) : x ∈ l := List.mem_of_getElem? h
theorem p_see_pairs : Body (t_see_pairs K C) n_see_pairs (sp_see_pairs K C) := by
  rintro vs H Q E ⟨ds, d, r, ⟨ps, n, hok, rfl, rfl⟩, k⟩
  refine start_at r (n := 2) (by rw [r.length]; rfl) ?_
  unfold t_see_pairs
  walk_at "when"
  · rename_i hb
    have h1 : 12 < ((ps.map dP).length : Int) := of_decide_eq_true hb
    rw [List.length_map] at h1
    have := hok.len
    omega
  refine at_forP (xs := ps.map dP) (m := .x) (by walk_at "evD") (fun i ρ' => ∃ c1 c2, ρ' = [.dat (dRope .x ps), .dat (.int n), c1, c2]) ⟨_, _, rfl⟩ ?_ ?_ ?_
  · rintro i ρ' ⟨c1, c2, rfl⟩; exact ⟨by simp, by simp⟩
  · rintro H1 i x ρ' hx ⟨c1, c2, rfl⟩
    obtain ⟨p, hp, rfl⟩ := map_some hx
    obtain ⟨⟨a1, a2⟩, a3, a4⟩ := hok.all p (mem_of_some hp)
    refine ⟨_, _, rfl, ?_⟩
    dsimp only [List.set]
    walk_at "when"
    · rename_i hb
      have e1 : (decide (0 ≤ p.1) && decide (p.1 < n)) = true := by simp [a1, a2]
      have e2 : (decide (-9 ≤ p.2) && decide (p.2 ≤ 9)) = true := by simp [a3, a4]
      rw [e1, e2] at hb
      cases hb
    · exact at_gx ⟨_, _, rfl⟩
  · rintro ρ' ⟨c1, c2, rfl⟩
    exact at_end k
theorem fm_pairs (b : Int) : ∀ ps : List (Int × Int), (ps.filterMap fun p => if p.1 = b then some (D.int p.2) else none) = dI ((ps.filter fun p => decide (p.1 = b)).map fun p => p.2)
  | [] => rfl
  | p :: ps => by
    rw [List.filterMap_cons, List.filter_cons, fm_pairs b ps]
    by_cases h : p.1 = b
    · rw [if_pos h, if_pos (decide_eq_true h)]; rfl
    · rw [if_neg h, if_neg (by rw [decide_eq_false h]; simp)]
theorem p_summed_hoist : Body (t_summed_hoist K C) n_summed_hoist (sp_summed_hoist K C) := by
  rintro vs H Q E ⟨ds, d, r, ⟨ps, b, hz, rfl, rfl⟩, k⟩
  refine start_at r (n := 1) (by rw [r.length]; rfl) ?_
  unfold t_summed_hoist
  have el : EvL K C (tLc (iList K (tVar 0)) (gName 2) (tB (xEq K (xIdx K (tVar 2) (tC (.int 0))) (tVar 1))) (xIdx K (tVar 2) (tC (.int 1))) [2]) (List.map Cell.dat [dRope .x ps, .int b] ++ uns 1) (dI ((ps.filter fun p => decide (p.1 = b)).map fun p => p.2)) := by
    refine EvL.to (el_lc (as := ps) (f := dP) (g := fun p => if p.1 = b then some (.int p.2) else none) (m := .x) (by walk_at "evD") (by omega) (by simp [uns]) fun p hp => ?_) (fm_pairs b ps)
    have e : (List.map Cell.dat [dRope .x ps, .int b] ++ uns 1).set 2 (.dat (dP p)) = [.dat (dRope .x ps), .dat (.int b), .dat (dP p)] := rfl
    rw [e]
    by_cases h : p.1 = b
    · rw [if_pos h]
      exact ⟨EvB.to (by walk_at "evB") (decide_eq_true h), by walk_at "evD"⟩
    · rw [if_neg h]
      exact EvB.to (by walk_at "evB") (decide_eq_false h)
  exact at_ret (ed_sum el.s) k
end
end Hw
namespace Hw
open PySem L2
local macro_rules | `(tactic| walk_at "sd") => `(tactic| first
  | exact rfl
  | decide +kernel
  | (exact Nat.le_of_ble_eq_true rfl)
  | assumption
  | (exact Sz.mono (by assumption) (by decide))
  | decide
  | omega
  | (exact eraAll_map _ _ (fun _ => rfl) _)
  | (exact frAll_map _ (fun _ => rfl) _)
  | exact EqD.frac
  | exact EqD.int
  | exact EqD.bl
  | exact EqD.pair
  | skip)
local macro_rules | `(tactic| walk_at "R") => `(tactic| first
  | (with_reducible apply rc_common) <;> walk_at "sd"
  | (with_reducible apply rc_fraction) <;> walk_at "sd"
  | (with_reducible apply rc_plus) <;> walk_at "sd"
  | (with_reducible apply rc_minus) <;> walk_at "sd"
  | (with_reducible apply rc_times) <;> walk_at "sd"
  | (with_reducible apply rc_over) <;> walk_at "sd"
  | (with_reducible apply rc_less) <;> walk_at "sd"
  | (with_reducible apply rc_cell) <;> walk_at "sd"
  | (with_reducible apply rc_whole) <;> walk_at "sd"
  | (with_reducible apply rc_low) <;> walk_at "sd"
  | (with_reducible apply rc_part) <;> walk_at "sd"
  | (with_reducible apply rc_lfraction) <;> walk_at "sd")
local macro_rules | `(tactic| walk_at "evD") => `(tactic| first
  | with_reducible exact ed_int
  | with_reducible exact ed_bl
  | with_reducible exact ed_non
  | with_reducible exact ed_str
  | (with_reducible apply ed_var) <;> walk_at "go"
  | (with_reducible apply ed_add) <;> walk_at "go"
  | (with_reducible apply ed_sub) <;> walk_at "go"
  | (with_reducible apply ed_mul) <;> walk_at "go"
  | (with_reducible apply ed_div) <;> walk_at "go"
  | (with_reducible apply ed_mod) <;> walk_at "go"
  | (with_reducible apply ed_pow) <;> walk_at "go"
  | (with_reducible apply ed_neg) <;> walk_at "go"
  | (with_reducible apply ed_lt) <;> walk_at "go"
  | (with_reducible apply ed_le) <;> walk_at "go"
  | (with_reducible apply ed_gt) <;> walk_at "go"
  | (with_reducible apply ed_ge) <;> walk_at "go"
  | (with_reducible apply ed_leLt) <;> walk_at "go"
  | (with_reducible apply ed_leLe) <;> walk_at "go"
  | (with_reducible apply ed_ltLt) <;> walk_at "go"
  | (with_reducible apply ed_eq) <;> walk_at "go"
  | (with_reducible apply ed_ne) <;> walk_at "go"
  | (with_reducible apply ed_idxT) <;> walk_at "go"
  | (with_reducible apply ed_idxS) <;> walk_at "go"
  | (with_reducible apply ed_idxScr) <;> walk_at "go"
  | (with_reducible apply ed_lenS) <;> walk_at "go"
  | (with_reducible apply ed_lenT) <;> walk_at "go"
  | (with_reducible apply ed_lenScr) <;> walk_at "go"
  | (with_reducible apply ed_abs) <;> walk_at "go"
  | (with_reducible apply ed_intI) <;> walk_at "go"
  | (with_reducible apply ed_intB) <;> walk_at "go"
  | (with_reducible apply ed_intS) <;> walk_at "go"
  | (with_reducible apply ed_andV) <;> walk_at "go"
  | (with_reducible apply ed_orV) <;> walk_at "go"
  | (with_reducible apply ed_notV) <;> walk_at "go"
  | (with_reducible apply ed_tup) <;> walk_at "go"
  | (with_reducible apply ev_call) <;> walk_at "go"
  | (with_reducible apply ed_isi) <;> walk_at "go"
  | (with_reducible apply ed_catS) <;> walk_at "go"
  | (with_reducible apply ed_repS) <;> walk_at "go"
  | (with_reducible apply EvL.dat) <;> walk_at "go")
local macro_rules | `(tactic| walk_at "evR") => `(tactic| first
  | (with_reducible apply EvD.r) <;> walk_at "go"
  | (with_reducible apply EvS.r) <;> walk_at "go")
local macro_rules | `(tactic| walk_at "evS") => `(tactic| first
  | (with_reducible apply es_own) <;> walk_at "go"
  | (with_reducible apply EvD.s) <;> walk_at "go"
  | (with_reducible apply EvL.s) <;> walk_at "go")
local macro_rules | `(tactic| walk_at "evL") => `(tactic| first
  | (with_reducible apply el_lst) <;> walk_at "go"
  | (with_reducible apply ev_callL) <;> walk_at "go")
local macro_rules | `(tactic| walk_at "evA") => `(tactic| first
  | with_reducible exact ea_nil
  | (with_reducible apply ea_cons) <;> walk_at "go")
local macro_rules | `(tactic| walk_at "evQ") => `(tactic| first
  | with_reducible exact eq_nil
  | (with_reducible apply eq_cons) <;> walk_at "go")
local macro_rules | `(tactic| walk_at "evB") => `(tactic| first
  | (with_reducible apply eb_and) <;> walk_at "go"
  | (with_reducible apply eb_or) <;> walk_at "go"
  | (with_reducible apply eb_not) <;> walk_at "go"
  | (with_reducible apply eb_val) <;> walk_at "go")
local macro_rules | `(tactic| walk_at "era") => `(tactic| first
  | ((simp only [eraAll, D.era, era_dF, era_dP, era_dFs, era_dI, era_dS, era_dPs, era_dRows, era_dRopes]); done)
  | ((simp only [eraAll, D.era, era_dF, era_dP, era_dFs, era_dI, era_dS, era_dPs, era_dRows, era_dRopes]); exact rfl))
local macro_rules | `(tactic| walk_at "frs") => `(tactic| first
  | exact rfl
  | exact fr_dFs _
  | exact fr_dI _
  | exact fr_dS _
  | exact fr_dPs _
  | exact fr_dRows _
  | exact fr_dRopes _
  | (simp only [frAll, D.fr, fr_dFs, fr_dI, fr_dS, fr_dPs, fr_dRows, fr_dRopes, decide_true, Bool.and_true, Bool.true_and]; done))
local macro_rules | `(tactic| walk_at "go") => `(tactic| first
  | ((with_reducible show eraAll _ = _); walk_at "era")
  | ((with_reducible show D.fr _ = true); walk_at "frs")
  | ((with_reducible show frAll _ = true); walk_at "frs")
  | ((with_reducible show _ = some (Cell.dat _)); exact rfl)
  | ((with_reducible show _ = some (Cell.own _)); exact rfl)
  | ((with_reducible show D.tn _ = some _); exact rfl)
  | ((with_reducible show atI _ _ = some _); first | exact rfl | assumption)
  | ((with_reducible show EvD _ _ _ _ _); walk_at "evD")
  | ((with_reducible show EvR _ _ _ _ _); walk_at "evR")
  | ((with_reducible show EvS _ _ _ _ _); walk_at "evS")
  | ((with_reducible show EvL _ _ _ _ _); walk_at "evL")
  | ((with_reducible show EvA _ _ _ _ _); walk_at "evA")
  | ((with_reducible show EvAD _ _ _ _ _); walk_at "evQ")
  | ((with_reducible show EvB _ _ _ _ _); walk_at "evB")
  | ((with_reducible show _ = _ → _); intro hv; walk_at "go")
  | ((fail_if_success (with_reducible show EvD _ _ _ _ _)); (fail_if_success (with_reducible show EvR _ _ _ _ _)); (fail_if_success (with_reducible show EvS _ _ _ _ _)); (fail_if_success (with_reducible show EvL _ _ _ _ _)); (fail_if_success (with_reducible show EvA _ _ _ _ _)); (fail_if_success (with_reducible show EvAD _ _ _ _ _)); (fail_if_success (with_reducible show EvB _ _ _ _ _)); (fail_if_success (with_reducible show _ = some (Cell.dat _))); (fail_if_success (with_reducible show _ = some (Cell.own _))); (fail_if_success (with_reducible show atI _ _ = some _)); (fail_if_success (with_reducible show D.tn _ = some _)); (fail_if_success (with_reducible show eraAll _ = _)); (fail_if_success (with_reducible show D.fr _ = true)); (fail_if_success (with_reducible show frAll _ = true)); first | walk_at "R" | walk_at "sd"))
local macro_rules | `(tactic| walk_at "len") => `(tactic| first
  | exact (by decide)
  | (simp; done)
  | omega)
local macro_rules | `(tactic| walk_at "st") => `(tactic| first
  | ((with_reducible show At _ _ _ _ _ _); try dsimp only [List.set])
  | ((with_reducible show _ = _ → At _ _ _ _ _ _); intro hb)
  | ((with_reducible show _ < _); walk_at "len")
  | walk_at "go")
local macro_rules | `(tactic| walk_at "asg") => `(tactic| first
  | (with_reducible apply sq_asg) <;> walk_at "st"
  | (with_reducible apply at_asg) <;> walk_at "st")
local macro_rules | `(tactic| walk_at "asgL") => `(tactic| first
  | (with_reducible apply sq_asgL) <;> walk_at "st"
  | (with_reducible apply at_asgL) <;> walk_at "st")
local macro_rules | `(tactic| walk_at "app") => `(tactic| first
  | (with_reducible apply sq_append) <;> walk_at "st"
  | (with_reducible apply at_append) <;> walk_at "st")
local macro_rules | `(tactic| walk_at "ret") => `(tactic| first
  | (with_reducible apply at_ret) <;> walk_at "st")
local macro_rules | `(tactic| walk_at "when") => `(tactic| first
  | (with_reducible apply sq_when) <;> walk_at "st"
  | (with_reducible apply at_when) <;> walk_at "st")
local macro_rules | `(tactic| walk_at "if") => `(tactic| first
  | (with_reducible apply sq_if) <;> walk_at "st"
  | (with_reducible apply at_if) <;> walk_at "st")
local macro_rules | `(tactic| walk_at "fd") => `(tactic| first
  | exact rfl
  | assumption)
local macro_rules | `(tactic| walk_at "R") => `(tactic| first
  | (with_reducible apply rc_see_pairs) <;> walk_at "sd"
  | (with_reducible apply rc_hsum) <;> walk_at "sd"
  | (with_reducible apply rc_table) <;> walk_at "sd"
  | (with_reducible apply rc_lropes) <;> walk_at "sd"
  | (with_reducible apply rc_summedp) <;> walk_at "sd"
  | (with_reducible apply rc_lifted) <;> walk_at "sd"
  | (with_reducible apply rc_holds) <;> walk_at "sd"
  | (with_reducible apply rc_spare) <;> walk_at "sd"
  | (with_reducible apply rc_gain) <;> walk_at "sd"
  | (with_reducible apply rc_is_let) <;> walk_at "sd"
  | (with_reducible apply rc_lsum) <;> walk_at "sd"
  | (with_reducible apply rc_lspare) <;> walk_at "sd"
  | (with_reducible apply rc_held) <;> walk_at "sd"
  | (with_reducible apply rc_parts) <;> walk_at "sd"
  | (with_reducible apply rc_drawn) <;> walk_at "sd"
  | (with_reducible apply rc_lrow) <;> walk_at "sd"
  | (with_reducible apply rc_lplus) <;> walk_at "sd"
  | (with_reducible apply rc_times_int) <;> walk_at "sd"
  | (with_reducible apply rc_int_times) <;> walk_at "sd"
  | (with_reducible apply rc_less0) <;> walk_at "sd"
  | (with_reducible apply rc_init) <;> walk_at "sd")
local macro_rules | `(tactic| walk_at "evD") => `(tactic| first
  | (with_reducible apply ed_sum) <;> walk_at "go"
  | (with_reducible apply ed_min) <;> walk_at "go"
  | (with_reducible apply ed_max) <;> walk_at "go"
  | (with_reducible apply ed_heavy) <;> walk_at "go"
  | (with_reducible apply ed_table) <;> walk_at "go"
  | (with_reducible apply ed_make) <;> walk_at "go"
  | (with_reducible apply ed_meth) <;> walk_at "go"
  | (with_reducible apply ed_fldA) <;> walk_at "fd")
local macro_rules | `(tactic| walk_at "evL") => `(tactic| first
  | (with_reducible apply el_list) <;> walk_at "go"
  | (with_reducible apply el_cat) <;> walk_at "go"
  | (with_reducible apply el_rep) <;> walk_at "go"
  | (with_reducible apply el_slice) <;> walk_at "go"
  | (with_reducible apply el_meth) <;> walk_at "go")
local macro_rules | `(tactic| walk_at "evS") => `(tactic| first
  | (with_reducible apply es_fldA) <;> walk_at "fd")
local macro_rules | `(tactic| walk_at "evO") => `(tactic| first
  | with_reducible exact eo_none
  | (with_reducible apply eo_some) <;> walk_at "go")
local macro_rules | `(tactic| walk_at "go") => `(tactic| first
  | ((with_reducible show EvO _ _ _ _ _); walk_at "evO"))
local macro_rules | `(tactic| walk_at "fld") => `(tactic| first
  | (with_reducible apply sq_fld) <;> walk_at "st"
  | (with_reducible apply at_fld) <;> walk_at "st")
local macro_rules | `(tactic| walk_at "fldL") => `(tactic| first
  | (with_reducible apply sq_fldL) <;> walk_at "st"
  | (with_reducible apply at_fldL) <;> walk_at "st")
local macro_rules | `(tactic| walk_at "drop") => `(tactic| first
  | (with_reducible apply sq_drop) <;> walk_at "st"
  | (with_reducible apply at_drop) <;> walk_at "st")
section
variable {K : PySem.W.Frag} {C : Addr}
theorem EvA.to {ta : TA} {ρ : List Cell} {xs ys : List D} (h : EvA K C ta ρ xs) (e : xs = ys) : EvA K C ta ρ ys := e ▸ h
theorem putFld_ht (f g : Fld) : putFld "table" f (putFld "heavy" g []) = [(("heavy" : Str), g), (("table" : Str), f)] := by
  show (if ("heavy" : Str) = "table" then [(("heavy" : Str), f)] else (("heavy" : Str), g) :: putFld "table" f []) = _
  rw [if_neg ht_ne]; rfl
theorem look_ht (f g : Fld) : List.lookup ("table" : Str) [(("heavy" : Str), g), ("table", f)] = some f := by
  have h1 : (("table" : Str) == "heavy") = false := by decide +kernel
  simp only [List.lookup, h1, beq_self_eq_true]
theorem p_Hoist_init (T : HoT K C) : Body (t_Hoist_init K C) n_Hoist_init (sp_Hoist_init K C) := by
  rintro vs H Q E ⟨x, dx, vs', ds, ws, tb, rfl, hx, r, ⟨rs, hv, rfl, rfl⟩, k⟩
  refine startMk (n := 4) hx r (by simp [r.length]) ?_
  have cl := T.cl
  have nH := T.nH
  have nT := T.nT
  have w1 := hv.w1
  have w4 := hv.w4
  have r5 := hv.r5
  unfold t_Hoist_init
  walk_at "when"
  · rename_i hb
    simp at hb
    omega
  refine sq_forL (xs := dI ws) (m := .x) (by walk_at "evD") (fun i ρ' => ∃ c, ρ' = [.ob x C [], .dat (.lst .x (dI ws)), .dat (.lst .x (dRopes .x rs)), c, .un, .un, .un]) ⟨_, rfl⟩ (by rintro i ρ' ⟨c, rfl⟩; simp) ?_ ?_
  · rintro H1 i y ρ' hy ⟨c, rfl⟩
    obtain ⟨w, hw, rfl⟩ := map_some hy
    have := hv.wv w (mem_of_some hw)
    dsimp only [List.set]
    walk_at "when"
    · rename_i hb
      simp at hb
      omega
    · exact at_gx ⟨_, rfl⟩
  rintro ρ' ⟨c3, rfl⟩
  refine sq_forL (xs := dRopes .x rs) (m := .x) (by walk_at "evD") (fun i ρ' => ∃ c, ρ' = [.ob x C [], .dat (.lst .x (dI ws)), .dat (.lst .x (dRopes .x rs)), c3, c, .un, .un]) ⟨_, rfl⟩ (by rintro i ρ' ⟨c, rfl⟩; simp) ?_ ?_
  · rintro H1 i y ρ' hy ⟨c, rfl⟩
    obtain ⟨p, hp, rfl⟩ := map_some hy
    have hk := hv.ps p (mem_of_some hp)
    have hk2 : PairsOk ((dI ws).length : Int) p := by simpa using hk
    dsimp only [List.set]
    walk_at "drop"
    exact at_gx ⟨_, rfl⟩
  rintro ρ' ⟨c4, rfl⟩
  have e1 : EvL K C (x_list K (tVar 1)) [.ob x C [], .dat (.lst .x (dI ws)), .dat (.lst .x (dRopes .x rs)), c3, c4, .un, .un] (dI ws) := by walk_at "evL"
  refine sq_fld cl nH rfl (by simp) e1.dat ?_
  dsimp only [List.set]
  have e2 : EvL K C (tLc (iList K (tVar 2)) (gName 4) tYes (tLc (iRng1 (tCons (xLen K (tVar 1)) tNil)) (gName 5) tYes (tCall (sp_summed_hoist K C) [] E0 (tCons (tVar 4) (tCons (tVar 5) tNil))) [5]) [4])
      [.ob x C (putFld "heavy" (.dat (.lst .f (dI ws))) []), .dat (.lst .x (dI ws)), .dat (.lst .x (dRopes .x rs)), c3, c4, .un, .un] (dRows .f (tbOf ws.length rs)) := by
    refine EvL.to (el_lcMap (as := rs) (f := dRope .x) (g := fun p => .lst .f (dI ((List.range ws.length).map fun (b : Nat) => sumAt p b))) (m := .x) (by walk_at "evD") (by omega) (by simp) fun p hp => ?_) ?_
    · have hl := (hv.ps p hp).len
      have h1000 : p.length ≤ 1000 := by omega
      dsimp only [List.set]
      refine EvL.dat (EvL.to (el_lcRMap (n := ws.length) (g := fun (b : Nat) => .int (sumAt p b)) (EvA.to (by walk_at "evA") (by simp)) (by omega) (by simp) fun b hb => ?_) ?_)
      · dsimp only [List.set]
        walk_at "evD"
      · simp [dI]
    · simp [dRows, tbOf]
  refine sq_fld cl nT rfl (by simp [putFld]) e2.dat ?_
  dsimp only [List.set]
  rw [putFld_ht]
  refine at_forL (xs := dRows .f (tbOf ws.length rs)) (m := .f) (ed_fld cl nT rfl (look_ht _ _)) (fun i ρ' => ∃ c, ρ' = [.ob x C [("heavy", .dat (.lst .f (dI ws))), ("table", .dat (.lst .f (dRows .f (tbOf ws.length rs))))], .dat (.lst .x (dI ws)), .dat (.lst .x (dRopes .x rs)), c3, c4, .un, c]) ⟨_, rfl⟩ (by rintro i ρ' ⟨c, rfl⟩; simp) ?_ ?_
  · rintro H1 i y ρ' hy ⟨c, rfl⟩
    obtain ⟨row, hr, rfl⟩ := map_some hy
    have hm := mem_of_some hr
    have hst := hv.st row hm
    have hne : row ≠ [] := by
      obtain ⟨p, _, rfl⟩ := List.mem_map.mp hm
      intro z
      have q : ws.length = 0 := by simpa using congrArg List.length z
      omega
    obtain ⟨lo, hlo⟩ := exMin hne
    obtain ⟨hi, hhi⟩ := exMax hne
    have h1 := hst lo hlo.mem
    have h2 := hst hi hhi.mem
    dsimp only [List.set]
    walk_at "when"
    · rename_i hb
      simp at hb
      rcases hb with hb | hb
      · exact absurd hb (Int.not_lt.mpr h1.1)
      · exact absurd hb (Int.not_lt.mpr h2.2)
    · exact at_gx ⟨_, rfl⟩
  · rintro ρ' ⟨c, rfl⟩
    exact at_endMk hx rfl k
end
end Hw
namespace Hw
open PySem L2
local macro_rules | `(tactic| walk_at "sd") => `(tactic| first
  | exact rfl
  | decide +kernel
  | (exact Nat.le_of_ble_eq_true rfl)
  | assumption
  | (exact Sz.mono (by assumption) (by decide))
  | decide
  | omega
  | (exact eraAll_map _ _ (fun _ => rfl) _)
  | (exact frAll_map _ (fun _ => rfl) _)
  | exact EqD.frac
  | exact EqD.int
  | exact EqD.bl
  | exact EqD.pair
  | skip)
local macro_rules | `(tactic| walk_at "R") => `(tactic| first
  | (with_reducible apply rc_common) <;> walk_at "sd"
  | (with_reducible apply rc_fraction) <;> walk_at "sd"
  | (with_reducible apply rc_plus) <;> walk_at "sd"
  | (with_reducible apply rc_minus) <;> walk_at "sd"
  | (with_reducible apply rc_times) <;> walk_at "sd"
  | (with_reducible apply rc_over) <;> walk_at "sd"
  | (with_reducible apply rc_less) <;> walk_at "sd"
  | (with_reducible apply rc_cell) <;> walk_at "sd"
  | (with_reducible apply rc_whole) <;> walk_at "sd"
  | (with_reducible apply rc_low) <;> walk_at "sd"
  | (with_reducible apply rc_part) <;> walk_at "sd"
  | (with_reducible apply rc_lfraction) <;> walk_at "sd")
local macro_rules | `(tactic| walk_at "evD") => `(tactic| first
  | with_reducible exact ed_int
  | with_reducible exact ed_bl
  | with_reducible exact ed_non
  | with_reducible exact ed_str
  | (with_reducible apply ed_var) <;> walk_at "go"
  | (with_reducible apply ed_add) <;> walk_at "go"
  | (with_reducible apply ed_sub) <;> walk_at "go"
  | (with_reducible apply ed_mul) <;> walk_at "go"
  | (with_reducible apply ed_div) <;> walk_at "go"
  | (with_reducible apply ed_mod) <;> walk_at "go"
  | (with_reducible apply ed_pow) <;> walk_at "go"
  | (with_reducible apply ed_neg) <;> walk_at "go"
  | (with_reducible apply ed_lt) <;> walk_at "go"
  | (with_reducible apply ed_le) <;> walk_at "go"
  | (with_reducible apply ed_gt) <;> walk_at "go"
  | (with_reducible apply ed_ge) <;> walk_at "go"
  | (with_reducible apply ed_leLt) <;> walk_at "go"
  | (with_reducible apply ed_leLe) <;> walk_at "go"
  | (with_reducible apply ed_ltLt) <;> walk_at "go"
  | (with_reducible apply ed_eq) <;> walk_at "go"
  | (with_reducible apply ed_ne) <;> walk_at "go"
  | (with_reducible apply ed_idxT) <;> walk_at "go"
  | (with_reducible apply ed_idxS) <;> walk_at "go"
  | (with_reducible apply ed_idxScr) <;> walk_at "go"
  | (with_reducible apply ed_lenS) <;> walk_at "go"
  | (with_reducible apply ed_lenT) <;> walk_at "go"
  | (with_reducible apply ed_lenScr) <;> walk_at "go"
  | (with_reducible apply ed_abs) <;> walk_at "go"
  | (with_reducible apply ed_intI) <;> walk_at "go"
  | (with_reducible apply ed_intB) <;> walk_at "go"
  | (with_reducible apply ed_intS) <;> walk_at "go"
  | (with_reducible apply ed_andV) <;> walk_at "go"
  | (with_reducible apply ed_orV) <;> walk_at "go"
  | (with_reducible apply ed_notV) <;> walk_at "go"
  | (with_reducible apply ed_tup) <;> walk_at "go"
  | (with_reducible apply ev_call) <;> walk_at "go"
  | (with_reducible apply ed_isi) <;> walk_at "go"
  | (with_reducible apply ed_catS) <;> walk_at "go"
  | (with_reducible apply ed_repS) <;> walk_at "go"
  | (with_reducible apply EvL.dat) <;> walk_at "go")
local macro_rules | `(tactic| walk_at "evR") => `(tactic| first
  | (with_reducible apply EvD.r) <;> walk_at "go"
  | (with_reducible apply EvS.r) <;> walk_at "go")
local macro_rules | `(tactic| walk_at "evS") => `(tactic| first
  | (with_reducible apply es_own) <;> walk_at "go"
  | (with_reducible apply EvD.s) <;> walk_at "go"
  | (with_reducible apply EvL.s) <;> walk_at "go")
local macro_rules | `(tactic| walk_at "evL") => `(tactic| first
  | (with_reducible apply el_lst) <;> walk_at "go"
  | (with_reducible apply ev_callL) <;> walk_at "go")
local macro_rules | `(tactic| walk_at "evA") => `(tactic| first
  | with_reducible exact ea_nil
  | (with_reducible apply ea_cons) <;> walk_at "go")
local macro_rules | `(tactic| walk_at "evQ") => `(tactic| first
  | with_reducible exact eq_nil
  | (with_reducible apply eq_cons) <;> walk_at "go")
local macro_rules | `(tactic| walk_at "evB") => `(tactic| first
  | (with_reducible apply eb_and) <;> walk_at "go"
  | (with_reducible apply eb_or) <;> walk_at "go"
  | (with_reducible apply eb_not) <;> walk_at "go"
  | (with_reducible apply eb_val) <;> walk_at "go")
local macro_rules | `(tactic| walk_at "era") => `(tactic| first
  | ((simp only [eraAll, D.era, era_dF, era_dP, era_dFs, era_dI, era_dS, era_dPs, era_dRows, era_dRopes]); done)
  | ((simp only [eraAll, D.era, era_dF, era_dP, era_dFs, era_dI, era_dS, era_dPs, era_dRows, era_dRopes]); exact rfl))
local macro_rules | `(tactic| walk_at "frs") => `(tactic| first
  | exact rfl
  | exact fr_dFs _
  | exact fr_dI _
  | exact fr_dS _
  | exact fr_dPs _
  | exact fr_dRows _
  | exact fr_dRopes _
  | (simp only [frAll, D.fr, fr_dFs, fr_dI, fr_dS, fr_dPs, fr_dRows, fr_dRopes, decide_true, Bool.and_true, Bool.true_and]; done))
local macro_rules | `(tactic| walk_at "go") => `(tactic| first
  | ((with_reducible show eraAll _ = _); walk_at "era")
  | ((with_reducible show D.fr _ = true); walk_at "frs")
  | ((with_reducible show frAll _ = true); walk_at "frs")
  | ((with_reducible show _ = some (Cell.dat _)); exact rfl)
  | ((with_reducible show _ = some (Cell.own _)); exact rfl)
  | ((with_reducible show D.tn _ = some _); exact rfl)
  | ((with_reducible show atI _ _ = some _); first | exact rfl | assumption)
  | ((with_reducible show EvD _ _ _ _ _); walk_at "evD")
  | ((with_reducible show EvR _ _ _ _ _); walk_at "evR")
  | ((with_reducible show EvS _ _ _ _ _); walk_at "evS")
  | ((with_reducible show EvL _ _ _ _ _); walk_at "evL")
  | ((with_reducible show EvA _ _ _ _ _); walk_at "evA")
  | ((with_reducible show EvAD _ _ _ _ _); walk_at "evQ")
  | ((with_reducible show EvB _ _ _ _ _); walk_at "evB")
  | ((with_reducible show _ = _ → _); intro hv; walk_at "go")
  | ((fail_if_success (with_reducible show EvD _ _ _ _ _)); (fail_if_success (with_reducible show EvR _ _ _ _ _)); (fail_if_success (with_reducible show EvS _ _ _ _ _)); (fail_if_success (with_reducible show EvL _ _ _ _ _)); (fail_if_success (with_reducible show EvA _ _ _ _ _)); (fail_if_success (with_reducible show EvAD _ _ _ _ _)); (fail_if_success (with_reducible show EvB _ _ _ _ _)); (fail_if_success (with_reducible show _ = some (Cell.dat _))); (fail_if_success (with_reducible show _ = some (Cell.own _))); (fail_if_success (with_reducible show atI _ _ = some _)); (fail_if_success (with_reducible show D.tn _ = some _)); (fail_if_success (with_reducible show eraAll _ = _)); (fail_if_success (with_reducible show D.fr _ = true)); (fail_if_success (with_reducible show frAll _ = true)); first | walk_at "R" | walk_at "sd"))
local macro_rules | `(tactic| walk_at "len") => `(tactic| first
  | exact (by decide)
  | (simp; done)
  | omega)
local macro_rules | `(tactic| walk_at "st") => `(tactic| first
  | ((with_reducible show At _ _ _ _ _ _); try dsimp only [List.set])
  | ((with_reducible show _ = _ → At _ _ _ _ _ _); intro hb)
  | ((with_reducible show _ < _); walk_at "len")
  | walk_at "go")
local macro_rules | `(tactic| walk_at "asg") => `(tactic| first
  | (with_reducible apply sq_asg) <;> walk_at "st"
  | (with_reducible apply at_asg) <;> walk_at "st")
local macro_rules | `(tactic| walk_at "asgL") => `(tactic| first
  | (with_reducible apply sq_asgL) <;> walk_at "st"
  | (with_reducible apply at_asgL) <;> walk_at "st")
local macro_rules | `(tactic| walk_at "app") => `(tactic| first
  | (with_reducible apply sq_append) <;> walk_at "st"
  | (with_reducible apply at_append) <;> walk_at "st")
local macro_rules | `(tactic| walk_at "ret") => `(tactic| first
  | (with_reducible apply at_ret) <;> walk_at "st")
local macro_rules | `(tactic| walk_at "when") => `(tactic| first
  | (with_reducible apply sq_when) <;> walk_at "st"
  | (with_reducible apply at_when) <;> walk_at "st")
local macro_rules | `(tactic| walk_at "if") => `(tactic| first
  | (with_reducible apply sq_if) <;> walk_at "st"
  | (with_reducible apply at_if) <;> walk_at "st")
local macro_rules | `(tactic| walk_at "fd") => `(tactic| first
  | exact rfl
  | assumption)
local macro_rules | `(tactic| walk_at "R") => `(tactic| first
  | (with_reducible apply rc_see_pairs) <;> walk_at "sd"
  | (with_reducible apply rc_hsum) <;> walk_at "sd"
  | (with_reducible apply rc_table) <;> walk_at "sd"
  | (with_reducible apply rc_lropes) <;> walk_at "sd"
  | (with_reducible apply rc_summedp) <;> walk_at "sd"
  | (with_reducible apply rc_lifted) <;> walk_at "sd"
  | (with_reducible apply rc_holds) <;> walk_at "sd"
  | (with_reducible apply rc_spare) <;> walk_at "sd"
  | (with_reducible apply rc_gain) <;> walk_at "sd"
  | (with_reducible apply rc_is_let) <;> walk_at "sd"
  | (with_reducible apply rc_lsum) <;> walk_at "sd"
  | (with_reducible apply rc_lspare) <;> walk_at "sd"
  | (with_reducible apply rc_held) <;> walk_at "sd"
  | (with_reducible apply rc_parts) <;> walk_at "sd"
  | (with_reducible apply rc_drawn) <;> walk_at "sd"
  | (with_reducible apply rc_lrow) <;> walk_at "sd"
  | (with_reducible apply rc_lplus) <;> walk_at "sd"
  | (with_reducible apply rc_times_int) <;> walk_at "sd"
  | (with_reducible apply rc_int_times) <;> walk_at "sd"
  | (with_reducible apply rc_less0) <;> walk_at "sd"
  | (with_reducible apply rc_init) <;> walk_at "sd")
local macro_rules | `(tactic| walk_at "evD") => `(tactic| first
  | (with_reducible apply ed_sum) <;> walk_at "go"
  | (with_reducible apply ed_min) <;> walk_at "go"
  | (with_reducible apply ed_max) <;> walk_at "go"
  | (with_reducible apply ed_heavy) <;> walk_at "go"
  | (with_reducible apply ed_table) <;> walk_at "go"
  | (with_reducible apply ed_make) <;> walk_at "go"
  | (with_reducible apply ed_meth) <;> walk_at "go"
  | (with_reducible apply ed_fldA) <;> walk_at "fd")
local macro_rules | `(tactic| walk_at "evL") => `(tactic| first
  | (with_reducible apply el_list) <;> walk_at "go"
  | (with_reducible apply el_cat) <;> walk_at "go"
  | (with_reducible apply el_rep) <;> walk_at "go"
  | (with_reducible apply el_slice) <;> walk_at "go"
  | (with_reducible apply el_meth) <;> walk_at "go")
local macro_rules | `(tactic| walk_at "evS") => `(tactic| first
  | (with_reducible apply es_fldA) <;> walk_at "fd")
local macro_rules | `(tactic| walk_at "evO") => `(tactic| first
  | with_reducible exact eo_none
  | (with_reducible apply eo_some) <;> walk_at "go")
local macro_rules | `(tactic| walk_at "go") => `(tactic| first
  | ((with_reducible show EvO _ _ _ _ _); walk_at "evO"))
local macro_rules | `(tactic| walk_at "fld") => `(tactic| first
  | (with_reducible apply sq_fld) <;> walk_at "st"
  | (with_reducible apply at_fld) <;> walk_at "st")
local macro_rules | `(tactic| walk_at "fldL") => `(tactic| first
  | (with_reducible apply sq_fldL) <;> walk_at "st"
  | (with_reducible apply at_fldL) <;> walk_at "st")
local macro_rules | `(tactic| walk_at "drop") => `(tactic| first
  | (with_reducible apply sq_drop) <;> walk_at "st"
  | (with_reducible apply at_drop) <;> walk_at "st")
section
variable {K : PySem.W.Frag} {C : Addr}
theorem rowOf_succ (c : Int) (j : Nat) : dI (rowOf c (j + 1)) = dI (rowOf c j) ++ [.int (menu.getD ((c / 16 ^ j) % 16).toNat 0)] := by
  unfold rowOf dI
  rw [range_map_succ, List.map_append]; rfl
theorem pow16 (c : Int) (j : Nat) : c / 16 ^ j / 16 = c / 16 ^ (j + 1) := by
  rw [Int.ediv_ediv_of_nonneg (by exact Int.pow_nonneg (by decide)), Int.pow_succ]
theorem dRows_succ (ns : List Int) (f i b : Nat) : dRows .f (tableOf ns f (i + 1) b) = dRows .f (tableOf ns f i b) ++ [.lst .f (dI (rowOf (ns.getD (f + i) 0) b))] := by
  unfold tableOf dRows
  rw [range_map_succ, List.map_append]; rfl
theorem p_law_table : Body (t_law_table K C) n_law_table (sp_law_table K C) := by
  rintro vs H Q E ⟨ds, xs, r, ⟨ns, first, ropes, bodies, h1, h2, rfl, rfl⟩, k⟩
  refine start_at r (n := 5) (by rw [r.length]; rfl) ?_
  unfold t_law_table
  walk_at "asgL"
  refine sq_forR (n := ropes) (by walk_at "evA") (by omega) (fun i ρ' => ∃ c5 c6 c7 c8, ρ' = [.dat (.scr ns), .dat (.int first), .dat (.int ropes), .dat (.int bodies), .own (dRows .f (tableOf ns first i bodies)), c5, c6, c7, c8]) ⟨_, _, _, _, rfl⟩ (by rintro i ρ' ⟨_, _, _, _, rfl⟩; simp) ?_ ?_
  · rintro i ρ' hi ⟨c5, c6, c7, c8, rfl⟩
    dsimp only [List.set]
    have e1 : (first : Int) + (i : Int) = ((first + i : Nat) : Int) := by simp
    walk_at "asg"
    walk_at "asgL"
    generalize hc : ns.getD (first + i) 0 = c
    refine sq_forR (n := bodies) (by walk_at "evA") (by omega) (fun j ρ' => ∃ c8, ρ' = [.dat (.scr ns), .dat (.int first), .dat (.int ropes), .dat (.int bodies), .own (dRows .f (tableOf ns first i bodies)), .dat (.int i), .dat (.int (c / 16 ^ j)), .own (dI (rowOf c j)), c8]) ⟨c8, by simp [rowOf]⟩ (by rintro i ρ' ⟨_, rfl⟩; simp) ?_ ?_
    · rintro j ρ' hj ⟨c8, rfl⟩
      dsimp only [List.set]
      have a1 : atI [D.int 0, .int 2, .int 1, .int 2, .int 0, .int (-1), .int 1, .int 4, .int (-2), .int 6, .int 0, .int 9, .int 1, .int (-5), .int 2, .int (-9)] (c / 16 ^ j % 16) = some (.int (menu.getD ((c / 16 ^ j) % 16).toNat 0)) := atI_ints (l := menu) 0 (by omega) (by show c / 16 ^ j % 16 < 16; omega)
      have a2 : CDivW (c / 16 ^ j) 16 := ⟨by decide, by decide +kernel⟩
      have a3 : (rowOf c j).length < 100000 := by simp [rowOf]; omega
      have a4 : (dI (rowOf c j)).length < 100000 := by simp; exact a3
      refine sq_append rfl (by walk_at "evD") a4 ?_
      dsimp only [List.set]
      walk_at "asg"
      exact at_gx ⟨_, by rw [rowOf_succ, pow16]⟩
    · rintro ρ' ⟨c8', rfl⟩
      refine At.freeze (i := 7) rfl ?_
      dsimp only [List.set]
      have a5 : (dRows .f (tableOf ns first i bodies)).length < 100000 := by simp [dRows, tableOf]; omega
      refine at_append rfl (by walk_at "evD") a5 ?_
      dsimp only [List.set]
      refine at_gx ⟨_, _, _, _, by rw [dRows_succ, hc]; rfl⟩
  · rintro ρ' ⟨c5, c6, c7, c8, rfl⟩
    exact at_retOwn (fun _ => rfl) rfl k
theorem At.of_eq {Hf H0 : Hp} {N : St → Hp → Prop} {ρ ρ' : List Cell} (e : ρ' = ρ) (h : At K C Hf H0 N ρ) : At K C Hf H0 N ρ' := e ▸ h
/-! ropes written in another way have the same strands -/
def dPs (ps : List (Int × Int)) : List D := ps.map dP
theorem pairs_succ (row : List Int) (j : Nat) : ((List.range (j + 1)).filterMap fun j => if row.getD j 0 = 0 then none else some ((j : Int), row.getD j 0)).map dP =
    ((List.range j).filterMap fun j => if row.getD j 0 = 0 then none else some ((j : Int), row.getD j 0)).map dP ++ if row.getD j 0 = 0 then [] else [.tup [.int j, .int (row.getD j 0)]] := by
  rw [range_fm_succ]
  by_cases h : row.getD j 0 = 0
  · simp only [h, if_true, List.map_append, List.map_nil]
  · simp only [h, if_false, List.map_append]; rfl
theorem pairs_len (row : List Int) (j : Nat) : ((List.range j).filterMap fun j => if row.getD j 0 = 0 then none else some ((j : Int), row.getD j 0)).length ≤ j := Nat.le_trans (List.length_filterMap_le ..) (by simp)
theorem p_law_ropes : Body (t_law_ropes K C) n_law_ropes (sp_law_ropes K C) := by
  rintro vs H Q E ⟨ds, xs, r, ⟨tb, cell, h1, h2, rfl, rfl⟩, k⟩
  refine start_at r (n := 4) (by rw [r.length]; rfl) ?_
  unfold t_law_ropes
  walk_at "asgL"
  refine sq_forL (xs := dRows .x tb) (m := .x) (by walk_at "evD") (fun i ρ' => ∃ c3 c4 c5, ρ' = [.dat (.lst .x (dRows .x tb)), .dat (.int cell), .own (dRopes .f (ropesOf (tb.take i) cell)), c3, c4, c5]) ⟨_, _, _, rfl⟩ (by rintro i ρ' ⟨_, _, _, rfl⟩; simp) ?_ ?_
  · rintro H1 i y ρ' hy ⟨c3, c4, c5, rfl⟩
    obtain ⟨row, hr, rfl⟩ := map_some hy
    have hm := h1 row (mem_of_some hr)
    dsimp only [List.set]
    walk_at "asgL"
    refine sq_forR (n := row.length) (EvA.to (by walk_at "evA") (by simp)) (by omega) (fun j ρ' => ∃ c5, ρ' = [.dat (.lst .x (dRows .x tb)), .dat (.int cell), .own (dRopes .f (ropesOf (tb.take i) cell)), .dat (.lst .x (dI row)), .own (((List.range j).filterMap fun j => if row.getD j 0 = 0 then none else some ((j : Int), row.getD j 0)).map dP), c5]) ⟨_, rfl⟩ (by rintro i ρ' ⟨_, rfl⟩; simp) ?_ ?_
    · rintro j ρ' hj ⟨c5', rfl⟩
      dsimp only [List.set]
      have a1 : atI (dI row) (j : Int) = some (.int (row.getD (j : Int).toNat 0)) := atI_ints 0 (by omega) (by omega)
      rw [Int.toNat_natCast] at a1
      walk_at "when"
      · rename_i hb
        have hb' : ¬ row.getD j 0 = 0 := by simpa using hb
        refine at_append rfl (by walk_at "evD") ?_ ?_
        · have := pairs_len row j
          simp only [List.length_map]; omega
        · dsimp only [List.set]
          exact at_gx ⟨_, by rw [pairs_succ, if_neg hb']⟩
      · rename_i hb
        have hb' : row.getD j 0 = 0 := by simpa using hb
        exact at_gx ⟨_, by rw [pairs_succ, if_pos hb', List.append_nil]⟩
    · rintro ρ' ⟨c5', rfl⟩
      rw [Int.toNat_natCast]
      change At K C H H1 _ [_, _, _, _, .own ((pairsOf row).map dP), c5']
      have pl : (pairsOf row).length ≤ row.length := pairs_len row row.length
      have fin : ∀ (ps : List (Int × Int)) (N : St → Hp → Prop) (D0 : Ends), D0.nx = Gx K C H H1 (fun ρ' => ∃ c3 c4 c5, ρ' = [.dat (.lst .x (dRows .x tb)), .dat (.int cell), .own (dRopes .f (ropesOf (tb.take (i + 1)) cell)), c3, c4, c5]) → ropeOf cell row = ps →
          At K C H H1 (tDrop (tBM K "list" rAppend (tVar 2) (tCons (tVar 4) tNil)) D0) [.dat (.lst .x (dRows .x tb)), .dat (.int cell), .own (dRopes .f (ropesOf (tb.take i) cell)), .dat (.lst .x (dI row)), .own (ps.map dP), c5'] := by
        intro ps N D0 hD hps
        refine At.freeze (i := 4) rfl ?_
        dsimp only [List.set]
        refine at_append rfl (by walk_at "evD") (by simp [ropesOf]; omega) ?_
        dsimp only [List.set]
        have e : dRopes .f (ropesOf (tb.take (i + 1)) cell) = dRopes .f (ropesOf (tb.take i) cell) ++ [D.lst .f (ps.map dP)] := by
          rw [ropesOf, take_succ_map _ hr, hps, dRopes, List.map_append]; rfl
        rw [hD, e]
        exact at_gx ⟨_, _, _, rfl⟩
      have a1 : (0 : Int) < 3 := by decide
      walk_at "when"
      · rename_i hb
        have hb' : cell % 3 = 1 := of_decide_eq_true hb
        refine at_reverse rfl ?_
        dsimp only [List.set]
        walk_at "when"
        · rename_i hb2
          have := of_decide_eq_true hb2
          omega
        · rw [← List.map_reverse]
          exact fin _ (fun _ _ => True) _ rfl (by rw [ropeOf, if_pos hb'])
      · rename_i hb
        have hb' : ¬ cell % 3 = 1 := of_decide_eq_false hb
        walk_at "when"
        · rename_i hb2
          have hb2' := of_decide_eq_true hb2
          refine at_asgL (el_cat (el_cat (EvL.s (by walk_at "evL")) (by walk_at "evS") (by simp; omega)).s (EvL.s (by walk_at "evL")) (by simp; omega)) (by simp) ?_
          dsimp only [List.set]
          refine At.of_eq ?_ (fin _ (fun _ _ => True) _ rfl (by rw [ropeOf, if_neg hb', if_pos hb2']))
          simp [dP]
        · rename_i hb2
          exact fin _ (fun _ _ => True) _ rfl (by rw [ropeOf, if_neg hb', if_neg (of_decide_eq_false hb2)])
  · rintro ρ' ⟨c5, c6, c7, rfl⟩
    refine at_retOwn (fun _ => rfl) rfl ?_
    rw [show (dRows .x tb).length = tb.length by simp [dRows], List.take_length]
    exact k
end
end Hw
namespace Hw
open PySem L2
/-! equal lists of equal things -/
structure EqK {α : Type} [DecidableEq α] (n : Nat) (f : α → D) (p : α → PyData) : Prop where
  py : ∀ a, (f a).py = some (p a)
  lay : ∀ a, (p a).canLay0 = true
  dep : ∀ a, (p a).depth ≤ n
  eq : ∀ a b, PyData.eqv (p a) (p b) = decide (a = b)
section
variable {α : Type} [DecidableEq α] {n n' : Nat} {f g : α → D} {p : α → PyData}
theorem pyAll_map (h : ∀ a, (f a).py = some (p a)) : ∀ as : List α, pyAll (as.map f) = some (as.map p)
  | [] => rfl
  | a :: as => by
    rw [List.map_cons, List.map_cons]
    unfold pyAll
    rw [h a, pyAll_map h as]
theorem EqK.lst (h : EqK n f p) (m : Mark) : EqK (n + 1) (fun as : List α => .lst m (as.map f)) (fun as => .list (as.map p)) where
  py := fun as => by
    show (pyAll (as.map f)).map PyData.list = _
    rw [pyAll_map h.py]; rfl
  lay := fun as => by
    show PyData.canLayAll0 (as.map p) = true
    induction as with
    | nil => rfl
    | cons a as ih =>
      show (PyData.canLay0 (p a) && PyData.canLayAll0 (as.map p)) = true
      rw [h.lay, ih]; rfl
  dep := fun as => by
    show PyData.depthAll (as.map p) + 1 ≤ n + 1
    refine Nat.succ_le_succ ?_
    induction as with
    | nil => exact Nat.zero_le _
    | cons a as ih => exact Nat.max_le.mpr ⟨h.dep a, ih⟩
  eq := fun as => by
    show ∀ bs, PyData.eqvAll (as.map p) (bs.map p) = decide (as = bs)
    induction as with
    | nil =>
      intro bs
      cases bs with
      | nil => rfl
      | cons b bs => rfl
    | cons a as ih =>
      intro bs
      cases bs with
      | nil => rfl
      | cons b bs =>
        show (PyData.eqv (p a) (p b) && PyData.eqvAll (as.map p) (bs.map p)) = _
        rw [h.eq, ih, ← Bool.decide_and]
        exact decide_eq_decide.mpr (by simp)
theorem EqK.eqd (h : EqK n f p) (k : EqK n' g p) (hn : n ≤ 64 := by decide) {a b : α} : EqD (f a) (g b) (decide (a = b)) :=
  ⟨⟨_, _, h.py a, k.py b, by
    unfold SeqAt.shaped
    rw [h.lay, decide_eq_true (Nat.le_trans (h.dep a) hn)]; rfl, by
    unfold SeqAt.shaped
    rw [h.lay, decide_eq_true (Nat.le_trans (h.dep b) hn)]; rfl, h.eq a b⟩⟩
end
theorem EqK.int : EqK 0 D.int PyData.int := ⟨fun _ => rfl, fun _ => rfl, fun _ => Nat.le_refl _, fun a b => by
  show (a == b) = _
  by_cases h : a = b <;> simp [h]⟩
theorem EqK.frac : EqK 1 dF (fun q => .tuple [.int q.num, .int q.den]) := ⟨fun _ => rfl, fun _ => rfl, fun _ => Nat.le_refl _, fun a b => by
  show ((a.num == b.num) && (((a.den : Int) == b.den) && true)) = _
  rw [Bool.and_true, ← Bool.beq_eq_decide_eq]
  by_cases h : a = b
  · subst h; simp
  · rw [show (a == b) = false from by simpa using h]
    rw [Bool.and_eq_false_iff]
    by_cases h1 : a.num = b.num
    · right
      have h2 : ¬ a.den = b.den := fun z => h (Rat.ext h1 z)
      simpa using fun z => h2 (Int.ofNat_inj.mp z)
    · left
      simpa using h1⟩
theorem EqD.ints {m m' : Mark} {a b : List Int} : EqD (.lst m (a.map D.int)) (.lst m' (b.map D.int)) (decide (a = b)) := (EqK.int.lst m).eqd (EqK.int.lst m')
theorem EqD.fracs {m m' : Mark} {a b : List Rat} : EqD (.lst m (a.map dF)) (.lst m' (b.map dF)) (decide (a = b)) := (EqK.frac.lst m).eqd (EqK.frac.lst m')
theorem EqD.rows {m m' m2 m2' : Mark} {a b : List (List Int)} : EqD (.lst m2 (dRows m a)) (.lst m2' (dRows m' b)) (decide (a = b)) := ((EqK.int.lst m).lst m2).eqd ((EqK.int.lst m').lst m2')
/-! loops and comprehensions over given lists -/
section
variable {K : PySem.W.Frag} {C : Addr} {Hf H0 : Hp} {ρ : List Cell} {te tl : TE} {ta : TA} {xs : List D} {D0 : Ends} {s2 body : TS} {j : Nat}
theorem el_lcN {n : Nat} {g : Nat → D} (hl : EvA K C ta ρ [.int (n : Int)]) (hz : n < 100000) (hj : j < ρ.length) (h : ∀ i, i < n → EvD K C te (ρ.set j (.dat (.int i))) (g i)) :
    EvL K C (tLc (iRng1 ta) (gName j) tYes te [j]) ρ ((List.range n).map g) := EvL.to (el_lcRMap (g := g) hl (by omega) hj fun i hi => h i (by omega)) (by simp)
theorem at_forN {n : Nat} (h : EvA K C ta ρ [.int (n : Int)]) (hn : n ≤ 1000000) (I : Nat → List Cell → Prop) (h0 : I 0 ρ) (hlen : ∀ i ρ', I i ρ' → j < ρ'.length)
    (hs : ∀ (i : Nat) (ρ' : List Cell), i < n → I i ρ' → At K C Hf H0 (body { D0 with nx := Gx K C Hf H0 (I (i + 1)), ct := Gx K C Hf H0 (I (i + 1)), bk := D0.nx }) (ρ'.set j (.dat (.int i))))
    (hd : ∀ ρ', I n ρ' → At K C Hf H0 D0.nx ρ') : At K C Hf H0 (tFor (iRng1 ta) (gName j) body D0) ρ := at_forR h (by omega) I h0 hlen (fun i ρ' hi => hs i ρ' (by omega)) (fun ρ' hI => hd ρ' (by simpa using hI))
theorem sq_forN {n : Nat} (h : EvA K C ta ρ [.int (n : Int)]) (hn : n ≤ 1000000) (I : Nat → List Cell → Prop) (h0 : I 0 ρ) (hlen : ∀ i ρ', I i ρ' → j < ρ'.length)
    (hs : ∀ (i : Nat) (ρ' : List Cell), i < n → I i ρ' → At K C Hf H0 (body { D0 with nx := Gx K C Hf H0 (I (i + 1)), ct := Gx K C Hf H0 (I (i + 1)), bk := s2 D0 }) (ρ'.set j (.dat (.int i))))
    (hd : ∀ ρ', I n ρ' → At K C Hf H0 (s2 D0) ρ') : At K C Hf H0 (tSeq (tFor (iRng1 ta) (gName j) body) s2 D0) ρ := at_seq (at_forN h hn I h0 hlen hs hd)
theorem at_forM {α : Type} {as : List α} {f : α → D} {m : Mark} (h : EvD K C tl ρ (.lst m (as.map f))) (I : Nat → List Cell → Prop) (h0 : I 0 ρ) (hlen : ∀ i ρ', I i ρ' → j < ρ'.length)
    (hs : ∀ (H1 : Hp) (i : Nat) (a : α) (ρ' : List Cell), as[i]? = some a → I i ρ' → At K C Hf H1 (body { D0 with nx := Gx K C Hf H1 (I (i + 1)), ct := Gx K C Hf H1 (I (i + 1)), bk := D0.nx }) (ρ'.set j (.dat (f a))))
    (hd : ∀ ρ', I as.length ρ' → At K C Hf H0 D0.nx ρ') : At K C Hf H0 (tFor (iList K tl) (gName j) body D0) ρ := at_forL h I h0 hlen (fun H1 i x ρ' hx hI => by
      obtain ⟨a, ha, rfl⟩ := map_some hx
      exact hs H1 i a ρ' ha hI) (fun ρ' hI => hd ρ' (by simpa using hI))
theorem sq_forM {α : Type} {as : List α} {f : α → D} {m : Mark} (h : EvD K C tl ρ (.lst m (as.map f))) (I : Nat → List Cell → Prop) (h0 : I 0 ρ) (hlen : ∀ i ρ', I i ρ' → j < ρ'.length)
    (hs : ∀ (H1 : Hp) (i : Nat) (a : α) (ρ' : List Cell), as[i]? = some a → I i ρ' → At K C Hf H1 (body { D0 with nx := Gx K C Hf H1 (I (i + 1)), ct := Gx K C Hf H1 (I (i + 1)), bk := s2 D0 }) (ρ'.set j (.dat (f a))))
    (hd : ∀ ρ', I as.length ρ' → At K C Hf H0 (s2 D0) ρ') : At K C Hf H0 (tSeq (tFor (iList K tl) (gName j) body) s2 D0) ρ := at_seq (at_forM h I h0 hlen hs hd)
theorem atI_map {α : Type} {f : α → D} {l : List α} {i : Nat} (a : α) (h1 : i < l.length) : atI (l.map f) (i : Int) = some (f (l.getD i a)) := by
  rw [atI_menu (f a) (by omega) (by simpa using h1), Int.toNat_natCast, getD_map]
theorem atI_rows {m : Mark} {l : List (List Int)} {i : Nat} (h1 : i < l.length) : atI (dRows m l) (i : Int) = some (.lst m (dI (l.getD i []))) := atI_map (f := fun r => D.lst m (dI r)) [] h1
theorem getD_mem {α : Type} {l : List α} {i : Nat} {a : α} (h : i < l.length) : l.getD i a ∈ l := by
  rw [List.getD_eq_getElem?_getD, List.getElem?_eq_getElem h]; exact List.getElem_mem h
theorem getD_some {α : Type} {l : List α} {i : Nat} {x a : α} (h : l[i]? = some x) : l.getD i a = x := by
  rw [List.getD_eq_getElem?_getD, h]; rfl
/-- a module's own tuple of ints -/
theorem ed_pair {p : Addr} {a b : Int} (h : SqT K (fun _ => none) p [.int a, .int b]) : EvD K C (tC (.ref p)) ρ (.tup [.int a, .int b]) := ed_con h fun _ _ => .cons rfl (.cons rfl .nil)
end
theorem sum_snoc (l : List Rat) (x : Rat) : (l ++ [x]).sum = l.sum + x := by
  induction l with
  | nil => simp; grind
  | cons a l ih => rw [List.cons_append, List.sum_cons, List.sum_cons, ih]; grind
theorem isum_snoc (l : List Int) (x : Int) : (l ++ [x]).sum = l.sum + x := by
  induction l with
  | nil => simp
  | cons a l ih => rw [List.cons_append, List.sum_cons, List.sum_cons, ih]; omega
theorem sz_sum {n : Nat} : ∀ {l : List Rat}, (∀ q ∈ l, Sz n q) → Sz ((n + 1) * l.length + 1) l.sum
  | [], _ => by
    show Sz _ (0 : Rat)
    exact Sz.mono (m := 1) ⟨by decide, by decide⟩ (by omega)
  | a :: l, h => by
    have h1 := h a List.mem_cons_self
    have h2 := sz_sum (l := l) fun q hq => h q (List.mem_cons_of_mem _ hq)
    rw [List.sum_cons]
    exact (h1.add h2).mono (by rw [List.length_cons, Nat.mul_add]; omega)
end Hw
namespace Hw
open PySem L2
local macro_rules | `(tactic| walk_at "sd") => `(tactic| first
  | exact rfl
  | decide +kernel
  | (exact Nat.le_of_ble_eq_true rfl)
  | assumption
  | (exact Sz.mono (by assumption) (by decide))
  | decide
  | omega
  | (exact eraAll_map _ _ (fun _ => rfl) _)
  | (exact frAll_map _ (fun _ => rfl) _)
  | exact EqD.frac
  | exact EqD.int
  | exact EqD.bl
  | exact EqD.pair
  | skip)
local macro_rules | `(tactic| walk_at "R") => `(tactic| first
  | (with_reducible apply rc_common) <;> walk_at "sd"
  | (with_reducible apply rc_fraction) <;> walk_at "sd"
  | (with_reducible apply rc_plus) <;> walk_at "sd"
  | (with_reducible apply rc_minus) <;> walk_at "sd"
  | (with_reducible apply rc_times) <;> walk_at "sd"
  | (with_reducible apply rc_over) <;> walk_at "sd"
  | (with_reducible apply rc_less) <;> walk_at "sd"
  | (with_reducible apply rc_cell) <;> walk_at "sd"
  | (with_reducible apply rc_whole) <;> walk_at "sd"
  | (with_reducible apply rc_low) <;> walk_at "sd"
  | (with_reducible apply rc_part) <;> walk_at "sd"
  | (with_reducible apply rc_lfraction) <;> walk_at "sd")
local macro_rules | `(tactic| walk_at "evD") => `(tactic| first
  | with_reducible exact ed_int
  | with_reducible exact ed_bl
  | with_reducible exact ed_non
  | with_reducible exact ed_str
  | (with_reducible apply ed_var) <;> walk_at "go"
  | (with_reducible apply ed_add) <;> walk_at "go"
  | (with_reducible apply ed_sub) <;> walk_at "go"
  | (with_reducible apply ed_mul) <;> walk_at "go"
  | (with_reducible apply ed_div) <;> walk_at "go"
  | (with_reducible apply ed_mod) <;> walk_at "go"
  | (with_reducible apply ed_pow) <;> walk_at "go"
  | (with_reducible apply ed_neg) <;> walk_at "go"
  | (with_reducible apply ed_lt) <;> walk_at "go"
  | (with_reducible apply ed_le) <;> walk_at "go"
  | (with_reducible apply ed_gt) <;> walk_at "go"
  | (with_reducible apply ed_ge) <;> walk_at "go"
  | (with_reducible apply ed_leLt) <;> walk_at "go"
  | (with_reducible apply ed_leLe) <;> walk_at "go"
  | (with_reducible apply ed_ltLt) <;> walk_at "go"
  | (with_reducible apply ed_eq) <;> walk_at "go"
  | (with_reducible apply ed_ne) <;> walk_at "go"
  | (with_reducible apply ed_idxT) <;> walk_at "go"
  | (with_reducible apply ed_idxS) <;> walk_at "go"
  | (with_reducible apply ed_idxScr) <;> walk_at "go"
  | (with_reducible apply ed_lenS) <;> walk_at "go"
  | (with_reducible apply ed_lenT) <;> walk_at "go"
  | (with_reducible apply ed_lenScr) <;> walk_at "go"
  | (with_reducible apply ed_abs) <;> walk_at "go"
  | (with_reducible apply ed_intI) <;> walk_at "go"
  | (with_reducible apply ed_intB) <;> walk_at "go"
  | (with_reducible apply ed_intS) <;> walk_at "go"
  | (with_reducible apply ed_andV) <;> walk_at "go"
  | (with_reducible apply ed_orV) <;> walk_at "go"
  | (with_reducible apply ed_notV) <;> walk_at "go"
  | (with_reducible apply ed_tup) <;> walk_at "go"
  | (with_reducible apply ev_call) <;> walk_at "go"
  | (with_reducible apply ed_isi) <;> walk_at "go"
  | (with_reducible apply ed_catS) <;> walk_at "go"
  | (with_reducible apply ed_repS) <;> walk_at "go"
  | (with_reducible apply EvL.dat) <;> walk_at "go")
local macro_rules | `(tactic| walk_at "evR") => `(tactic| first
  | (with_reducible apply EvD.r) <;> walk_at "go"
  | (with_reducible apply EvS.r) <;> walk_at "go")
local macro_rules | `(tactic| walk_at "evS") => `(tactic| first
  | (with_reducible apply es_own) <;> walk_at "go"
  | (with_reducible apply EvD.s) <;> walk_at "go"
  | (with_reducible apply EvL.s) <;> walk_at "go")
local macro_rules | `(tactic| walk_at "evL") => `(tactic| first
  | (with_reducible apply el_lst) <;> walk_at "go"
  | (with_reducible apply ev_callL) <;> walk_at "go")
local macro_rules | `(tactic| walk_at "evA") => `(tactic| first
  | with_reducible exact ea_nil
  | (with_reducible apply ea_cons) <;> walk_at "go")
local macro_rules | `(tactic| walk_at "evQ") => `(tactic| first
  | with_reducible exact eq_nil
  | (with_reducible apply eq_cons) <;> walk_at "go")
local macro_rules | `(tactic| walk_at "evB") => `(tactic| first
  | (with_reducible apply eb_and) <;> walk_at "go"
  | (with_reducible apply eb_or) <;> walk_at "go"
  | (with_reducible apply eb_not) <;> walk_at "go"
  | (with_reducible apply eb_val) <;> walk_at "go")
local macro_rules | `(tactic| walk_at "era") => `(tactic| first
  | ((simp only [eraAll, D.era, era_dF, era_dP, era_dFs, era_dI, era_dS, era_dPs, era_dRows, era_dRopes]); done)
  | ((simp only [eraAll, D.era, era_dF, era_dP, era_dFs, era_dI, era_dS, era_dPs, era_dRows, era_dRopes]); exact rfl))
local macro_rules | `(tactic| walk_at "frs") => `(tactic| first
  | exact rfl
  | exact fr_dFs _
  | exact fr_dI _
  | exact fr_dS _
  | exact fr_dPs _
  | exact fr_dRows _
  | exact fr_dRopes _
  | (simp only [frAll, D.fr, fr_dFs, fr_dI, fr_dS, fr_dPs, fr_dRows, fr_dRopes, decide_true, Bool.and_true, Bool.true_and]; done))
local macro_rules | `(tactic| walk_at "go") => `(tactic| first
  | ((with_reducible show eraAll _ = _); walk_at "era")
  | ((with_reducible show D.fr _ = true); walk_at "frs")
  | ((with_reducible show frAll _ = true); walk_at "frs")
  | ((with_reducible show _ = some (Cell.dat _)); exact rfl)
  | ((with_reducible show _ = some (Cell.own _)); exact rfl)
  | ((with_reducible show D.tn _ = some _); exact rfl)
  | ((with_reducible show atI _ _ = some _); first | exact rfl | assumption)
  | ((with_reducible show EvD _ _ _ _ _); walk_at "evD")
  | ((with_reducible show EvR _ _ _ _ _); walk_at "evR")
  | ((with_reducible show EvS _ _ _ _ _); walk_at "evS")
  | ((with_reducible show EvL _ _ _ _ _); walk_at "evL")
  | ((with_reducible show EvA _ _ _ _ _); walk_at "evA")
  | ((with_reducible show EvAD _ _ _ _ _); walk_at "evQ")
  | ((with_reducible show EvB _ _ _ _ _); walk_at "evB")
  | ((with_reducible show _ = _ → _); intro hv; walk_at "go")
  | ((fail_if_success (with_reducible show EvD _ _ _ _ _)); (fail_if_success (with_reducible show EvR _ _ _ _ _)); (fail_if_success (with_reducible show EvS _ _ _ _ _)); (fail_if_success (with_reducible show EvL _ _ _ _ _)); (fail_if_success (with_reducible show EvA _ _ _ _ _)); (fail_if_success (with_reducible show EvAD _ _ _ _ _)); (fail_if_success (with_reducible show EvB _ _ _ _ _)); (fail_if_success (with_reducible show _ = some (Cell.dat _))); (fail_if_success (with_reducible show _ = some (Cell.own _))); (fail_if_success (with_reducible show atI _ _ = some _)); (fail_if_success (with_reducible show D.tn _ = some _)); (fail_if_success (with_reducible show eraAll _ = _)); (fail_if_success (with_reducible show D.fr _ = true)); (fail_if_success (with_reducible show frAll _ = true)); first | walk_at "R" | walk_at "sd"))
local macro_rules | `(tactic| walk_at "len") => `(tactic| first
  | exact (by decide)
  | (simp; done)
  | omega)
local macro_rules | `(tactic| walk_at "st") => `(tactic| first
  | ((with_reducible show At _ _ _ _ _ _); try dsimp only [List.set])
  | ((with_reducible show _ = _ → At _ _ _ _ _ _); intro hb)
  | ((with_reducible show _ < _); walk_at "len")
  | walk_at "go")
local macro_rules | `(tactic| walk_at "asg") => `(tactic| first
  | (with_reducible apply sq_asg) <;> walk_at "st"
  | (with_reducible apply at_asg) <;> walk_at "st")
local macro_rules | `(tactic| walk_at "asgL") => `(tactic| first
  | (with_reducible apply sq_asgL) <;> walk_at "st"
  | (with_reducible apply at_asgL) <;> walk_at "st")
local macro_rules | `(tactic| walk_at "app") => `(tactic| first
  | (with_reducible apply sq_append) <;> walk_at "st"
  | (with_reducible apply at_append) <;> walk_at "st")
local macro_rules | `(tactic| walk_at "ret") => `(tactic| first
  | (with_reducible apply at_ret) <;> walk_at "st")
local macro_rules | `(tactic| walk_at "when") => `(tactic| first
  | (with_reducible apply sq_when) <;> walk_at "st"
  | (with_reducible apply at_when) <;> walk_at "st")
local macro_rules | `(tactic| walk_at "if") => `(tactic| first
  | (with_reducible apply sq_if) <;> walk_at "st"
  | (with_reducible apply at_if) <;> walk_at "st")
local macro_rules | `(tactic| walk_at "fd") => `(tactic| first
  | exact rfl
  | assumption)
local macro_rules | `(tactic| walk_at "R") => `(tactic| first
  | (with_reducible apply rc_see_pairs) <;> walk_at "sd"
  | (with_reducible apply rc_hsum) <;> walk_at "sd"
  | (with_reducible apply rc_table) <;> walk_at "sd"
  | (with_reducible apply rc_lropes) <;> walk_at "sd"
  | (with_reducible apply rc_summedp) <;> walk_at "sd"
  | (with_reducible apply rc_lifted) <;> walk_at "sd"
  | (with_reducible apply rc_holds) <;> walk_at "sd"
  | (with_reducible apply rc_spare) <;> walk_at "sd"
  | (with_reducible apply rc_gain) <;> walk_at "sd"
  | (with_reducible apply rc_is_let) <;> walk_at "sd"
  | (with_reducible apply rc_lsum) <;> walk_at "sd"
  | (with_reducible apply rc_lspare) <;> walk_at "sd"
  | (with_reducible apply rc_held) <;> walk_at "sd"
  | (with_reducible apply rc_parts) <;> walk_at "sd"
  | (with_reducible apply rc_drawn) <;> walk_at "sd"
  | (with_reducible apply rc_lrow) <;> walk_at "sd"
  | (with_reducible apply rc_lplus) <;> walk_at "sd"
  | (with_reducible apply rc_times_int) <;> walk_at "sd"
  | (with_reducible apply rc_int_times) <;> walk_at "sd"
  | (with_reducible apply rc_less0) <;> walk_at "sd"
  | (with_reducible apply rc_init) <;> walk_at "sd")
local macro_rules | `(tactic| walk_at "evD") => `(tactic| first
  | (with_reducible apply ed_sum) <;> walk_at "go"
  | (with_reducible apply ed_min) <;> walk_at "go"
  | (with_reducible apply ed_max) <;> walk_at "go"
  | (with_reducible apply ed_heavy) <;> walk_at "go"
  | (with_reducible apply ed_table) <;> walk_at "go"
  | (with_reducible apply ed_make) <;> walk_at "go"
  | (with_reducible apply ed_meth) <;> walk_at "go"
  | (with_reducible apply ed_fldA) <;> walk_at "fd")
local macro_rules | `(tactic| walk_at "evL") => `(tactic| first
  | (with_reducible apply el_list) <;> walk_at "go"
  | (with_reducible apply el_cat) <;> walk_at "go"
  | (with_reducible apply el_rep) <;> walk_at "go"
  | (with_reducible apply el_slice) <;> walk_at "go"
  | (with_reducible apply el_meth) <;> walk_at "go")
local macro_rules | `(tactic| walk_at "evS") => `(tactic| first
  | (with_reducible apply es_fldA) <;> walk_at "fd")
local macro_rules | `(tactic| walk_at "evO") => `(tactic| first
  | with_reducible exact eo_none
  | (with_reducible apply eo_some) <;> walk_at "go")
local macro_rules | `(tactic| walk_at "go") => `(tactic| first
  | ((with_reducible show EvO _ _ _ _ _); walk_at "evO"))
local macro_rules | `(tactic| walk_at "fld") => `(tactic| first
  | (with_reducible apply sq_fld) <;> walk_at "st"
  | (with_reducible apply at_fld) <;> walk_at "st")
local macro_rules | `(tactic| walk_at "fldL") => `(tactic| first
  | (with_reducible apply sq_fldL) <;> walk_at "st"
  | (with_reducible apply at_fldL) <;> walk_at "st")
local macro_rules | `(tactic| walk_at "drop") => `(tactic| first
  | (with_reducible apply sq_drop) <;> walk_at "st"
  | (with_reducible apply at_drop) <;> walk_at "st")
section
variable {K : PySem.W.Frag} {C pN : Addr}
abbrev IsN (K : PySem.W.Frag) (p : Addr) : Prop := SqT K (fun _ => none) p [.int 0, .int 1]
abbrev IsO (K : PySem.W.Frag) (p : Addr) : Prop := SqT K (fun _ => none) p [.int 1, .int 1]
theorem ed_nought {ρ : List Cell} (h : IsN K pN) : EvD K C (tC (.ref pN)) ρ (dF 0) := ed_pair h
theorem ed_one {ρ : List Cell} (h : IsO K pN) : EvD K C (tC (.ref pN)) ρ (dF 1) := ed_pair h
theorem p_summed_parts (hN : IsN K pN) : Body (t_summed_parts K C pN) n_summed_parts (sp_summed_parts K C) := by
  rintro vs H Q E ⟨ds, d, r, ⟨qs, hq, hl, rfl, rfl⟩, k⟩
  refine start_at r (n := 2) (by rw [r.length]; rfl) ?_
  unfold t_summed_parts
  refine sq_asg (ed_nought hN) (by simp [uns]) ?_
  refine sq_forM (as := qs) (f := dF) (m := .x) (by walk_at "evD") (fun i ρ' => ∃ c, ρ' = [.dat (.lst .x (qs.map dF)), .dat (dF (qs.take i).sum), c]) ⟨_, rfl⟩ (by rintro i ρ' ⟨_, rfl⟩; simp) ?_ ?_
  · rintro H1 i q ρ' hi ⟨c, rfl⟩
    have hil : i < qs.length := (List.getElem?_eq_some_iff.mp hi).1
    have h1 : Sz 4000 (qs.take i).sum := (sz_sum (n := 150) fun q hq' => hq q (List.mem_of_mem_take hq')).mono (by
      have : (qs.take i).length ≤ 20 := by simp; omega
      have := Nat.mul_le_mul_left (150 + 1) this
      omega)
    have h2 : Sz 4000 q := (hq q (mem_of_some hi)).mono (by decide)
    dsimp only [List.set]
    walk_at "asg"
    have e : (qs.take (i + 1)).sum = (qs.take i).sum + q := by rw [List.take_add_one, hi]; exact sum_snoc _ _
    exact at_gx ⟨_, by rw [e]⟩
  · rintro ρ' ⟨c, rfl⟩
    rw [List.take_length]
    walk_at "ret"
theorem dFs_snoc (l : List Rat) (x : Rat) : dFs (l ++ [x]) = dFs l ++ [dF x] := List.map_append
theorem HoOk.tget (h : HoOk ws tb) {r b : Nat} (hr : r < tb.length) (hb : b < ws.length) : (-9 ≤ tget tb r b ∧ tget tb r b ≤ 9) ∧ (tb.getD r []).length = ws.length := by
  have h1 := getD_mem (a := []) hr
  have h2 := h.row _ h1
  exact ⟨h.st _ h1 _ (getD_mem (by omega)), h2⟩
theorem sz9 {z : Int} (h : -9 ≤ z ∧ z ≤ 9) : Sz 4 (z : Rat) := sz_int (by decide) (by omega)
theorem szw {z : Int} (h : 0 ≤ z ∧ z ≤ 1000) : Sz 10 (z : Rat) := sz_int (by decide) (by omega)
theorem p_lifted (T : HoT K C) : Body (t_lifted K C) n_lifted (sp_lifted K C) := by
  rintro vs H Q E ⟨ds, xs, r, ⟨ws, tb, ps, ho, hz, hl, rfl, rfl⟩, k⟩
  refine start_at r (n := 3) (by rw [r.length]; rfl) ?_
  have r5 := ho.r5
  have w4 := ho.w4
  unfold t_lifted
  walk_at "asgL"
  refine sq_forN (n := ws.length) (EvA.to (by walk_at "evA") (by simp)) (by omega) (fun i ρ' => ∃ c3 c4, ρ' = [.dat (.ho .x ws tb), .dat (.lst .x (dFs ps)), .own (dFs ((List.range i).map (liftAt tb ps))), c3, c4]) ⟨_, _, rfl⟩ (by rintro i ρ' ⟨_, _, rfl⟩; simp) ?_ ?_
  · rintro b ρ' hb ⟨c3, c4, rfl⟩
    dsimp only [List.set]
    have hsz : ∀ q ∈ (List.range tb.length).map fun r => ps.getD r 0 * (tget tb r b : Rat), Sz 150 q := by
      intro q hq
      obtain ⟨r, hr, rfl⟩ := List.mem_map.mp hq
      have hr' := List.mem_range.mp hr
      exact ((hz _ (getD_mem (by omega))).mul (sz9 (ho.tget hr' hb).1)).mono (by decide)
    have hlen : ((List.range tb.length).map fun r => ps.getD r 0 * (tget tb r b : Rat)).length ≤ 20 := by simp; omega
    have el : EvD K C (tLc (iRng1 (tCons (xLen K (tFld K (tVar 0) "table")) tNil)) (gName 4) tYes (tCall (sp_times K C) [] E0 (tCons (xIdx K (tVar 1) (tVar 4)) (tCons (tTup (tCons (xIdx K (xIdx K (tFld K (tVar 0) "table") (tVar 4)) (tVar 3)) (tCons (tC (.int 1)) tNil))) tNil))) [4])
        [.dat (.ho .x ws tb), .dat (.lst .x (dFs ps)), .own (dFs ((List.range b).map (liftAt tb ps))), .dat (.int b), c4] (.lst .f (((List.range tb.length).map fun r => ps.getD r 0 * (tget tb r b : Rat)).map dF)) := by
      refine EvL.dat (EvL.to (el_lcN (n := tb.length) (g := fun r => dF (ps.getD r 0 * (tget tb r b : Rat))) (EvA.to (by walk_at "evA") (by simp [dRows])) (by omega) (by simp) fun r hr => ?_) (by simp))
      dsimp only [List.set]
      have a1 : atI (dFs ps) (r : Int) = some (dF (ps.getD r 0)) := atI_map 0 (by omega)
      have a2 : atI (dRows .x tb) (r : Int) = some (.lst .x (dI (tb.getD r []))) := atI_rows hr
      have a3 : atI (dI (tb.getD r [])) (b : Int) = some (.int (tget tb r b)) := atI_map 0 (by rw [(ho.tget hr hb).2]; exact hb)
      have s1 : Sz 4000 (ps.getD r 0) := (hz _ (getD_mem (by omega))).mono (by decide)
      have s2 : Sz 4000 (tget tb r b : Rat) := (sz9 (ho.tget hr hb).1).mono (by decide)
      walk_at "evD"
    refine at_append rfl (ev_call (ea_cons el.r ea_nil) (by walk_at "era") (rc_summedp hsz hlen) rfl) (by simp; omega) ?_
    dsimp only [List.set]
    exact at_gx ⟨_, _, by rw [range_map_succ, dFs_snoc]; rfl⟩
  · rintro ρ' ⟨c3, c4, rfl⟩
    exact at_retOwn (fun _ => rfl) rfl k
theorem p_spare (T : HoT K C) : Body (t_spare K C) n_spare (sp_spare K C) := by
  rintro vs H Q E ⟨ds, xs, r, ⟨ws, tb, ms, ho, hz, hl, rfl, rfl⟩, k⟩
  refine start_at r (n := 3) (by rw [r.length]; rfl) ?_
  have r5 := ho.r5
  have w4 := ho.w4
  unfold t_spare
  walk_at "asgL"
  refine sq_forM (as := tb) (f := fun r => .lst .x (dI r)) (m := .x) (ed_table T (by walk_at "evD")) (fun i ρ' => ∃ c3 c4, ρ' = [.dat (.ho .x ws tb), .dat (.lst .x (dFs ms)), .own (dFs ((tb.take i).map fun r => spareOf r ms)), c3, c4]) ⟨_, _, rfl⟩ (by rintro i ρ' ⟨_, _, rfl⟩; simp) ?_ ?_
  · rintro H1 i row ρ' hi ⟨c3, c4, rfl⟩
    have hm := mem_of_some hi
    have hrow := ho.row _ hm
    have hst := ho.st _ hm
    have hil : i < tb.length := (List.getElem?_eq_some_iff.mp hi).1
    dsimp only [List.set]
    have hsz : ∀ q ∈ (List.range row.length).map fun b => (row.getD b 0 : Rat) * ms.getD b 0, Sz 150 q := by
      intro q hq
      obtain ⟨b, hb, rfl⟩ := List.mem_map.mp hq
      have hb' := List.mem_range.mp hb
      exact ((sz9 (hst _ (getD_mem hb'))).mul (hz _ (getD_mem (by omega)))).mono (by decide)
    have hlen : ((List.range row.length).map fun b => (row.getD b 0 : Rat) * ms.getD b 0).length ≤ 20 := by simp; omega
    have el : EvD K C (tLc (iRng1 (tCons (xLen K (tVar 3)) tNil)) (gName 4) tYes (tCall (sp_times K C) [] E0 (tCons (tTup (tCons (xIdx K (tVar 3) (tVar 4)) (tCons (tC (.int 1)) tNil))) (tCons (xIdx K (tVar 1) (tVar 4)) tNil))) [4])
        [.dat (.ho .x ws tb), .dat (.lst .x (dFs ms)), .own (dFs ((tb.take i).map fun r => spareOf r ms)), .dat (.lst .x (dI row)), c4] (.lst .f (((List.range row.length).map fun b => (row.getD b 0 : Rat) * ms.getD b 0).map dF)) := by
      refine EvL.dat (EvL.to (el_lcN (n := row.length) (g := fun b => dF ((row.getD b 0 : Rat) * ms.getD b 0)) (EvA.to (by walk_at "evA") (by simp)) (by omega) (by simp) fun b hb => ?_) (by simp))
      dsimp only [List.set]
      have a1 : atI (dFs ms) (b : Int) = some (dF (ms.getD b 0)) := atI_map 0 (by omega)
      have a3 : atI (dI row) (b : Int) = some (.int (row.getD b 0)) := atI_map 0 hb
      have s1 : Sz 4000 (ms.getD b 0) := (hz _ (getD_mem (by omega))).mono (by decide)
      have s2 : Sz 4000 (row.getD b 0 : Rat) := (sz9 (hst _ (getD_mem hb))).mono (by decide)
      walk_at "evD"
    refine at_append rfl (ev_call (ea_cons el.r ea_nil) (by walk_at "era") (rc_summedp hsz hlen) rfl) (by simp; omega) ?_
    dsimp only [List.set]
    exact at_gx ⟨_, _, by rw [take_succ_map _ hi, dFs_snoc]; rfl⟩
  · rintro ρ' ⟨c3, c4, rfl⟩
    rw [List.take_length]
    exact at_retOwn (fun _ => rfl) rfl k
theorem p_gain (T : HoT K C) : Body (t_gain K C) n_gain (sp_gain K C) := by
  rintro vs H Q E ⟨ds, d, r, ⟨ws, tb, ms, ho, hz, hl, rfl, rfl⟩, k⟩
  refine start_at r (n := 1) (by rw [r.length]; rfl) ?_
  have w4 := ho.w4
  unfold t_gain
  have hsz : ∀ q ∈ (List.range ms.length).map fun b => (ws.getD b 0 : Rat) * ms.getD b 0, Sz 150 q := by
    intro q hq
    obtain ⟨b, hb, rfl⟩ := List.mem_map.mp hq
    have hb' := List.mem_range.mp hb
    exact ((szw (ho.wv _ (getD_mem (by omega)))).mul (hz _ (getD_mem (by omega)))).mono (by decide)
  have hlen : ((List.range ms.length).map fun b => (ws.getD b 0 : Rat) * ms.getD b 0).length ≤ 20 := by simp; omega
  have el : EvD K C (tLc (iRng1 (tCons (xLen K (tVar 1)) tNil)) (gName 2) tYes (tCall (sp_times K C) [] E0 (tCons (tTup (tCons (xIdx K (tFld K (tVar 0) "heavy") (tVar 2)) (tCons (tC (.int 1)) tNil))) (tCons (xIdx K (tVar 1) (tVar 2)) tNil))) [2])
      [.dat (.ho .x ws tb), .dat (.lst .x (dFs ms)), .un] (.lst .f (((List.range ms.length).map fun b => (ws.getD b 0 : Rat) * ms.getD b 0).map dF)) := by
    refine EvL.dat (EvL.to (el_lcN (n := ms.length) (g := fun b => dF ((ws.getD b 0 : Rat) * ms.getD b 0)) (EvA.to (by walk_at "evA") (by simp)) (by omega) (by simp) fun b hb => ?_) (by simp))
    dsimp only [List.set]
    have a1 : atI (dFs ms) (b : Int) = some (dF (ms.getD b 0)) := atI_map 0 (by omega)
    have a3 : atI (dI ws) (b : Int) = some (.int (ws.getD b 0)) := atI_map 0 (by omega)
    have s1 : Sz 4000 (ms.getD b 0) := (hz _ (getD_mem (by omega))).mono (by decide)
    have s2 : Sz 4000 (ws.getD b 0 : Rat) := (szw (ho.wv _ (getD_mem (by omega)))).mono (by decide)
    walk_at "evD"
  refine at_ret (ev_call (ea_cons el.r ea_nil) (by walk_at "era") (rc_summedp hsz hlen) rfl) ?_
  exact k
end
end Hw
namespace Hw
open PySem L2
local macro_rules | `(tactic| walk_at "sd") => `(tactic| first
  | exact rfl
  | decide +kernel
  | (exact Nat.le_of_ble_eq_true rfl)
  | assumption
  | (exact Sz.mono (by assumption) (by decide))
  | decide
  | omega
  | (exact eraAll_map _ _ (fun _ => rfl) _)
  | (exact frAll_map _ (fun _ => rfl) _)
  | exact EqD.frac
  | exact EqD.int
  | exact EqD.bl
  | exact EqD.pair
  | skip)
local macro_rules | `(tactic| walk_at "R") => `(tactic| first
  | (with_reducible apply rc_common) <;> walk_at "sd"
  | (with_reducible apply rc_fraction) <;> walk_at "sd"
  | (with_reducible apply rc_plus) <;> walk_at "sd"
  | (with_reducible apply rc_minus) <;> walk_at "sd"
  | (with_reducible apply rc_times) <;> walk_at "sd"
  | (with_reducible apply rc_over) <;> walk_at "sd"
  | (with_reducible apply rc_less) <;> walk_at "sd"
  | (with_reducible apply rc_cell) <;> walk_at "sd"
  | (with_reducible apply rc_whole) <;> walk_at "sd"
  | (with_reducible apply rc_low) <;> walk_at "sd"
  | (with_reducible apply rc_part) <;> walk_at "sd"
  | (with_reducible apply rc_lfraction) <;> walk_at "sd")
local macro_rules | `(tactic| walk_at "evD") => `(tactic| first
  | with_reducible exact ed_int
  | with_reducible exact ed_bl
  | with_reducible exact ed_non
  | with_reducible exact ed_str
  | (with_reducible apply ed_var) <;> walk_at "go"
  | (with_reducible apply ed_add) <;> walk_at "go"
  | (with_reducible apply ed_sub) <;> walk_at "go"
  | (with_reducible apply ed_mul) <;> walk_at "go"
  | (with_reducible apply ed_div) <;> walk_at "go"
  | (with_reducible apply ed_mod) <;> walk_at "go"
  | (with_reducible apply ed_pow) <;> walk_at "go"
  | (with_reducible apply ed_neg) <;> walk_at "go"
  | (with_reducible apply ed_lt) <;> walk_at "go"
  | (with_reducible apply ed_le) <;> walk_at "go"
  | (with_reducible apply ed_gt) <;> walk_at "go"
  | (with_reducible apply ed_ge) <;> walk_at "go"
  | (with_reducible apply ed_leLt) <;> walk_at "go"
  | (with_reducible apply ed_leLe) <;> walk_at "go"
  | (with_reducible apply ed_ltLt) <;> walk_at "go"
  | (with_reducible apply ed_eq) <;> walk_at "go"
  | (with_reducible apply ed_ne) <;> walk_at "go"
  | (with_reducible apply ed_idxT) <;> walk_at "go"
  | (with_reducible apply ed_idxS) <;> walk_at "go"
  | (with_reducible apply ed_idxScr) <;> walk_at "go"
  | (with_reducible apply ed_lenS) <;> walk_at "go"
  | (with_reducible apply ed_lenT) <;> walk_at "go"
  | (with_reducible apply ed_lenScr) <;> walk_at "go"
  | (with_reducible apply ed_abs) <;> walk_at "go"
  | (with_reducible apply ed_intI) <;> walk_at "go"
  | (with_reducible apply ed_intB) <;> walk_at "go"
  | (with_reducible apply ed_intS) <;> walk_at "go"
  | (with_reducible apply ed_andV) <;> walk_at "go"
  | (with_reducible apply ed_orV) <;> walk_at "go"
  | (with_reducible apply ed_notV) <;> walk_at "go"
  | (with_reducible apply ed_tup) <;> walk_at "go"
  | (with_reducible apply ev_call) <;> walk_at "go"
  | (with_reducible apply ed_isi) <;> walk_at "go"
  | (with_reducible apply ed_catS) <;> walk_at "go"
  | (with_reducible apply ed_repS) <;> walk_at "go"
  | (with_reducible apply EvL.dat) <;> walk_at "go")
local macro_rules | `(tactic| walk_at "evR") => `(tactic| first
  | (with_reducible apply EvD.r) <;> walk_at "go"
  | (with_reducible apply EvS.r) <;> walk_at "go")
local macro_rules | `(tactic| walk_at "evS") => `(tactic| first
  | (with_reducible apply es_own) <;> walk_at "go"
  | (with_reducible apply EvD.s) <;> walk_at "go"
  | (with_reducible apply EvL.s) <;> walk_at "go")
local macro_rules | `(tactic| walk_at "evL") => `(tactic| first
  | (with_reducible apply el_lst) <;> walk_at "go"
  | (with_reducible apply ev_callL) <;> walk_at "go")
local macro_rules | `(tactic| walk_at "evA") => `(tactic| first
  | with_reducible exact ea_nil
  | (with_reducible apply ea_cons) <;> walk_at "go")
local macro_rules | `(tactic| walk_at "evQ") => `(tactic| first
  | with_reducible exact eq_nil
  | (with_reducible apply eq_cons) <;> walk_at "go")
local macro_rules | `(tactic| walk_at "evB") => `(tactic| first
  | (with_reducible apply eb_and) <;> walk_at "go"
  | (with_reducible apply eb_or) <;> walk_at "go"
  | (with_reducible apply eb_not) <;> walk_at "go"
  | (with_reducible apply eb_val) <;> walk_at "go")
local macro_rules | `(tactic| walk_at "era") => `(tactic| first
  | ((simp only [eraAll, D.era, era_dF, era_dP, era_dFs, era_dI, era_dS, era_dPs, era_dRows, era_dRopes]); done)
  | ((simp only [eraAll, D.era, era_dF, era_dP, era_dFs, era_dI, era_dS, era_dPs, era_dRows, era_dRopes]); exact rfl))
local macro_rules | `(tactic| walk_at "frs") => `(tactic| first
  | exact rfl
  | exact fr_dFs _
  | exact fr_dI _
  | exact fr_dS _
  | exact fr_dPs _
  | exact fr_dRows _
  | exact fr_dRopes _
  | (simp only [frAll, D.fr, fr_dFs, fr_dI, fr_dS, fr_dPs, fr_dRows, fr_dRopes, decide_true, Bool.and_true, Bool.true_and]; done))
local macro_rules | `(tactic| walk_at "go") => `(tactic| first
  | ((with_reducible show eraAll _ = _); walk_at "era")
  | ((with_reducible show D.fr _ = true); walk_at "frs")
  | ((with_reducible show frAll _ = true); walk_at "frs")
  | ((with_reducible show _ = some (Cell.dat _)); exact rfl)
  | ((with_reducible show _ = some (Cell.own _)); exact rfl)
  | ((with_reducible show D.tn _ = some _); exact rfl)
  | ((with_reducible show atI _ _ = some _); first | exact rfl | assumption)
  | ((with_reducible show EvD _ _ _ _ _); walk_at "evD")
  | ((with_reducible show EvR _ _ _ _ _); walk_at "evR")
  | ((with_reducible show EvS _ _ _ _ _); walk_at "evS")
  | ((with_reducible show EvL _ _ _ _ _); walk_at "evL")
  | ((with_reducible show EvA _ _ _ _ _); walk_at "evA")
  | ((with_reducible show EvAD _ _ _ _ _); walk_at "evQ")
  | ((with_reducible show EvB _ _ _ _ _); walk_at "evB")
  | ((with_reducible show _ = _ → _); intro hv; walk_at "go")
  | ((fail_if_success (with_reducible show EvD _ _ _ _ _)); (fail_if_success (with_reducible show EvR _ _ _ _ _)); (fail_if_success (with_reducible show EvS _ _ _ _ _)); (fail_if_success (with_reducible show EvL _ _ _ _ _)); (fail_if_success (with_reducible show EvA _ _ _ _ _)); (fail_if_success (with_reducible show EvAD _ _ _ _ _)); (fail_if_success (with_reducible show EvB _ _ _ _ _)); (fail_if_success (with_reducible show _ = some (Cell.dat _))); (fail_if_success (with_reducible show _ = some (Cell.own _))); (fail_if_success (with_reducible show atI _ _ = some _)); (fail_if_success (with_reducible show D.tn _ = some _)); (fail_if_success (with_reducible show eraAll _ = _)); (fail_if_success (with_reducible show D.fr _ = true)); (fail_if_success (with_reducible show frAll _ = true)); first | walk_at "R" | walk_at "sd"))
local macro_rules | `(tactic| walk_at "len") => `(tactic| first
  | exact (by decide)
  | (simp; done)
  | omega)
local macro_rules | `(tactic| walk_at "st") => `(tactic| first
  | ((with_reducible show At _ _ _ _ _ _); try dsimp only [List.set])
  | ((with_reducible show _ = _ → At _ _ _ _ _ _); intro hb)
  | ((with_reducible show _ < _); walk_at "len")
  | walk_at "go")
local macro_rules | `(tactic| walk_at "asg") => `(tactic| first
  | (with_reducible apply sq_asg) <;> walk_at "st"
  | (with_reducible apply at_asg) <;> walk_at "st")
local macro_rules | `(tactic| walk_at "asgL") => `(tactic| first
  | (with_reducible apply sq_asgL) <;> walk_at "st"
  | (with_reducible apply at_asgL) <;> walk_at "st")
local macro_rules | `(tactic| walk_at "app") => `(tactic| first
  | (with_reducible apply sq_append) <;> walk_at "st"
  | (with_reducible apply at_append) <;> walk_at "st")
local macro_rules | `(tactic| walk_at "ret") => `(tactic| first
  | (with_reducible apply at_ret) <;> walk_at "st")
local macro_rules | `(tactic| walk_at "when") => `(tactic| first
  | (with_reducible apply sq_when) <;> walk_at "st"
  | (with_reducible apply at_when) <;> walk_at "st")
local macro_rules | `(tactic| walk_at "if") => `(tactic| first
  | (with_reducible apply sq_if) <;> walk_at "st"
  | (with_reducible apply at_if) <;> walk_at "st")
local macro_rules | `(tactic| walk_at "fd") => `(tactic| first
  | exact rfl
  | assumption)
local macro_rules | `(tactic| walk_at "R") => `(tactic| first
  | (with_reducible apply rc_see_pairs) <;> walk_at "sd"
  | (with_reducible apply rc_hsum) <;> walk_at "sd"
  | (with_reducible apply rc_table) <;> walk_at "sd"
  | (with_reducible apply rc_lropes) <;> walk_at "sd"
  | (with_reducible apply rc_summedp) <;> walk_at "sd"
  | (with_reducible apply rc_lifted) <;> walk_at "sd"
  | (with_reducible apply rc_holds) <;> walk_at "sd"
  | (with_reducible apply rc_spare) <;> walk_at "sd"
  | (with_reducible apply rc_gain) <;> walk_at "sd"
  | (with_reducible apply rc_is_let) <;> walk_at "sd"
  | (with_reducible apply rc_lsum) <;> walk_at "sd"
  | (with_reducible apply rc_lspare) <;> walk_at "sd"
  | (with_reducible apply rc_held) <;> walk_at "sd"
  | (with_reducible apply rc_parts) <;> walk_at "sd"
  | (with_reducible apply rc_drawn) <;> walk_at "sd"
  | (with_reducible apply rc_lrow) <;> walk_at "sd"
  | (with_reducible apply rc_lplus) <;> walk_at "sd"
  | (with_reducible apply rc_times_int) <;> walk_at "sd"
  | (with_reducible apply rc_int_times) <;> walk_at "sd"
  | (with_reducible apply rc_less0) <;> walk_at "sd"
  | (with_reducible apply rc_init) <;> walk_at "sd")
local macro_rules | `(tactic| walk_at "evD") => `(tactic| first
  | (with_reducible apply ed_sum) <;> walk_at "go"
  | (with_reducible apply ed_min) <;> walk_at "go"
  | (with_reducible apply ed_max) <;> walk_at "go"
  | (with_reducible apply ed_heavy) <;> walk_at "go"
  | (with_reducible apply ed_table) <;> walk_at "go"
  | (with_reducible apply ed_make) <;> walk_at "go"
  | (with_reducible apply ed_meth) <;> walk_at "go"
  | (with_reducible apply ed_fldA) <;> walk_at "fd")
local macro_rules | `(tactic| walk_at "evL") => `(tactic| first
  | (with_reducible apply el_list) <;> walk_at "go"
  | (with_reducible apply el_cat) <;> walk_at "go"
  | (with_reducible apply el_rep) <;> walk_at "go"
  | (with_reducible apply el_slice) <;> walk_at "go"
  | (with_reducible apply el_meth) <;> walk_at "go")
local macro_rules | `(tactic| walk_at "evS") => `(tactic| first
  | (with_reducible apply es_fldA) <;> walk_at "fd")
local macro_rules | `(tactic| walk_at "evO") => `(tactic| first
  | with_reducible exact eo_none
  | (with_reducible apply eo_some) <;> walk_at "go")
local macro_rules | `(tactic| walk_at "go") => `(tactic| first
  | ((with_reducible show EvO _ _ _ _ _); walk_at "evO"))
local macro_rules | `(tactic| walk_at "fld") => `(tactic| first
  | (with_reducible apply sq_fld) <;> walk_at "st"
  | (with_reducible apply at_fld) <;> walk_at "st")
local macro_rules | `(tactic| walk_at "fldL") => `(tactic| first
  | (with_reducible apply sq_fldL) <;> walk_at "st"
  | (with_reducible apply at_fldL) <;> walk_at "st")
local macro_rules | `(tactic| walk_at "drop") => `(tactic| first
  | (with_reducible apply sq_drop) <;> walk_at "st"
  | (with_reducible apply at_drop) <;> walk_at "st")
section
variable {K : PySem.W.Frag} {C pN : Addr}
theorem num_mul (x : Rat) (z : Int) : Rat.divInt (x.num * z) x.den = x * z := by
  have e := mul_eq x (z : Rat)
  rw [e]; simp
theorem mul_num (x : Rat) (z : Int) : Rat.divInt (z * x.num) x.den = z * x := by rw [Int.mul_comm, num_mul, Rat.mul_comm]
theorem EqD.fracInt {x : Rat} {w : Int} : EqD (dF x) (.tup [.int w, .int 1]) (decide (x = (w : Rat))) := by
  rw [← dF_int]; exact EqD.frac
theorem rat_num_neg {q : Rat} : q.num < 0 ↔ q < 0 := by
  have h := Rat.num_nonneg (q := q)
  have h2 := @Rat.not_lt q 0
  constructor
  · intro a
    by_cases z : q < 0
    · exact z
    · have := h.mpr (Rat.not_lt.mp z); omega
  · intro a
    by_cases z : q.num < 0
    · exact z
    · have := h.mp (by omega)
      exact absurd a (Rat.not_lt.mpr this)
theorem rc_lplusF {x : Rat} {c e : Int} (h1 : Sz 4000 x) (he : 0 < e) (h3 : c.natAbs < 2 ^ 4000) (h4 : e.natAbs < 2 ^ 4000) : R_lplus [dF x, .tup [.int c, .int e]] (dF (x + Rat.divInt c e)) := ⟨x.num, x.den, c, e, den_pos x, he, h1.1, h1.den, h3, h4, rfl, by rw [← rat_eq]⟩
local macro_rules | `(tactic| walk_at "R") => `(tactic| (with_reducible apply rc_lplusF) <;> walk_at "sd")
theorem dF0 : dF 0 = .tup [.int 0, .int 1] := rfl
theorem p_law_sum : Body (t_law_sum K C) n_law_sum (sp_law_sum K C) := by
  rintro vs H Q E ⟨ds, d, r, ⟨tb, ps, b, h5, hb, hst, hz, hl, rfl, rfl⟩, k⟩
  refine start_at r (n := 2) (by rw [r.length]; rfl) ?_
  unfold t_law_sum
  refine sq_asg (d := dF 0) (by rw [dF0]; walk_at "evD") (by simp [uns]) ?_
  let g : Nat → Rat := fun r => ps.getD r 0 * (tget tb r b : Rat)
  have hg : ∀ r, r < tb.length → (-9 ≤ tget tb r b ∧ tget tb r b ≤ 9) ∧ b < (tb.getD r []).length ∧ Sz 100 (ps.getD r 0) := fun r hr => by
    have h1 := getD_mem (a := []) hr
    have h2 := hb _ h1
    exact ⟨hst _ h1 _ (getD_mem h2), h2, hz _ (getD_mem (by omega))⟩
  refine sq_forN (n := tb.length) (EvA.to (by walk_at "evA") (by simp [dRows])) (by omega) (fun i ρ' => i ≤ tb.length ∧ ∃ c4, ρ' = [.dat (.lst .x (dRows .x tb)), .dat (.lst .x (dFs ps)), .dat (.int b), .dat (dF ((List.range i).map g).sum), c4]) ⟨by omega, _, rfl⟩ (by rintro i ρ' ⟨_, _, rfl⟩; simp) ?_ ?_
  · rintro i ρ' hi ⟨hi2, c4, rfl⟩
    obtain ⟨g1, g2, g3⟩ := hg i hi
    dsimp only [List.set]
    have st : Sz 4000 ((List.range i).map g).sum := (sz_sum (n := 104) fun q hq => by
      obtain ⟨r, hr, rfl⟩ := List.mem_map.mp hq
      have hr' := List.mem_range.mp hr
      obtain ⟨g1, g2, g3⟩ := hg r (by omega)
      exact g3.mul (sz9 g1)).mono (by simp; omega)
    have a1 : atI (dFs ps) (i : Int) = some (dF (ps.getD i 0)) := atI_map 0 (by omega)
    have a2 : atI (dRows .x tb) (i : Int) = some (.lst .x (dI (tb.getD i []))) := atI_rows hi
    have a3 : atI (dI (tb.getD i [])) (b : Int) = some (.int (tget tb i b)) := atI_map 0 g2
    have z9 : (tget tb i b).natAbs < 2 ^ 4 := by omega
    have b1 := den_pos ((List.range i).map g).sum
    have b2 := den_pos (ps.getD i 0)
    have b3 := st.1
    have b4 := st.den
    have b5 := Sz.up (n := 4000) (wide_lt g3.1 z9) (by decide)
    have b6 := Sz.up (n := 4000) g3.den (by decide)
    have b7 : CMulW (ps.getD i 0).num (tget tb i b) := wide_mul g3.1 z9 (by decide) (by decide) (by decide)
    unfold dF at a1
    walk_at "asg"
    have e : ((List.range (i + 1)).map g).sum = ((List.range i).map g).sum + Rat.divInt ((ps.getD i 0).num * tget tb i b) (ps.getD i 0).den := by rw [range_map_succ, sum_snoc, num_mul]
    exact at_gx ⟨hi, _, by rw [e]⟩
  · rintro ρ' ⟨_, c4, rfl⟩
    walk_at "ret"
theorem p_law_spare : Body (t_law_spare K C) n_law_spare (sp_law_spare K C) := by
  rintro vs H Q E ⟨ds, d, r, ⟨row, ms, h5, hst, hz, hl, rfl, rfl⟩, k⟩
  refine start_at r (n := 2) (by rw [r.length]; rfl) ?_
  unfold t_law_spare
  refine sq_asg (d := dF 0) (by rw [dF0]; walk_at "evD") (by simp [uns]) ?_
  let g : Nat → Rat := fun b => (row.getD b 0 : Rat) * ms.getD b 0
  have hg : ∀ r, r < row.length → (-2000 ≤ row.getD r 0 ∧ row.getD r 0 ≤ 2000) ∧ Sz 500 (ms.getD r 0) := fun r hr => ⟨hst _ (getD_mem hr), hz _ (getD_mem (by omega))⟩
  refine sq_forN (n := row.length) (EvA.to (by walk_at "evA") (by simp)) (by omega) (fun i ρ' => i ≤ row.length ∧ ∃ c4, ρ' = [.dat (.lst .x (dI row)), .dat (.lst .x (dFs ms)), .dat (dF ((List.range i).map g).sum), c4]) ⟨by omega, _, rfl⟩ (by rintro i ρ' ⟨_, _, rfl⟩; simp) ?_ ?_
  · rintro i ρ' hi ⟨hi2, c4, rfl⟩
    obtain ⟨g1, g3⟩ := hg i hi
    dsimp only [List.set]
    have st : Sz 4000 ((List.range i).map g).sum := (sz_sum (n := 511) fun q hq => by
      obtain ⟨r, hr, rfl⟩ := List.mem_map.mp hq
      have hr' := List.mem_range.mp hr
      obtain ⟨g1, g3⟩ := hg r (by omega)
      exact (sz_int (n := 11) (by decide) (by omega)).mul g3).mono (by simp; omega)
    have a1 : atI (dFs ms) (i : Int) = some (dF (ms.getD i 0)) := atI_map 0 (by omega)
    have a3 : atI (dI row) (i : Int) = some (.int (row.getD i 0)) := atI_map 0 hi
    have z9 : (row.getD i 0).natAbs < 2 ^ 11 := by omega
    have b1 := den_pos ((List.range i).map g).sum
    have b2 := den_pos (ms.getD i 0)
    have b3 := st.1
    have b4 := st.den
    have b5 := Sz.up (n := 4000) (wide_lt z9 g3.1) (by decide)
    have b6 := Sz.up (n := 4000) g3.den (by decide)
    have b7 : CMulW (row.getD i 0) (ms.getD i 0).num := wide_mul z9 g3.1 (by decide) (by decide) (by decide)
    unfold dF at a1
    walk_at "asg"
    have e : ((List.range (i + 1)).map g).sum = ((List.range i).map g).sum + Rat.divInt (row.getD i 0 * (ms.getD i 0).num) (ms.getD i 0).den := by rw [range_map_succ, sum_snoc, mul_num]
    exact at_gx ⟨hi, _, by rw [e]⟩
  · rintro ρ' ⟨_, c4, rfl⟩
    walk_at "ret"
theorem lift_eq {ws : List Int} {tb : List (List Int)} {ps : List Rat} : liftL ws tb ps = wF ws ↔ ∀ b, b < ws.length → liftAt tb ps b = (ws.getD b 0 : Rat) := by
  unfold liftL wF
  constructor
  · intro h b hb
    have h1 := congrArg (fun l => l[b]?) h
    have e : ws[b]? = some (ws.getD b 0) := by rw [List.getD_eq_getElem?_getD, List.getElem?_eq_getElem hb]; rfl
    simp only [List.getElem?_map, List.getElem?_range hb, e, Option.map_some] at h1
    exact Option.some.inj h1
  · intro h
    apply List.ext_getElem (by simp)
    intro b h1 h2
    have hb : b < ws.length := by simpa using h1
    have := h b hb
    rw [List.getD_eq_getElem?_getD, List.getElem?_eq_getElem hb] at this
    simpa using this
theorem p_law_held : Body (t_law_held K C) n_law_held (sp_law_held K C) := by
  rintro vs H Q E ⟨ds, d, r, ⟨ws, tb, ps, ho, hz, hl, rfl, rfl⟩, k⟩
  refine start_at r (n := 2) (by rw [r.length]; rfl) ?_
  have r5 := ho.r5
  have w4 := ho.w4
  have hst := ho.st
  unfold t_law_held
  refine sq_forM (as := ps) (f := dF) (m := .x) (by walk_at "evD") (fun i ρ' => (∀ p ∈ ps.take i, ¬ p < 0) ∧ ∃ c, ρ' = [.dat (.lst .x (dI ws)), .dat (.lst .x (dRows .x tb)), .dat (.lst .x (dFs ps)), c, .un]) ⟨by simp, _, rfl⟩ (by rintro i ρ' ⟨_, _, rfl⟩; simp) ?_ ?_
  · rintro H1 i p ρ' hi ⟨hI, c, rfl⟩
    dsimp only [List.set]
    have hd : dF p = .tup [.int p.num, .int p.den] := rfl
    rw [hd]
    walk_at "when"
    · rename_i hb
      have hb' : p < 0 := rat_num_neg.mp (of_decide_eq_true hb)
      refine at_ret (d := .bl (holdsB ws tb ps)) (ed_bl.to ?_) k
      rw [holdsB, decide_eq_false (fun z => z p (mem_of_some hi) hb')]; rfl
    · rename_i hb
      have hb' : ¬ p < 0 := fun z => of_decide_eq_false hb (rat_num_neg.mpr z)
      refine at_gx ⟨fun q hq => ?_, _, rfl⟩
      rw [List.take_add_one, hi] at hq
      rcases List.mem_append.mp hq with h | h
      · exact hI q h
      · rw [show q = p by simpa using h]; exact hb'
  rintro ρ' ⟨hI, c3, rfl⟩
  rw [List.take_length] at hI
  refine sq_forN (n := ws.length) (EvA.to (by walk_at "evA") (by simp)) (by omega) (fun i ρ' => (∀ b, b < i → liftAt tb ps b = (ws.getD b 0 : Rat)) ∧ ∃ c, ρ' = [.dat (.lst .x (dI ws)), .dat (.lst .x (dRows .x tb)), .dat (.lst .x (dFs ps)), c3, c]) ⟨fun b hb => by omega, _, rfl⟩ (by rintro i ρ' ⟨_, _, rfl⟩; simp) ?_ ?_
  · rintro b ρ' hb ⟨hJ, c, rfl⟩
    dsimp only [List.set]
    have a1 : ∀ r ∈ tb, b < r.length := fun r hr => by rw [ho.row r hr]; exact hb
    have a3 : atI (dI ws) (b : Int) = some (.int (ws.getD b 0)) := atI_map 0 hb
    have a4 : (b : Int) = ((b : Nat) : Int) := rfl
    refine at_when (eb_val (ed_ne (b := decide (liftAt tb ps b = (ws.getD b 0 : Rat))) (d := dF (liftAt tb ps b)) (e := .tup [.int (ws.getD b 0), .int 1]) (by walk_at "evR") (by walk_at "evR") EqD.fracInt)) ?_ ?_
    · intro hb2
      have hne : ¬ liftAt tb ps b = (ws.getD b 0 : Rat) := by simpa using hb2
      refine at_ret (d := .bl (holdsB ws tb ps)) (ed_bl.to ?_) k
      rw [holdsB, decide_eq_false (p := liftL ws tb ps = wF ws) fun z => hne (lift_eq.mp z b hb)]; simp
    · intro hb2
      have heq : liftAt tb ps b = (ws.getD b 0 : Rat) := by simpa using hb2
      exact at_gx ⟨fun b' h => by
        by_cases e : b' = b
        · subst e; exact heq
        · exact hJ b' (by omega), _, rfl⟩
  · rintro ρ' ⟨hJ, c, rfl⟩
    refine at_ret (d := .bl (holdsB ws tb ps)) (ed_bl.to ?_) k
    rw [holdsB, decide_eq_true hI, decide_eq_true (lift_eq.mpr hJ)]; rfl
theorem wF_dF (ws : List Int) : (ws.map fun w => D.tup [.int w, .int 1]) = dFs (wF ws) := by
  unfold wF
  rw [dFs, List.map_map]
  exact List.map_congr_left fun w _ => (dF_int w).symm
theorem p_holds (T : HoT K C) (hN : IsN K pN) : Body (t_holds K C pN) n_holds (sp_holds K C) := by
  rintro vs H Q E ⟨ds, d, r, ⟨ws, tb, ps, ho, hz, hl, rfl, rfl⟩, k⟩
  refine start_at r (n := 2) (by rw [r.length]; rfl) ?_
  have w4 := ho.w4
  unfold t_holds
  refine sq_forM (as := ps) (f := dF) (m := .x) (by walk_at "evD") (fun i ρ' => (∀ p ∈ ps.take i, ¬ p < 0) ∧ ∃ c, ρ' = [.dat (.ho .x ws tb), .dat (.lst .x (dFs ps)), c, .un]) ⟨by simp, _, rfl⟩ (by rintro i ρ' ⟨_, _, rfl⟩; simp) ?_ ?_
  · rintro H1 i p ρ' hi ⟨hI, c, rfl⟩
    dsimp only [List.set]
    have s1 : Sz 4000 p := (hz p (mem_of_some hi)).mono (by decide)
    have s2 : Sz 4000 (0 : Rat) := ⟨by decide, by decide⟩
    refine at_when (eb_val (ev_call (ea_cons (by walk_at "evR") (ea_cons (ed_nought hN).r ea_nil)) (by walk_at "era") (rc_less s1 s2) rfl)) ?_ ?_
    · intro hb
      have hb' : p < 0 := of_decide_eq_true hb
      refine at_ret (d := .bl (holdsB ws tb ps)) (ed_bl.to ?_) k
      rw [holdsB, decide_eq_false (fun z => z p (mem_of_some hi) hb')]; rfl
    · intro hb
      have hb' : ¬ p < 0 := of_decide_eq_false hb
      refine at_gx ⟨fun q hq => ?_, _, rfl⟩
      rw [List.take_add_one, hi] at hq
      rcases List.mem_append.mp hq with h | h
      · exact hI q h
      · rw [show q = p by simpa using h]; exact hb'
  rintro ρ' ⟨hI, c3, rfl⟩
  rw [List.take_length] at hI
  refine at_ret (ed_eq (d := .lst .x (dFs (liftL ws tb ps))) (e := .lst .x (dFs (wF ws))) (EvL.s (by walk_at "evL")).r (EvL.s ?_).r EqD.fracs) ?_
  · refine EvL.to (el_lcMap (as := ws) (f := D.int) (g := fun w => D.tup [.int w, .int 1]) (m := .x) (ed_heavy T (by walk_at "evD")) (by omega) (by simp) fun w hw => ?_) (wF_dF ws)
    dsimp only [List.set]
    walk_at "evD"
  · rw [show decide (liftL ws tb ps = wF ws) = holdsB ws tb ps by rw [holdsB, decide_eq_true hI]; rfl]
    exact k
theorem p_is_let (T : HoT K C) (hN : IsN K pN) : Body (t_is_let K C pN) n_is_let (sp_is_let K C) := by
  rintro vs H Q E ⟨ds, d, r, ⟨ws, tb, ms, ho, hz, hl, rfl, rfl⟩, k⟩
  refine start_at r (n := 1) (by rw [r.length]; rfl) ?_
  have w4 := ho.w4
  unfold t_is_let
  refine sq_forM (as := tb) (f := fun r => dF (spareOf r ms)) (m := .f) (EvD.to (EvL.dat (by walk_at "evL")) (by simp [dFs])) (fun i ρ' => (∀ r ∈ tb.take i, ¬ spareOf r ms < 0) ∧ ∃ c, ρ' = [.dat (.ho .x ws tb), .dat (.lst .x (dFs ms)), c]) ⟨by simp, _, rfl⟩ (by rintro i ρ' ⟨_, _, rfl⟩; simp) ?_ ?_
  · rintro H1 i row ρ' hi ⟨hI, c, rfl⟩
    dsimp only [List.set]
    have hm := mem_of_some hi
    have s1 : Sz 4000 (spareOf row ms) := (sz_sum (n := 104) fun q hq => by
      obtain ⟨b, hb, rfl⟩ := List.mem_map.mp hq
      have hb' := List.mem_range.mp hb
      have := ho.row row hm
      exact (sz9 (ho.st row hm _ (getD_mem hb'))).mul (hz _ (getD_mem (by omega)))).mono (by
        have := ho.row row hm
        simp; omega)
    have s2 : Sz 4000 (0 : Rat) := ⟨by decide, by decide⟩
    refine at_when (eb_val (ev_call (ea_cons (by walk_at "evR") (ea_cons (ed_nought hN).r ea_nil)) (by walk_at "era") (rc_less s1 s2) rfl)) ?_ ?_
    · intro hb
      have hb' : spareOf row ms < 0 := of_decide_eq_true hb
      refine at_ret (d := .bl (letB tb ms)) (ed_bl.to ?_) k
      rw [letB, decide_eq_false (fun z => z row hm hb')]
    · intro hb
      have hb' : ¬ spareOf row ms < 0 := of_decide_eq_false hb
      refine at_gx ⟨fun q hq => ?_, _, rfl⟩
      rw [List.take_add_one, hi] at hq
      rcases List.mem_append.mp hq with h | h
      · exact hI q h
      · rw [show q = row by simpa using h]; exact hb'
  rintro ρ' ⟨hI, c3, rfl⟩
  rw [List.take_length] at hI
  refine at_ret (d := .bl (letB tb ms)) (ed_bl.to ?_) k
  rw [letB, decide_eq_true hI]
theorem p_law_parts : Body (t_law_parts K C) n_law_parts (sp_law_parts K C) := by
  rintro vs H Q E ⟨ds, d, r, ⟨qs, hz, hl, rfl, rfl⟩, k⟩
  refine start_at r (n := 1) (by rw [r.length]; rfl) ?_
  unfold t_law_parts
  walk_at "when"
  · rename_i hb; simp at hb
  refine sq_forM (as := qs) (f := dF) (m := .x) (by walk_at "evD") (fun i ρ' => ∃ c, ρ' = [.dat (.lst .x (dFs qs)), .dat (.int qs.length), c]) ⟨_, rfl⟩ (by rintro i ρ' ⟨_, rfl⟩; simp) ?_ ?_
  · rintro H1 i q ρ' hi ⟨c, rfl⟩
    dsimp only [List.set]
    have s1 := hz q (mem_of_some hi)
    walk_at "when"
    · rename_i hb; simp at hb
    · exact at_gx ⟨_, rfl⟩
  · rintro ρ' ⟨c, rfl⟩
    walk_at "ret"
theorem p_law_row : Body (t_law_row K C) n_law_row (sp_law_row K C) := by
  rintro vs H Q E ⟨ds, xs, r, ⟨ns, first, many, hm, rfl, rfl⟩, k⟩
  refine start_at r (n := 1) (by rw [r.length]; rfl) ?_
  unfold t_law_row
  refine at_retL (fun _ => rfl) (EvL.to (el_lcN (n := many) (g := fun k => dF (fracOf (ns.getD (first + k) 0))) (by walk_at "evA") (by omega) (by simp [uns]) fun i hi => ?_) (by simp [dFs, rowF])) k
  have e1 : (first : Int) + (i : Int) = ((first + i : Nat) : Int) := by simp
  simp only [List.map, uns, List.cons_append, List.nil_append, List.set]
  walk_at "evD"
end
end Hw
namespace Hw
open PySem L2
local macro_rules | `(tactic| walk_at "sd") => `(tactic| first
  | exact rfl
  | decide +kernel
  | (exact Nat.le_of_ble_eq_true rfl)
  | assumption
  | (exact Sz.mono (by assumption) (by decide))
  | decide
  | omega
  | (exact eraAll_map _ _ (fun _ => rfl) _)
  | (exact frAll_map _ (fun _ => rfl) _)
  | exact EqD.frac
  | exact EqD.int
  | exact EqD.bl
  | exact EqD.pair
  | skip)
local macro_rules | `(tactic| walk_at "R") => `(tactic| first
  | (with_reducible apply rc_common) <;> walk_at "sd"
  | (with_reducible apply rc_fraction) <;> walk_at "sd"
  | (with_reducible apply rc_plus) <;> walk_at "sd"
  | (with_reducible apply rc_minus) <;> walk_at "sd"
  | (with_reducible apply rc_times) <;> walk_at "sd"
  | (with_reducible apply rc_over) <;> walk_at "sd"
  | (with_reducible apply rc_less) <;> walk_at "sd"
  | (with_reducible apply rc_cell) <;> walk_at "sd"
  | (with_reducible apply rc_whole) <;> walk_at "sd"
  | (with_reducible apply rc_low) <;> walk_at "sd"
  | (with_reducible apply rc_part) <;> walk_at "sd"
  | (with_reducible apply rc_lfraction) <;> walk_at "sd")
local macro_rules | `(tactic| walk_at "evD") => `(tactic| first
  | with_reducible exact ed_int
  | with_reducible exact ed_bl
  | with_reducible exact ed_non
  | with_reducible exact ed_str
  | (with_reducible apply ed_var) <;> walk_at "go"
  | (with_reducible apply ed_add) <;> walk_at "go"
  | (with_reducible apply ed_sub) <;> walk_at "go"
  | (with_reducible apply ed_mul) <;> walk_at "go"
  | (with_reducible apply ed_div) <;> walk_at "go"
  | (with_reducible apply ed_mod) <;> walk_at "go"
  | (with_reducible apply ed_pow) <;> walk_at "go"
  | (with_reducible apply ed_neg) <;> walk_at "go"
  | (with_reducible apply ed_lt) <;> walk_at "go"
  | (with_reducible apply ed_le) <;> walk_at "go"
  | (with_reducible apply ed_gt) <;> walk_at "go"
  | (with_reducible apply ed_ge) <;> walk_at "go"
  | (with_reducible apply ed_leLt) <;> walk_at "go"
  | (with_reducible apply ed_leLe) <;> walk_at "go"
  | (with_reducible apply ed_ltLt) <;> walk_at "go"
  | (with_reducible apply ed_eq) <;> walk_at "go"
  | (with_reducible apply ed_ne) <;> walk_at "go"
  | (with_reducible apply ed_idxT) <;> walk_at "go"
  | (with_reducible apply ed_idxS) <;> walk_at "go"
  | (with_reducible apply ed_idxScr) <;> walk_at "go"
  | (with_reducible apply ed_lenS) <;> walk_at "go"
  | (with_reducible apply ed_lenT) <;> walk_at "go"
  | (with_reducible apply ed_lenScr) <;> walk_at "go"
  | (with_reducible apply ed_abs) <;> walk_at "go"
  | (with_reducible apply ed_intI) <;> walk_at "go"
  | (with_reducible apply ed_intB) <;> walk_at "go"
  | (with_reducible apply ed_intS) <;> walk_at "go"
  | (with_reducible apply ed_andV) <;> walk_at "go"
  | (with_reducible apply ed_orV) <;> walk_at "go"
  | (with_reducible apply ed_notV) <;> walk_at "go"
  | (with_reducible apply ed_tup) <;> walk_at "go"
  | (with_reducible apply ev_call) <;> walk_at "go"
  | (with_reducible apply ed_isi) <;> walk_at "go"
  | (with_reducible apply ed_catS) <;> walk_at "go"
  | (with_reducible apply ed_repS) <;> walk_at "go"
  | (with_reducible apply EvL.dat) <;> walk_at "go")
local macro_rules | `(tactic| walk_at "evR") => `(tactic| first
  | (with_reducible apply EvD.r) <;> walk_at "go"
  | (with_reducible apply EvS.r) <;> walk_at "go")
local macro_rules | `(tactic| walk_at "evS") => `(tactic| first
  | (with_reducible apply es_own) <;> walk_at "go"
  | (with_reducible apply EvD.s) <;> walk_at "go"
  | (with_reducible apply EvL.s) <;> walk_at "go")
local macro_rules | `(tactic| walk_at "evL") => `(tactic| first
  | (with_reducible apply el_lst) <;> walk_at "go"
  | (with_reducible apply ev_callL) <;> walk_at "go")
local macro_rules | `(tactic| walk_at "evA") => `(tactic| first
  | with_reducible exact ea_nil
  | (with_reducible apply ea_cons) <;> walk_at "go")
local macro_rules | `(tactic| walk_at "evQ") => `(tactic| first
  | with_reducible exact eq_nil
  | (with_reducible apply eq_cons) <;> walk_at "go")
local macro_rules | `(tactic| walk_at "evB") => `(tactic| first
  | (with_reducible apply eb_and) <;> walk_at "go"
  | (with_reducible apply eb_or) <;> walk_at "go"
  | (with_reducible apply eb_not) <;> walk_at "go"
  | (with_reducible apply eb_val) <;> walk_at "go")
local macro_rules | `(tactic| walk_at "era") => `(tactic| first
  | ((simp only [eraAll, D.era, era_dF, era_dP, era_dFs, era_dI, era_dS, era_dPs, era_dRows, era_dRopes]); done)
  | ((simp only [eraAll, D.era, era_dF, era_dP, era_dFs, era_dI, era_dS, era_dPs, era_dRows, era_dRopes]); exact rfl))
local macro_rules | `(tactic| walk_at "frs") => `(tactic| first
  | exact rfl
  | exact fr_dFs _
  | exact fr_dI _
  | exact fr_dS _
  | exact fr_dPs _
  | exact fr_dRows _
  | exact fr_dRopes _
  | (simp only [frAll, D.fr, fr_dFs, fr_dI, fr_dS, fr_dPs, fr_dRows, fr_dRopes, decide_true, Bool.and_true, Bool.true_and]; done))
local macro_rules | `(tactic| walk_at "go") => `(tactic| first
  | ((with_reducible show eraAll _ = _); walk_at "era")
  | ((with_reducible show D.fr _ = true); walk_at "frs")
  | ((with_reducible show frAll _ = true); walk_at "frs")
  | ((with_reducible show _ = some (Cell.dat _)); exact rfl)
  | ((with_reducible show _ = some (Cell.own _)); exact rfl)
  | ((with_reducible show D.tn _ = some _); exact rfl)
  | ((with_reducible show atI _ _ = some _); first | exact rfl | assumption)
  | ((with_reducible show EvD _ _ _ _ _); walk_at "evD")
  | ((with_reducible show EvR _ _ _ _ _); walk_at "evR")
  | ((with_reducible show EvS _ _ _ _ _); walk_at "evS")
  | ((with_reducible show EvL _ _ _ _ _); walk_at "evL")
  | ((with_reducible show EvA _ _ _ _ _); walk_at "evA")
  | ((with_reducible show EvAD _ _ _ _ _); walk_at "evQ")
  | ((with_reducible show EvB _ _ _ _ _); walk_at "evB")
  | ((with_reducible show _ = _ → _); intro hv; walk_at "go")
  | ((fail_if_success (with_reducible show EvD _ _ _ _ _)); (fail_if_success (with_reducible show EvR _ _ _ _ _)); (fail_if_success (with_reducible show EvS _ _ _ _ _)); (fail_if_success (with_reducible show EvL _ _ _ _ _)); (fail_if_success (with_reducible show EvA _ _ _ _ _)); (fail_if_success (with_reducible show EvAD _ _ _ _ _)); (fail_if_success (with_reducible show EvB _ _ _ _ _)); (fail_if_success (with_reducible show _ = some (Cell.dat _))); (fail_if_success (with_reducible show _ = some (Cell.own _))); (fail_if_success (with_reducible show atI _ _ = some _)); (fail_if_success (with_reducible show D.tn _ = some _)); (fail_if_success (with_reducible show eraAll _ = _)); (fail_if_success (with_reducible show D.fr _ = true)); (fail_if_success (with_reducible show frAll _ = true)); first | walk_at "R" | walk_at "sd"))
local macro_rules | `(tactic| walk_at "len") => `(tactic| first
  | exact (by decide)
  | (simp; done)
  | omega)
local macro_rules | `(tactic| walk_at "st") => `(tactic| first
  | ((with_reducible show At _ _ _ _ _ _); try dsimp only [List.set])
  | ((with_reducible show _ = _ → At _ _ _ _ _ _); intro hb)
  | ((with_reducible show _ < _); walk_at "len")
  | walk_at "go")
local macro_rules | `(tactic| walk_at "asg") => `(tactic| first
  | (with_reducible apply sq_asg) <;> walk_at "st"
  | (with_reducible apply at_asg) <;> walk_at "st")
local macro_rules | `(tactic| walk_at "asgL") => `(tactic| first
  | (with_reducible apply sq_asgL) <;> walk_at "st"
  | (with_reducible apply at_asgL) <;> walk_at "st")
local macro_rules | `(tactic| walk_at "app") => `(tactic| first
  | (with_reducible apply sq_append) <;> walk_at "st"
  | (with_reducible apply at_append) <;> walk_at "st")
local macro_rules | `(tactic| walk_at "ret") => `(tactic| first
  | (with_reducible apply at_ret) <;> walk_at "st")
local macro_rules | `(tactic| walk_at "when") => `(tactic| first
  | (with_reducible apply sq_when) <;> walk_at "st"
  | (with_reducible apply at_when) <;> walk_at "st")
local macro_rules | `(tactic| walk_at "if") => `(tactic| first
  | (with_reducible apply sq_if) <;> walk_at "st"
  | (with_reducible apply at_if) <;> walk_at "st")
local macro_rules | `(tactic| walk_at "fd") => `(tactic| first
  | exact rfl
  | assumption)
local macro_rules | `(tactic| walk_at "R") => `(tactic| first
  | (with_reducible apply rc_see_pairs) <;> walk_at "sd"
  | (with_reducible apply rc_hsum) <;> walk_at "sd"
  | (with_reducible apply rc_table) <;> walk_at "sd"
  | (with_reducible apply rc_lropes) <;> walk_at "sd"
  | (with_reducible apply rc_summedp) <;> walk_at "sd"
  | (with_reducible apply rc_lifted) <;> walk_at "sd"
  | (with_reducible apply rc_holds) <;> walk_at "sd"
  | (with_reducible apply rc_spare) <;> walk_at "sd"
  | (with_reducible apply rc_gain) <;> walk_at "sd"
  | (with_reducible apply rc_is_let) <;> walk_at "sd"
  | (with_reducible apply rc_lsum) <;> walk_at "sd"
  | (with_reducible apply rc_lspare) <;> walk_at "sd"
  | (with_reducible apply rc_held) <;> walk_at "sd"
  | (with_reducible apply rc_parts) <;> walk_at "sd"
  | (with_reducible apply rc_drawn) <;> walk_at "sd"
  | (with_reducible apply rc_lrow) <;> walk_at "sd"
  | (with_reducible apply rc_lplus) <;> walk_at "sd"
  | (with_reducible apply rc_times_int) <;> walk_at "sd"
  | (with_reducible apply rc_int_times) <;> walk_at "sd"
  | (with_reducible apply rc_less0) <;> walk_at "sd"
  | (with_reducible apply rc_init) <;> walk_at "sd")
local macro_rules | `(tactic| walk_at "evD") => `(tactic| first
  | (with_reducible apply ed_sum) <;> walk_at "go"
  | (with_reducible apply ed_min) <;> walk_at "go"
  | (with_reducible apply ed_max) <;> walk_at "go"
  | (with_reducible apply ed_heavy) <;> walk_at "go"
  | (with_reducible apply ed_table) <;> walk_at "go"
  | (with_reducible apply ed_make) <;> walk_at "go"
  | (with_reducible apply ed_meth) <;> walk_at "go"
  | (with_reducible apply ed_fldA) <;> walk_at "fd")
local macro_rules | `(tactic| walk_at "evL") => `(tactic| first
  | (with_reducible apply el_list) <;> walk_at "go"
  | (with_reducible apply el_cat) <;> walk_at "go"
  | (with_reducible apply el_rep) <;> walk_at "go"
  | (with_reducible apply el_slice) <;> walk_at "go"
  | (with_reducible apply el_meth) <;> walk_at "go")
local macro_rules | `(tactic| walk_at "evS") => `(tactic| first
  | (with_reducible apply es_fldA) <;> walk_at "fd")
local macro_rules | `(tactic| walk_at "evO") => `(tactic| first
  | with_reducible exact eo_none
  | (with_reducible apply eo_some) <;> walk_at "go")
local macro_rules | `(tactic| walk_at "go") => `(tactic| first
  | ((with_reducible show EvO _ _ _ _ _); walk_at "evO"))
local macro_rules | `(tactic| walk_at "fld") => `(tactic| first
  | (with_reducible apply sq_fld) <;> walk_at "st"
  | (with_reducible apply at_fld) <;> walk_at "st")
local macro_rules | `(tactic| walk_at "fldL") => `(tactic| first
  | (with_reducible apply sq_fldL) <;> walk_at "st"
  | (with_reducible apply at_fldL) <;> walk_at "st")
local macro_rules | `(tactic| walk_at "drop") => `(tactic| first
  | (with_reducible apply sq_drop) <;> walk_at "st"
  | (with_reducible apply at_drop) <;> walk_at "st")
theorem bodies_int (ns : List Int) : 1 + ns.getD 0 0 % 4 = (bodiesOf ns : Int) := by unfold bodiesOf; omega
theorem ropes_int (ns : List Int) : ns.getD 0 0 / 4 % 6 = (ropesN ns : Int) := by unfold ropesN; omega
theorem bodies_le (ns : List Int) : 1 ≤ bodiesOf ns ∧ bodiesOf ns ≤ 4 := by unfold bodiesOf; omega
theorem ropes_le (ns : List Int) : ropesN ns ≤ 5 := by unfold ropesN; omega
theorem menu_le : ∀ j, j < 16 → -9 ≤ menu.getD j 0 ∧ menu.getD j 0 ≤ 9 := by decide
theorem tableOf_len (ns : List Int) (f r b : Nat) : (tableOf ns f r b).length = r := by simp [tableOf]
theorem tableOf_row {ns : List Int} {f r b : Nat} : ∀ row ∈ tableOf ns f r b, row.length = b ∧ ∀ z ∈ row, -9 ≤ z ∧ z ≤ 9 := by
  intro row h
  obtain ⟨i, _, rfl⟩ := List.mem_map.mp h
  refine ⟨by simp [rowOf], fun z hz => ?_⟩
  obtain ⟨j, _, rfl⟩ := List.mem_map.mp hz
  refine menu_le _ ?_
  omega
section
variable {K : PySem.W.Frag} {C pN : Addr}
theorem dI_snoc (l : List Int) (x : Int) : dI (l ++ [x]) = dI l ++ [.int x] := List.map_append
def mkW (ns : List Int) (b : Nat) : Int := ns.getD (7 + b) 0 / 5 % wmenu.getD (ns.getD (7 + b) 0 % 5).toNat 1
def mkM (ns : List Int) (b : Nat) : Int := ((List.range (ropesN ns)).map fun r => tget (drawnTb ns) r b * madeP ns r).sum
theorem p_law_drawn : Body (t_law_drawn K C) n_law_drawn (sp_law_drawn K C) := by
  rintro vs H Q E ⟨ds, d, r, ⟨ns, rfl, rfl⟩, k⟩
  refine start_at r (n := 8) (by rw [r.length]; rfl) ?_
  have q0 : (0 : Int) = ((0 : Nat) : Int) := rfl
  have q1 : (1 : Int) = ((1 : Nat) : Int) := rfl
  have q2 : (2 : Int) = ((2 : Nat) : Int) := rfl
  have hb4 := bodies_le ns
  have hr5 := ropes_le ns
  have a0 : CDivW (ns.getD 0 0) 4 := ⟨by decide, by decide +kernel⟩
  have z5 : (0 : Int) < 5 := by decide
  have z9 : (0 : Int) < 9 := by decide
  have h1 : bodiesOf ns ≤ 10 := by omega
  have h2 : ropesN ns ≤ 10 := by omega
  have tl : (drawnTb ns).length = ropesN ns := tableOf_len ..
  unfold t_law_drawn
  refine sq_asg (d := .int (bodiesOf ns)) (EvD.to (by walk_at "evD") (by rw [bodies_int])) (by simp [uns]) ?_
  refine sq_asg (d := .int (ropesN ns)) (EvD.to (by walk_at "evD") (by rw [ropes_int])) (by simp [uns]) ?_
  refine sq_asg (d := .lst .f (dRows .f (drawnTb ns))) (EvL.dat (ev_callL (by walk_at "evA") (by walk_at "era") (rc_table (ns := ns) (first := 2) (ropes := ropesN ns) (bodies := bodiesOf ns) rfl rfl rfl h2 h1) (by walk_at "frs"))) (by simp [uns]) ?_
  walk_at "asgL"
  refine sq_forN (n := bodiesOf ns) (by walk_at "evA") (by omega) (fun i ρ' => ∃ c5 c6, ρ' = [.dat (.scr ns), .dat (.int (bodiesOf ns)), .dat (.int (ropesN ns)), .dat (.lst .f (dRows .f (drawnTb ns))), .own (dI ((List.range i).map (mkW ns))), c5, c6, .un, .un]) ⟨_, _, rfl⟩ (by rintro i ρ' ⟨_, _, rfl⟩; simp) ?_ ?_
  · rintro b ρ' hb ⟨c5, c6, rfl⟩
    dsimp only [List.set]
    have e1 : (7 : Int) + (b : Int) = ((7 + b : Nat) : Int) := by omega
    have a1 : atI [D.int 21, .int 21, .int 4, .int 1001, .int 21] (ns.getD (7 + b) 0 % 5) = some (.int (wmenu.getD (ns.getD (7 + b) 0 % 5).toNat 1)) := atI_ints (l := wmenu) 1 (by omega) (by show ns.getD (7 + b) 0 % 5 < 5; omega)
    have a2 : 0 < wmenu.getD (ns.getD (7 + b) 0 % 5).toNat 1 := by
      have key : ∀ j, j < 5 → 0 < wmenu.getD j 1 := by decide
      exact key _ (by omega)
    have a3 : CDivW (ns.getD (7 + b) 0) 5 := ⟨by decide, by decide +kernel⟩
    walk_at "asg"
    refine at_append rfl (by walk_at "evD") (by simp; omega) ?_
    dsimp only [List.set]
    exact at_gx ⟨_, _, by rw [range_map_succ, dI_snoc]; rfl⟩
  rintro ρ' ⟨c5, c6, rfl⟩
  have fin : ∀ (m : Mark) (c5 c6 c7 c8 : Cell) (D0 : Ends), D0.rt = Q → m = .f → At K C H H (tRet (tTup (tCons (tVar 4) (tCons (tVar 3) tNil))) D0)
      [.dat (.scr ns), .dat (.int (bodiesOf ns)), .dat (.int (ropesN ns)), .dat (.lst .f (dRows .f (drawnTb ns))), .dat (.lst m (dI (drawnWs ns))), c5, c6, c7, c8] := by
    intro m c5 c6 c7 c8 D0 hD hm
    subst hm
    rw [← hD] at k
    walk_at "ret"
  have a4 : CDivW 1 1 := ⟨by decide, by decide +kernel⟩
  have z3 : (0 : Int) < 3 := by decide
  walk_at "when"
  · rename_i hb
    have hb' : 0 < ns.getD 1 0 % 3 := of_decide_eq_true hb
    walk_at "asgL"
    refine sq_forN (n := bodiesOf ns) (by walk_at "evA") (by omega) (fun i ρ' => ∃ c5 c6 c8, ρ' = [.dat (.scr ns), .dat (.int (bodiesOf ns)), .dat (.int (ropesN ns)), .dat (.lst .f (dRows .f (drawnTb ns))), .own (dI ((List.range (bodiesOf ns)).map (mkW ns))), c5, c6, .own (dI ((List.range i).map (mkM ns))), c8]) ⟨_, _, _, rfl⟩ (by rintro i ρ' ⟨_, _, _, rfl⟩; simp) ?_ ?_
    · rintro b ρ' hb ⟨c5, c6, c8, rfl⟩
      dsimp only [List.set]
      have el : EvL K C (tLc (iRng1 (tCons (tVar 2) tNil)) (gName 8) tYes (xMul (xIdx K (xIdx K (tVar 3) (tVar 8)) (tVar 5)) (xMod (xDiv (tCall (sp_law_cell_at K C) [] E0 (tCons (tVar 0) (tCons (xAdd (tC (.int 7)) (tVar 8)) tNil))) (tC (.int 7))) (tC (.int 9)))) [8])
          [.dat (.scr ns), .dat (.int (bodiesOf ns)), .dat (.int (ropesN ns)), .dat (.lst .f (dRows .f (drawnTb ns))), .own (dI ((List.range (bodiesOf ns)).map (mkW ns))), .dat (.int b), c6, .own (dI ((List.range b).map (mkM ns))), c8]
          (((List.range (ropesN ns)).map fun r => tget (drawnTb ns) r b * madeP ns r).map D.int) := by
        refine EvL.to (el_lcN (n := ropesN ns) (g := fun r => .int (tget (drawnTb ns) r b * madeP ns r)) (by walk_at "evA") (by omega) (by simp) fun r hr => ?_) (by simp)
        dsimp only [List.set]
        have e1 : (7 : Int) + (r : Int) = ((7 + r : Nat) : Int) := by omega
        have a3 : CDivW (ns.getD (7 + r) 0) 7 := ⟨by decide, by decide +kernel⟩
        have hrow : ((drawnTb ns).getD r []).length = bodiesOf ns ∧ ∀ z ∈ (drawnTb ns).getD r [], -9 ≤ z ∧ z ≤ 9 := tableOf_row _ (getD_mem (a := []) (show r < (drawnTb ns).length by omega))
        have a1 : atI (dRows .f (drawnTb ns)) (r : Int) = some (.lst .f (dI ((drawnTb ns).getD r []))) := atI_rows (by omega)
        have a2 : atI (dI ((drawnTb ns).getD r [])) (b : Int) = some (.int (tget (drawnTb ns) r b)) := atI_map 0 (by omega)
        have t9 := hrow.2 _ (getD_mem (a := 0) (show b < ((drawnTb ns).getD r []).length by omega))
        have a6 : CMulW (tget (drawnTb ns) r b) (ns.getD (7 + r) 0 / 7 % 9) := wide_mul (a := 4) (b := 4) (by unfold tget; omega) (by omega) (by decide) (by decide) (by decide)
        refine EvD.to (d := .int (tget (drawnTb ns) r b * (ns.getD (7 + r) 0 / 7 % 9))) ?_ rfl
        walk_at "evD"
      refine at_append rfl (ed_sum el.s) (by simp; omega) ?_
      dsimp only [List.set]
      exact at_gx ⟨_, _, _, by rw [range_map_succ, dI_snoc]; rfl⟩
    rintro ρ' ⟨c5, c6, c8, rfl⟩
    change At K C H H _ [_, _, _, _, .own (dI (drawnW0 ns)), c5, c6, .own (dI (drawnMade ns)), c8]
    have hne : drawnMade ns ≠ [] := by
      intro z
      have q : bodiesOf ns = 0 := by simpa [drawnMade] using congrArg List.length z
      omega
    obtain ⟨lo, hlo⟩ := exMin hne
    obtain ⟨hi, hhi⟩ := exMax hne
    refine At.freeze (i := 7) rfl ?_
    dsimp only [List.set]
    refine at_when (b := decide (0 ≤ lo) && decide (hi ≤ 1000)) (by walk_at "evB") ?_ ?_
    · intro hb2
      rw [Bool.and_eq_true, decide_eq_true_eq, decide_eq_true_eq] at hb2
      have e : drawnWs ns = drawnMade ns := by
        unfold drawnWs
        rw [if_pos ⟨hb', fun w hw => ⟨Int.le_trans hb2.1 (hlo.le w hw), Int.le_trans (hhi.le w hw) hb2.2⟩⟩]
      walk_at "asg"
      rw [← e]
      exact fin .f _ _ _ _ _ rfl rfl
    · intro hb2
      have e : drawnWs ns = drawnW0 ns := by
        unfold drawnWs
        rw [if_neg]
        rintro ⟨_, h⟩
        rw [decide_eq_true (h lo hlo.mem).1, decide_eq_true (h hi hhi.mem).2] at hb2
        exact nomatch hb2
      refine At.freeze (i := 4) rfl ?_
      dsimp only [List.set]
      rw [← e]
      exact fin .f _ _ _ _ _ rfl rfl
  · rename_i hb
    have hb' : ¬ 0 < ns.getD 1 0 % 3 := of_decide_eq_false hb
    change At K C H H _ [_, _, _, _, .own (dI (drawnW0 ns)), c5, c6, .un, .un]
    have e : drawnWs ns = drawnW0 ns := by
      unfold drawnWs
      rw [if_neg]
      rintro ⟨h, _⟩
      exact hb' h
    refine At.freeze (i := 4) rfl ?_
    dsimp only [List.set]
    rw [← e]
    exact fin .f _ _ _ _ _ rfl rfl
end
end Hw
namespace Hw
open PySem L2
/-! ropes however written have the strands of the table -/
theorem sumAt_nil (b : Int) : sumAt [] b = 0 := rfl
theorem sumAt_cons (p : Int × Int) (ps : List (Int × Int)) (b : Int) : sumAt (p :: ps) b = (if p.1 = b then p.2 else 0) + sumAt ps b := by
  unfold sumAt
  rw [List.filter_cons]
  by_cases h : p.1 = b
  · rw [if_pos (decide_eq_true h), if_pos h]; simp
  · rw [if_neg (by simpa using h), if_neg h]; simp
theorem sumAt_append (b : Int) : ∀ ps qs : List (Int × Int), sumAt (ps ++ qs) b = sumAt ps b + sumAt qs b
  | [], qs => by rw [List.nil_append, sumAt_nil, Int.zero_add]
  | p :: ps, qs => by rw [List.cons_append, sumAt_cons, sumAt_cons, sumAt_append b ps qs]; omega
theorem sumAt_reverse (b : Int) : ∀ ps : List (Int × Int), sumAt ps.reverse b = sumAt ps b
  | [] => rfl
  | p :: ps => by rw [List.reverse_cons, sumAt_append, sumAt_cons, sumAt_cons, sumAt_nil, sumAt_reverse b ps]; omega
theorem sumAt_pairs (row : List Int) (b : Nat) : ∀ n : Nat, sumAt ((List.range n).filterMap fun j => if row.getD j 0 = 0 then none else some ((j : Int), row.getD j 0)) b = if b < n then row.getD b 0 else 0
  | 0 => by simp [sumAt_nil]
  | n + 1 => by
    rw [range_fm_succ, sumAt_append, sumAt_pairs row b n]
    by_cases h : row.getD n 0 = 0
    · simp only [h, if_true]
      rw [sumAt_nil]
      by_cases e : b = n
      · subst e; rw [if_neg (by omega), if_pos (by omega), h]; rfl
      · by_cases l : b < n
        · rw [if_pos l, if_pos (by omega)]; omega
        · rw [if_neg l, if_neg (by omega)]; rfl
    · simp only [h, if_false]
      rw [sumAt_cons, sumAt_nil]
      by_cases e : b = n
      · subst e
        show (if b < b then row.getD b 0 else 0) + ((if (b : Int) = (b : Int) then row.getD b 0 else 0) + 0) = _
        rw [if_neg (by omega), if_pos (by omega), if_pos (by omega)]; omega
      · show (if b < n then row.getD b 0 else 0) + ((if (n : Int) = (b : Int) then row.getD n 0 else 0) + 0) = _
        rw [if_neg (show ¬ (n : Int) = (b : Int) by omega)]
        by_cases l : b < n
        · rw [if_pos l, if_pos (by omega)]; omega
        · rw [if_neg l, if_neg (by omega)]; rfl
theorem sumAt_rope {row : List Int} {cell : Int} {b : Nat} (hb : b < row.length) : sumAt (ropeOf cell row) b = row.getD b 0 := by
  have h1 : sumAt (pairsOf row) b = row.getD b 0 := by rw [pairsOf, sumAt_pairs, if_pos hb]
  unfold ropeOf
  by_cases c1 : cell % 3 = 1
  · rw [if_pos c1, sumAt_reverse, h1]
  · rw [if_neg c1]
    by_cases c2 : cell % 3 = 2
    · rw [if_pos c2, sumAt_append, sumAt_append, h1, sumAt_cons, sumAt_cons, sumAt_cons, sumAt_nil]
      show (if (row.length : Int) - 1 = (b : Int) then 0 else 0) + ((if (0 : Int) = (b : Int) then 1 else 0) + 0) + row.getD b 0 + ((if (0 : Int) = (b : Int) then -1 else 0) + 0) = _
      have : (if (row.length : Int) - 1 = (b : Int) then (0 : Int) else 0) = 0 := by by_cases z : (row.length : Int) - 1 = (b : Int) <;> simp [z]
      rw [this]
      by_cases z : (0 : Int) = (b : Int)
      · rw [if_pos z, if_pos z]; omega
      · rw [if_neg z, if_neg z]; omega
    · rw [if_neg c2, h1]
theorem tbOf_ropes {tb : List (List Int)} {n : Nat} {cell : Int} (h : ∀ r ∈ tb, r.length = n) : tbOf n (ropesOf tb cell) = tb := by
  unfold tbOf ropesOf
  rw [List.map_map]
  conv => rhs; rw [← List.map_id tb]
  refine List.map_congr_left fun row hr => ?_
  have hn := h row hr
  apply List.ext_getElem (by simp [hn])
  intro b h1 h2
  have hb : b < row.length := by simpa using h2
  have e := sumAt_rope (cell := cell) hb
  rw [List.getD_eq_getElem?_getD, List.getElem?_eq_getElem hb] at e
  simpa using e
theorem pairs_mem {row : List Int} {p : Int × Int} (h : p ∈ pairsOf row) : 0 ≤ p.1 ∧ p.1 < row.length ∧ p.2 ∈ row := by
  unfold pairsOf at h
  obtain ⟨j, hj, e⟩ := List.mem_filterMap.mp h
  have hj' := List.mem_range.mp hj
  by_cases z : row.getD j 0 = 0
  · rw [if_pos z] at e; cases e
  · rw [if_neg z] at e
    cases e
    exact ⟨by show 0 ≤ (j : Int); omega, by show (j : Int) < _; omega, getD_mem hj'⟩
theorem rope_ok {row : List Int} {cell : Int} (h1 : 1 ≤ row.length) (h4 : row.length ≤ 4) (hz : ∀ z ∈ row, -9 ≤ z ∧ z ≤ 9) : PairsOk row.length (ropeOf cell row) := by
  have hl : (pairsOf row).length ≤ row.length := pairs_len row row.length
  have hp : ∀ p ∈ pairsOf row, (0 ≤ p.1 ∧ p.1 < (row.length : Int)) ∧ (-9 ≤ p.2 ∧ p.2 ≤ 9) := fun p hp => by
    obtain ⟨a, b, c⟩ := pairs_mem hp
    exact ⟨⟨a, b⟩, hz _ c⟩
  unfold ropeOf
  by_cases c1 : cell % 3 = 1
  · rw [if_pos c1]
    exact ⟨by rw [List.length_reverse]; omega, fun p h => hp p (List.mem_reverse.mp h)⟩
  · rw [if_neg c1]
    by_cases c2 : cell % 3 = 2
    · rw [if_pos c2]
      refine ⟨by simp; omega, fun p h => ?_⟩
      rcases List.mem_append.mp h with h | h
      · rcases List.mem_append.mp h with h | h
        · rcases List.mem_cons.mp h with rfl | h
          · exact ⟨⟨by show (0 : Int) ≤ row.length - 1; omega, by show (row.length : Int) - 1 < row.length; omega⟩, by show (-9 : Int) ≤ 0; decide, by show (0 : Int) ≤ 9; decide⟩
          · rw [show p = (0, 1) by simpa using h]
            exact ⟨⟨by decide, by show (0 : Int) < row.length; omega⟩, by decide, by decide⟩
        · exact hp p h
      · rw [show p = (0, -1) by simpa using h]
        exact ⟨⟨by decide, by show (0 : Int) < row.length; omega⟩, by decide, by decide⟩
    · rw [if_neg c2]
      exact ⟨by omega, hp⟩
theorem HoOk.valid {ws : List Int} {tb : List (List Int)} {cell : Int} (h : HoOk ws tb) : ValidH ws (ropesOf tb cell) where
  w1 := h.w1
  w4 := h.w4
  r5 := by simp [ropesOf]; exact h.r5
  wv := h.wv
  ps := fun p hp => by
    obtain ⟨row, hr, rfl⟩ := List.mem_map.mp hp
    have e := h.row row hr
    have w1 := h.w1
    have w4 := h.w4
    have := rope_ok (cell := cell) (row := row) (by omega) (by omega) (h.st row hr)
    rw [e] at this
    exact this
  st := by rw [tbOf_ropes h.row]; exact h.st
theorem drawnWs_len (ns : List Int) : (drawnWs ns).length = bodiesOf ns := by
  unfold drawnWs
  split <;> simp [drawnMade, drawnW0]
theorem wmenu_le : ∀ j, j < 5 → 0 < wmenu.getD j 1 ∧ wmenu.getD j 1 ≤ 1001 := by decide
theorem HoOk.drawn (ns : List Int) : HoOk (drawnWs ns) (drawnTb ns) where
  w1 := by rw [drawnWs_len]; exact (bodies_le ns).1
  w4 := by rw [drawnWs_len]; exact (bodies_le ns).2
  r5 := by rw [show (drawnTb ns).length = ropesN ns from tableOf_len ..]; exact ropes_le ns
  wv := fun w hw => by
    unfold drawnWs at hw
    split at hw
    · rename_i h; exact h.2 w hw
    · obtain ⟨b, _, rfl⟩ := List.mem_map.mp hw
      have h1 := wmenu_le (ns.getD (7 + b) 0 % 5).toNat (by omega)
      generalize wmenu.getD (ns.getD (7 + b) 0 % 5).toNat 1 = m at *
      have h2 := Int.emod_nonneg (ns.getD (7 + b) 0 / 5) (show m ≠ 0 by omega)
      have h3 := Int.emod_lt_of_pos (ns.getD (7 + b) 0 / 5) h1.1
      constructor
      · exact h2
      · show ns.getD (7 + b) 0 / 5 % m ≤ 1000
        omega
  row := fun r hr => by rw [drawnWs_len]; exact (tableOf_row r hr).1
  st := fun r hr => (tableOf_row r hr).2
theorem drawn_tb (ns : List Int) (cell : Int) : tbOf (drawnWs ns).length (ropesOf (drawnTb ns) cell) = drawnTb ns := tbOf_ropes (HoOk.drawn ns).row
theorem SzL.row (ns : List Int) (f m : Nat) : SzL 100 (rowF ns f m) := fun q hq => by
  obtain ⟨k, _, rfl⟩ := List.mem_map.mp hq
  exact (fracOf_sz _).mono (by decide)
end Hw
namespace Hw
open PySem L2
/-! places of the text: classes and constants -/
section
variable {K : PySem.W.Frag} {mg : Str → Option Value} {C : Addr}
abbrev adrOf {x : Str} (_ : mg x = some (.ref C)) : Addr := C
theorem withAt {X : Prop} {h : Heap} {x : Str} {v : Value} (KX : K.In h) (G : h.Ns mainGlobals mg) (e : PySem.W.nsIn K mainGlobals x = some (some v)) (r : mg x = some v → X) : X := r (PySem.W.mg_of KX G e)
theorem HoT.of {h : Heap} {x : Str} (_ : K.In h) (_ : mg x = some (.ref C)) (pg : PySem.W.plainGet K C Str.empty = true) (hd : PySem.W.hasDictIn K C = true) (po : PySem.W.plainOver K C = true) (sa : PySem.W.findIn K (.ref C) "__setattr__" = some (some (.builtin "object.__setattr__")))
    (n1 : PySem.W.findIn K (.ref C) "heavy" = some none) (n2 : PySem.W.findIn K (.ref C) "table" = some none) : HoT K C := ⟨⟨pg, hd, po, sa⟩, n1, n2⟩
theorem InitAt.of' {h : Heap} {x : Str} (_ : K.In h) (_ : mg x = some (.ref C)) {qual : Str} {st : Stmt} {ps : List Str} {f : Addr} {oc : Value} {od an : Option Addr} {osl : Array (Option Value)} {kV doc pm cdv ct : Value} (mk : PySem.W.makesIn K C = true) (a : PySem.W.findIn K (.ref C) "__init__" = some (some (.ref f))) (i : PySem.W.isFn K (.ref f) = true)
    (l : K.lookup f = some ⟨oc, od, .func (PySem.W.fnOf "__init__" qual (defArgs st) (defBody st) (defScope st) .none kV doc pm an cdv ct), osl⟩) (c : PySem.W.codeIn K cdv qual = true) (k : PySem.W.keepIn K (.ref f) = true) (kC : PySem.W.keepIn K (.ref C) = true)
    (b : ∀ (kV doc pm : Value) (an : Option Addr) (cdv ct : Value) (us : List Value), us.length = ps.length → bindArgs (PySem.W.fnOf "__init__" qual (defArgs st) (defBody st) (defScope st) .none kV doc pm an cdv ct) ⟨us, []⟩ = pure (ps.zip us)) : InitAt K C qual st ps := InitAt.of mk a i l c k kC b
theorem MethAt.of' {h : Heap} {x : Str} (_ : K.In h) (_ : mg x = some (.ref C)) {m qual : Str} {st : Stmt} {ps : List Str} {f : Addr} {oc : Value} {od an : Option Addr} {osl : Array (Option Value)} {kV doc pm cdv ct : Value} (a : PySem.W.findIn K (.ref C) m = some (some (.ref f))) (i : PySem.W.isFn K (.ref f) = true)
    (l : K.lookup f = some ⟨oc, od, .func (PySem.W.fnOf m qual (defArgs st) (defBody st) (defScope st) .none kV doc pm an cdv ct), osl⟩) (c : PySem.W.codeIn K cdv qual = true) (k : PySem.W.keepIn K (.ref f) = true)
    (b : ∀ (kV doc pm : Value) (an : Option Addr) (cdv ct : Value) (us : List Value), us.length = ps.length → bindArgs (PySem.W.fnOf m qual (defArgs st) (defBody st) (defScope st) .none kV doc pm an cdv ct) ⟨us, []⟩ = pure (ps.zip us)) : MethAt K C m qual st ps := MethAt.of a i l c k b
theorem pair_of {h : Heap} {x : Str} (_ : K.In h) (_ : mg x = some (.ref C)) {a b : Int} {t u : Tok} {od : Option Addr} {n : Nat} {sl : Array (Option Value)} (l : K.lookup C = some ⟨.type "tuple", od, .seq #[.int a t, .int b u] n, sl⟩) : SqT K (fun _ => none) C [.int a, .int b] :=
  .inr ⟨_, _, _, l, rfl, rfl, (by show 2 ≤ sizeLine; decide), .cons ⟨t, rfl⟩ (.cons ⟨u, rfl⟩ .nil)⟩
end
theorem lenMk {K : PySem.W.Frag} {C : Addr} {R : List D → List Int → List (List Int) → Prop} {n : Nat} (hR : ∀ ds ws tb, R ds ws tb → ds.length = n) : ∀ vs H Q E, spMk K C R vs H Q E → vs.length = n + 1 := fun vs H Q E ⟨x, dx, vs', ds, ws, tb, e, _, r, q, _⟩ => by rw [e, List.length_cons, r.length, hR _ _ _ q]
end Hw
namespace Hw
open PySem L2 PySem.Spec PyProof.Rows
/-! min(xs, default=d) of a list of ints -/
section
variable {prog : Program} {w : World} {A : Around} {E : Value → Shared → Prop}
theorem minD_loop {I : Addr} {fp wr : List Addr} {n : Nat} {P : Nat → Value → Prop} {St : Nat → Heap → Prop} {R : Result → Shared → Prop} {kw : List (Str × Value)} (W : Walks prog w A.in1 I fp wr n P St) (bt : Nat → Nat → Bool) (hcmp : CmpOf prog w A.in1 .Lt P bt) (S : Addr) (hSf : S ∉ fp) :
    ∀ (k j : Nat) (s : Shared) (vb : Value) (c : Nat), n - (j + 1) = k → j + 1 ≤ n → St (j + 1) s.heap → P (argBest bt j) vb →
    s.heap.get? S = some { cls := .type "list", dict := none, data := .seq #[vb, vb] c, slots := #[] } →
    (∀ v h' tk, P (argBest bt (n - 1)) v → (∀ b o, b ∉ wr → b ≠ S → s.heap.get? b = some o → h'.get? b = some o) → R (.ok (.ret v)) { s with heap := h', toks := tk }) →
    codeAny (model prog w) A (.builtin "min.loop" ⟨[.ref I, .none, .ref S], kw⟩) R s := by
  have hSw : S ∉ wr := fun h => hSf (W.sub _ h)
  have hname : (toString "min" ++ toString ".loop" : String) = "min.loop" := by decide
  intro k
  induction k with
  | zero =>
    intro j s vb c hk hj hst hPb hS hR
    have hin : j + 1 = n := by omega
    refine codeAny_builtin PySem.F.entry_min_loop ?_
    rw [Around.under_plainId PySem.F.plain_min_loop _]
    show wpAny _ A.in1 (seqItems? (.ref S) >>= _) _ _ s
    refine wpAny_bind (wpAny_seqItems hS rfl ?_)
    show wpAny _ A.in1 (tryCatch (pyNext (.ref I)) _ >>= _) _ _ s
    refine wpAny_bind (wpAny_tryCatch (W.done s _ _ (hin ▸ hst) fun h' tk hk' => ?_))
    have hS' := hk' S _ hSw hS
    show wpAny _ A.in1 (updateSeq S (fun _ => #[]) >>= _) _ _ _
    refine wpAny_bind ?_
    refine wpAny_updateSeq hS' rfl (wpAny_bind (wpAny_letGo (wpAny_pure ?_)))
    exact hR vb _ tk (by rw [← hin]; exact hPb) fun b o hbw hbS e => (Heap.get?_update_other _ _ (Ne.symm hbS)).trans (hk' b o hbw e)
  | succ k ih =>
    intro j s vb c hk hj hst hPb hS hR
    have hlt : j + 1 < n := by omega
    refine codeAny_builtin PySem.F.entry_min_loop ?_
    rw [Around.under_plainId PySem.F.plain_min_loop _]
    show wpAny _ A.in1 (seqItems? (.ref S) >>= _) _ _ s
    refine wpAny_bind (wpAny_seqItems hS rfl ?_)
    show wpAny _ A.in1 (tryCatch (pyNext (.ref I)) _ >>= _) _ _ s
    refine wpAny_bind (wpAny_tryCatch (W.item (j + 1) s _ _ hlt hst fun v h' tk hP hst' hk' => ?_))
    have hS' := hk' S _ hSw hS
    show wpAny _ A.in1 (tryCatch (holding [v, v] (richCompare .Lt v vb >>= _)) _ >>= _) _ _ _
    refine wpAny_bind (wpAny_tryCatch (wpAny_holding (wpAny_bind (hcmp (j + 1) (argBest bt j) v vb _ _ _ hP hPb ?_))))
    refine wpAny_bind (wpAny_holding (wpAny_truthy_bool ?_))
    refine wpAny_bind (wpAny_letGo (wpAny_pure ?_))
    cases hb : bt (j + 1) (argBest bt j) with
    | true =>
      simp only [if_true]
      refine wpAny_bind ?_
      refine wpAny_updateSeq hS' rfl (wpAny_bind (wpAny_letGo ?_))
      rw [hname]
      refine wpAny_pure ⟨plainId_quiet PySem.F.plain_min_loop _, ih (j + 1) _ v _ (by omega) hlt (W.frame _ _ _ hst' fun b hbf o e => ?_) (by simp only [argBest, hb, if_true]; exact hP) (Heap.get?_update_self _ hS' rfl)
        fun v' h'' tk'' hP' hk'' => ?_⟩
      · exact (Heap.get?_update_other _ _ (fun h : S = b => hSf (by rw [h]; exact hbf))).trans e
      · exact hR v' h'' tk'' hP' fun b o hbw hbS e => hk'' b o hbw hbS ((Heap.get?_update_other _ _ (Ne.symm hbS)).trans (hk' b o hbw e))
    | false =>
      simp only [Bool.false_eq_true, if_false]
      refine wpAny_bind (wpAny_letGo ?_)
      rw [hname]
      refine wpAny_pure ⟨plainId_quiet PySem.F.plain_min_loop _, ih (j + 1) _ vb c (by omega) hlt hst' (by simp only [argBest, hb, Bool.false_eq_true, if_false]; exact hPb) hS' fun v' h'' tk'' hP' hk'' => ?_⟩
      exact hR v' h'' tk'' hP' fun b o hbw hbS e => hk'' b o hbw hbS (hk' b o hbw e)
theorem minD_args (a v : Value) : argsOk "min" ⟨[a], [(Str.ofString "default", v)]⟩ := by unfold argsOk; kernel_rfl
theorem call_minD {s : Shared} {l : Addr} {xs : Array (Int × Tok)} {d : Value} {Q : Value → Shared → Prop} (hh : A.handled = none) (hl : s.heap.IsList l (intItems xs))
    (h0 : xs.size = 0 → ∀ h' tk, (∀ b o, s.heap.get? b = some o → h'.get? b = some o) → Q d { s with heap := h', toks := tk })
    (h : 0 < xs.size → ∀ v h' tk, (intItems xs)[argBest (fun i j => decide (numAt xs i < numAt xs j)) (xs.size - 1)]? = some v → (∀ b o, s.heap.get? b = some o → h'.get? b = some o) → Q v { s with heap := h', toks := tk }) :
    wpAny (model prog w) A (call (.builtin "min") [.ref l] [(Str.ofString "default", d)]) Q E s := by
  have hname : (toString "min" ++ toString ".loop" : String) = "min.loop" := by decide
  refine PyProof.Rows.kmk_tree PySem.F.kind_min PySem.F.plain_min PySem.F.entry_min (minD_args _ _) ?_
  show wpAny _ A.in1 (Builtin.Builtins.bindParams "min" ["key", "default"] 0 ⟨[], [(Str.ofString "default", d)]⟩ >>= _) _ _ s
  refine wpAny_bind (wpAny_of_eq (show Builtin.Builtins.bindParams "min" ["key", "default"] 0 ⟨[], [(Str.ofString "default", d)]⟩ = pure [none, some d] from rfl) ?_)
  refine wpAny_bind (wpAny_pure ?_)
  refine wpAny_bind (iter_intList hl fun s₂ e st hfp hlI => ?_)
  have W := Walks.list (prog := prog) (w := w) (A := A.in1) hh s.heap.objs.size l hlI (intItems xs)
  have hsz : (intItems xs).size = xs.size := by simp [intItems]
  refine wpAny_bind (wpAny_newObj_type ?_)
  rw [hname]
  have hSf : s₂.heap.objs.size ∉ [s.heap.objs.size, l] := fun hm => Nat.lt_irrefl _ (hfp _ hm)
  have hSw : s₂.heap.objs.size ∉ [s.heap.objs.size] := fun hm => hSf (W.sub _ hm)
  have keep : ∀ {h' : Heap}, (∀ b o, b ∉ [s.heap.objs.size] → b ≠ s₂.heap.objs.size → (s₂.heap.push (seqObj "list" #[] 0)).get? b = some o → h'.get? b = some o) → ∀ b o, s.heap.get? b = some o → h'.get? b = some o := fun hk b o q => by
    have hlt : b < s.heap.objs.size := Heap.lt_size q
    have q2 : s₂.heap.get? b = some o := by rw [e]; exact Heap.get?_push_of_some _ q
    exact hk b o (fun m => Nat.ne_of_lt hlt (by simpa using m)) (Nat.ne_of_lt (Heap.lt_size q2)) (Heap.get?_push_of_some _ q2)
  have st2 : (fun (i : Nat) (h : Heap) => h.IsListIter s.heap.objs.size l i ∧ h.IsList l (intItems xs)) 0 (s₂.heap.push (seqObj "list" #[] 0)) := W.frame _ _ _ st fun b _ o q => Heap.get?_push_of_some _ q
  have gS : (s₂.heap.push (seqObj "list" #[] 0)).get? s₂.heap.objs.size = some (seqObj "list" #[] 0) := Heap.get?_push_size _ rfl
  refine wpAny_pure ⟨plainId_quiet PySem.F.plain_min_loop _, ?_⟩
  refine codeAny_builtin PySem.F.entry_min_loop ?_
  rw [Around.under_plainId PySem.F.plain_min_loop _]
  show wpAny _ A.in1 (seqItems? (.ref _) >>= _) _ _ _
  refine wpAny_bind (wpAny_seqItems gS rfl ?_)
  show wpAny _ A.in1 (tryCatch (pyNext (.ref s.heap.objs.size)) _ >>= _) _ _ _
  by_cases hz : xs.size = 0
  · refine wpAny_bind (wpAny_tryCatch (W.done _ _ _ (by rw [hsz, hz]; exact st2) fun h' tk hk' => ?_))
    show wpAny _ A.in1 (rule _ >>= fun _ => ret d) _ _ _
    refine wpAny_bind (wpAny_rule (wpAny_pure ?_))
    have := h0 hz h' tk (keep fun b o h1 h2 q => hk' b o h1 q)
    subst e
    exact this
  · have hpos : 0 < xs.size := by omega
    refine wpAny_bind (wpAny_tryCatch (W.item 0 _ _ _ (by rw [hsz]; exact hpos) st2 fun v h' tk hP hst' hk' => ?_))
    have hS' := hk' _ _ hSw gS
    show wpAny _ A.in1 (updateSeq s₂.heap.objs.size (fun _ => #[v, v]) >>= _) _ _ _
    refine wpAny_bind ?_
    refine wpAny_updateSeq hS' rfl ?_
    rw [hname]
    refine wpAny_pure ⟨plainId_quiet PySem.F.plain_min_loop _, minD_loop W (fun i j => decide (numAt xs i < numAt xs j)) (CmpOf.ints_lt (numAt xs) (fun _ _ => intItems_at)) _ hSf _ 0 _ v _ rfl (by rw [hsz]; exact hpos) (W.frame _ _ _ hst' fun b hbf o q => ?_) hP (Heap.get?_update_self _ hS' rfl) fun v' h'' tk'' hP' hk'' => ?_⟩
    · exact (Heap.get?_update_other _ _ (fun h : s₂.heap.objs.size = b => hSf (by rw [h]; exact hbf))).trans q
    · rw [hsz] at hP'
      have := h hpos v' h'' tk'' hP' (keep fun b o h1 h2 q => hk'' b o h1 h2 ((Heap.get?_update_other _ _ (Ne.symm h2)).trans (hk' b o h1 q)))
      subst e
      exact this
end
end Hw
namespace Hw
open PySem L2 PySem.Spec PyProof.Rows
def rMinD (K : PySem.W.Frag) : List V → List V → Hp → VK → Prop := fun vs zs H Q => ∃ (a : Addr) (ns : List Int) (z : Int), vs = [V.ref a] ∧ zs = [V.int z] ∧ SqL K H a (ns.map V.int) ∧ (ns = [] → Q (.int z) H) ∧ ∀ m, m ∈ ns → (∀ y, y ∈ ns → m ≤ y) → Q (.int m) H
theorem cr_minD {X : Cx} (hc : X.calm = true) : CallRK X (.builtin "min") ["default"] (rMinD X.K) := by
  intro pins s σ H vs zs us ws Q I r r2 h
  obtain ⟨a, ns, z, rfl, rfl, hs, q0, q⟩ := h
  obtain ⟨its, rv, hl, _⟩ := I.list hs
  rw [Vals.ref1 r]
  obtain ⟨u, rfl, ru⟩ : ∃ u, ws = [u] ∧ RelV (.int z) u := by
    cases r2 with
    | cons a b =>
      cases b
      exact ⟨_, rfl, a⟩
  have hi := rv.ints
  obtain ⟨xs, e⟩ := hi.allInts.items
  have hn : numsOf (intItems xs).toList = ns := by rw [← e]; exact hi.numsOf
  rw [nums_intItems] at hn
  subst hn
  have hl' : s.heap.IsList a its.toArray := hl.isList
  rw [e] at hl'
  show wpAny _ _ (call (.builtin "min") [.ref a] [(Str.ofString "default", u)]) _ _ _
  refine call_minD (I.ok.hd hc) hl' (fun hz h' tk hk => ?_) fun hpos v h' tk hv hk => ?_
  · exact ⟨.int z, H, I.kept hk, ru, q0 (by
      have : xs.toList = [] := by
        have : xs.toList.length = 0 := by rw [Array.length_toList]; exact hz
        exact List.length_eq_zero_iff.mp this
      rw [this]; rfl)⟩
  · obtain ⟨t, rfl⟩ := intItems_at hv
    obtain ⟨h1, h2⟩ := argBest_lt (numAt xs) (xs.size - 1)
    refine ⟨.int _, H, I.kept hk, ⟨_, rfl⟩, q _ ?_ fun y hy => ?_⟩
    · rw [numAt_eq]; exact PySem.getD_mem (by rw [List.length_map, Array.length_toList]; omega)
    · obtain ⟨j, hj, rfl⟩ := mem_getD hy
      rw [List.length_map, Array.length_toList] at hj
      rw [← numAt_eq]; exact h2 j (by omega)
def x_minD (K : PySem.W.Frag) (a b : TE) : TE := tCKw (rMinD K) (tCons a tNil) (tCons b tNil)
theorem pe_x_minD {X : Cx} {a b : Expr} {ta tb : TE} {pos kpos : Pos} {p : Pos} {nm : Option Str} (hm : X.mg "min" = none) (ha : PE X a ta) (hb : PE X b tb) (hc : X.calm = true := by rfl) (hg : Gl X "min" := by rfl)
    (he : starEach (a :: []) X.env = (false, eval a X.env) :: starEach [] X.env := by rfl) (hbt : backTo pos (starEach (a :: []) X.env) = (false, eval a X.env) :: backTo pos (starEach [] X.env) := by rfl)
    (hpl : (backTo pos (starEach (a :: []) X.env)).any (·.1) = false := by rfl)
    (hall : (backToKw pos (keywordEach [⟨nm, b, kpos⟩] X.env)).all (·.1.isSome) = true := by rfl) (hnone : (backToKw pos (keywordEach [⟨nm, b, kpos⟩] X.env)).any (·.1.isNone) = false := by rfl) (hks : (backToKw pos (keywordEach [⟨nm, b, kpos⟩] X.env)).filterMap (·.1) = [("default" : Str)] := by rfl) :
    PE X (.Call (.Name "min" p) [a] [⟨nm, b, kpos⟩] pos) (x_minD X.K ta tb) :=
  pe_callBK (cr_minD hc) hg hm (by decide +kernel) (pa_cons ha pa_nil he) (pk_cons hb pk_nil) (he := hbt) (hpl := hpl) (hall := hall) (hnone := hnone) (hks := hks)
/-! x is True -/
def xIsT (a : TE) : TE := tOp rIsB a (tC (.bl true))
theorem pe_xIsT {X : Cx} {a : Expr} {ta : TE} {pos : Pos} {j p} (ha : PE X a ta) : PE X (.Compare a [.Is] [.Constant (.bool true) j p] pos) (xIsT ta) := pe_cmpR op_isBl ha pe_bl (nomark _)
theorem pt_xIsT {X : Cx} {a : Expr} {ta : TE} {pos : Pos} {j p} (ha : PE X a ta) : PT X (.Compare a [.Is] [.Constant (.bool true) j p] pos) (tB (xIsT ta)) := pt_cmpR op_isBl ha pe_bl (nomark _)
section
variable {K : PySem.W.Frag} {C : Addr} {ρ : List Cell} {te ta tb : TE}
theorem ed_isT {b : Bool} (ha : EvR K C ta ρ (.bl b)) : EvD K C (xIsT ta) ρ (.bl b) := fun Hf H0 Hb H L σ E Q q => ha Hf H0 Hb H L σ E _ fun x Hb1 H1 S r => by
  refine ⟨b, true, r, rfl, ?_⟩
  have : decide (b = true) = b := by cases b <;> rfl
  rw [this]
  exact q _ Hb1 H1 S rfl
/-- the least of the list, and of nought where there is none -/
theorem ed_minD {ns : List Int} {z m : Int} (ha : EvS K C ta ρ (ns.map .int)) (hb : EvR K C tb ρ (.int z)) (h0 : ns = [] → m = z) (hm : ns ≠ [] → IsMin ns m) : EvD K C (x_minD K ta tb) ρ (.int m) := fun Hf H0 Hb H L σ E Q q => ha Hf H0 Hb H L σ E _ fun p us Hb1 H1 S h1 h2 =>
  hb Hf H0 Hb1 H1 L σ (E.step S) _ fun y Hb2 H2 S2 r => ⟨p, ns, z, rfl, by rw [show y = .int z from r], .of (by rw [S2.h _ _ h1, h2.ints]), fun e => q _ Hb2 H2 (S.trans S2) (by rw [h0 e]; rfl), fun k k1 k2 => q _ Hb2 H2 (S.trans S2) (by
    have hne : ns ≠ [] := fun z => by rw [z] at k1; exact nomatch k1
    rw [IsMin.uniq ⟨k1, k2⟩ (hm hne)]; rfl)⟩
end
end Hw
namespace Hw
open PySem L2
/-- law: script drawn weights table hoist pulls r handed found due body truth -/
def t_law_k04 (K : PySem.W.Frag) (C : Addr) : TS := (tSeq (tAsg (tCall (sp_law_drawn K C) [] E0 (tCons (tVar 0) tNil)) (gName 1)) (tSeq (tAsg (xIdx K (tVar 1) (tC (.int 0))) (gName 2)) (tSeq (tAsg (xIdx K (tVar 1) (tC (.int 1))) (gName 3)) (tSeq (tAsg (tMake C (sp_Hoist_init K C) [] E0 (tCons (tVar 2) (tCons (tCall (sp_law_ropes K C) [] E0 (tCons (tVar 3) (tCons (tCall (sp_law_cell_at K C) [] E0 (tCons (tVar 0) (tCons (tC (.int 11)) tNil))) tNil))) tNil))) (gName 4)) (tSeq (tAsg (tCall (sp_law_row K C) [] E0 (tCons (tVar 0) (tCons (tC (.int 12)) (tCons (xLen K (tVar 3)) tNil)))) (gName 5)) (tSeq (tIfS (tB (xGt (xMod (xDiv (tCall (sp_law_cell_at K C) [] E0 (tCons (tVar 0) (tCons (tC (.int 11)) tNil))) (tC (.int 3))) (tC (.int 3))) (tC (.int 0)))) (tSeq (tAsg (tLc (iRng1 (tCons (xLen K (tVar 3)) tNil)) (gName 6) tYes (tTup (tCons (xMod (xDiv (tCall (sp_law_cell_at K C) [] E0 (tCons (tVar 0) (tCons (xAdd (tC (.int 7)) (tVar 6)) tNil))) (tC (.int 7))) (tC (.int 9))) (tCons (tC (.int 1)) tNil))) [6]) (gName 5)) (tIfS (tAnd (tB (xNe K (tVar 5) (tLst tNil))) (tB (xEq K (xMod (xDiv (tCall (sp_law_cell_at K C) [] E0 (tCons (tVar 0) (tCons (tC (.int 11)) tNil))) (tC (.int 9))) (tC (.int 2))) (tC (.int 1))))) (tAsg (tCall (sp_law_fraction K C) [] E0 (tCons (tCall (sp_law_cell_at K C) [] E0 (tCons (tVar 0) (tCons (tC (.int 12)) tNil))) tNil)) (gSub (tVar 5) (xMod (xDiv (tCall (sp_law_cell_at K C) [] E0 (tCons (tVar 0) (tCons (tC (.int 11)) tNil))) (tC (.int 18))) (xLen K (tVar 5))) rSetL)) tNext)) tNext) (tSeq (tAsg (x_list K (tVar 5)) (gName 7)) (tSeq (tAsg (tCall (sp_lifted K C) [] E0 (tCons (tVar 4) (tCons (tVar 7) tNil))) (gName 8)) (tSeq (tAsg (tLc (iRng1 (tCons (xLen K (tVar 2)) tNil)) (gName 10) tYes (tCall (sp_law_sum K C) [] E0 (tCons (tVar 3) (tCons (tVar 5) (tCons (tVar 10) tNil)))) [10]) (gName 9)) (tSeq (tIfS (tOr (tNot (tB (tCall (sp_law_parts K C) [] E0 (tCons (tVar 8) (tCons (xLen K (tVar 2)) tNil))))) (tOr (tB (xNe K (tVar 8) (tVar 9))) (tB (xNe K (tVar 7) (tVar 5))))) (tRet (tC (.bl false))) tNext) (tSeq (tDrop (tBM K "list" rAppend (tVar 8) (tCons (tTup (tCons (tC (.int 0)) (tCons (tC (.int 1)) tNil))) tNil))) (tSeq (tAsg (tCall (sp_holds K C) [] E0 (tCons (tVar 4) (tCons (tVar 7) tNil))) (gName 11)) (tRet (tAndV (xIsi K "bool" (tVar 11)) (tAndV (xEq K (tVar 11) (tCall (sp_law_held K C) [] E0 (tCons (tVar 2) (tCons (tVar 3) (tCons (tVar 5) tNil))))) (xEq K (tCall (sp_lifted K C) [] E0 (tCons (tVar 4) (tCons (tVar 7) tNil))) (tVar 9)))))))))))))))))
abbrev n_law_k04 : List Str := ["script", "drawn", "weights", "table", "hoist", "pulls", "r", "handed", "found", "due", "body", "truth"]
end Hw
namespace Hw
open PySem L2
local macro_rules | `(tactic| walk_at "sd") => `(tactic| first
  | exact rfl
  | decide +kernel
  | (exact Nat.le_of_ble_eq_true rfl)
  | assumption
  | (exact Sz.mono (by assumption) (by decide))
  | decide
  | omega
  | (exact eraAll_map _ _ (fun _ => rfl) _)
  | (exact frAll_map _ (fun _ => rfl) _)
  | exact EqD.frac
  | exact EqD.int
  | exact EqD.bl
  | exact EqD.pair
  | skip)
local macro_rules | `(tactic| walk_at "R") => `(tactic| first
  | (with_reducible apply rc_common) <;> walk_at "sd"
  | (with_reducible apply rc_fraction) <;> walk_at "sd"
  | (with_reducible apply rc_plus) <;> walk_at "sd"
  | (with_reducible apply rc_minus) <;> walk_at "sd"
  | (with_reducible apply rc_times) <;> walk_at "sd"
  | (with_reducible apply rc_over) <;> walk_at "sd"
  | (with_reducible apply rc_less) <;> walk_at "sd"
  | (with_reducible apply rc_cell) <;> walk_at "sd"
  | (with_reducible apply rc_whole) <;> walk_at "sd"
  | (with_reducible apply rc_low) <;> walk_at "sd"
  | (with_reducible apply rc_part) <;> walk_at "sd"
  | (with_reducible apply rc_lfraction) <;> walk_at "sd")
local macro_rules | `(tactic| walk_at "evD") => `(tactic| first
  | with_reducible exact ed_int
  | with_reducible exact ed_bl
  | with_reducible exact ed_non
  | with_reducible exact ed_str
  | (with_reducible apply ed_var) <;> walk_at "go"
  | (with_reducible apply ed_add) <;> walk_at "go"
  | (with_reducible apply ed_sub) <;> walk_at "go"
  | (with_reducible apply ed_mul) <;> walk_at "go"
  | (with_reducible apply ed_div) <;> walk_at "go"
  | (with_reducible apply ed_mod) <;> walk_at "go"
  | (with_reducible apply ed_pow) <;> walk_at "go"
  | (with_reducible apply ed_neg) <;> walk_at "go"
  | (with_reducible apply ed_lt) <;> walk_at "go"
  | (with_reducible apply ed_le) <;> walk_at "go"
  | (with_reducible apply ed_gt) <;> walk_at "go"
  | (with_reducible apply ed_ge) <;> walk_at "go"
  | (with_reducible apply ed_leLt) <;> walk_at "go"
  | (with_reducible apply ed_leLe) <;> walk_at "go"
  | (with_reducible apply ed_ltLt) <;> walk_at "go"
  | (with_reducible apply ed_eq) <;> walk_at "go"
  | (with_reducible apply ed_ne) <;> walk_at "go"
  | (with_reducible apply ed_idxT) <;> walk_at "go"
  | (with_reducible apply ed_idxS) <;> walk_at "go"
  | (with_reducible apply ed_idxScr) <;> walk_at "go"
  | (with_reducible apply ed_lenS) <;> walk_at "go"
  | (with_reducible apply ed_lenT) <;> walk_at "go"
  | (with_reducible apply ed_lenScr) <;> walk_at "go"
  | (with_reducible apply ed_abs) <;> walk_at "go"
  | (with_reducible apply ed_intI) <;> walk_at "go"
  | (with_reducible apply ed_intB) <;> walk_at "go"
  | (with_reducible apply ed_intS) <;> walk_at "go"
  | (with_reducible apply ed_andV) <;> walk_at "go"
  | (with_reducible apply ed_orV) <;> walk_at "go"
  | (with_reducible apply ed_notV) <;> walk_at "go"
  | (with_reducible apply ed_tup) <;> walk_at "go"
  | (with_reducible apply ev_call) <;> walk_at "go"
  | (with_reducible apply ed_isi) <;> walk_at "go"
  | (with_reducible apply ed_catS) <;> walk_at "go"
  | (with_reducible apply ed_repS) <;> walk_at "go"
  | (with_reducible apply EvL.dat) <;> walk_at "go")
local macro_rules | `(tactic| walk_at "evR") => `(tactic| first
  | (with_reducible apply EvD.r) <;> walk_at "go"
  | (with_reducible apply EvS.r) <;> walk_at "go")
local macro_rules | `(tactic| walk_at "evS") => `(tactic| first
  | (with_reducible apply es_own) <;> walk_at "go"
  | (with_reducible apply EvD.s) <;> walk_at "go"
  | (with_reducible apply EvL.s) <;> walk_at "go")
local macro_rules | `(tactic| walk_at "evL") => `(tactic| first
  | (with_reducible apply el_lst) <;> walk_at "go"
  | (with_reducible apply ev_callL) <;> walk_at "go")
local macro_rules | `(tactic| walk_at "evA") => `(tactic| first
  | with_reducible exact ea_nil
  | (with_reducible apply ea_cons) <;> walk_at "go")
local macro_rules | `(tactic| walk_at "evQ") => `(tactic| first
  | with_reducible exact eq_nil
  | (with_reducible apply eq_cons) <;> walk_at "go")
local macro_rules | `(tactic| walk_at "evB") => `(tactic| first
  | (with_reducible apply eb_and) <;> walk_at "go"
  | (with_reducible apply eb_or) <;> walk_at "go"
  | (with_reducible apply eb_not) <;> walk_at "go"
  | (with_reducible apply eb_val) <;> walk_at "go")
local macro_rules | `(tactic| walk_at "era") => `(tactic| first
  | ((simp only [eraAll, D.era, era_dF, era_dP, era_dFs, era_dI, era_dS, era_dPs, era_dRows, era_dRopes]); done)
  | ((simp only [eraAll, D.era, era_dF, era_dP, era_dFs, era_dI, era_dS, era_dPs, era_dRows, era_dRopes]); exact rfl))
local macro_rules | `(tactic| walk_at "frs") => `(tactic| first
  | exact rfl
  | exact fr_dFs _
  | exact fr_dI _
  | exact fr_dS _
  | exact fr_dPs _
  | exact fr_dRows _
  | exact fr_dRopes _
  | (simp only [frAll, D.fr, fr_dFs, fr_dI, fr_dS, fr_dPs, fr_dRows, fr_dRopes, decide_true, Bool.and_true, Bool.true_and]; done))
local macro_rules | `(tactic| walk_at "go") => `(tactic| first
  | ((with_reducible show eraAll _ = _); walk_at "era")
  | ((with_reducible show D.fr _ = true); walk_at "frs")
  | ((with_reducible show frAll _ = true); walk_at "frs")
  | ((with_reducible show _ = some (Cell.dat _)); exact rfl)
  | ((with_reducible show _ = some (Cell.own _)); exact rfl)
  | ((with_reducible show D.tn _ = some _); exact rfl)
  | ((with_reducible show atI _ _ = some _); first | exact rfl | assumption)
  | ((with_reducible show EvD _ _ _ _ _); walk_at "evD")
  | ((with_reducible show EvR _ _ _ _ _); walk_at "evR")
  | ((with_reducible show EvS _ _ _ _ _); walk_at "evS")
  | ((with_reducible show EvL _ _ _ _ _); walk_at "evL")
  | ((with_reducible show EvA _ _ _ _ _); walk_at "evA")
  | ((with_reducible show EvAD _ _ _ _ _); walk_at "evQ")
  | ((with_reducible show EvB _ _ _ _ _); walk_at "evB")
  | ((with_reducible show _ = _ → _); intro hv; walk_at "go")
  | ((fail_if_success (with_reducible show EvD _ _ _ _ _)); (fail_if_success (with_reducible show EvR _ _ _ _ _)); (fail_if_success (with_reducible show EvS _ _ _ _ _)); (fail_if_success (with_reducible show EvL _ _ _ _ _)); (fail_if_success (with_reducible show EvA _ _ _ _ _)); (fail_if_success (with_reducible show EvAD _ _ _ _ _)); (fail_if_success (with_reducible show EvB _ _ _ _ _)); (fail_if_success (with_reducible show _ = some (Cell.dat _))); (fail_if_success (with_reducible show _ = some (Cell.own _))); (fail_if_success (with_reducible show atI _ _ = some _)); (fail_if_success (with_reducible show D.tn _ = some _)); (fail_if_success (with_reducible show eraAll _ = _)); (fail_if_success (with_reducible show D.fr _ = true)); (fail_if_success (with_reducible show frAll _ = true)); first | walk_at "R" | walk_at "sd"))
local macro_rules | `(tactic| walk_at "len") => `(tactic| first
  | exact (by decide)
  | (simp; done)
  | omega)
local macro_rules | `(tactic| walk_at "st") => `(tactic| first
  | ((with_reducible show At _ _ _ _ _ _); try dsimp only [List.set])
  | ((with_reducible show _ = _ → At _ _ _ _ _ _); intro hb)
  | ((with_reducible show _ < _); walk_at "len")
  | walk_at "go")
local macro_rules | `(tactic| walk_at "asg") => `(tactic| first
  | (with_reducible apply sq_asg) <;> walk_at "st"
  | (with_reducible apply at_asg) <;> walk_at "st")
local macro_rules | `(tactic| walk_at "asgL") => `(tactic| first
  | (with_reducible apply sq_asgL) <;> walk_at "st"
  | (with_reducible apply at_asgL) <;> walk_at "st")
local macro_rules | `(tactic| walk_at "app") => `(tactic| first
  | (with_reducible apply sq_append) <;> walk_at "st"
  | (with_reducible apply at_append) <;> walk_at "st")
local macro_rules | `(tactic| walk_at "ret") => `(tactic| first
  | (with_reducible apply at_ret) <;> walk_at "st")
local macro_rules | `(tactic| walk_at "when") => `(tactic| first
  | (with_reducible apply sq_when) <;> walk_at "st"
  | (with_reducible apply at_when) <;> walk_at "st")
local macro_rules | `(tactic| walk_at "if") => `(tactic| first
  | (with_reducible apply sq_if) <;> walk_at "st"
  | (with_reducible apply at_if) <;> walk_at "st")
local macro_rules | `(tactic| walk_at "fd") => `(tactic| first
  | exact rfl
  | assumption)
local macro_rules | `(tactic| walk_at "R") => `(tactic| first
  | (with_reducible apply rc_see_pairs) <;> walk_at "sd"
  | (with_reducible apply rc_hsum) <;> walk_at "sd"
  | (with_reducible apply rc_table) <;> walk_at "sd"
  | (with_reducible apply rc_lropes) <;> walk_at "sd"
  | (with_reducible apply rc_summedp) <;> walk_at "sd"
  | (with_reducible apply rc_lifted) <;> walk_at "sd"
  | (with_reducible apply rc_holds) <;> walk_at "sd"
  | (with_reducible apply rc_spare) <;> walk_at "sd"
  | (with_reducible apply rc_gain) <;> walk_at "sd"
  | (with_reducible apply rc_is_let) <;> walk_at "sd"
  | (with_reducible apply rc_lsum) <;> walk_at "sd"
  | (with_reducible apply rc_lspare) <;> walk_at "sd"
  | (with_reducible apply rc_held) <;> walk_at "sd"
  | (with_reducible apply rc_parts) <;> walk_at "sd"
  | (with_reducible apply rc_drawn) <;> walk_at "sd"
  | (with_reducible apply rc_lrow) <;> walk_at "sd"
  | (with_reducible apply rc_lplus) <;> walk_at "sd"
  | (with_reducible apply rc_times_int) <;> walk_at "sd"
  | (with_reducible apply rc_int_times) <;> walk_at "sd"
  | (with_reducible apply rc_less0) <;> walk_at "sd"
  | (with_reducible apply rc_init) <;> walk_at "sd")
local macro_rules | `(tactic| walk_at "evD") => `(tactic| first
  | (with_reducible apply ed_sum) <;> walk_at "go"
  | (with_reducible apply ed_min) <;> walk_at "go"
  | (with_reducible apply ed_max) <;> walk_at "go"
  | (with_reducible apply ed_heavy) <;> walk_at "go"
  | (with_reducible apply ed_table) <;> walk_at "go"
  | (with_reducible apply ed_make) <;> walk_at "go"
  | (with_reducible apply ed_meth) <;> walk_at "go"
  | (with_reducible apply ed_fldA) <;> walk_at "fd")
local macro_rules | `(tactic| walk_at "evL") => `(tactic| first
  | (with_reducible apply el_list) <;> walk_at "go"
  | (with_reducible apply el_cat) <;> walk_at "go"
  | (with_reducible apply el_rep) <;> walk_at "go"
  | (with_reducible apply el_slice) <;> walk_at "go"
  | (with_reducible apply el_meth) <;> walk_at "go")
local macro_rules | `(tactic| walk_at "evS") => `(tactic| first
  | (with_reducible apply es_fldA) <;> walk_at "fd")
local macro_rules | `(tactic| walk_at "evO") => `(tactic| first
  | with_reducible exact eo_none
  | (with_reducible apply eo_some) <;> walk_at "go")
local macro_rules | `(tactic| walk_at "go") => `(tactic| first
  | ((with_reducible show EvO _ _ _ _ _); walk_at "evO"))
local macro_rules | `(tactic| walk_at "fld") => `(tactic| first
  | (with_reducible apply sq_fld) <;> walk_at "st"
  | (with_reducible apply at_fld) <;> walk_at "st")
local macro_rules | `(tactic| walk_at "fldL") => `(tactic| first
  | (with_reducible apply sq_fldL) <;> walk_at "st"
  | (with_reducible apply at_fldL) <;> walk_at "st")
local macro_rules | `(tactic| walk_at "drop") => `(tactic| first
  | (with_reducible apply sq_drop) <;> walk_at "st"
  | (with_reducible apply at_drop) <;> walk_at "st")
section
variable {K : PySem.W.Frag} {C : Addr}
/-- a place in a block that all ways come to -/
theorem sq_mid {Hf H0 : Hp} {s1 s2 : TS} {D0 : Ends} {ρ : List Cell} (I : List Cell → Prop) (h1 : (∀ ρ', I ρ' → At K C Hf H0 (s2 D0) ρ') → At K C Hf H0 (tSeq s1 s2 D0) ρ) (h2 : ∀ ρ', I ρ' → At K C Hf H0 (s2 D0) ρ') : At K C Hf H0 (tSeq s1 s2 D0) ρ := h1 h2
theorem sz8500 {n : Nat} {tb : List (List Int)} {ws : List Int} {ps : List Rat} (ho : HoOk ws tb) (hz : SzL 100 ps) (hl : ps.length = tb.length) : SzL 8500 (liftL ws tb ps) := fun q hq => by
  obtain ⟨b, hb, rfl⟩ := List.mem_map.mp hq
  have hb' := List.mem_range.mp hb
  have r5 := ho.r5
  refine (sz_sum (n := 104) fun q hq => ?_).mono (by simp; omega)
  obtain ⟨r, hr, rfl⟩ := List.mem_map.mp hq
  have hr' := List.mem_range.mp hr
  exact (hz _ (getD_mem (by omega))).mul (sz9 (ho.tget hr' hb').1)
theorem liftL_len {ws : List Int} {tb : List (List Int)} {ps : List Rat} : (liftL ws tb ps).length = ws.length := by simp [liftL]
theorem rc_initD {ns : List Int} {cell : Int} : R_init [.lst .x (dI (drawnWs ns)), .lst .x (dRopes .x (ropesOf (drawnTb ns) cell))] (drawnWs ns) (drawnTb ns) := ⟨_, (HoOk.drawn ns).valid, rfl, (drawn_tb ns cell).symm⟩
local macro_rules | `(tactic| walk_at "R") => `(tactic| (with_reducible apply rc_initD) <;> walk_at "sd")
theorem sz_madeP (ns : List Int) (r : Nat) : Sz 100 ((madeP ns r : Int) : Rat) := (sz_int (n := 4) (by decide) (by unfold madeP; omega)).mono (by decide)
theorem EqD.lnil {m m' : Mark} {a : List Rat} : EqD (.lst m (a.map dF)) (.lst m' []) (decide (a = [])) := EqD.fracs (b := [])
theorem p_law_k04 : Body (t_law_k04 K C) n_law_k04 (sp_law K C) := by
  rintro vs H Q E ⟨ds, d, r, ⟨ns, hn, rfl, rfl⟩, k⟩
  refine start_at r (n := 11) (by rw [r.length]; rfl) ?_
  have q11 : (11 : Int) = ((11 : Nat) : Int) := rfl
  have q12 : (12 : Int) = ((12 : Nat) : Int) := rfl
  have z3 : (0 : Int) < 3 := by decide
  have z2 : (0 : Int) < 2 := by decide
  have z9 : (0 : Int) < 9 := by decide
  have ho := HoOk.drawn ns
  have r5 := ho.r5
  have w4 := ho.w4
  have tl : (drawnTb ns).length ≤ 100 := by omega
  have hrow : ∀ r ∈ drawnTb ns, 1 ≤ r.length ∧ r.length ≤ 10 := fun r hr => by
    have := ho.row r hr
    have := ho.w1
    omega
  have a3 : CDivW (ns.getD 11 0) 3 := ⟨by decide, by decide +kernel⟩
  have a9 : CDivW (ns.getD 11 0) 9 := ⟨by decide, by decide +kernel⟩
  have a18 : CDivW (ns.getD 11 0) 18 := ⟨by decide, by decide +kernel⟩
  have ii0 : ∀ a b : D, atI [a, b] 0 = some a := fun _ _ => rfl
  have ii1 : ∀ a b : D, atI [a, b] 1 = some b := fun _ _ => rfl
  unfold t_law_k04
  walk_at "asg"
  walk_at "asg"
  walk_at "asg"
  walk_at "asg"
  have dl : (dRows .f (drawnTb ns)).length = (drawnTb ns).length := by simp [dRows]
  have dl2 : (dRows .f (drawnTb ns)).length ≤ 100 := by omega
  refine sq_asgL (xs := dFs (rowF ns 12 (drawnTb ns).length)) (EvL.to (by walk_at "evL") (by rw [dl])) (by simp [uns]) ?_
  dsimp only [List.set, List.map, uns, List.cons_append, List.nil_append]
  refine sq_mid (fun ρ' => ∃ ps c6, SzL 100 ps ∧ ps.length = (drawnTb ns).length ∧ ρ' = [.dat (.scr ns), .dat (.tup [.lst .f (dI (drawnWs ns)), .lst .f (dRows .f (drawnTb ns))]), .dat (.lst .f (dI (drawnWs ns))), .dat (.lst .f (dRows .f (drawnTb ns))), .dat (.ho .f (drawnWs ns) (drawnTb ns)), .own (dFs ps), c6, .un, .un, .un, .un, .un]) (fun fin => ?_) ?_
  · walk_at "when"
    · have e1 : ((List.range (drawnTb ns).length).map fun r => D.tup [.int (madeP ns r), .int 1]) = dFs ((List.range (drawnTb ns).length).map fun r => ((madeP ns r : Int) : Rat)) := by
        rw [dFs, List.map_map]
        exact List.map_congr_left fun r _ => (dF_int _).symm
      refine sq_asgL (EvL.to (el_lcN (n := (drawnTb ns).length) (g := fun r => D.tup [.int (madeP ns r), .int 1]) (EvA.to (by walk_at "evA") (by rw [dl])) (by omega) (by simp) fun r hr => ?_) e1) (by simp) ?_
      · have e1 : (7 : Int) + (r : Int) = ((7 + r : Nat) : Int) := by omega
        have a7 : CDivW (ns.getD (7 + r) 0) 7 := ⟨by decide, by decide +kernel⟩
        dsimp only [List.set]
        refine EvD.to (d := .tup [.int (ns.getD (7 + r) 0 / 7 % 9), .int 1]) (by walk_at "evD") rfl
      · dsimp only [List.set]
        have hsz : SzL 100 ((List.range (drawnTb ns).length).map fun r => ((madeP ns r : Int) : Rat)) := fun q hq => by
          obtain ⟨r, _, rfl⟩ := List.mem_map.mp hq
          exact sz_madeP ns r
        have hlen : ((List.range (drawnTb ns).length).map fun r => ((madeP ns r : Int) : Rat)).length = (drawnTb ns).length := by simp
        generalize ((List.range (drawnTb ns).length).map fun r => ((madeP ns r : Int) : Rat)) = ps at *
        refine at_when (b := (!decide (ps = [])) && decide (ns.getD 11 0 / 9 % 2 = 1)) (eb_and (eb_val (ed_ne (es_own rfl).r (EvL.s (by walk_at "evL")).r EqD.lnil)) fun _ => by walk_at "evB") ?_ ?_
        · intro hb
          rw [Bool.and_eq_true] at hb
          have hne : ps ≠ [] := by simpa using hb.1
          have hpos : 0 < ps.length := List.length_pos_iff.mpr hne
          have hpos' : (0 : Int) < ((dFs ps).length : Int) := by rw [List.length_map]; omega
          refine at_setItem (n := (ns.getD 11 0 / 18 % ps.length).toNat) rfl (by walk_at "evD") (by walk_at "evR") ?_ ?_
          · have h1 := Int.emod_nonneg (ns.getD 11 0 / 18) (show (ps.length : Int) ≠ 0 by omega)
            have h2 := Int.emod_lt_of_pos (ns.getD 11 0 / 18) (show (0 : Int) < (ps.length : Int) by omega)
            rw [List.length_map]
            unfold ixN
            rw [if_pos h1, if_pos h2]
          · dsimp only [List.set]
            refine fin _ ⟨ps.set (ns.getD 11 0 / 18 % ps.length).toNat (fracOf (ns.getD 12 0)), .un, fun q hq => ?_, by rw [List.length_set]; exact hlen, ?_⟩
            · rcases List.mem_or_eq_of_mem_set hq with h | rfl
              · exact hsz q h
              · exact (fracOf_sz _).mono (by decide)
            · rw [show dFs (ps.set (ns.getD 11 0 / 18 % ps.length).toNat (fracOf (ns.getD 12 0))) = (dFs ps).set (ns.getD 11 0 / 18 % ps.length).toNat (dF (fracOf (ns.getD 12 0))) from List.map_set]
        · intro _
          exact fin _ ⟨ps, _, hsz, hlen, rfl⟩
    · exact fin _ ⟨rowF ns 12 (drawnTb ns).length, _, SzL.row ns 12 _, by simp [rowF], rfl⟩
  rintro ρ' ⟨ps, c6, hz, hl, rfl⟩
  refine At.freeze (i := 5) rfl ?_
  dsimp only [List.set]
  walk_at "asgL"
  walk_at "asgL"
  have hlift : EvL K C (tLc (iRng1 (tCons (xLen K (tVar 2)) tNil)) (gName 10) tYes (tCall (sp_law_sum K C) [] E0 (tCons (tVar 3) (tCons (tVar 5) (tCons (tVar 10) tNil)))) [10])
      [.dat (.scr ns), .dat (.tup [.lst .f (dI (drawnWs ns)), .lst .f (dRows .f (drawnTb ns))]), .dat (.lst .f (dI (drawnWs ns))), .dat (.lst .f (dRows .f (drawnTb ns))), .dat (.ho .f (drawnWs ns) (drawnTb ns)), .dat (.lst .f (dFs ps)), c6, .own (dFs ps), .own (dFs (liftL (drawnWs ns) (drawnTb ns) ps)), .un, .un, .un] (dFs (liftL (drawnWs ns) (drawnTb ns) ps)) := by
    refine EvL.to (el_lcN (n := (drawnWs ns).length) (g := fun b => dF (liftAt (drawnTb ns) ps b)) (EvA.to (by walk_at "evA") (by simp)) (by omega) (by simp) fun b hb => ?_) (by simp [liftL])
    have a1 : ∀ r ∈ drawnTb ns, b < r.length := fun r hr => by rw [ho.row r hr]; exact hb
    have a2 := ho.st
    have a4 : (b : Int) = ((b : Nat) : Int) := rfl
    dsimp only [List.set]
    walk_at "evD"
  refine sq_asgL hlift (by simp) ?_
  dsimp only [List.set]
  have s85 := sz8500 ho hz hl (n := 0)
  have wl : (liftL (drawnWs ns) (drawnTb ns) ps).length ≤ 1000 := by rw [liftL_len]; omega
  refine sq_when (b := false) (EvB.to (eb_or (a := false) (EvB.to (eb_not (eb_val (ev_call (by walk_at "evA") (by walk_at "era") (rc_parts (qs := liftL (drawnWs ns) (drawnTb ns) ps) s85 wl (by simp [liftL])) rfl))) rfl) fun _ => eb_or (a := false) (EvB.to (eb_val (ed_ne (es_own rfl).r (es_own rfl).r EqD.fracs)) (by simp)) fun _ => EvB.to (eb_val (ed_ne (es_own rfl).r (by walk_at "evR") EqD.fracs)) (b' := false) (by simp)) rfl) (fun z => nomatch z) fun _ => ?_
  refine sq_append rfl (by walk_at "evD") (by simp [liftL]; omega) ?_
  dsimp only [List.set]
  walk_at "asg"
  refine at_ret (EvD.to (ed_andV (by walk_at "evD") fun _ => ed_andV (by walk_at "evD") fun _ => ed_eq (EvL.s (by walk_at "evL")).r (es_own rfl).r EqD.fracs) (by simp)) k
end
end Hw
namespace Hw
open PySem L2
def dotF (xs ys : List Rat) : Rat := ((List.range xs.length).map fun k => xs.getD k 0 * ys.getD k 0).sum
def R_ltotal (ds : List D) (d : D) : Prop := ∃ m n xs ys, m + n ≤ 700 ∧ SzL m xs ∧ SzL n ys ∧ xs.length ≤ 5 ∧ ys.length = xs.length ∧ ds = [.lst .x (dFs xs), .lst .x (dFs ys)] ∧ d = dF (dotF xs ys)
abbrev sp_law_total (K : PySem.W.Frag) (C : Addr) : Sp := spD K C R_ltotal
theorem rc_ltotal {m n : Nat} {xs ys : List Rat} (h1 : SzL m xs) (h2 : SzL n ys) (h : m + n ≤ 700) (h3 : xs.length ≤ 5) (h4 : ys.length = xs.length) : R_ltotal [.lst .x (dFs xs), .lst .x (dFs ys)] (dF (dotF xs ys)) := ⟨m, n, xs, ys, h, h1, h2, h3, h4, rfl, rfl⟩
/-- law: script drawn weights table hoist motion body handed due row found told truth right part -/
def t_law_k05 (K : PySem.W.Frag) (C : Addr) : TS := (tSeq (tAsg (tCall (sp_law_drawn K C) [] E0 (tCons (tVar 0) tNil)) (gName 1)) (tSeq (tAsg (xIdx K (tVar 1) (tC (.int 0))) (gName 2)) (tSeq (tAsg (xIdx K (tVar 1) (tC (.int 1))) (gName 3)) (tSeq (tAsg (tMake C (sp_Hoist_init K C) [] E0 (tCons (tVar 2) (tCons (tCall (sp_law_ropes K C) [] E0 (tCons (tVar 3) (tCons (tCall (sp_law_cell_at K C) [] E0 (tCons (tVar 0) (tCons (tC (.int 11)) tNil))) tNil))) tNil))) (gName 4)) (tSeq (tAsg (tCall (sp_law_row K C) [] E0 (tCons (tVar 0) (tCons (tC (.int 12)) (tCons (xLen K (tVar 2)) tNil)))) (gName 5)) (tSeq (tIfS (tB (xEq K (xMod (xDiv (tCall (sp_law_cell_at K C) [] E0 (tCons (tVar 0) (tCons (tC (.int 11)) tNil))) (tC (.int 3))) (tC (.int 2))) (tC (.int 1)))) (tAsg (tLc (iRng1 (tCons (xLen K (tVar 2)) tNil)) (gName 6) tYes (tTup (tCons (xSub (xMod (tCall (sp_law_cell_at K C) [] E0 (tCons (tVar 0) (tCons (xAdd (tC (.int 12)) (tVar 6)) tNil))) (tC (.int 5))) (tC (.int 2))) (tCons (tC (.int 1)) tNil))) [6]) (gName 5)) tNext) (tSeq (tAsg (x_list K (tVar 5)) (gName 7)) (tSeq (tAsg (tLc (iList K (tVar 3)) (gName 9) tYes (tCall (sp_law_spare K C) [] E0 (tCons (tVar 9) (tCons (tVar 5) tNil))) [9]) (gName 8)) (tSeq (tAsg (tCall (sp_spare K C) [] E0 (tCons (tVar 4) (tCons (tVar 7) tNil))) (gName 10)) (tSeq (tIfS (tOr (tNot (tB (tCall (sp_law_parts K C) [] E0 (tCons (tVar 10) (tCons (xLen K (tVar 3)) tNil))))) (tOr (tB (xNe K (tVar 10) (tVar 8))) (tB (xNe K (tVar 7) (tVar 5))))) (tRet (tC (.bl false))) tNext) (tSeq (tDrop (tBM K "list" rAppend (tVar 10) (tCons (tTup (tCons (tC (.int 0)) (tCons (tC (.int 1)) tNil))) tNil))) (tSeq (tAsg (tCall (sp_gain K C) [] E0 (tCons (tVar 4) (tCons (tVar 7) tNil))) (gName 11)) (tSeq (tIfS (tOr (tNot (tB (tCall (sp_law_part K C) [] E0 (tCons (tVar 11) tNil)))) (tB (xNe K (tVar 11) (tCall (sp_law_spare K C) [] E0 (tCons (tVar 2) (tCons (tVar 5) tNil)))))) (tRet (tC (.bl false))) tNext) (tSeq (tAsg (tCall (sp_is_let K C) [] E0 (tCons (tVar 4) (tCons (tVar 7) tNil))) (gName 12)) (tSeq (tAsg (xGe (x_minD K (tLc (iList K (tVar 8)) (gName 14) tYes (xIdx K (tVar 14) (tC (.int 0))) [14]) (tC (.int 0))) (tC (.int 0))) (gName 13)) (tRet (tAndV (xIsi K "bool" (tVar 12)) (tAndV (xEq K (tVar 12) (tVar 13)) (tAndV (xEq K (tCall (sp_spare K C) [] E0 (tCons (tVar 4) (tCons (tVar 7) tNil))) (tVar 8)) (xEq K (tVar 7) (tVar 5)))))))))))))))))))))
abbrev n_law_k05 : List Str := ["script", "drawn", "weights", "table", "hoist", "motion", "body", "handed", "due", "row", "found", "told", "truth", "right", "part"]
/-- law: script drawn table hoist pulls r motion body -/
def t_law_k06 (K : PySem.W.Frag) (C : Addr) : TS := (tSeq (tAsg (tCall (sp_law_drawn K C) [] E0 (tCons (tVar 0) tNil)) (gName 1)) (tSeq (tAsg (xIdx K (tVar 1) (tC (.int 1))) (gName 2)) (tSeq (tAsg (tMake C (sp_Hoist_init K C) [] E0 (tCons (xIdx K (tVar 1) (tC (.int 0))) (tCons (tCall (sp_law_ropes K C) [] E0 (tCons (tVar 2) (tCons (tCall (sp_law_cell_at K C) [] E0 (tCons (tVar 0) (tCons (tC (.int 11)) tNil))) tNil))) tNil))) (gName 3)) (tSeq (tAsg (tCall (sp_law_row K C) [] E0 (tCons (tVar 0) (tCons (tC (.int 12)) (tCons (xLen K (tVar 2)) tNil)))) (gName 4)) (tSeq (tIfS (tB (xEq K (xMod (xDiv (tCall (sp_law_cell_at K C) [] E0 (tCons (tVar 0) (tCons (tC (.int 11)) tNil))) (tC (.int 3))) (tC (.int 2))) (tC (.int 1)))) (tAsg (tLc (iRng1 (tCons (xLen K (tVar 2)) tNil)) (gName 5) tYes (tTup (tCons (xMod (xDiv (tCall (sp_law_cell_at K C) [] E0 (tCons (tVar 0) (tCons (xAdd (tC (.int 7)) (tVar 5)) tNil))) (tC (.int 7))) (tC (.int 9))) (tCons (tC (.int 1)) tNil))) [5]) (gName 4)) tNext) (tSeq (tAsg (tCall (sp_law_row K C) [] E0 (tCons (tVar 0) (tCons (tC (.int 17)) (tCons (xLen K (xIdx K (tVar 1) (tC (.int 0)))) tNil)))) (gName 6)) (tSeq (tIfS (tB (xEq K (xMod (xDiv (tCall (sp_law_cell_at K C) [] E0 (tCons (tVar 0) (tCons (tC (.int 11)) tNil))) (tC (.int 6))) (tC (.int 2))) (tC (.int 1)))) (tAsg (tLc (iRng1 (tCons (xLen K (xIdx K (tVar 1) (tC (.int 0)))) tNil)) (gName 7) tYes (tTup (tCons (xSub (xMod (tCall (sp_law_cell_at K C) [] E0 (tCons (tVar 0) (tCons (xAdd (tC (.int 17)) (tVar 7)) tNil))) (tC (.int 5))) (tC (.int 2))) (tCons (tC (.int 1)) tNil))) [7]) (gName 6)) tNext) (tSeq (tIfS (tB (xNe K (tCall (sp_law_total K C) [] E0 (tCons (tVar 4) (tCons (tCall (sp_spare K C) [] E0 (tCons (tVar 3) (tCons (x_list K (tVar 6)) tNil))) tNil))) (tCall (sp_law_total K C) [] E0 (tCons (tCall (sp_lifted K C) [] E0 (tCons (tVar 3) (tCons (x_list K (tVar 4)) tNil))) (tCons (tVar 6) tNil))))) (tRet (tC (.bl false))) tNext) (tSeq (tIfS (tAnd (tB (xIsT (tCall (sp_holds K C) [] E0 (tCons (tVar 3) (tCons (x_list K (tVar 4)) tNil))))) (tB (xIsT (tCall (sp_is_let K C) [] E0 (tCons (tVar 3) (tCons (x_list K (tVar 6)) tNil)))))) (tRet (xGe (xIdx K (tCall (sp_gain K C) [] E0 (tCons (tVar 3) (tCons (x_list K (tVar 6)) tNil))) (tC (.int 0))) (tC (.int 0)))) tNext) (tRet (tC (.bl true))))))))))))
abbrev n_law_k06 : List Str := ["script", "drawn", "table", "hoist", "pulls", "r", "motion", "body"]
/-- _law_total: one other total k -/
def t_law_total (K : PySem.W.Frag) (C : Addr) : TS := (tSeq (tAsg (tTup (tCons (tC (.int 0)) (tCons (tC (.int 1)) tNil))) (gName 2)) (tSeq (tFor (iRng1 (tCons (xLen K (tVar 0)) tNil)) (gName 3) (tAsg (tCall (sp_law_plus K C) [] E0 (tCons (tVar 2) (tCons (tCall (sp_law_low K C) [] E0 (tCons (xMul (xIdx K (xIdx K (tVar 0) (tVar 3)) (tC (.int 0))) (xIdx K (xIdx K (tVar 1) (tVar 3)) (tC (.int 0)))) (tCons (xMul (xIdx K (xIdx K (tVar 0) (tVar 3)) (tC (.int 1))) (xIdx K (xIdx K (tVar 1) (tVar 3)) (tC (.int 1)))) tNil))) tNil))) (gName 2))) (tRet (tVar 2))))
abbrev n_law_total : List Str := ["one", "other", "total", "k"]
end Hw
namespace Hw
open PySem L2
local macro_rules | `(tactic| walk_at "sd") => `(tactic| first
  | exact rfl
  | decide +kernel
  | (exact Nat.le_of_ble_eq_true rfl)
  | assumption
  | (exact Sz.mono (by assumption) (by decide))
  | decide
  | omega
  | (exact eraAll_map _ _ (fun _ => rfl) _)
  | (exact frAll_map _ (fun _ => rfl) _)
  | exact EqD.frac
  | exact EqD.int
  | exact EqD.bl
  | exact EqD.pair
  | skip)
local macro_rules | `(tactic| walk_at "R") => `(tactic| first
  | (with_reducible apply rc_common) <;> walk_at "sd"
  | (with_reducible apply rc_fraction) <;> walk_at "sd"
  | (with_reducible apply rc_plus) <;> walk_at "sd"
  | (with_reducible apply rc_minus) <;> walk_at "sd"
  | (with_reducible apply rc_times) <;> walk_at "sd"
  | (with_reducible apply rc_over) <;> walk_at "sd"
  | (with_reducible apply rc_less) <;> walk_at "sd"
  | (with_reducible apply rc_cell) <;> walk_at "sd"
  | (with_reducible apply rc_whole) <;> walk_at "sd"
  | (with_reducible apply rc_low) <;> walk_at "sd"
  | (with_reducible apply rc_part) <;> walk_at "sd"
  | (with_reducible apply rc_lfraction) <;> walk_at "sd")
local macro_rules | `(tactic| walk_at "evD") => `(tactic| first
  | with_reducible exact ed_int
  | with_reducible exact ed_bl
  | with_reducible exact ed_non
  | with_reducible exact ed_str
  | (with_reducible apply ed_var) <;> walk_at "go"
  | (with_reducible apply ed_add) <;> walk_at "go"
  | (with_reducible apply ed_sub) <;> walk_at "go"
  | (with_reducible apply ed_mul) <;> walk_at "go"
  | (with_reducible apply ed_div) <;> walk_at "go"
  | (with_reducible apply ed_mod) <;> walk_at "go"
  | (with_reducible apply ed_pow) <;> walk_at "go"
  | (with_reducible apply ed_neg) <;> walk_at "go"
  | (with_reducible apply ed_lt) <;> walk_at "go"
  | (with_reducible apply ed_le) <;> walk_at "go"
  | (with_reducible apply ed_gt) <;> walk_at "go"
  | (with_reducible apply ed_ge) <;> walk_at "go"
  | (with_reducible apply ed_leLt) <;> walk_at "go"
  | (with_reducible apply ed_leLe) <;> walk_at "go"
  | (with_reducible apply ed_ltLt) <;> walk_at "go"
  | (with_reducible apply ed_eq) <;> walk_at "go"
  | (with_reducible apply ed_ne) <;> walk_at "go"
  | (with_reducible apply ed_idxT) <;> walk_at "go"
  | (with_reducible apply ed_idxS) <;> walk_at "go"
  | (with_reducible apply ed_idxScr) <;> walk_at "go"
  | (with_reducible apply ed_lenS) <;> walk_at "go"
  | (with_reducible apply ed_lenT) <;> walk_at "go"
  | (with_reducible apply ed_lenScr) <;> walk_at "go"
  | (with_reducible apply ed_abs) <;> walk_at "go"
  | (with_reducible apply ed_intI) <;> walk_at "go"
  | (with_reducible apply ed_intB) <;> walk_at "go"
  | (with_reducible apply ed_intS) <;> walk_at "go"
  | (with_reducible apply ed_andV) <;> walk_at "go"
  | (with_reducible apply ed_orV) <;> walk_at "go"
  | (with_reducible apply ed_notV) <;> walk_at "go"
  | (with_reducible apply ed_tup) <;> walk_at "go"
  | (with_reducible apply ev_call) <;> walk_at "go"
  | (with_reducible apply ed_isi) <;> walk_at "go"
  | (with_reducible apply ed_catS) <;> walk_at "go"
  | (with_reducible apply ed_repS) <;> walk_at "go"
  | (with_reducible apply EvL.dat) <;> walk_at "go")
local macro_rules | `(tactic| walk_at "evR") => `(tactic| first
  | (with_reducible apply EvD.r) <;> walk_at "go"
  | (with_reducible apply EvS.r) <;> walk_at "go")
local macro_rules | `(tactic| walk_at "evS") => `(tactic| first
  | (with_reducible apply es_own) <;> walk_at "go"
  | (with_reducible apply EvD.s) <;> walk_at "go"
  | (with_reducible apply EvL.s) <;> walk_at "go")
local macro_rules | `(tactic| walk_at "evL") => `(tactic| first
  | (with_reducible apply el_lst) <;> walk_at "go"
  | (with_reducible apply ev_callL) <;> walk_at "go")
local macro_rules | `(tactic| walk_at "evA") => `(tactic| first
  | with_reducible exact ea_nil
  | (with_reducible apply ea_cons) <;> walk_at "go")
local macro_rules | `(tactic| walk_at "evQ") => `(tactic| first
  | with_reducible exact eq_nil
  | (with_reducible apply eq_cons) <;> walk_at "go")
local macro_rules | `(tactic| walk_at "evB") => `(tactic| first
  | (with_reducible apply eb_and) <;> walk_at "go"
  | (with_reducible apply eb_or) <;> walk_at "go"
  | (with_reducible apply eb_not) <;> walk_at "go"
  | (with_reducible apply eb_val) <;> walk_at "go")
local macro_rules | `(tactic| walk_at "era") => `(tactic| first
  | ((simp only [eraAll, D.era, era_dF, era_dP, era_dFs, era_dI, era_dS, era_dPs, era_dRows, era_dRopes]); done)
  | ((simp only [eraAll, D.era, era_dF, era_dP, era_dFs, era_dI, era_dS, era_dPs, era_dRows, era_dRopes]); exact rfl))
local macro_rules | `(tactic| walk_at "frs") => `(tactic| first
  | exact rfl
  | exact fr_dFs _
  | exact fr_dI _
  | exact fr_dS _
  | exact fr_dPs _
  | exact fr_dRows _
  | exact fr_dRopes _
  | (simp only [frAll, D.fr, fr_dFs, fr_dI, fr_dS, fr_dPs, fr_dRows, fr_dRopes, decide_true, Bool.and_true, Bool.true_and]; done))
local macro_rules | `(tactic| walk_at "go") => `(tactic| first
  | ((with_reducible show eraAll _ = _); walk_at "era")
  | ((with_reducible show D.fr _ = true); walk_at "frs")
  | ((with_reducible show frAll _ = true); walk_at "frs")
  | ((with_reducible show _ = some (Cell.dat _)); exact rfl)
  | ((with_reducible show _ = some (Cell.own _)); exact rfl)
  | ((with_reducible show D.tn _ = some _); exact rfl)
  | ((with_reducible show atI _ _ = some _); first | exact rfl | assumption)
  | ((with_reducible show EvD _ _ _ _ _); walk_at "evD")
  | ((with_reducible show EvR _ _ _ _ _); walk_at "evR")
  | ((with_reducible show EvS _ _ _ _ _); walk_at "evS")
  | ((with_reducible show EvL _ _ _ _ _); walk_at "evL")
  | ((with_reducible show EvA _ _ _ _ _); walk_at "evA")
  | ((with_reducible show EvAD _ _ _ _ _); walk_at "evQ")
  | ((with_reducible show EvB _ _ _ _ _); walk_at "evB")
  | ((with_reducible show _ = _ → _); intro hv; walk_at "go")
  | ((fail_if_success (with_reducible show EvD _ _ _ _ _)); (fail_if_success (with_reducible show EvR _ _ _ _ _)); (fail_if_success (with_reducible show EvS _ _ _ _ _)); (fail_if_success (with_reducible show EvL _ _ _ _ _)); (fail_if_success (with_reducible show EvA _ _ _ _ _)); (fail_if_success (with_reducible show EvAD _ _ _ _ _)); (fail_if_success (with_reducible show EvB _ _ _ _ _)); (fail_if_success (with_reducible show _ = some (Cell.dat _))); (fail_if_success (with_reducible show _ = some (Cell.own _))); (fail_if_success (with_reducible show atI _ _ = some _)); (fail_if_success (with_reducible show D.tn _ = some _)); (fail_if_success (with_reducible show eraAll _ = _)); (fail_if_success (with_reducible show D.fr _ = true)); (fail_if_success (with_reducible show frAll _ = true)); first | walk_at "R" | walk_at "sd"))
local macro_rules | `(tactic| walk_at "len") => `(tactic| first
  | exact (by decide)
  | (simp; done)
  | omega)
local macro_rules | `(tactic| walk_at "st") => `(tactic| first
  | ((with_reducible show At _ _ _ _ _ _); try dsimp only [List.set])
  | ((with_reducible show _ = _ → At _ _ _ _ _ _); intro hb)
  | ((with_reducible show _ < _); walk_at "len")
  | walk_at "go")
local macro_rules | `(tactic| walk_at "asg") => `(tactic| first
  | (with_reducible apply sq_asg) <;> walk_at "st"
  | (with_reducible apply at_asg) <;> walk_at "st")
local macro_rules | `(tactic| walk_at "asgL") => `(tactic| first
  | (with_reducible apply sq_asgL) <;> walk_at "st"
  | (with_reducible apply at_asgL) <;> walk_at "st")
local macro_rules | `(tactic| walk_at "app") => `(tactic| first
  | (with_reducible apply sq_append) <;> walk_at "st"
  | (with_reducible apply at_append) <;> walk_at "st")
local macro_rules | `(tactic| walk_at "ret") => `(tactic| first
  | (with_reducible apply at_ret) <;> walk_at "st")
local macro_rules | `(tactic| walk_at "when") => `(tactic| first
  | (with_reducible apply sq_when) <;> walk_at "st"
  | (with_reducible apply at_when) <;> walk_at "st")
local macro_rules | `(tactic| walk_at "if") => `(tactic| first
  | (with_reducible apply sq_if) <;> walk_at "st"
  | (with_reducible apply at_if) <;> walk_at "st")
local macro_rules | `(tactic| walk_at "fd") => `(tactic| first
  | exact rfl
  | assumption)
local macro_rules | `(tactic| walk_at "R") => `(tactic| first
  | (with_reducible apply rc_see_pairs) <;> walk_at "sd"
  | (with_reducible apply rc_hsum) <;> walk_at "sd"
  | (with_reducible apply rc_table) <;> walk_at "sd"
  | (with_reducible apply rc_lropes) <;> walk_at "sd"
  | (with_reducible apply rc_summedp) <;> walk_at "sd"
  | (with_reducible apply rc_lifted) <;> walk_at "sd"
  | (with_reducible apply rc_holds) <;> walk_at "sd"
  | (with_reducible apply rc_spare) <;> walk_at "sd"
  | (with_reducible apply rc_gain) <;> walk_at "sd"
  | (with_reducible apply rc_is_let) <;> walk_at "sd"
  | (with_reducible apply rc_lsum) <;> walk_at "sd"
  | (with_reducible apply rc_lspare) <;> walk_at "sd"
  | (with_reducible apply rc_held) <;> walk_at "sd"
  | (with_reducible apply rc_parts) <;> walk_at "sd"
  | (with_reducible apply rc_drawn) <;> walk_at "sd"
  | (with_reducible apply rc_lrow) <;> walk_at "sd"
  | (with_reducible apply rc_lplus) <;> walk_at "sd"
  | (with_reducible apply rc_times_int) <;> walk_at "sd"
  | (with_reducible apply rc_int_times) <;> walk_at "sd"
  | (with_reducible apply rc_less0) <;> walk_at "sd"
  | (with_reducible apply rc_init) <;> walk_at "sd")
local macro_rules | `(tactic| walk_at "evD") => `(tactic| first
  | (with_reducible apply ed_sum) <;> walk_at "go"
  | (with_reducible apply ed_min) <;> walk_at "go"
  | (with_reducible apply ed_max) <;> walk_at "go"
  | (with_reducible apply ed_heavy) <;> walk_at "go"
  | (with_reducible apply ed_table) <;> walk_at "go"
  | (with_reducible apply ed_make) <;> walk_at "go"
  | (with_reducible apply ed_meth) <;> walk_at "go"
  | (with_reducible apply ed_fldA) <;> walk_at "fd")
local macro_rules | `(tactic| walk_at "evL") => `(tactic| first
  | (with_reducible apply el_list) <;> walk_at "go"
  | (with_reducible apply el_cat) <;> walk_at "go"
  | (with_reducible apply el_rep) <;> walk_at "go"
  | (with_reducible apply el_slice) <;> walk_at "go"
  | (with_reducible apply el_meth) <;> walk_at "go")
local macro_rules | `(tactic| walk_at "evS") => `(tactic| first
  | (with_reducible apply es_fldA) <;> walk_at "fd")
local macro_rules | `(tactic| walk_at "evO") => `(tactic| first
  | with_reducible exact eo_none
  | (with_reducible apply eo_some) <;> walk_at "go")
local macro_rules | `(tactic| walk_at "go") => `(tactic| first
  | ((with_reducible show EvO _ _ _ _ _); walk_at "evO"))
local macro_rules | `(tactic| walk_at "fld") => `(tactic| first
  | (with_reducible apply sq_fld) <;> walk_at "st"
  | (with_reducible apply at_fld) <;> walk_at "st")
local macro_rules | `(tactic| walk_at "fldL") => `(tactic| first
  | (with_reducible apply sq_fldL) <;> walk_at "st"
  | (with_reducible apply at_fldL) <;> walk_at "st")
local macro_rules | `(tactic| walk_at "drop") => `(tactic| first
  | (with_reducible apply sq_drop) <;> walk_at "st"
  | (with_reducible apply at_drop) <;> walk_at "st")
section
variable {K : PySem.W.Frag} {C : Addr}
local macro_rules | `(tactic| walk_at "R") => `(tactic| first
  | (with_reducible apply rc_initD) <;> walk_at "sd"
  | (with_reducible apply rc_ltotal) <;> walk_at "sd"
  | (with_reducible apply rc_lplusF) <;> walk_at "sd")
local macro_rules | `(tactic| walk_at "evD") => `(tactic| (with_reducible apply ed_isT) <;> walk_at "go")
theorem Sz.getD {n : Nat} {l : List Rat} {i : Nat} (h : SzL n l) (hi : i < l.length) : Sz n (l.getD i 0) := h _ (getD_mem hi)
theorem p_law_total : Body (t_law_total K C) n_law_total (sp_law_total K C) := by
  rintro vs H Q E ⟨ds, d, r, ⟨m, n, xs, ys, hmn, hx, hy, h5, hl, rfl, rfl⟩, k⟩
  refine start_at r (n := 2) (by rw [r.length]; rfl) ?_
  unfold t_law_total
  refine sq_asg (d := dF 0) (by rw [dF0]; walk_at "evD") (by simp [uns]) ?_
  let g : Nat → Rat := fun k => xs.getD k 0 * ys.getD k 0
  refine sq_forN (n := xs.length) (EvA.to (by walk_at "evA") (by simp)) (by omega) (fun i ρ' => i ≤ xs.length ∧ ∃ c4, ρ' = [.dat (.lst .x (dFs xs)), .dat (.lst .x (dFs ys)), .dat (dF ((List.range i).map g).sum), c4]) ⟨by omega, _, rfl⟩ (by rintro i ρ' ⟨_, _, rfl⟩; simp) ?_ ?_
  · rintro i ρ' hi ⟨hi2, c4, rfl⟩
    dsimp only [List.set]
    have g1 := Sz.getD hx hi
    have g2 := Sz.getD (i := i) hy (by omega)
    have st : Sz 4000 ((List.range i).map g).sum := (sz_sum (n := m + n) fun q hq => by
      obtain ⟨r, hr, rfl⟩ := List.mem_map.mp hq
      have hr' := List.mem_range.mp hr
      exact (Sz.getD hx (by omega)).mul (Sz.getD hy (by omega))).mono (by
        have h6 : ((List.range i).map g).length ≤ 5 := by simp; omega
        have h7 := Nat.mul_le_mul_left (m + n + 1) h6
        omega)
    have a1 : atI (dFs xs) (i : Int) = some (dF (xs.getD i 0)) := atI_map 0 hi
    have a2 : atI (dFs ys) (i : Int) = some (dF (ys.getD i 0)) := atI_map 0 (by omega)
    have e := mul_eq (xs.getD i 0) (ys.getD i 0)
    have f1 : Sz 4000 (xs.getD i 0) := g1.mono (by omega)
    have f2 : Sz 4000 (ys.getD i 0) := g2.mono (by omega)
    have f3 : Sz 4000 (Rat.divInt ((xs.getD i 0).num * (ys.getD i 0).num) ((xs.getD i 0).den * (ys.getD i 0).den)) := by rw [← e]; exact (g1.mul g2).mono (by omega)
    have b1 := sz_nums f1 f2
    have b2 := sz_dens f1 f2
    have b3 := sz_den2 f1 f2
    have b4 := Int.mul_pos (den_pos (xs.getD i 0)) (den_pos (ys.getD i 0))
    unfold dF at a1 a2
    generalize hp : Rat.divInt ((xs.getD i 0).num * (ys.getD i 0).num) ((xs.getD i 0).den * (ys.getD i 0).den) = p at *
    have el : EvD K C (tCall (sp_law_low K C) [] E0 (tCons (xMul (xIdx K (xIdx K (tVar 0) (tVar 3)) (tC (.int 0))) (xIdx K (xIdx K (tVar 1) (tVar 3)) (tC (.int 0)))) (tCons (xMul (xIdx K (xIdx K (tVar 0) (tVar 3)) (tC (.int 1))) (xIdx K (xIdx K (tVar 1) (tVar 3)) (tC (.int 1)))) tNil)))
        [.dat (.lst .x (dFs xs)), .dat (.lst .x (dFs ys)), .dat (dF ((List.range i).map g).sum), .dat (.int i)] (dF p) := by
      rw [← hp]
      walk_at "evD"
    refine at_asg (d := dF (((List.range i).map g).sum + p)) (ev_call (ea_cons (by walk_at "evR") (ea_cons el.r ea_nil)) (by walk_at "era") ⟨((List.range i).map g).sum.num, ((List.range i).map g).sum.den, p.num, p.den, den_pos _, den_pos _, st.1, st.den, f3.1, f3.den, rfl, by rw [← rat_eq, ← rat_eq]⟩ rfl) (by simp) ?_
    dsimp only [List.set]
    have e : ((List.range (i + 1)).map g).sum = ((List.range i).map g).sum + p := by rw [range_map_succ, sum_snoc, ← e]
    exact at_gx ⟨hi, _, by rw [e]⟩
  · rintro ρ' ⟨_, c4, rfl⟩
    walk_at "ret"
theorem sz_spare {n : Nat} {row : List Int} {ms : List Rat} (hst : ∀ z ∈ row, -9 ≤ z ∧ z ≤ 9) (h4 : row.length ≤ 4) (hz : SzL 100 ms) (hl : ms.length = row.length) : Sz 600 (spareOf row ms) := (sz_sum (n := 104) fun q hq => by
  obtain ⟨b, hb, rfl⟩ := List.mem_map.mp hq
  have hb' := List.mem_range.mp hb
  exact (sz9 (hst _ (getD_mem hb'))).mul (hz _ (getD_mem (by omega)))).mono (by simp; omega)
theorem sz_spares {ws : List Int} {tb : List (List Int)} {ms : List Rat} (ho : HoOk ws tb) (hz : SzL 100 ms) (hl : ms.length = ws.length) : SzL 600 (tb.map fun r => spareOf r ms) := fun q hq => by
  obtain ⟨r, hr, rfl⟩ := List.mem_map.mp hq
  have h1 := ho.row r hr
  have h2 := ho.w4
  exact sz_spare (n := 0) (ho.st r hr) (by omega) hz (by omega)
theorem SzL.mono {m n : Nat} {l : List Rat} (h : SzL m l) (hmn : m ≤ n) : SzL n l := fun q hq => (h q hq).mono hmn
theorem gain_spare {ws : List Int} {ms : List Rat} (hl : ms.length = ws.length) : gainOf ws ms = spareOf ws ms := by unfold gainOf spareOf; rw [hl]
theorem sz_gain {ws : List Int} {tb : List (List Int)} {ms : List Rat} (ho : HoOk ws tb) (hz : SzL 100 ms) (hl : ms.length = ws.length) : Sz 600 (gainOf ws ms) := (sz_sum (n := 110) fun q hq => by
  obtain ⟨b, hb, rfl⟩ := List.mem_map.mp hq
  have hb' := List.mem_range.mp hb
  exact (szw (ho.wv _ (getD_mem (by omega)))).mul (hz _ (getD_mem hb'))).mono (by
    have := ho.w4
    simp; omega)
theorem let_min {tb : List (List Int)} {ms : List Rat} {m : Int} (h0 : tb = [] → m = 0) (hm : tb ≠ [] → IsMin (tb.map fun r => (spareOf r ms).num) m) : letB tb ms = decide (0 ≤ m) := by
  unfold letB
  apply decide_eq_decide.mpr
  by_cases z : tb = []
  · subst z
    rw [h0 rfl]; simp
  · have h := hm z
    constructor
    · intro a
      obtain ⟨r, hr, e⟩ := List.mem_map.mp h.mem
      have := a r hr
      rw [← rat_num_neg, e] at this
      omega
    · intro a r hr hn
      have := h.le _ (List.mem_map_of_mem hr)
      have h2 : (spareOf r ms).num < 0 := rat_num_neg.mpr hn
      omega
theorem p_law_k05 : Body (t_law_k05 K C) n_law_k05 (sp_law K C) := by
  rintro vs H Q E ⟨ds, d, r, ⟨ns, hn, rfl, rfl⟩, k⟩
  refine start_at r (n := 14) (by rw [r.length]; rfl) ?_
  have q11 : (11 : Int) = ((11 : Nat) : Int) := rfl
  have q12 : (12 : Int) = ((12 : Nat) : Int) := rfl
  have z3 : (0 : Int) < 3 := by decide
  have z2 : (0 : Int) < 2 := by decide
  have z5 : (0 : Int) < 5 := by decide
  have ho := HoOk.drawn ns
  have r5 := ho.r5
  have w4 := ho.w4
  have tl : (drawnTb ns).length ≤ 100 := by omega
  have hrow : ∀ r ∈ drawnTb ns, 1 ≤ r.length ∧ r.length ≤ 10 := fun r hr => by
    have := ho.row r hr
    have := ho.w1
    omega
  have a3 : CDivW (ns.getD 11 0) 3 := ⟨by decide, by decide +kernel⟩
  have dl : (dI (drawnWs ns)).length = (drawnWs ns).length := by simp
  have dl2 : (dI (drawnWs ns)).length ≤ 100 := by omega
  unfold t_law_k05
  walk_at "asg"
  walk_at "asg"
  walk_at "asg"
  walk_at "asg"
  refine sq_asgL (xs := dFs (rowF ns 12 (drawnWs ns).length)) (EvL.to (by walk_at "evL") (by rw [dl])) (by simp [uns]) ?_
  dsimp only [List.set, List.map, uns, List.cons_append, List.nil_append]
  refine sq_mid (fun ρ' => ∃ ms c6, SzL 100 ms ∧ ms.length = (drawnWs ns).length ∧ ρ' = [.dat (.scr ns), .dat (.tup [.lst .f (dI (drawnWs ns)), .lst .f (dRows .f (drawnTb ns))]), .dat (.lst .f (dI (drawnWs ns))), .dat (.lst .f (dRows .f (drawnTb ns))), .dat (.ho .f (drawnWs ns) (drawnTb ns)), .own (dFs ms), c6, .un, .un, .un, .un, .un, .un, .un, .un]) (fun fin => ?_) ?_
  · walk_at "when"
    · have e1 : ((List.range (drawnWs ns).length).map fun b => D.tup [.int (ns.getD (12 + b) 0 % 5 - 2), .int 1]) = dFs ((List.range (drawnWs ns).length).map fun b => ((ns.getD (12 + b) 0 % 5 - 2 : Int) : Rat)) := by
        rw [dFs, List.map_map]
        exact List.map_congr_left fun r _ => (dF_int _).symm
      refine at_asgL (EvL.to (el_lcN (n := (drawnWs ns).length) (g := fun b => D.tup [.int (ns.getD (12 + b) 0 % 5 - 2), .int 1]) (EvA.to (by walk_at "evA") (by rw [dl])) (by omega) (by simp) fun r hr => ?_) e1) (by simp) ?_
      · have e1 : (12 : Int) + (r : Int) = ((12 + r : Nat) : Int) := by omega
        dsimp only [List.set]
        walk_at "evD"
      · dsimp only [List.set]
        refine fin _ ⟨_, .un, fun q hq => ?_, by simp, rfl⟩
        obtain ⟨r, _, rfl⟩ := List.mem_map.mp hq
        exact (sz_int (n := 4) (by decide) (by omega)).mono (by decide)
    · exact fin _ ⟨rowF ns 12 (drawnWs ns).length, _, SzL.row ns 12 _, by simp [rowF], rfl⟩
  rintro ρ' ⟨ms, c6, hz, hl, rfl⟩
  refine At.freeze (i := 5) rfl ?_
  dsimp only [List.set]
  walk_at "asgL"
  have hdue : EvL K C (tLc (iList K (tVar 3)) (gName 9) tYes (tCall (sp_law_spare K C) [] E0 (tCons (tVar 9) (tCons (tVar 5) tNil))) [9])
      [.dat (.scr ns), .dat (.tup [.lst .f (dI (drawnWs ns)), .lst .f (dRows .f (drawnTb ns))]), .dat (.lst .f (dI (drawnWs ns))), .dat (.lst .f (dRows .f (drawnTb ns))), .dat (.ho .f (drawnWs ns) (drawnTb ns)), .dat (.lst .f (dFs ms)), c6, .own (dFs ms), .un, .un, .un, .un, .un, .un, .un] (dFs ((drawnTb ns).map fun r => spareOf r ms)) := by
    refine EvL.to (el_lcMap (as := drawnTb ns) (f := fun r => .lst .f (dI r)) (g := fun r => dF (spareOf r ms)) (m := .f) (by walk_at "evD") (by omega) (by simp) fun r hr => ?_) (by simp)
    have h1 := ho.row r hr
    have h2 := ho.st r hr
    have h3 : ∀ z ∈ r, -2000 ≤ z ∧ z ≤ 2000 := fun z hz => by have := h2 z hz; omega
    have h5 : r.length ≤ 5 := by omega
    have h6 : ms.length = r.length := by omega
    dsimp only [List.set]
    walk_at "evD"
  refine sq_asgL hdue (by simp) ?_
  refine At.freeze (i := 8) rfl ?_
  dsimp only [List.set]
  walk_at "asgL"
  have ss := sz_spares ho hz hl
  have ss85 := ss.mono (n := 8500) (by decide)
  have sl : ((drawnTb ns).map fun r => spareOf r ms).length ≤ 1000 := by simp; omega
  refine sq_when (b := false) (EvB.to (eb_or (a := false) (EvB.to (eb_not (eb_val (ev_call (by walk_at "evA") (by walk_at "era") (rc_parts (qs := (drawnTb ns).map fun r => spareOf r ms) ss85 sl (by simp [dRows])) rfl))) rfl) fun _ => eb_or (a := false) (EvB.to (eb_val (ed_ne (es_own rfl).r (by walk_at "evR") EqD.fracs)) (by simp)) fun _ => EvB.to (eb_val (ed_ne (es_own rfl).r (by walk_at "evR") EqD.fracs)) (b' := false) (by simp)) rfl) (fun z => nomatch z) fun _ => ?_
  refine sq_append rfl (by walk_at "evD") (by simp; omega) ?_
  dsimp only [List.set]
  walk_at "asg"
  have sg := sz_gain ho hz hl
  have sg85 : Sz 8500 (gainOf (drawnWs ns) ms) := sg.mono (by decide)
  have w5 : (drawnWs ns).length ≤ 5 := by omega
  have hw2 : ∀ z ∈ drawnWs ns, -2000 ≤ z ∧ z ≤ 2000 := fun z hz => by have := ho.wv z hz; omega
  refine sq_when (b := false) (EvB.to (eb_or (a := false) (EvB.to (eb_not (eb_val (ev_call (by walk_at "evA") (by walk_at "era") (rc_part sg85) rfl))) rfl) fun _ => EvB.to (eb_val (ed_ne (d := dF (gainOf (drawnWs ns) ms)) (e := dF (spareOf (drawnWs ns) ms)) (by walk_at "evR") (by walk_at "evR") EqD.frac)) (b' := false) (by rw [gain_spare hl]; simp)) rfl) (fun z => nomatch z) fun _ => ?_
  walk_at "asg"
  obtain ⟨m, h0, hm⟩ : ∃ m : Int, (drawnTb ns = [] → m = 0) ∧ (drawnTb ns ≠ [] → IsMin ((drawnTb ns).map fun r => (spareOf r ms).num) m) := by
    by_cases z : drawnTb ns = []
    · exact ⟨0, fun _ => rfl, fun h => absurd z h⟩
    · obtain ⟨m, hm⟩ := exMin (ns := (drawnTb ns).map fun r => (spareOf r ms).num) (by simpa using z)
      exact ⟨m, fun h => absurd h z, fun _ => hm⟩
  refine sq_asg (d := .bl (decide (0 ≤ m))) (ed_ge (ed_minD (ns := (drawnTb ns).map fun r => (spareOf r ms).num) (EvL.s (EvL.to (el_lcMap (as := (drawnTb ns).map fun r => spareOf r ms) (f := dF) (g := fun q => .int q.num) (m := .f) (by walk_at "evD") (by simp; omega) (by simp) fun q hq => ?_) (by simp))) ed_int.r (fun z => h0 (by simpa using z)) (fun z => hm (by simpa using z))).r ed_int.r) (by simp) ?_
  · dsimp only [List.set, dF]
    walk_at "evD"
  dsimp only [List.set]
  refine at_ret (EvD.to (ed_andV (by walk_at "evD") fun _ => ed_andV (by walk_at "evD") fun _ => ed_andV (ed_eq (EvL.s (by walk_at "evL")).r (by walk_at "evR") EqD.fracs) fun _ => ed_eq (es_own rfl).r (by walk_at "evR") EqD.fracs) ?_) k
  rw [let_min h0 hm]
  simp
end
end Hw
namespace Hw
open PySem L2
/-! sums -/
def S (n : Nat) (f : Nat → Rat) : Rat := ((List.range n).map f).sum
theorem S_zero (f : Nat → Rat) : S 0 f = 0 := rfl
theorem S_succ (n : Nat) (f : Nat → Rat) : S (n + 1) f = S n f + f n := by unfold S; rw [range_map_succ, sum_snoc]
theorem S_congr {n : Nat} {f g : Nat → Rat} (h : ∀ i, i < n → f i = g i) : S n f = S n g := by
  induction n with
  | zero => rfl
  | succ n ih => rw [S_succ, S_succ, ih fun i hi => h i (by omega), h n (by omega)]
theorem S_add (n : Nat) (f g : Nat → Rat) : S n (fun i => f i + g i) = S n f + S n g := by
  induction n with
  | zero => rw [S_zero, S_zero, S_zero]; grind
  | succ n ih => rw [S_succ, S_succ, S_succ, ih]; grind
theorem S_mul (n : Nat) (c : Rat) (f : Nat → Rat) : S n (fun i => c * f i) = c * S n f := by
  induction n with
  | zero => rw [S_zero, S_zero]; grind
  | succ n ih => rw [S_succ, S_succ, ih]; grind
theorem S_mulr (n : Nat) (c : Rat) (f : Nat → Rat) : S n (fun i => f i * c) = S n f * c := by
  induction n with
  | zero => rw [S_zero, S_zero]; grind
  | succ n ih => rw [S_succ, S_succ, ih]; grind
theorem S_swap (n m : Nat) (f : Nat → Nat → Rat) : S n (fun i => S m (fun j => f i j)) = S m (fun j => S n (fun i => f i j)) := by
  induction n with
  | zero =>
    rw [S_zero]
    rw [show S m (fun j => S 0 fun i => f i j) = S m (fun j => (0 : Rat) * 0) from S_congr fun i _ => by rw [S_zero]; grind, S_mul]; grind
  | succ n ih =>
    rw [S_succ, ih, ← S_add]
    exact S_congr fun j _ => (S_succ n _).symm
theorem S_nonneg {n : Nat} {f : Nat → Rat} (h : ∀ i, i < n → 0 ≤ f i) : 0 ≤ S n f := by
  induction n with
  | zero => rw [S_zero]; grind
  | succ n ih =>
    rw [S_succ]
    have h1 := ih fun i hi => h i (by omega)
    have h2 := h n (by omega)
    grind
theorem S_split {n : Nat} {r : Nat} (hr : r < n) (f : Nat → Rat) : S n f = f r + S n (fun i => if i = r then 0 else f i) := by
  induction n with
  | zero => omega
  | succ n ih =>
    rw [S_succ, S_succ]
    by_cases e : r = n
    · subst e
      rw [if_pos rfl, show S r (fun i => if i = r then 0 else f i) = S r f from S_congr fun i hi => if_neg (by omega)]
      grind
    · rw [ih (by omega), if_neg (fun z => e z.symm)]
      grind
theorem S_sub (n : Nat) (f g : Nat → Rat) : S n (fun i => f i - g i) = S n f - S n g := by
  induction n with
  | zero => rw [S_zero, S_zero, S_zero]; grind
  | succ n ih => rw [S_succ, S_succ, S_succ, ih]; grind
theorem S_const0 {n : Nat} {f : Nat → Rat} (h : ∀ i, i < n → f i = 0) : S n f = 0 := by
  induction n with
  | zero => rfl
  | succ n ih => rw [S_succ, ih fun i hi => h i (by omega), h n (by omega)]; grind
/-- only one place counts -/
theorem S_one {n r : Nat} {f : Nat → Rat} (hr : r < n) (h : ∀ i, i < n → i ≠ r → f i = 0) : S n f = f r := by
  rw [S_split hr, S_const0 (fun i hi => by by_cases e : i = r <;> simp [e]; exact h i hi e)]; grind
theorem S_pos {n : Nat} {f : Nat → Rat} (h : 0 < S n f) : ∃ i, i < n ∧ 0 < f i := by
  induction n with
  | zero => rw [S_zero] at h; exact absurd h (by decide)
  | succ n ih =>
    rw [S_succ] at h
    by_cases z : 0 < f n
    · exact ⟨n, by omega, z⟩
    · obtain ⟨i, hi, hf⟩ := ih (by grind)
      exact ⟨i, by omega, hf⟩
/-- a sum of things not below nought that comes to nought -/
theorem S_zero_all {n : Nat} {f : Nat → Rat} (h : ∀ i, i < n → 0 ≤ f i) (e : S n f = 0) : ∀ i, i < n → f i = 0 := by
  intro i hi
  rw [S_split hi] at e
  have h1 := h i hi
  have h2 : 0 ≤ S n (fun j => if j = i then 0 else f j) := S_nonneg fun j hj => by
    by_cases z : j = i
    · rw [if_pos z]; exact Rat.le_refl
    · rw [if_neg z]; exact h j hj
  grind
end Hw
namespace Hw
open PySem L2
local macro_rules | `(tactic| walk_at "sd") => `(tactic| first
  | exact rfl
  | decide +kernel
  | (exact Nat.le_of_ble_eq_true rfl)
  | assumption
  | (exact Sz.mono (by assumption) (by decide))
  | decide
  | omega
  | (exact eraAll_map _ _ (fun _ => rfl) _)
  | (exact frAll_map _ (fun _ => rfl) _)
  | exact EqD.frac
  | exact EqD.int
  | exact EqD.bl
  | exact EqD.pair
  | skip)
local macro_rules | `(tactic| walk_at "R") => `(tactic| first
  | (with_reducible apply rc_common) <;> walk_at "sd"
  | (with_reducible apply rc_fraction) <;> walk_at "sd"
  | (with_reducible apply rc_plus) <;> walk_at "sd"
  | (with_reducible apply rc_minus) <;> walk_at "sd"
  | (with_reducible apply rc_times) <;> walk_at "sd"
  | (with_reducible apply rc_over) <;> walk_at "sd"
  | (with_reducible apply rc_less) <;> walk_at "sd"
  | (with_reducible apply rc_cell) <;> walk_at "sd"
  | (with_reducible apply rc_whole) <;> walk_at "sd"
  | (with_reducible apply rc_low) <;> walk_at "sd"
  | (with_reducible apply rc_part) <;> walk_at "sd"
  | (with_reducible apply rc_lfraction) <;> walk_at "sd")
local macro_rules | `(tactic| walk_at "evD") => `(tactic| first
  | with_reducible exact ed_int
  | with_reducible exact ed_bl
  | with_reducible exact ed_non
  | with_reducible exact ed_str
  | (with_reducible apply ed_var) <;> walk_at "go"
  | (with_reducible apply ed_add) <;> walk_at "go"
  | (with_reducible apply ed_sub) <;> walk_at "go"
  | (with_reducible apply ed_mul) <;> walk_at "go"
  | (with_reducible apply ed_div) <;> walk_at "go"
  | (with_reducible apply ed_mod) <;> walk_at "go"
  | (with_reducible apply ed_pow) <;> walk_at "go"
  | (with_reducible apply ed_neg) <;> walk_at "go"
  | (with_reducible apply ed_lt) <;> walk_at "go"
  | (with_reducible apply ed_le) <;> walk_at "go"
  | (with_reducible apply ed_gt) <;> walk_at "go"
  | (with_reducible apply ed_ge) <;> walk_at "go"
  | (with_reducible apply ed_leLt) <;> walk_at "go"
  | (with_reducible apply ed_leLe) <;> walk_at "go"
  | (with_reducible apply ed_ltLt) <;> walk_at "go"
  | (with_reducible apply ed_eq) <;> walk_at "go"
  | (with_reducible apply ed_ne) <;> walk_at "go"
  | (with_reducible apply ed_idxT) <;> walk_at "go"
  | (with_reducible apply ed_idxS) <;> walk_at "go"
  | (with_reducible apply ed_idxScr) <;> walk_at "go"
  | (with_reducible apply ed_lenS) <;> walk_at "go"
  | (with_reducible apply ed_lenT) <;> walk_at "go"
  | (with_reducible apply ed_lenScr) <;> walk_at "go"
  | (with_reducible apply ed_abs) <;> walk_at "go"
  | (with_reducible apply ed_intI) <;> walk_at "go"
  | (with_reducible apply ed_intB) <;> walk_at "go"
  | (with_reducible apply ed_intS) <;> walk_at "go"
  | (with_reducible apply ed_andV) <;> walk_at "go"
  | (with_reducible apply ed_orV) <;> walk_at "go"
  | (with_reducible apply ed_notV) <;> walk_at "go"
  | (with_reducible apply ed_tup) <;> walk_at "go"
  | (with_reducible apply ev_call) <;> walk_at "go"
  | (with_reducible apply ed_isi) <;> walk_at "go"
  | (with_reducible apply ed_catS) <;> walk_at "go"
  | (with_reducible apply ed_repS) <;> walk_at "go"
  | (with_reducible apply EvL.dat) <;> walk_at "go")
local macro_rules | `(tactic| walk_at "evR") => `(tactic| first
  | (with_reducible apply EvD.r) <;> walk_at "go"
  | (with_reducible apply EvS.r) <;> walk_at "go")
local macro_rules | `(tactic| walk_at "evS") => `(tactic| first
  | (with_reducible apply es_own) <;> walk_at "go"
  | (with_reducible apply EvD.s) <;> walk_at "go"
  | (with_reducible apply EvL.s) <;> walk_at "go")
local macro_rules | `(tactic| walk_at "evL") => `(tactic| first
  | (with_reducible apply el_lst) <;> walk_at "go"
  | (with_reducible apply ev_callL) <;> walk_at "go")
local macro_rules | `(tactic| walk_at "evA") => `(tactic| first
  | with_reducible exact ea_nil
  | (with_reducible apply ea_cons) <;> walk_at "go")
local macro_rules | `(tactic| walk_at "evQ") => `(tactic| first
  | with_reducible exact eq_nil
  | (with_reducible apply eq_cons) <;> walk_at "go")
local macro_rules | `(tactic| walk_at "evB") => `(tactic| first
  | (with_reducible apply eb_and) <;> walk_at "go"
  | (with_reducible apply eb_or) <;> walk_at "go"
  | (with_reducible apply eb_not) <;> walk_at "go"
  | (with_reducible apply eb_val) <;> walk_at "go")
local macro_rules | `(tactic| walk_at "era") => `(tactic| first
  | ((simp only [eraAll, D.era, era_dF, era_dP, era_dFs, era_dI, era_dS, era_dPs, era_dRows, era_dRopes]); done)
  | ((simp only [eraAll, D.era, era_dF, era_dP, era_dFs, era_dI, era_dS, era_dPs, era_dRows, era_dRopes]); exact rfl))
local macro_rules | `(tactic| walk_at "frs") => `(tactic| first
  | exact rfl
  | exact fr_dFs _
  | exact fr_dI _
  | exact fr_dS _
  | exact fr_dPs _
  | exact fr_dRows _
  | exact fr_dRopes _
  | (simp only [frAll, D.fr, fr_dFs, fr_dI, fr_dS, fr_dPs, fr_dRows, fr_dRopes, decide_true, Bool.and_true, Bool.true_and]; done))
local macro_rules | `(tactic| walk_at "go") => `(tactic| first
  | ((with_reducible show eraAll _ = _); walk_at "era")
  | ((with_reducible show D.fr _ = true); walk_at "frs")
  | ((with_reducible show frAll _ = true); walk_at "frs")
  | ((with_reducible show _ = some (Cell.dat _)); exact rfl)
  | ((with_reducible show _ = some (Cell.own _)); exact rfl)
  | ((with_reducible show D.tn _ = some _); exact rfl)
  | ((with_reducible show atI _ _ = some _); first | exact rfl | assumption)
  | ((with_reducible show EvD _ _ _ _ _); walk_at "evD")
  | ((with_reducible show EvR _ _ _ _ _); walk_at "evR")
  | ((with_reducible show EvS _ _ _ _ _); walk_at "evS")
  | ((with_reducible show EvL _ _ _ _ _); walk_at "evL")
  | ((with_reducible show EvA _ _ _ _ _); walk_at "evA")
  | ((with_reducible show EvAD _ _ _ _ _); walk_at "evQ")
  | ((with_reducible show EvB _ _ _ _ _); walk_at "evB")
  | ((with_reducible show _ = _ → _); intro hv; walk_at "go")
  | ((fail_if_success (with_reducible show EvD _ _ _ _ _)); (fail_if_success (with_reducible show EvR _ _ _ _ _)); (fail_if_success (with_reducible show EvS _ _ _ _ _)); (fail_if_success (with_reducible show EvL _ _ _ _ _)); (fail_if_success (with_reducible show EvA _ _ _ _ _)); (fail_if_success (with_reducible show EvAD _ _ _ _ _)); (fail_if_success (with_reducible show EvB _ _ _ _ _)); (fail_if_success (with_reducible show _ = some (Cell.dat _))); (fail_if_success (with_reducible show _ = some (Cell.own _))); (fail_if_success (with_reducible show atI _ _ = some _)); (fail_if_success (with_reducible show D.tn _ = some _)); (fail_if_success (with_reducible show eraAll _ = _)); (fail_if_success (with_reducible show D.fr _ = true)); (fail_if_success (with_reducible show frAll _ = true)); first | walk_at "R" | walk_at "sd"))
local macro_rules | `(tactic| walk_at "len") => `(tactic| first
  | exact (by decide)
  | (simp; done)
  | omega)
local macro_rules | `(tactic| walk_at "st") => `(tactic| first
  | ((with_reducible show At _ _ _ _ _ _); try dsimp only [List.set])
  | ((with_reducible show _ = _ → At _ _ _ _ _ _); intro hb)
  | ((with_reducible show _ < _); walk_at "len")
  | walk_at "go")
local macro_rules | `(tactic| walk_at "asg") => `(tactic| first
  | (with_reducible apply sq_asg) <;> walk_at "st"
  | (with_reducible apply at_asg) <;> walk_at "st")
local macro_rules | `(tactic| walk_at "asgL") => `(tactic| first
  | (with_reducible apply sq_asgL) <;> walk_at "st"
  | (with_reducible apply at_asgL) <;> walk_at "st")
local macro_rules | `(tactic| walk_at "app") => `(tactic| first
  | (with_reducible apply sq_append) <;> walk_at "st"
  | (with_reducible apply at_append) <;> walk_at "st")
local macro_rules | `(tactic| walk_at "ret") => `(tactic| first
  | (with_reducible apply at_ret) <;> walk_at "st")
local macro_rules | `(tactic| walk_at "when") => `(tactic| first
  | (with_reducible apply sq_when) <;> walk_at "st"
  | (with_reducible apply at_when) <;> walk_at "st")
local macro_rules | `(tactic| walk_at "if") => `(tactic| first
  | (with_reducible apply sq_if) <;> walk_at "st"
  | (with_reducible apply at_if) <;> walk_at "st")
local macro_rules | `(tactic| walk_at "fd") => `(tactic| first
  | exact rfl
  | assumption)
local macro_rules | `(tactic| walk_at "R") => `(tactic| first
  | (with_reducible apply rc_see_pairs) <;> walk_at "sd"
  | (with_reducible apply rc_hsum) <;> walk_at "sd"
  | (with_reducible apply rc_table) <;> walk_at "sd"
  | (with_reducible apply rc_lropes) <;> walk_at "sd"
  | (with_reducible apply rc_summedp) <;> walk_at "sd"
  | (with_reducible apply rc_lifted) <;> walk_at "sd"
  | (with_reducible apply rc_holds) <;> walk_at "sd"
  | (with_reducible apply rc_spare) <;> walk_at "sd"
  | (with_reducible apply rc_gain) <;> walk_at "sd"
  | (with_reducible apply rc_is_let) <;> walk_at "sd"
  | (with_reducible apply rc_lsum) <;> walk_at "sd"
  | (with_reducible apply rc_lspare) <;> walk_at "sd"
  | (with_reducible apply rc_held) <;> walk_at "sd"
  | (with_reducible apply rc_parts) <;> walk_at "sd"
  | (with_reducible apply rc_drawn) <;> walk_at "sd"
  | (with_reducible apply rc_lrow) <;> walk_at "sd"
  | (with_reducible apply rc_lplus) <;> walk_at "sd"
  | (with_reducible apply rc_times_int) <;> walk_at "sd"
  | (with_reducible apply rc_int_times) <;> walk_at "sd"
  | (with_reducible apply rc_less0) <;> walk_at "sd"
  | (with_reducible apply rc_init) <;> walk_at "sd")
local macro_rules | `(tactic| walk_at "evD") => `(tactic| first
  | (with_reducible apply ed_sum) <;> walk_at "go"
  | (with_reducible apply ed_min) <;> walk_at "go"
  | (with_reducible apply ed_max) <;> walk_at "go"
  | (with_reducible apply ed_heavy) <;> walk_at "go"
  | (with_reducible apply ed_table) <;> walk_at "go"
  | (with_reducible apply ed_make) <;> walk_at "go"
  | (with_reducible apply ed_meth) <;> walk_at "go"
  | (with_reducible apply ed_fldA) <;> walk_at "fd")
local macro_rules | `(tactic| walk_at "evL") => `(tactic| first
  | (with_reducible apply el_list) <;> walk_at "go"
  | (with_reducible apply el_cat) <;> walk_at "go"
  | (with_reducible apply el_rep) <;> walk_at "go"
  | (with_reducible apply el_slice) <;> walk_at "go"
  | (with_reducible apply el_meth) <;> walk_at "go")
local macro_rules | `(tactic| walk_at "evS") => `(tactic| first
  | (with_reducible apply es_fldA) <;> walk_at "fd")
local macro_rules | `(tactic| walk_at "evO") => `(tactic| first
  | with_reducible exact eo_none
  | (with_reducible apply eo_some) <;> walk_at "go")
local macro_rules | `(tactic| walk_at "go") => `(tactic| first
  | ((with_reducible show EvO _ _ _ _ _); walk_at "evO"))
local macro_rules | `(tactic| walk_at "fld") => `(tactic| first
  | (with_reducible apply sq_fld) <;> walk_at "st"
  | (with_reducible apply at_fld) <;> walk_at "st")
local macro_rules | `(tactic| walk_at "fldL") => `(tactic| first
  | (with_reducible apply sq_fldL) <;> walk_at "st"
  | (with_reducible apply at_fldL) <;> walk_at "st")
local macro_rules | `(tactic| walk_at "drop") => `(tactic| first
  | (with_reducible apply sq_drop) <;> walk_at "st"
  | (with_reducible apply at_drop) <;> walk_at "st")
theorem dotF_S (xs ys : List Rat) : dotF xs ys = S xs.length fun k => xs.getD k 0 * ys.getD k 0 := rfl
theorem getD_mapS {α : Type} (f : α → Rat) (l : List α) (i : Nat) (a : α) (h : i < l.length) : (l.map f).getD i 0 = f (l.getD i a) := by
  rw [List.getD_eq_getElem?_getD, List.getElem?_map, List.getD_eq_getElem?_getD, List.getElem?_eq_getElem h]; rfl
theorem lift_getD {ws : List Int} {tb : List (List Int)} {ps : List Rat} {b : Nat} (h : b < ws.length) : (liftL ws tb ps).getD b 0 = S tb.length fun r => ps.getD r 0 * (tget tb r b : Rat) := by
  unfold liftL
  rw [List.getD_eq_getElem?_getD, List.getElem?_map, List.getElem?_range h]; rfl
theorem spare_S {row : List Int} {ms : List Rat} : spareOf row ms = S row.length fun b => (row.getD b 0 : Rat) * ms.getD b 0 := rfl
/-- pulls and ways, summed either way -/
theorem work_eq {ws : List Int} {tb : List (List Int)} {ps ms : List Rat} (hr : ∀ r ∈ tb, r.length = ws.length) (hp : ps.length = tb.length) (hm : ms.length = ws.length) : dotF ps (tb.map fun r => spareOf r ms) = dotF (liftL ws tb ps) ms := by
  rw [dotF_S, dotF_S, hp, liftL_len]
  have e1 : S tb.length (fun k => ps.getD k 0 * (tb.map fun r => spareOf r ms).getD k 0) = S tb.length fun r => S ws.length fun b => ps.getD r 0 * (tget tb r b : Rat) * ms.getD b 0 := S_congr fun r h => by
    rw [getD_mapS _ _ _ [] h, spare_S, hr _ (getD_mem h), ← S_mul]
    exact S_congr fun b _ => by unfold tget; grind
  have e2 : S ws.length (fun k => (liftL ws tb ps).getD k 0 * ms.getD k 0) = S ws.length fun b => S tb.length fun r => ps.getD r 0 * (tget tb r b : Rat) * ms.getD b 0 := S_congr fun b h => by
    rw [lift_getD h, ← S_mulr]
  rw [e1, e2, S_swap]
theorem gain_nonneg {ws : List Int} {tb : List (List Int)} {ps ms : List Rat} (hr : ∀ r ∈ tb, r.length = ws.length) (hp : ps.length = tb.length) (hm : ms.length = ws.length) (h1 : holdsB ws tb ps = true) (h2 : letB tb ms = true) : 0 ≤ gainOf ws ms := by
  unfold holdsB at h1
  unfold letB at h2
  rw [Bool.and_eq_true, decide_eq_true_eq, decide_eq_true_eq] at h1
  rw [decide_eq_true_eq] at h2
  have e := work_eq hr hp hm
  have e2 : gainOf ws ms = dotF (liftL ws tb ps) ms := by
    rw [h1.2, dotF_S, gainOf, hm]
    show S ws.length _ = _
    rw [show (wF ws).length = ws.length by simp [wF]]
    exact S_congr fun b h => by
      rw [show (wF ws).getD b 0 = ((ws.getD b 0 : Int) : Rat) from getD_mapS (fun w : Int => (w : Rat)) ws b 0 h]
  rw [e2, ← e, dotF_S]
  refine S_nonneg fun r h => ?_
  have a1 := h1.1 _ (getD_mem (a := 0) h)
  have a2 := h2 _ (getD_mem (a := []) (by omega : r < tb.length))
  rw [getD_mapS _ _ _ [] (by omega)]
  exact Rat.mul_nonneg (Rat.not_lt.mp a1) (Rat.not_lt.mp a2)
section
variable {K : PySem.W.Frag} {C : Addr}
local macro_rules | `(tactic| walk_at "R") => `(tactic| first
  | (with_reducible apply rc_initD) <;> walk_at "sd"
  | (with_reducible apply rc_ltotal) <;> walk_at "sd"
  | (with_reducible apply rc_lplusF) <;> walk_at "sd")
local macro_rules | `(tactic| walk_at "evD") => `(tactic| (with_reducible apply ed_isT) <;> walk_at "go")
theorem SzL.lift {ws : List Int} {tb : List (List Int)} {ps : List Rat} (ho : HoOk ws tb) (hz : SzL 50 ps) (hl : ps.length = tb.length) : SzL 600 (liftL ws tb ps) := fun q hq => by
  obtain ⟨b, hb, rfl⟩ := List.mem_map.mp hq
  have hb' := List.mem_range.mp hb
  have r5 := ho.r5
  refine (sz_sum (n := 54) fun q hq => ?_).mono (by simp; omega)
  obtain ⟨r, hr, rfl⟩ := List.mem_map.mp hq
  have hr' := List.mem_range.mp hr
  exact (hz _ (getD_mem (by omega))).mul (sz9 (ho.tget hr' hb').1)
theorem SzL.row50 (ns : List Int) (f m : Nat) : SzL 50 (rowF ns f m) := fun q hq => by
  obtain ⟨k, _, rfl⟩ := List.mem_map.mp hq
  exact fracOf_sz _
theorem p_law_k06 : Body (t_law_k06 K C) n_law_k06 (sp_law K C) := by
  rintro vs H Q E ⟨ds, d, r, ⟨ns, hn, rfl, rfl⟩, k⟩
  refine start_at r (n := 7) (by rw [r.length]; rfl) ?_
  have q11 : (11 : Int) = ((11 : Nat) : Int) := rfl
  have q12 : (12 : Int) = ((12 : Nat) : Int) := rfl
  have q17 : (17 : Int) = ((17 : Nat) : Int) := rfl
  have z2 : (0 : Int) < 2 := by decide
  have z5 : (0 : Int) < 5 := by decide
  have z9 : (0 : Int) < 9 := by decide
  have ho := HoOk.drawn ns
  have r5 := ho.r5
  have w4 := ho.w4
  have tl : (drawnTb ns).length ≤ 100 := by omega
  have hrow : ∀ r ∈ drawnTb ns, 1 ≤ r.length ∧ r.length ≤ 10 := fun r hr => by
    have := ho.row r hr
    have := ho.w1
    omega
  have a3 : CDivW (ns.getD 11 0) 3 := ⟨by decide, by decide +kernel⟩
  have a6 : CDivW (ns.getD 11 0) 6 := ⟨by decide, by decide +kernel⟩
  have dl : (dI (drawnWs ns)).length = (drawnWs ns).length := by simp
  have dl2 : (dI (drawnWs ns)).length ≤ 100 := by omega
  have dt : (dRows .f (drawnTb ns)).length = (drawnTb ns).length := by simp [dRows]
  have dt2 : (dRows .f (drawnTb ns)).length ≤ 100 := by omega
  unfold t_law_k06
  walk_at "asg"
  walk_at "asg"
  walk_at "asg"
  refine sq_asgL (xs := dFs (rowF ns 12 (drawnTb ns).length)) (EvL.to (by walk_at "evL") (by rw [dt])) (by simp [uns]) ?_
  dsimp only [List.set, List.map, uns, List.cons_append, List.nil_append]
  refine sq_mid (fun ρ' => ∃ ps c5, SzL 50 ps ∧ ps.length = (drawnTb ns).length ∧ ρ' = [.dat (.scr ns), .dat (.tup [.lst .f (dI (drawnWs ns)), .lst .f (dRows .f (drawnTb ns))]), .dat (.lst .f (dRows .f (drawnTb ns))), .dat (.ho .f (drawnWs ns) (drawnTb ns)), .own (dFs ps), c5, .un, .un]) (fun fin => ?_) ?_
  · walk_at "when"
    · have e1 : ((List.range (drawnTb ns).length).map fun r => D.tup [.int (madeP ns r), .int 1]) = dFs ((List.range (drawnTb ns).length).map fun r => ((madeP ns r : Int) : Rat)) := by
        rw [dFs, List.map_map]
        exact List.map_congr_left fun r _ => (dF_int _).symm
      refine at_asgL (EvL.to (el_lcN (n := (drawnTb ns).length) (g := fun r => D.tup [.int (madeP ns r), .int 1]) (EvA.to (by walk_at "evA") (by rw [dt])) (by omega) (by simp) fun r hr => ?_) e1) (by simp) ?_
      · have e1 : (7 : Int) + (r : Int) = ((7 + r : Nat) : Int) := by omega
        have a7 : CDivW (ns.getD (7 + r) 0) 7 := ⟨by decide, by decide +kernel⟩
        dsimp only [List.set]
        refine EvD.to (d := .tup [.int (ns.getD (7 + r) 0 / 7 % 9), .int 1]) (by walk_at "evD") rfl
      · dsimp only [List.set]
        refine fin _ ⟨_, .un, fun q hq => ?_, by simp, rfl⟩
        obtain ⟨r, _, rfl⟩ := List.mem_map.mp hq
        exact (sz_int (n := 4) (by decide) (by unfold madeP; omega)).mono (by decide)
    · exact fin _ ⟨rowF ns 12 (drawnTb ns).length, _, SzL.row50 ns 12 _, by simp [rowF], rfl⟩
  rintro ρ' ⟨ps, c5, hzp, hlp, rfl⟩
  refine At.freeze (i := 4) rfl ?_
  dsimp only [List.set]
  refine sq_asgL (xs := dFs (rowF ns 17 (drawnWs ns).length)) (EvL.to (by walk_at "evL") (by rw [dl])) (by simp [uns]) ?_
  dsimp only [List.set]
  refine sq_mid (fun ρ' => ∃ ms c7, SzL 50 ms ∧ ms.length = (drawnWs ns).length ∧ ρ' = [.dat (.scr ns), .dat (.tup [.lst .f (dI (drawnWs ns)), .lst .f (dRows .f (drawnTb ns))]), .dat (.lst .f (dRows .f (drawnTb ns))), .dat (.ho .f (drawnWs ns) (drawnTb ns)), .dat (.lst .f (dFs ps)), c5, .own (dFs ms), c7]) (fun fin => ?_) ?_
  · walk_at "when"
    · have e1 : ((List.range (drawnWs ns).length).map fun b => D.tup [.int (ns.getD (17 + b) 0 % 5 - 2), .int 1]) = dFs ((List.range (drawnWs ns).length).map fun b => ((ns.getD (17 + b) 0 % 5 - 2 : Int) : Rat)) := by
        rw [dFs, List.map_map]
        exact List.map_congr_left fun r _ => (dF_int _).symm
      refine at_asgL (EvL.to (el_lcN (n := (drawnWs ns).length) (g := fun b => D.tup [.int (ns.getD (17 + b) 0 % 5 - 2), .int 1]) (EvA.to (by walk_at "evA") (by rw [dl])) (by omega) (by simp) fun r hr => ?_) e1) (by simp) ?_
      · have e1 : (17 : Int) + (r : Int) = ((17 + r : Nat) : Int) := by omega
        dsimp only [List.set]
        walk_at "evD"
      · dsimp only [List.set]
        refine fin _ ⟨_, .un, fun q hq => ?_, by simp, rfl⟩
        obtain ⟨r, _, rfl⟩ := List.mem_map.mp hq
        exact (sz_int (n := 4) (by decide) (by omega)).mono (by decide)
    · exact fin _ ⟨rowF ns 17 (drawnWs ns).length, _, SzL.row50 ns 17 _, by simp [rowF], rfl⟩
  rintro ρ' ⟨ms, c7, hzm, hlm, rfl⟩
  refine At.freeze (i := 6) rfl ?_
  dsimp only [List.set]
  have hz1 := hzp.mono (n := 100) (by decide)
  have hz2 := hzm.mono (n := 100) (by decide)
  have ss := sz_spares ho hz2 hlm
  have sl := SzL.lift ho hzp hlp
  have l1 : ps.length ≤ 5 := by omega
  have l2 : (liftL (drawnWs ns) (drawnTb ns) ps).length ≤ 5 := by rw [liftL_len]; omega
  have l3 : ((drawnTb ns).map fun r => spareOf r ms).length = ps.length := by simp; omega
  have l4 : ms.length = (liftL (drawnWs ns) (drawnTb ns) ps).length := by rw [liftL_len]; omega
  have w := work_eq ho.row hlp hlm
  generalize hρ : [Cell.dat (.scr ns), .dat (.tup [.lst .f (dI (drawnWs ns)), .lst .f (dRows .f (drawnTb ns))]), .dat (.lst .f (dRows .f (drawnTb ns))), .dat (.ho .f (drawnWs ns) (drawnTb ns)), .dat (.lst .f (dFs ps)), c5, .dat (.lst .f (dFs ms)), c7] = ρ
  have v3 : EvD K C (tVar 3) ρ (.ho .f (drawnWs ns) (drawnTb ns)) := by rw [← hρ]; walk_at "evD"
  have v4 : EvD K C (tVar 4) ρ (.lst .f (dFs ps)) := by rw [← hρ]; walk_at "evD"
  have v6 : EvD K C (tVar 6) ρ (.lst .f (dFs ms)) := by rw [← hρ]; walk_at "evD"
  have x4 : EvR K C (x_list K (tVar 4)) ρ (.lst .x (dFs ps)) := (el_list v4.s).s.r
  have x6 : EvR K C (x_list K (tVar 6)) ρ (.lst .x (dFs ms)) := (el_list v6.s).s.r
  have esp : EvL K C (tCall (sp_spare K C) [] E0 (tCons (tVar 3) (tCons (x_list K (tVar 6)) tNil))) ρ (dFs ((drawnTb ns).map fun r => spareOf r ms)) := ev_callL (ea_cons v3.r (ea_cons x6 ea_nil)) (by walk_at "era") (rc_spare ho hz2 hlm) (by walk_at "frs")
  have eli : EvL K C (tCall (sp_lifted K C) [] E0 (tCons (tVar 3) (tCons (x_list K (tVar 4)) tNil))) ρ (dFs (liftL (drawnWs ns) (drawnTb ns) ps)) := ev_callL (ea_cons v3.r (ea_cons x4 ea_nil)) (by walk_at "era") (rc_lifted ho hz1 hlp) (by walk_at "frs")
  have et1 : EvD K C (tCall (sp_law_total K C) [] E0 (tCons (tVar 4) (tCons (tCall (sp_spare K C) [] E0 (tCons (tVar 3) (tCons (x_list K (tVar 6)) tNil))) tNil))) ρ (dF (dotF ps ((drawnTb ns).map fun r => spareOf r ms))) := ev_call (ea_cons v4.r (ea_cons esp.s.r ea_nil)) (by walk_at "era") (rc_ltotal hzp ss (by decide) l1 l3) rfl
  have et2 : EvD K C (tCall (sp_law_total K C) [] E0 (tCons (tCall (sp_lifted K C) [] E0 (tCons (tVar 3) (tCons (x_list K (tVar 4)) tNil))) (tCons (tVar 6) tNil))) ρ (dF (dotF (liftL (drawnWs ns) (drawnTb ns) ps) ms)) := ev_call (ea_cons eli.s.r (ea_cons v6.r ea_nil)) (by walk_at "era") (rc_ltotal sl hzm (by decide) l2 l4) rfl
  have eho : EvD K C (tCall (sp_holds K C) [] E0 (tCons (tVar 3) (tCons (x_list K (tVar 4)) tNil))) ρ (.bl (holdsB (drawnWs ns) (drawnTb ns) ps)) := ev_call (ea_cons v3.r (ea_cons x4 ea_nil)) (by walk_at "era") (rc_holds ho hz1 hlp) rfl
  have ele : EvD K C (tCall (sp_is_let K C) [] E0 (tCons (tVar 3) (tCons (x_list K (tVar 6)) tNil))) ρ (.bl (letB (drawnTb ns) ms)) := ev_call (ea_cons v3.r (ea_cons x6 ea_nil)) (by walk_at "era") (rc_is_let ho hz2 hlm) rfl
  have ega : EvD K C (tCall (sp_gain K C) [] E0 (tCons (tVar 3) (tCons (x_list K (tVar 6)) tNil))) ρ (dF (gainOf (drawnWs ns) ms)) := ev_call (ea_cons v3.r (ea_cons x6 ea_nil)) (by walk_at "era") (rc_gain ho hz2 hlm) rfl
  refine sq_when (b := false) (EvB.to (eb_val (ed_ne et1.r et2.r EqD.frac)) (by rw [w]; simp)) (fun z => nomatch z) fun _ => ?_
  refine sq_when (b := holdsB (drawnWs ns) (drawnTb ns) ps && letB (drawnTb ns) ms) (eb_and (eb_val (ed_isT eho.r)) fun _ => eb_val (ed_isT ele.r)) (fun hb => ?_) fun _ => ?_
  · rw [Bool.and_eq_true] at hb
    have g := gain_nonneg ho.row hlp hlm hb.1 hb.2
    refine at_ret (EvD.to (ed_ge (ed_idxT (d := .int (gainOf (drawnWs ns) ms).num) ega ed_int.r rfl).r ed_int.r) ?_) k
    rw [decide_eq_true (Rat.num_nonneg.mpr g)]
  · exact at_ret ed_bl k
end
end Hw
namespace Hw
open PySem L2
/-! ## objects that methods change, and objects that are read -/
section
variable {K : PySem.W.Frag} {C B : Addr} {Hf Hf1 Hf2 H0 Hb H Hb' H' : Hp} {L : List (List Addr)} {σ : St} {ρ : List Cell} {te ta tb : TE} {d : D} {xs ys : List D} {D0 : Ends} {s2 : TS}
mutual
/-- the marks told of another heap -/
theorem Rp.refr (h : ∀ a o, Hb a = some o → Hf1 a = none → Hf2 a = none) : ∀ (d : D) (v : V), d.fr = true → Rp K C Hf1 Hb d v → Rp K C Hf2 Hb d v
  | .non, v, _, r => r
  | .bl b, v, _, r => r
  | .int i, v, _, r => r
  | .str s, v, _, r => r
  | .scr ns, v, hf, r => by cases hf
  | .ho m ws tb, v, hf, r => by
    obtain ⟨a, dx, l, t, ts, q, m1, m2, m3, m4, h1, h2, h3, h4⟩ := r
    have e : m = .f := of_decide_eq_true hf
    subst e
    have hts : ∀ {ts : List Addr} {tb : List (List Int)}, Paired (fun (b : Addr) (r : List Int) => Hb b = some (.lst (r.map V.int))) ts tb → (∀ b ∈ ts, mkOk Hf1 b .f) → ∀ b ∈ ts, mkOk Hf2 b .f := fun hp => by
      induction hp with
      | nil => intro _ b hb; exact nomatch hb
      | cons r1 _ ih =>
        intro hm b hb
        rcases List.mem_cons.mp hb with rfl | hb
        · exact h _ _ r1 (hm _ List.mem_cons_self)
        · exact ih (fun b hb => hm b (List.mem_cons_of_mem _ hb)) b hb
    exact ⟨a, dx, l, t, ts, q, h _ _ h1 m1, h _ _ h2 m2, h _ _ h3 m3, hts h4 m4, h1, h2, h3, h4⟩
  | .lst m ds, v, hf, r => by
    obtain ⟨a, xs, q, mk, h1, h2⟩ := r
    have hf' : (decide (m = .f) && frAll ds) = true := hf
    rw [Bool.and_eq_true] at hf'
    have e : m = .f := of_decide_eq_true hf'.1
    subst e
    exact ⟨a, xs, q, h _ _ h1 mk, h1, RpAll.refr h ds xs hf'.2 h2⟩
  | .tup ds, v, hf, r => by
    obtain ⟨a, xs, q, h1, h2⟩ := r
    exact ⟨a, xs, q, h1, RpAll.refr h ds xs hf h2⟩
theorem RpAll.refr (h : ∀ a o, Hb a = some o → Hf1 a = none → Hf2 a = none) : ∀ (ds : List D) (vs : List V), frAll ds = true → RpAll K C Hf1 Hb ds vs → RpAll K C Hf2 Hb ds vs
  | [], vs, _, r => r
  | d :: ds, vs, hf, r => by
    obtain ⟨v, r', q, h1, h2⟩ := r
    have hf' : (d.fr && frAll ds) = true := hf
    rw [Bool.and_eq_true] at hf'
    exact ⟨v, r', q, Rp.refr h d v hf'.1 h1, RpAll.refr h ds r' hf'.2 h2⟩
end
/-! fields -/
def Fld.fr : Fld → Bool
  | .dat d => d.fr
  | .own xs => frAll xs
def Fld.era : Fld → Fld
  | .dat d => .dat d.era
  | .own xs => .own (eraAll xs)
abbrev eraF (fs : List (Str × Fld)) : List (Str × Fld) := fs.map fun p => (p.1, p.2.era)
abbrev frF (fs : List (Str × Fld)) : Bool := fs.all fun p => p.2.fr
theorem FldsOk.refr (h : ∀ a o, Hb a = some o → Hf1 a = none → Hf2 a = none) : ∀ {fs : List (Str × Fld)} {l : List Addr} {vs : List (Str × V)}, frF fs = true → FldsOk K C Hf1 Hb H l fs vs → FldsOk K C Hf2 Hb H l fs vs
  | [], l, vs, _, k => k
  | (n, .dat d) :: fs, l, vs, hf, k => by
    obtain ⟨v, r, q, h1, h2⟩ := k
    have hf' : (d.fr && frF fs) = true := hf
    rw [Bool.and_eq_true] at hf'
    exact ⟨v, r, q, Rp.refr h d v hf'.1 h1, FldsOk.refr h hf'.2 h2⟩
  | (n, .own xs) :: fs, l, vs, hf, k => by
    obtain ⟨p, us, r, l', q, q2, h0, h1, h2⟩ := k
    have hf' : (frAll xs && frF fs) = true := hf
    rw [Bool.and_eq_true] at hf'
    exact ⟨p, us, r, l', q, q2, h0, RpAll.refr h xs us hf'.1 h1, FldsOk.refr h hf'.2 h2⟩
theorem FldsOk.era : ∀ {fs : List (Str × Fld)} {l : List Addr} {vs : List (Str × V)}, FldsOk K C Hf1 Hb H l fs vs → FldsOk K C Hf2 Hb H l (eraF fs) vs
  | [], l, vs, k => k
  | (n, .dat d) :: fs, l, vs, k => by
    obtain ⟨v, r, q, h1, h2⟩ := k
    exact ⟨v, r, q, Rp.era d v h1, FldsOk.era h2⟩
  | (n, .own xs) :: fs, l, vs, k => by
    obtain ⟨p, us, r, l', q, q2, h0, h1, h2⟩ := k
    exact ⟨p, us, r, l', q, q2, h0, RpAll.era xs us h1, FldsOk.era h2⟩
theorem FldsOk.into {Hx : Hp} (I : Into Hx Hf2 Hb' Hb) : ∀ {fs : List (Str × Fld)} {l : List Addr} {vs : List (Str × V)}, frF fs = true → FldsOk K C Hx Hb H l fs vs → FldsOk K C Hf2 Hb' H l fs vs
  | [], l, vs, _, k => k
  | (n, .dat d) :: fs, l, vs, hf, k => by
    obtain ⟨v, r, q, h1, h2⟩ := k
    have hf' : (d.fr && frF fs) = true := hf
    rw [Bool.and_eq_true] at hf'
    exact ⟨v, r, q, Rp.into I d v hf'.1 h1, FldsOk.into I hf'.2 h2⟩
  | (n, .own xs) :: fs, l, vs, hf, k => by
    obtain ⟨p, us, r, l', q, q2, h0, h1, h2⟩ := k
    have hf' : (frAll xs && frF fs) = true := hf
    rw [Bool.and_eq_true] at hf'
    exact ⟨p, us, r, l', q, q2, h0, RpAll.into I xs us hf'.1 h1, FldsOk.into I hf'.2 h2⟩
theorem FldsOk.keepL : ∀ {fs : List (Str × Fld)} {l : List Addr} {vs : List (Str × V)}, (∀ a ∈ l, ∀ o, H a = some o → H' a = some o) → FldsOk K C Hf Hb H l fs vs → FldsOk K C Hf Hb H' l fs vs
  | [], l, vs, _, k => k
  | (n, .dat d) :: fs, l, vs, h, k => by
    obtain ⟨v, r, q, h1, h2⟩ := k
    exact ⟨v, r, q, h1, FldsOk.keepL h h2⟩
  | (n, .own xs) :: fs, l, vs, h, k => by
    obtain ⟨p, us, r, l', q, rfl, h0, h1, h2⟩ := k
    exact ⟨p, us, r, l', q, rfl, h _ List.mem_cons_self _ h0, h1, FldsOk.keepL (fun a m => h a (List.mem_cons_of_mem _ m)) h2⟩
theorem lookup_no {α : Type} {n : Str} : ∀ {vs : List (Str × α)}, (∀ g ∈ vs.map (·.1), (n == g) = false) → vs.lookup n = none
  | [], _ => rfl
  | (g, v) :: r, h => by
    have h1 := h g (by simp)
    simp only [List.lookup, h1]
    exact lookup_no fun g' m => h g' (by simp only [List.map_cons, List.mem_cons]; exact .inr m)
/-! reading an object that is data -/
theorem ed_fldR {i : Nat} {a : Addr} {fs : List (Str × Fld)} {n : Str} (h : ρ[i]? = some (.rd a B fs)) (hn : fs.lookup n = some (.dat d)) (cl : Cls K B) (na : NoAttr K B n) : EvD K C (tFld K (tVar i) n) ρ d := fun Hf H0 Hb H L σ E Q q => by
  obtain ⟨s, l, h1, _, dx, vs, l', _, rfl, h2, h3⟩ := E.cell i _ h
  obtain ⟨v, h4, h5⟩ := h3.dat hn
  exact ⟨_, h1, a, B, dx, vs, v, rfl, E.e1 _ _ h2, cl, na, h4, q v Hb H E.step0 h5⟩
theorem es_fldR {i : Nat} {a : Addr} {fs : List (Str × Fld)} {n : Str} (h : ρ[i]? = some (.rd a B fs)) (hn : fs.lookup n = some (.own xs)) (cl : Cls K B) (na : NoAttr K B n) : EvS K C (tFld K (tVar i) n) ρ xs := fun Hf H0 Hb H L σ E Q q => by
  obtain ⟨s, l, h1, _, dx, vs, l', _, rfl, h2, h3⟩ := E.cell i _ h
  obtain ⟨p, us, h4, _, h5, h6⟩ := h3.own hn
  exact ⟨_, h1, a, B, dx, vs, .ref p, rfl, E.e1 _ _ h2, cl, na, h4, q p us Hb H E.step0 (E.e1 _ _ h5) h6⟩
/-! changing a field's own list -/
theorem putFld_names {n : Str} {f g : Fld} : ∀ {fs : List (Str × Fld)}, fs.lookup n = some g → (putFld n f fs).map (·.1) = fs.map (·.1)
  | [], h => by cases h
  | (m, x) :: r, h => by
    unfold putFld
    by_cases q : m = n
    · rw [if_pos q]; rfl
    · rw [if_neg q]
      have e : (n == m) = false := by
        cases z : (n == m) with
        | false => rfl
        | true => exact absurd (beq_iff_eq.mp z).symm q
      simp only [List.lookup, e] at h
      rw [List.map_cons, List.map_cons, putFld_names h]
theorem at_mutF {i : Nat} {a : Addr} {fs : List (Str × Fld)} {n : Str} (h : ρ[i]? = some (.ob a B fs)) (hn : fs.lookup n = some (.own xs)) {p : Addr} {us' : List V} (E : EnvB K C Hf H0 Hb H L σ ρ) (hr : RpAll K C Hf Hb ys us')
    (hp : ∀ s l dx vs l', σ[i]? = some s → L[i]? = some l → l = a :: l' → H a = some (.ins B dx vs) → FldsOk K C Hf Hb H l' fs vs → vs.lookup n = some (.ref p)) : ∃ L', EnvB K C Hf H0 Hb (upd H p (.lst us')) L' σ (ρ.set i (.ob a B (putFld n (.own ys) fs))) := by
  obtain ⟨s, l, h1, hl, dx, vs, l', rfl, rfl, h2, h3⟩ := E.cell i _ h
  have hv := hp _ _ _ _ _ h1 hl rfl h2 h3
  obtain ⟨p2, us, h4, h5, h6, h7⟩ := h3.own hn
  rw [hv] at h4; cases h4
  have hnd := List.nodup_cons.mp (E.nd i _ hl)
  have nap : a ≠ p := fun z => hnd.1 (by rw [z]; exact h5)
  exact E.retell hl (List.mem_cons_of_mem _ h5) (o := .lst us') (fun zs z => nomatch z) h1 (c := .ob a B (putFld n (.own ys) fs)) (l' := a :: l')
    ⟨dx, vs, l', rfl, rfl, by rw [upd_ne nap]; exact h2, h3.mutOwn hr hn hv hnd.2⟩ (E.nd i _ hl) (fun b m => .inl m)
theorem at_appendF {i : Nat} {a : Addr} {fs : List (Str × Fld)} {n : Str} (cl : Cls K B) (na : NoAttr K B n) (h : ρ[i]? = some (.ob a B fs)) (hn : fs.lookup n = some (.own xs)) (hv : EvD K C te ρ d) (hz : xs.length < 100000) (k : At K C Hf H0 D0.nx (ρ.set i (.ob a B (putFld n (.own (xs ++ [d])) fs)))) :
    At K C Hf H0 (tDrop (tBM K "list" rAppend (tFld K (tVar i) n) (tCons te tNil)) D0) ρ := fun Hb H L σ E => by
  obtain ⟨s, l, h1, hl, dx, vs, l', rfl, rfl, h2, h3⟩ := E.cell i _ h
  obtain ⟨p, us, h4, h5, h6, h7⟩ := h3.own hn
  refine ⟨_, h1, a, B, dx, vs, .ref p, rfl, h2, cl, na, h4, Or.inl ⟨rfl, _, .of h6⟩, hv Hf H0 Hb H L σ E _ fun v Hb' H' S r => ?_⟩
  refine ⟨p, us, v, rfl, rfl, S.h _ _ h6, lineT (by rw [h7.length]; exact hz), ?_⟩
  obtain ⟨L', E'⟩ := at_mutF (p := p) (us' := us ++ [v]) (ys := xs ++ [d]) h hn (E.step S) ((RpAll.mono S.hb _ _ h7).append (.one r)) (fun s2 l2 dx2 vs2 l2' q1 q2 q3 q4 q5 => by
    rw [S.h _ _ h2] at q4; cases q4; exact h4)
  exact k _ _ _ _ E'
theorem at_setItemF {i : Nat} {a : Addr} {fs : List (Str × Fld)} {n : Str} {j : Int} {m : Nat} (cl : Cls K B) (na : NoAttr K B n) (h : ρ[i]? = some (.ob a B fs)) (hn : fs.lookup n = some (.own xs)) (hv : EvD K C te ρ d) (hb : EvR K C tb ρ (.int j)) (hj : ixN xs.length j = some m)
    (k : At K C Hf H0 D0.nx (ρ.set i (.ob a B (putFld n (.own (xs.set m d)) fs)))) : At K C Hf H0 (tAsg te (gSub (tFld K (tVar i) n) tb rSetL) D0) ρ := fun Hb H L σ E => by
  refine hv Hf H0 Hb H L σ E _ fun v Hb' H' S r => ?_
  have E1 := E.step S
  obtain ⟨s, l, h1, hl, dx, vs, l', rfl, rfl, h2, h3⟩ := E1.cell i _ h
  obtain ⟨p, us, h4, h5, h6, h7⟩ := h3.own hn
  refine ⟨_, h1, a, B, dx, vs, .ref p, rfl, h2, cl, na, h4, hb Hf H0 Hb' H' L σ E1 _ fun y Hb2 H2 S2 r2 => ?_⟩
  refine ⟨p, us, j, m, rfl, r2, S2.h _ _ h6, by rw [h7.length]; exact hj, ?_⟩
  obtain ⟨L', E'⟩ := at_mutF (p := p) (us' := us.set m v) (ys := xs.set m d) h hn (E1.step S2) (RpAll.set m (RpAll.mono S2.hb _ _ h7) (Rp.mono S2.hb _ _ r)) (fun s2 l2 dx2 vs2 l2' q1 q2 q3 q4 q5 => by
    rw [S2.h _ _ h2] at q4; cases q4; exact h4)
  exact k _ _ _ _ E'
/-! promises -/
/-- how a method finds its object: Hb data, a and l the object's own, the rest kept by Hf -/
structure Foot (Hf Hb H : Hp) (a : Addr) (l : List Addr) : Prop where
  e1 : Ex Hb H
  ef : Ex Hf H
  nd : (a :: l).Nodup
  fr : ∀ x ∈ a :: l, Hb x = none ∧ Hf x = none ∧ H x ≠ none
  tu : ∀ x zs, H x = some (.tup zs) → Hb x = some (.tup zs)
/-- a method that changes its object (or __init__) -/
def spMu (K : PySem.W.Frag) (C B : Addr) (R : List (Str × Fld) → List D → List (Str × Fld) → Prop) : Sp := fun vs H Q _ => ∃ Hf Hb a dx ws l fs vs' ds fs', vs = .ref a :: vs' ∧ Foot Hf Hb H a l ∧ H a = some (.ins B dx ws) ∧ FldsOk K C Hf Hb H l fs ws ∧ RpAll K C Hf Hb ds vs' ∧ R fs ds fs' ∧
  ∀ Hb' H' dx' ws' l', Foot Hf Hb' H' a l' → Ex Hb Hb' → (∀ x o, Hb' x = some o → Hb x = some o ∨ Hf x = none) → H' a = some (.ins B dx' ws') → FldsOk K C Hf Hb' H' l' fs' ws' → Q .non H'
/-- a method that reads its object -/
def spRd (K : PySem.W.Frag) (C B : Addr) (R : List (Str × Fld) → List D → D → Prop) : Sp := fun vs H Q _ => ∃ a dx ws l fs vs' ds d, vs = .ref a :: vs' ∧ H a = some (.ins B dx ws) ∧ FldsOk K C H H H l fs ws ∧ RpAll K C H H ds vs' ∧ R fs ds d ∧ RetD K C H d Q
def spRdL (K : PySem.W.Frag) (C B : Addr) (R : List (Str × Fld) → List D → List D → Prop) : Sp := fun vs H Q _ => ∃ a dx ws l fs vs' ds xs, vs = .ref a :: vs' ∧ H a = some (.ins B dx ws) ∧ FldsOk K C H H H l fs ws ∧ RpAll K C H H ds vs' ∧ R fs ds xs ∧ RetL K C H xs Q
/-- a def that hands back an object, the caller's own -/
def RetO (K : PySem.W.Frag) (C B : Addr) (H : Hp) (fs' : List (Str × Fld)) (Q : VK) : Prop := ∀ a H' Hm dx ws l, Ex H Hm → Ex Hm H' → H' a = some (.ins B dx ws) → FldsOk K C H Hm H' l fs' ws → (a :: l).Nodup → (∀ x ∈ a :: l, Hm x = none ∧ H' x ≠ none) → (∀ x zs, H' x = some (.tup zs) → Hm x = some (.tup zs)) → Q (.ref a) H'
def spO (K : PySem.W.Frag) (C B : Addr) (R : List D → List (Str × Fld) → Prop) : Sp := fun vs H Q _ => ∃ ds fs', RpAll K C H H ds vs ∧ R ds fs' ∧ RetO K C B H fs' Q
/-- at entry -/
theorem startMu {ds : List D} {vs : List V} {N : List Str} {n : Nat} {G : St → Hp → Prop} {a dx : Addr} {ws : List (Str × V)} {fs : List (Str × Fld)} {l : List Addr} (F : Foot Hf Hb H a l) (hx : H a = some (.ins B dx ws)) (hfs : FldsOk K C Hf Hb H l fs ws) (r : RpAll K C Hf Hb ds vs) (hn : N.length - (vs.length + 1) = n)
    (h : At K C Hf Hb G (.ob a B fs :: (ds.map .dat ++ uns n))) : G (start N (.ref a :: vs)) H := by
  subst hn
  have r0 : RpAll K C Hb Hb (eraAll ds) vs := RpAll.era _ _ r
  have E := EnvB.start (.non :: ds) (.non :: vs) (N.length - (vs.length + 1)) (H := Hb) (K := K) (C := C)
  have E1 : EnvB K C Hf Hb Hb H (List.replicate ((.non :: ds : List D).length + (N.length - (vs.length + 1))) []) ((V.non :: vs).map some ++ List.replicate (N.length - (vs.length + 1)) none) ((.non :: ds).map .dat ++ uns (N.length - (vs.length + 1))) := by
    have hu : ∀ n, (uns n).length = n := fun n => by induction n with | zero => rfl | succ n ih => show (uns n).length + 1 = n + 1; rw [ih]
    have hug : ∀ (n i : Nat) (c : Cell), (uns n)[i]? = some c → c = .un ∧ i < n := fun n => by
      induction n with
      | zero => intro i c q; cases q
      | succ n ih =>
        intro i c q
        cases i with
        | zero => exact ⟨(Option.some.inj q).symm, Nat.succ_pos _⟩
        | succ i => obtain ⟨h1, h2⟩ := ih i c q; exact ⟨h1, Nat.succ_lt_succ h2⟩
    have r1 : RpAll K C Hf Hb (.non :: ds) (.non :: vs) := .cons rfl r
    generalize (.non :: ds : List D) = ds1 at *
    generalize (V.non :: vs) = vs1 at *
    generalize N.length - (vs.length + 1) = n
    have hl := r1.length
    refine ⟨.refl _, F.e1, F.ef, fun a o q => .inl q, F.tu, by simp [hu, hl], by simp [hu], fun i c q => ?_, fun i j li lj a q1 q2 m1 m2 => ?_, fun i l q => ?_, fun i l a q m => ?_⟩
    · have hi : i < ds1.length + n := by
        have := (List.getElem?_eq_some_iff.mp q).1
        simpa [hu] using this
      have g2 : (List.replicate (ds1.length + n) ([] : List Addr))[i]? = some [] := by rw [List.getElem?_replicate, if_pos hi]
      by_cases z : i < ds1.length
      · rw [List.getElem?_append_left (by simpa using z), List.getElem?_map] at q
        cases e : ds1[i]? with
        | none => rw [e] at q; cases q
        | some d =>
          rw [e] at q; cases q
          obtain ⟨v, hv, rv⟩ := r1.get e
          refine ⟨some v, [], ?_, g2, rfl, v, rfl, rv⟩
          rw [List.getElem?_append_left (by simp [hl, z]), List.getElem?_map, hv]; rfl
      · rw [List.getElem?_append_right (by simpa using z)] at q
        obtain ⟨rfl, h2⟩ := hug _ _ _ q
        refine ⟨none, [], ?_, g2, rfl, rfl⟩
        rw [List.getElem?_append_right (by simp [hl]; omega), List.getElem?_replicate, if_pos (by simp [hl] at h2 ⊢; omega)]
    · rw [List.getElem?_replicate] at q1; split at q1 <;> cases q1; exact nomatch m1
    · rw [List.getElem?_replicate] at q; split at q <;> cases q; exact List.nodup_nil
    · rw [List.getElem?_replicate] at q; split at q <;> cases q; exact nomatch m
  have E2 := E1.set (i := 0) (by simp) (c := .ob a B fs) (s := some (.ref a)) (l := a :: l) ⟨dx, ws, l, rfl, rfl, hx, hfs⟩ F.nd F.fr (fun j lj b ne q m => by
    rw [List.getElem?_replicate] at q
    split at q <;> cases q
    exact nomatch m)
  exact h _ _ _ _ E2
/-- at the end -/
theorem at_endMu {a : Addr} {fs' : List (Str × Fld)} {N : VK} (h : ρ[0]? = some (.ob a B fs'))
    (k : ∀ Hb' H' dx' ws' l', Foot Hf Hb' H' a l' → Ex H0 Hb' → (∀ x o, Hb' x = some o → H0 x = some o ∨ Hf x = none) → H' a = some (.ins B dx' ws') → FldsOk K C Hf Hb' H' l' fs' ws' → N .non H') : At K C Hf H0 (fun _ H' => N .non H') ρ := fun Hb' H' L σ E => by
  obtain ⟨s, l, h1, hl, dx, vs, l', rfl, rfl, h2, h3⟩ := E.cell 0 _ h
  exact k Hb' H' dx vs l' ⟨E.e1, E.ef, E.nd 0 _ hl, fun x m => E.fr 0 _ x hl m, E.tu⟩ E.e0 E.nw h2 h3
theorem at_retMu {a : Addr} {fs' : List (Str × Fld)} (h : ρ[0]? = some (.ob a B fs'))
    (k : ∀ Hb' H' dx' ws' l', Foot Hf Hb' H' a l' → Ex H0 Hb' → (∀ x o, Hb' x = some o → H0 x = some o ∨ Hf x = none) → H' a = some (.ins B dx' ws') → FldsOk K C Hf Hb' H' l' fs' ws' → D0.rt .non H') : At K C Hf H0 (tRetN D0) ρ := at_endMu h k
theorem startRd {ds : List D} {vs : List V} {N : List Str} {n : Nat} {G : St → Hp → Prop} {a dx : Addr} {ws : List (Str × V)} {fs : List (Str × Fld)} {l : List Addr} (hx : H a = some (.ins B dx ws)) (hfs : FldsOk K C H H H l fs ws) (r : RpAll K C H H ds vs) (hn : N.length - (vs.length + 1) = n)
    (h : At K C H H G (.rd a B fs :: (ds.map .dat ++ uns n))) : G (start N (.ref a :: vs)) H := by
  subst hn
  have E := EnvB.start (.non :: ds) (.non :: vs) (N.length - (vs.length + 1)) (H := H) (K := K) (C := C) (.cons rfl r)
  have E2 := E.set (i := 0) (by simp) (c := .rd a B fs) (s := some (.ref a)) (l := []) ⟨dx, ws, l, rfl, rfl, hx, hfs⟩ List.nodup_nil (fun a m => nomatch m) (fun j lj b ne q m => by
    rw [List.getElem?_replicate] at q
    split at q <;> cases q
    exact nomatch m)
  exact h _ _ _ _ E2
/-- an object handed back -/
theorem at_retOb (hf : ∀ a, Hf a = H0 a) {i : Nat} {a : Addr} {fs' : List (Str × Fld)} (hi : ρ[i]? = some (.ob a B fs')) (k : RetO K C B Hf fs' D0.rt) : At K C Hf H0 (tRet (tVar i) D0) ρ := fun Hb H L σ E => by
  obtain ⟨s, l, h1, hl, dx, vs, l', rfl, rfl, h2, h3⟩ := E.cell i _ hi
  exact ⟨_, h1, k a H Hb dx vs l' (fun a o q => E.e0 _ _ (by rw [← hf]; exact q)) E.e1 h2 h3 (E.nd i _ hl) (fun x m => by
    obtain ⟨q1, _, q3⟩ := E.fr i _ x hl m
    exact ⟨q1, q3⟩) E.tu⟩
end
end Hw
namespace Hw
open PySem L2
/-! ## calling them -/
section
variable {K : PySem.W.Frag} {C B : Addr} {Hf H0 Hb H : Hp} {L : List (List Addr)} {σ : St} {ρ : List Cell} {te ta tb : TE} {t : TA} {d : D} {xs ds ds' : List D} {D0 : Ends} {s2 : TS} {i : Nat} {a : Addr} {fs fs' : List (Str × Fld)} {m : Str}
/-- the object is looked at as the heap is -/
theorem ob_view (E : EnvB K C Hf H0 Hb H L σ ρ) (h : ρ[i]? = some (.ob a B fs)) : σ[i]? = some (some (.ref a)) ∧ ∃ dx ws l, L[i]? = some (a :: l) ∧ H a = some (.ins B dx ws) ∧ FldsOk K C Hf Hb H l fs ws := by
  obtain ⟨s, l, h1, hl, dx, vs, l', rfl, rfl, h2, h3⟩ := E.cell i _ h
  exact ⟨h1, dx, vs, l', hl, h2, h3⟩
theorem no_meth {ws : List (Str × V)} {l : List Addr} (hm : ∀ g ∈ fs.map (·.1), (m == g) = false) (h : FldsOk K C Hf Hb H l fs ws) : ws.lookup m = none := lookup_no (by rw [h.names]; exact hm)
theorem meth_rd (h : ρ[i]? = some (.ob a B fs)) (hm : ∀ g ∈ fs.map (·.1), (m == g) = false) (ha : EvA K C t ρ ds) (he : eraAll ds = ds') (E0 : EnvB K C Hf H0 Hb H L σ ρ) {sp : Sp} {E : XK} {Q : VK}
    (k : ∀ vs Hb1 H1 dx ws l, Step Hb H Hb1 H1 → H1 a = some (.ins B dx ws) → FldsOk K C H1 H1 H1 l (eraF fs) ws → RpAll K C H1 H1 ds' vs → sp (.ref a :: vs) H1 Q E) : tMeth B m sp [] E (tVar i) t σ H Q := by
  obtain ⟨h1, dx, ws, l, hl, h2, h3⟩ := ob_view E0 h
  refine ⟨_, h1, a, dx, ws, rfl, h2, no_meth hm h3, ha Hf H0 Hb H L σ E0 _ fun vs Hb1 H1 S r => ?_⟩
  have r' := RpAll.era (Hf' := H1) _ _ r
  rw [he] at r'
  rw [List.append_nil]
  exact k vs Hb1 H1 dx ws l S (S.h _ _ h2) ((h3.mono (S.hb.trans S.bh) S.h).era) r'
theorem ed_methRd {R : List (Str × Fld) → List D → D → Prop} {E : XK} (h : ρ[i]? = some (.ob a B fs)) (hm : ∀ g ∈ fs.map (·.1), (m == g) = false) (ha : EvA K C t ρ ds) (he : eraAll ds = ds') (hR : R (eraF fs) ds' d) (hf : d.fr = true) : EvD K C (tMeth B m (spRd K C B R) [] E (tVar i) t) ρ d := fun Hf H0 Hb H L σ E0 Q q =>
  meth_rd h hm ha he E0 fun vs Hb1 H1 dx ws l S h2 h3 r => ⟨a, dx, ws, l, _, vs, _, d, rfl, h2, h3, r, hR, fun v H' e r2 => by
    have E1 := E0.step S
    exact q v (joinH H1 Hb1 H') H' (S.trans (E1.join e)) (Rp.into (E1.joinInto e) d v hf r2)⟩
theorem el_methRd {R : List (Str × Fld) → List D → List D → Prop} {E : XK} (h : ρ[i]? = some (.ob a B fs)) (hm : ∀ g ∈ fs.map (·.1), (m == g) = false) (ha : EvA K C t ρ ds) (he : eraAll ds = ds') (hR : R (eraF fs) ds' xs) (hf : frAll xs = true) : EvL K C (tMeth B m (spRdL K C B R) [] E (tVar i) t) ρ xs := fun Hf H0 Hb H L σ E0 Q q =>
  meth_rd h hm ha he E0 fun vs Hb1 H1 dx ws l S h2 h3 r => ⟨a, dx, ws, l, _, vs, _, xs, rfl, h2, h3, r, hR, fun p us Hm H' e em n1 g1 tu r2 => by
    have E1 := E0.step S
    have J := E1.join e
    have p1 : H1 p = none := e.free n1
    have jp : joinH H1 Hb1 Hm p = none := by
      unfold joinH
      rw [p1]; exact n1
    exact q p us (joinH H1 Hb1 Hm) H' (S.trans ⟨J.hb, e.trans em, J.bh.trans em, J.nw, fun a zs w => J.tu a zs (tu a zs w)⟩) (S.h.free p1) jp g1 (RpAll.into (E1.joinInto e) xs us hf r2)⟩
/-- what the callee must keep -/
def seen (Hf Hb H : Hp) (l : List Addr) : Hp := fun x => if x ∈ l then none else if (Hb x).isSome && (Hf x).isNone then none else H x
theorem seen_some {l : List Addr} {x : Addr} {o : HO} (h : H x = some o) (hl : x ∉ l) : Hb x ≠ none ∧ Hf x = none ∨ seen Hf Hb H l x = some o := by
  unfold seen
  rw [if_neg hl]
  cases e1 : Hb x with
  | none => right; simp; exact h
  | some u =>
    cases e2 : Hf x with
    | none => left; exact ⟨(fun z => nomatch z), rfl⟩
    | some w => right; simp; exact h
theorem seen_ex {l : List Addr} : Ex (seen Hf Hb H l) H := fun x o q => by
  unfold seen at q
  split at q
  · cases q
  · split at q
    · cases q
    · exact q
/-- after a method has changed the object in cell i -/
theorem EnvB.changed {Hb' H' : Hp} {l l' : List Addr} {dx : Addr} {ws : List (Str × V)} (E : EnvB K C Hf H0 Hb H L σ ρ) (hs : σ[i]? = some (some (.ref a))) (hl : L[i]? = some l) (F : Foot (seen Hf Hb H l) Hb' H' a l') (hx : Ex Hb Hb') (nw : ∀ x o, Hb' x = some o → Hb x = some o ∨ seen Hf Hb H l x = none)
    (h2 : H' a = some (.ins B dx ws)) (h3 : FldsOk K C (seen Hf Hb H l) Hb' H' l' fs' ws) (hf : frF fs' = true) : ∃ L', EnvB K C Hf H0 Hb' H' L' σ (ρ.set i (.ob a B fs')) := by
  -- what of the frame is kept
  have keep : ∀ x o, H x = some o → x ∉ l → H' x = some o := fun x o q nl => by
    rcases seen_some (Hf := Hf) (Hb := Hb) q nl with ⟨h, _⟩ | h
    · cases e : Hb x with
      | none => exact absurd e h
      | some u =>
        have := E.e1 _ _ e
        rw [q] at this
        cases this
        exact F.e1 _ _ (hx _ _ e)
    · exact F.ef _ _ h
  have ownOut : ∀ (j : Nat) (lj : List Addr), L[j]? = some lj → ∀ x ∈ lj, x ∈ l → j = i := fun j lj q x m m2 => E.dis j i lj l x q hl m m2
  have freeHb : ∀ (j : Nat) (lj : List Addr), L[j]? = some lj → j ≠ i → ∀ x ∈ lj, Hb' x = none := fun j lj q ne x m => by
    obtain ⟨f1, f2, f3⟩ := E.fr j lj x q m
    cases e : Hb' x with
    | none => rfl
    | some o =>
      rcases nw x o e with z | z
      · rw [f1] at z; cases z
      · cases w : H x with
        | none => exact absurd w f3
        | some u =>
          rcases seen_some (Hf := Hf) (Hb := Hb) w (fun m2 => ne (ownOut j lj q x m m2)) with ⟨h, _⟩ | h
          · exact absurd f1 h
          · rw [z] at h; cases h
  have hil : i < ρ.length := by have := (List.getElem?_eq_some_iff.mp hl).1; rw [E.lel] at this; exact this
  have own' : ∀ (j : Nat) (lj : List Addr), L[j]? = some lj → j ≠ i → ∀ x ∈ lj, x ∉ a :: l' := fun j lj q ne x m m2 => by
    obtain ⟨f1, f2, f3⟩ := E.fr j lj x q m
    obtain ⟨g1, g2, g3⟩ := F.fr x m2
    cases w : H x with
    | none => exact f3 w
    | some u =>
      rcases seen_some (Hf := Hf) (Hb := Hb) w (fun m3 => ne (ownOut j lj q x m m3)) with ⟨h, _⟩ | h
      · exact h f1
      · rw [g2] at h; cases h
  have fHf : ∀ x, seen Hf Hb H l x = none → Hf x = none := fun x q => by
    cases e : Hf x with
    | none => rfl
    | some o =>
      have h1 := E.ef _ _ e
      have nl : x ∉ l := fun m => by
        have := (E.fr i l x hl m).2.1
        rw [e] at this; cases this
      rcases seen_some (Hf := Hf) (Hb := Hb) h1 nl with ⟨_, h⟩ | h
      · rw [e] at h; cases h
      · rw [q] at h; cases h
  refine ⟨L.set i (a :: l'), E.e0.trans hx, F.e1, fun x o q => ?_, fun x o q => ?_, F.tu, by simp [E.len], by simp [E.lel], fun j c q => ?_, fun j k lj lk x q1 q2 m1 m2 => ?_, fun j lj q => ?_, fun j lj x q m => ?_⟩
  · exact keep x o (E.ef _ _ q) fun m => by
      have := (E.fr i l x hl m).2.1
      rw [q] at this; cases this
  · rcases nw x o q with z | z
    · exact E.nw x o z
    · exact .inr (fHf x z)
  · rcases getElem?_set_cases q with ⟨rfl, rfl, _⟩ | ⟨ne, q⟩
    · exact ⟨_, a :: l', hs, List.getElem?_set_self (by rw [E.lel]; exact hil), dx, ws, l', rfl, rfl, h2, FldsOk.refr (fun x o _ z => fHf x z) hf h3⟩
    · obtain ⟨s', lj, k1, k2, k3⟩ := E.cell j c q
      refine ⟨s', lj, k1, by rw [List.getElem?_set_ne (Ne.symm ne)]; exact k2, ?_⟩
      have kp : ∀ x ∈ lj, ∀ o, H x = some o → H' x = some o := fun x m o w => keep x o w fun m2 => ne (ownOut j lj k2 x m m2)
      cases c with
      | un => exact k3
      | any => exact k3
      | dat d => exact CellOk.mono hx (Ex.refl H') (c := .dat d) (by exact k3)
      | own zs =>
        obtain ⟨p2, us2, rfl, e2, k4, k5⟩ := k3
        exact ⟨p2, us2, rfl, e2, kp _ (by simp) _ k4, RpAll.mono hx _ _ k5⟩
      | ob a2 C' fs2 =>
        obtain ⟨dx2, vs2, l2, rfl, e2, k4, k5⟩ := k3
        exact ⟨dx2, vs2, l2, rfl, e2, kp _ List.mem_cons_self _ k4, FldsOk.mono hx (Ex.refl H') (FldsOk.keepL (fun x m => kp x (List.mem_cons_of_mem _ m)) k5)⟩
      | tp a2 fs2 =>
        obtain ⟨vs2, e2, k4, k5⟩ := k3
        have w := E.tu _ _ k4
        exact ⟨vs2, e2, F.e1 _ _ (hx _ _ w), FldsOk.mono hx (Ex.refl H') (FldsOk.keepL kp k5)⟩
      | val v => exact k3
      | raw a2 vs2 => exact ⟨k3.1, k3.2.1, hx _ _ k3.2.2⟩
      | nt a2 b2 fs2 ks2 =>
        obtain ⟨vs, p3, us3, l3, rfl, e2, k4, k5, k6, k7, k8⟩ := k3
        exact ⟨vs, p3, us3, l3, rfl, e2, F.e1 _ _ (hx _ _ (E.tu _ _ k4)), F.e1 _ _ (hx _ _ (E.tu _ _ k5)), kp _ (by simp) _ k6, RpAll.mono hx _ _ k7, FldsOk.mono hx (Ex.refl H') (FldsOk.keepL (fun x m => kp x (List.mem_cons_of_mem _ m)) k8)⟩
      | rd a2 C' fs2 =>
        obtain ⟨dx2, vs2, l2, e1, e2, k4, k5⟩ := k3
        exact ⟨dx2, vs2, l2, e1, e2, hx _ _ k4, FldsOk.mono hx hx k5⟩
  · rcases getElem?_set_cases q1 with ⟨e1, e2, _⟩ | ⟨n1, w1⟩
    · rcases getElem?_set_cases q2 with ⟨e3, e4, _⟩ | ⟨n2, w2⟩
      · rw [e1, e3]
      · exact absurd (e2 ▸ m1) (own' k lk w2 n2 x m2)
    · rcases getElem?_set_cases q2 with ⟨e3, e4, _⟩ | ⟨n2, w2⟩
      · exact absurd (e4 ▸ m2) (own' j lj w1 n1 x m1)
      · exact E.dis j k lj lk x w1 w2 m1 m2
  · rcases getElem?_set_cases q with ⟨rfl, rfl, _⟩ | ⟨ne, q⟩
    · exact F.nd
    · exact E.nd j lj q
  · rcases getElem?_set_cases q with ⟨rfl, rfl, _⟩ | ⟨ne, q⟩
    · obtain ⟨g1, g2, g3⟩ := F.fr x m
      exact ⟨g1, fHf x g2, g3⟩
    · obtain ⟨f1, f2, f3⟩ := E.fr j lj x q m
      refine ⟨freeHb j lj q ne x m, f2, ?_⟩
      cases w : H x with
      | none => exact absurd w f3
      | some u => rw [keep x u w fun m2 => ne (ownOut j lj q x m m2)]; exact fun z => nomatch z
theorem EnvB.foot (E : EnvB K C Hf H0 Hb H L σ ρ) {l : List Addr} (hl : L[i]? = some (a :: l)) : Foot (seen Hf Hb H (a :: l)) Hb H a l where
  e1 := E.e1
  ef := seen_ex
  nd := E.nd i _ hl
  fr := fun x m => by
    obtain ⟨f1, f2, f3⟩ := E.fr i _ x hl m
    exact ⟨f1, by unfold seen; rw [if_pos m], f3⟩
  tu := E.tu
theorem seen_fresh (E : EnvB K C Hf H0 Hb H L σ ρ) {l : List Addr} : ∀ x o, Hb x = some o → Hf x = none → seen Hf Hb H l x = none := fun x o q z => by
  unfold seen
  split
  · rfl
  · rw [q, z]; rfl
/-- x.m(..), m changing x -/
theorem at_methMu {R : List (Str × Fld) → List D → List (Str × Fld) → Prop} {E : XK} (h : ρ[i]? = some (.ob a B fs)) (hm : ∀ g ∈ fs.map (·.1), (m == g) = false) (hf0 : frF fs = true) (ha : EvAD K C t ρ ds) (he : eraAll ds = ds') (hR : R fs ds' fs') (hf : frF fs' = true)
    (k : At K C Hf H0 D0.nx (ρ.set i (.ob a B fs'))) : At K C Hf H0 (tDrop (tMeth B m (spMu K C B R) [] E (tVar i) t) D0) ρ := fun Hb H L σ E0 => by
  obtain ⟨h1, dx, ws, l, hl, h2, h3⟩ := ob_view E0 h
  refine ⟨_, h1, a, dx, ws, rfl, h2, no_meth hm h3, ha Hf H0 Hb H L σ E0 _ fun vs Hb1 H1 S r => ?_⟩
  have E1 := E0.step S
  have r' := RpAll.era (Hf' := seen Hf Hb1 H1 (a :: l)) _ _ r
  rw [he] at r'
  rw [List.append_nil]
  refine ⟨seen Hf Hb1 H1 (a :: l), Hb1, a, dx, ws, l, fs, vs, ds', fs', rfl, E1.foot hl, S.h _ _ h2, FldsOk.refr (seen_fresh E1) hf0 (h3.mono S.hb S.h), r', hR, fun Hb' H' dx' ws' l' F hx nw g2 g3 => ?_⟩
  obtain ⟨L', E2⟩ := E1.changed h1 hl F hx nw g2 g3 hf
  exact k _ _ _ _ E2
/-- x = B(..) -/
theorem at_makeB {R : List (Str × Fld) → List D → List (Str × Fld) → Prop} {E : XK} (hi : i < ρ.length) (ha : EvAD K C t ρ ds) (he : eraAll ds = ds') (hR : R [] ds' fs') (hf : frF fs' = true)
    (k : ∀ a, At K C Hf H0 D0.nx (ρ.set i (.ob a B fs'))) : At K C Hf H0 (tAsg (tMake B (spMu K C B R) [] E t) (gName i) D0) ρ := fun Hb H L σ E0 =>
  ha Hf H0 Hb H L σ E0 _ fun vs Hb1 H1 S r => by
    intro x dx hx hdx ne
    have E1 := E0.step S
    have up : Ex H1 (upd (upd H1 dx (.own x)) x (.ins B dx [])) := (Ex.new hdx).trans (Ex.new (by rw [upd_ne (Ne.symm ne)]; exact hx))
    have S2 : Step Hb1 H1 Hb1 (upd (upd H1 dx (.own x)) x (.ins B dx [])) := ⟨.refl _, up, S.bh.trans up, fun a o q => .inl q, fun a zs w => by
      by_cases z : a = x
      · subst z; rw [upd_same] at w; cases w
      · rw [upd_ne z] at w
        by_cases z2 : a = dx
        · subst z2; rw [upd_same] at w; cases w
        · rw [upd_ne z2] at w; exact E1.tu a zs w⟩
    have E2 := E1.step S2
    have hbx : Hb1 x = none := E1.e1.free hx
    have hfx : Hf x = none := E1.ef.free hx
    have E3 := E2.set (i := i) hi (c := .ob x B []) (s := some (.ref x)) (l := [x]) ⟨dx, [], [], rfl, rfl, upd_same, rfl, rfl⟩ (by simp) (fun b m => by
      have e : b = x := by simpa using m
      subst e
      exact ⟨hbx, hfx, by rw [upd_same]; exact fun z => nomatch z⟩) (fun j lj b nj q m m2 => by
      have e : b = x := by simpa using m2
      subst e
      exact E1.notOwned hx q m)
    have hil : i < L.length := by rw [E1.lel]; exact hi
    have his : i < σ.length := by rw [E1.len]; exact hi
    have hl3 : (L.set i [x])[i]? = some [x] := List.getElem?_set_self hil
    have hs3 : (σ.set i (some (V.ref x)))[i]? = some (some (.ref x)) := List.getElem?_set_self his
    have r' := RpAll.era (Hf' := seen Hf Hb1 (upd (upd H1 dx (.own x)) x (.ins B dx [])) [x]) _ _ r
    rw [he] at r'
    rw [List.append_nil]
    refine ⟨seen Hf Hb1 (upd (upd H1 dx (.own x)) x (.ins B dx [])) [x], Hb1, x, dx, [], [], [], vs, ds', fs', rfl, E3.foot hl3, upd_same, ⟨rfl, rfl⟩, r', hR, fun Hb' H' dx' ws' l' F hxx nw g2 g3 => ⟨rfl, ?_⟩⟩
    obtain ⟨L', E4⟩ := E3.changed hs3 hl3 F hxx nw g2 g3 hf
    have e2 : (ρ.set i (.ob x B [])).set i (.ob x B fs') = ρ.set i (.ob x B fs') := by simp
    rw [e2] at E4
    exact k x _ _ _ _ E4
/-- x = f(..), f handing back an object -/
theorem at_callO {R : List D → List (Str × Fld) → Prop} {E : XK} (hi : i < ρ.length) (ha : EvA K C t ρ ds) (he : eraAll ds = ds') (hR : R ds' fs') (hf : frF fs' = true)
    (k : ∀ a, At K C Hf H0 D0.nx (ρ.set i (.ob a B fs'))) : At K C Hf H0 (tAsg (tCall (spO K C B R) [] E t) (gName i) D0) ρ := fun Hb H L σ E0 =>
  ha Hf H0 Hb H L σ E0 _ fun vs Hb1 H1 S r => by
    have E1 := E0.step S
    have r' := RpAll.era (Hf' := H1) _ _ r
    rw [he] at r'
    rw [List.append_nil]
    refine ⟨ds', fs', r', hR, fun x H' Hm dx ws l e em h2 h3 nd fr tu => ?_⟩
    have J := E1.join e
    have J2 : Step Hb1 H1 (joinH H1 Hb1 Hm) H' := ⟨J.hb, e.trans em, J.bh.trans em, J.nw, fun b zs w => J.tu b zs (tu b zs w)⟩
    have E2 := E1.step J2
    have f1 : ∀ b ∈ x :: l, H1 b = none := fun b m => e.free (fr b m).1
    have E3 := E2.set (i := i) hi (c := .ob x B fs') (s := some (.ref x)) (l := x :: l) ⟨dx, ws, l, rfl, rfl, h2, FldsOk.into (E1.joinInto e) hf h3⟩ nd (fun b m => by
      refine ⟨?_, E1.ef.free (f1 b m), (fr b m).2⟩
      unfold joinH
      rw [f1 b m]; exact (fr b m).1) (fun j lj b nj q m m2 => E1.notOwned (f1 b m2) q m)
    exact k x _ _ _ _ E3
theorem sq_methMu {R : List (Str × Fld) → List D → List (Str × Fld) → Prop} {E : XK} (h : ρ[i]? = some (.ob a B fs)) (hm : ∀ g ∈ fs.map (·.1), (m == g) = false) (hf0 : frF fs = true) (ha : EvAD K C t ρ ds) (he : eraAll ds = ds') (hR : R fs ds' fs') (hf : frF fs' = true)
    (k : At K C Hf H0 (s2 D0) (ρ.set i (.ob a B fs'))) : At K C Hf H0 (tSeq (tDrop (tMeth B m (spMu K C B R) [] E (tVar i) t)) s2 D0) ρ := at_seq (at_methMu h hm hf0 ha he hR hf k)
theorem sq_makeB {R : List (Str × Fld) → List D → List (Str × Fld) → Prop} {E : XK} (hi : i < ρ.length) (ha : EvAD K C t ρ ds) (he : eraAll ds = ds') (hR : R [] ds' fs') (hf : frF fs' = true)
    (k : ∀ a, At K C Hf H0 (s2 D0) (ρ.set i (.ob a B fs'))) : At K C Hf H0 (tSeq (tAsg (tMake B (spMu K C B R) [] E t) (gName i)) s2 D0) ρ := at_seq (at_makeB hi ha he hR hf k)
theorem sq_callO {R : List D → List (Str × Fld) → Prop} {E : XK} (hi : i < ρ.length) (ha : EvA K C t ρ ds) (he : eraAll ds = ds') (hR : R ds' fs') (hf : frF fs' = true)
    (k : ∀ a, At K C Hf H0 (s2 D0) (ρ.set i (.ob a B fs'))) : At K C Hf H0 (tSeq (tAsg (tCall (spO K C B R) [] E t) (gName i)) s2 D0) ρ := at_seq (at_callO hi ha he hR hf k)
end
end Hw
namespace Hw
open PySem L2
/-! ## tuples with lists of the frame's own -/
def Fld.all : Fld → D
  | .dat d => d.era
  | .own xs => .lst .x (eraAll xs)
section
variable {K : PySem.W.Frag} {C : Addr} {Hf Hf2 H0 Hb H Hb' H' : Hp} {L : List (List Addr)} {σ : St} {ρ : List Cell} {te ta tb : TE} {t tr : TA} {d : D} {xs ys ds ds' : List D} {D0 : Ends} {s2 : TS} {i j : Nat} {a : Addr} {fs fs' : List (Str × Fld)} {g : Str}
theorem FldsOk.datAt : ∀ {fs : List (Str × Fld)} {l : List Addr} {vs : List (Str × V)} {j : Nat}, FldsOk K C Hf Hb H l fs vs → fs[j]? = some (g, .dat d) → ∃ v, (vs.map (·.2))[j]? = some v ∧ Rp K C Hf Hb d v
  | [], l, vs, j, h, e => by cases e
  | (n, .dat d') :: fs, l, vs, 0, h, e => by
    obtain ⟨v, r, rfl, h1, h2⟩ := h
    cases e
    exact ⟨v, rfl, h1⟩
  | (n, .own ys) :: fs, l, vs, 0, h, e => by cases e
  | (n, .dat d') :: fs, l, vs, j + 1, h, e => by
    obtain ⟨v, r, rfl, h1, h2⟩ := h
    exact h2.datAt (j := j) e
  | (n, .own ys) :: fs, l, vs, j + 1, h, e => by
    obtain ⟨p, us, r, l', rfl, _, _, _, h2⟩ := h
    exact h2.datAt (j := j) e
theorem FldsOk.ownAt : ∀ {fs : List (Str × Fld)} {l : List Addr} {vs : List (Str × V)} {j : Nat}, FldsOk K C Hf Hb H l fs vs → fs[j]? = some (g, .own xs) → ∃ p us, (vs.map (·.2))[j]? = some (.ref p) ∧ p ∈ l ∧ H p = some (.lst us) ∧ RpAll K C Hf Hb xs us
  | [], l, vs, j, h, e => by cases e
  | (n, .own ys) :: fs, l, vs, 0, h, e => by
    obtain ⟨p, us, r, l', rfl, rfl, h0, h1, h2⟩ := h
    cases e
    exact ⟨p, us, rfl, List.mem_cons_self, h0, h1⟩
  | (n, .dat d') :: fs, l, vs, 0, h, e => by cases e
  | (n, .dat d') :: fs, l, vs, j + 1, h, e => by
    obtain ⟨v, r, rfl, h1, h2⟩ := h
    exact h2.ownAt (j := j) e
  | (n, .own ys) :: fs, l, vs, j + 1, h, e => by
    obtain ⟨p, us, r, l', rfl, rfl, _, _, h2⟩ := h
    obtain ⟨p2, us2, k1, k2, k3⟩ := h2.ownAt (j := j) e
    exact ⟨p2, us2, k1, List.mem_cons_of_mem _ k2, k3⟩
theorem FldsOk.mutAt {us' : List V} {p : Addr} (hv : RpAll K C Hf Hb ys us') : ∀ {fs : List (Str × Fld)} {l : List Addr} {vs : List (Str × V)} {j : Nat}, FldsOk K C Hf Hb H l fs vs → fs[j]? = some (g, .own xs) → (vs.map (·.2))[j]? = some (.ref p) → l.Nodup → FldsOk K C Hf Hb (upd H p (.lst us')) l (fs.set j (g, .own ys)) vs
  | [], l, vs, j, h, e, _, _ => by cases e
  | (n, .own zs) :: fs, l, vs, 0, h, e, ev, hn => by
    obtain ⟨p1, us, r, l', rfl, rfl, h0, h1, h2⟩ := h
    cases e
    cases ev
    exact ⟨_, us', r, l', rfl, rfl, upd_same, hv, FldsOk.keep (fun a o ne z => by rw [upd_ne ne]; exact z) h2 (List.nodup_cons.mp hn).1⟩
  | (n, .dat d') :: fs, l, vs, 0, h, e, _, _ => by cases e
  | (n, .dat d') :: fs, l, vs, j + 1, h, e, ev, hn => by
    obtain ⟨v, r, rfl, h1, h2⟩ := h
    exact ⟨v, r, rfl, h1, h2.mutAt (j := j) hv e ev hn⟩
  | (n, .own zs) :: fs, l, vs, j + 1, h, e, ev, hn => by
    obtain ⟨p1, us, r, l', rfl, rfl, h0, h1, h2⟩ := h
    have hn' := List.nodup_cons.mp hn
    obtain ⟨p2, us2, k1, k2, k3⟩ := h2.ownAt (j := j) e
    have ev' : (r.map (·.2))[j]? = some (.ref p) := ev
    rw [ev'] at k1
    cases k1
    exact ⟨p1, us, r, l', rfl, rfl, by rw [upd_ne (fun z => hn'.1 (by rw [z]; exact k2))]; exact h0, h1, h2.mutAt (j := j) hv e ev' hn'.2⟩
theorem FldsOk.all : ∀ {fs : List (Str × Fld)} {l : List Addr} {vs : List (Str × V)}, Ex Hb H → FldsOk K C Hf Hb H l fs vs → RpAll K C Hf2 H (fs.map fun p => p.2.all) (vs.map (·.2))
  | [], l, vs, _, h => by obtain ⟨_, rfl⟩ := h; exact .nil
  | (n, .dat d') :: fs, l, vs, e, h => by
    obtain ⟨v, r, rfl, h1, h2⟩ := h
    exact .cons (Rp.era _ _ (Rp.mono e _ _ h1)) (h2.all e)
  | (n, .own ys) :: fs, l, vs, e, h => by
    obtain ⟨p, us, r, l', rfl, rfl, h0, h1, h2⟩ := h
    exact .cons ⟨p, us, rfl, trivial, h0, RpAll.era _ _ (RpAll.mono e _ _ h1)⟩ (h2.all e)
theorem FldsOk.len' {l : List Addr} {vs : List (Str × V)} (h : FldsOk K C Hf Hb H l fs vs) : (vs.map (·.2)).length = fs.length := by rw [List.length_map]; exact h.len
/-! reading -/
theorem tp_view (E : EnvB K C Hf H0 Hb H L σ ρ) (h : ρ[i]? = some (.tp a fs)) : σ[i]? = some (some (.ref a)) ∧ ∃ l vs, L[i]? = some l ∧ H a = some (.tup (vs.map (·.2))) ∧ FldsOk K C Hf Hb H l fs vs := by
  obtain ⟨s, l, h1, hl, vs, rfl, h2, h3⟩ := E.cell i _ h
  exact ⟨h1, l, vs, hl, h2, h3⟩
theorem atI_nat {α : Type} {l : List α} {j : Nat} {x : α} (h : l[j]? = some x) : atI l (j : Int) = some x := atI_of (by omega) (by simpa using h)
theorem ed_tpI (h : ρ[i]? = some (.tp a fs)) (hj : fs[j]? = some (g, .dat d)) : EvD K C (xIdx K (tVar i) (tC (.int (j : Int)))) ρ d := fun Hf H0 Hb H L σ E Q q => by
  obtain ⟨h1, l, vs, hl, h2, h3⟩ := tp_view E h
  obtain ⟨v, h4, h5⟩ := h3.datAt hj
  exact ⟨_, h1, .inr (.inl ⟨a, _, (j : Int), v, rfl, rfl, .of h2, atI_nat h4, q v Hb H E.step0 h5⟩)⟩
theorem es_tpI (h : ρ[i]? = some (.tp a fs)) (hj : fs[j]? = some (g, .own xs)) : EvS K C (xIdx K (tVar i) (tC (.int (j : Int)))) ρ xs := fun Hf H0 Hb H L σ E Q q => by
  obtain ⟨h1, l, vs, hl, h2, h3⟩ := tp_view E h
  obtain ⟨p, us, h4, _, h5, h6⟩ := h3.ownAt hj
  exact ⟨_, h1, .inr (.inl ⟨a, _, (j : Int), .ref p, rfl, rfl, .of h2, atI_nat h4, q p us Hb H E.step0 h5 h6⟩)⟩
theorem er_tp (h : ρ[i]? = some (.tp a fs)) : EvR K C (tVar i) ρ (.tup (fs.map fun p => p.2.all)) := fun Hf H0 Hb H L σ E Q q => by
  obtain ⟨h1, l, vs, hl, h2, h3⟩ := tp_view E h
  exact ⟨_, h1, q _ Hb H E.step0 ⟨a, _, rfl, .inl h2, h3.all E.e1⟩⟩
/-- x[j].append(e) -/
theorem at_appendT (h : ρ[i]? = some (.tp a fs)) (hj : fs[j]? = some (g, .own xs)) (hv : EvD K C te ρ d) (hz : xs.length < 100000) (k : At K C Hf H0 D0.nx (ρ.set i (.tp a (fs.set j (g, .own (xs ++ [d])))))) :
    At K C Hf H0 (tDrop (tBM K "list" rAppend (xIdx K (tVar i) (tC (.int (j : Int)))) (tCons te tNil)) D0) ρ := fun Hb H L σ E => by
  obtain ⟨h1, l, vs, hl, h2, h3⟩ := tp_view E h
  obtain ⟨p, us, h4, h5, h6, h7⟩ := h3.ownAt hj
  refine ⟨_, h1, .inr (.inl ⟨a, _, (j : Int), .ref p, rfl, rfl, .of h2, atI_nat h4, Or.inl ⟨rfl, _, .of h6⟩, hv Hf H0 Hb H L σ E _ fun v Hb' H' S r => ?_⟩)⟩
  refine ⟨p, us, v, rfl, rfl, S.h _ _ h6, lineT (by rw [h7.length]; exact hz), ?_⟩
  have E1 := E.step S
  have nap : a ≠ p := fun z => by rw [z, h6] at h2; cases h2
  obtain ⟨L', E2⟩ := E1.retell hl h5 (o := .lst (us ++ [v])) (fun zs z => nomatch z) h1 (c := .tp a (fs.set j (g, .own (xs ++ [d])))) (l' := l)
    ⟨vs, rfl, by rw [upd_ne nap]; exact S.h _ _ h2, (h3.mono S.hb S.h).mutAt ((RpAll.mono S.hb _ _ h7).append (.one r)) hj h4 (E1.nd i _ hl)⟩ (E1.nd i _ hl) (fun b m => .inl m)
  exact k _ _ _ _ E2
theorem sq_appendT (h : ρ[i]? = some (.tp a fs)) (hj : fs[j]? = some (g, .own xs)) (hv : EvD K C te ρ d) (hz : xs.length < 100000) (k : At K C Hf H0 (s2 D0) (ρ.set i (.tp a (fs.set j (g, .own (xs ++ [d])))))) :
    At K C Hf H0 (tSeq (tDrop (tBM K "list" rAppend (xIdx K (tVar i) (tC (.int (j : Int)))) (tCons te tNil))) s2 D0) ρ := at_seq (at_appendT h hj hv hz k)
/-! making: items, some of them new lists -/
def EvM (K : PySem.W.Frag) (C : Addr) (t : TA) (ρ : List Cell) (fs : List (Str × Fld)) : Prop := ∀ Hf H0 Hb H L σ, EnvB K C Hf H0 Hb H L σ ρ → ∀ Q : List V → Hp → Prop,
  (∀ vs Hb' H' l, Step Hb H Hb' H' → FldsOk K C Hf Hb' H' l fs vs → l.Nodup → (∀ x ∈ l, H x = none ∧ Hb' x = none ∧ H' x ≠ none) → Q (vs.map (·.2)) H') → t σ H Q
theorem em_nil : EvM K C tNil ρ [] := fun Hf H0 Hb H L σ E Q q => q [] Hb H [] E.step0 ⟨rfl, rfl⟩ List.nodup_nil (fun x m => nomatch m)
theorem em_dat (h : EvD K C te ρ d) (hr : EvM K C tr ρ fs) : EvM K C (tCons te tr) ρ (("", .dat d) :: fs) := fun Hf H0 Hb H L σ E Q q => h Hf H0 Hb H L σ E _ fun v Hb1 H1 S r =>
  hr Hf H0 Hb1 H1 L σ (E.step S) _ fun vs Hb2 H2 l S2 r2 nd fr => q (("", v) :: vs) Hb2 H2 l (S.trans S2) ⟨v, vs, rfl, Rp.mono S2.hb _ _ r, r2⟩ nd fun x m => ⟨S.h.free (fr x m).1, (fr x m).2⟩
theorem em_own (h : EvL K C te ρ xs) (hr : EvM K C tr ρ fs) : EvM K C (tCons te tr) ρ (("", .own xs) :: fs) := fun Hf H0 Hb H L σ E Q q => h Hf H0 Hb H L σ E _ fun p us Hb1 H1 S n1 n2 p1 p2 =>
  hr Hf H0 Hb1 H1 L σ (E.step S) _ fun vs Hb2 H2 l S2 r2 nd fr => by
    have np : p ∉ l := fun m => by
      have := (fr p m).1
      rw [p1] at this; cases this
    refine q (("", .ref p) :: vs) Hb2 H2 (p :: l) (S.trans S2) ⟨p, us, vs, l, rfl, rfl, S2.h _ _ p1, RpAll.mono S2.hb _ _ p2, r2⟩ (List.nodup_cons.mpr ⟨np, nd⟩) fun x m => ?_
    rcases List.mem_cons.mp m with rfl | m
    · refine ⟨n1, ?_, by rw [S2.h _ _ p1]; exact fun z => nomatch z⟩
      cases e : Hb2 x with
      | none => rfl
      | some o =>
        rcases S2.nw x o e with z | z
        · rw [n2] at z; cases z
        · rw [p1] at z; cases z
    · exact ⟨S.h.free (fr x m).1, (fr x m).2⟩
/-- a def that hands back a tuple, its lists the caller's own -/
def RetT (K : PySem.W.Frag) (C : Addr) (H : Hp) (fs' : List (Str × Fld)) (Q : VK) : Prop := ∀ a H' Hm vs l, Ex H Hm → Ex Hm H' → H' a = some (.tup (vs.map (·.2))) → FldsOk K C H Hm H' l fs' vs → l.Nodup → (∀ x ∈ l, Hm x = none ∧ H' x ≠ none) → (∀ x zs, H' x = some (.tup zs) → Hm x = some (.tup zs)) → Q (.ref a) H'
def spT (K : PySem.W.Frag) (C : Addr) (R : List D → List (Str × Fld) → Prop) : Sp := fun vs H Q _ => ∃ ds fs', RpAll K C H H ds vs ∧ R ds fs' ∧ RetT K C H fs' Q
theorem at_retT (hf : ∀ a, Hf a = H0 a) (h : EvM K C t ρ fs) (hz : fs.length ≤ 100000) (k : RetT K C Hf fs D0.rt) : At K C Hf H0 (tRet (tTup t) D0) ρ := fun Hb H L σ E =>
  h Hf H0 Hb H L σ E _ fun vs Hb1 H1 l S r nd fr => by
    refine ⟨line_of (by rw [r.len']; exact hz), fun p hp => ?_⟩
    have hb : Hb1 p = none := S.bh.free hp
    have up : Ex H1 (upd H1 p (.tup (vs.map (·.2)))) := Ex.new hp
    refine k p (upd H1 p (.tup (vs.map (·.2)))) (upd Hb1 p (.tup (vs.map (·.2)))) vs l (fun b o w => Ex.new hb _ _ (S.hb _ _ (E.e0 _ _ (by rw [← hf]; exact w)))) (fun b o w => ?_) upd_same (r.mono (Ex.new hb) up) nd (fun x m => ?_) (fun x zs w => ?_)
    · by_cases z : b = p
      · subst z; rw [upd_same] at w; cases w; exact upd_same
      · rw [upd_ne z] at w ⊢; exact S.bh _ _ w
    · obtain ⟨f1, f2, f3⟩ := fr x m
      have ne : x ≠ p := fun z => by rw [z] at f3; exact f3 hp
      rw [upd_ne ne, upd_ne ne]
      exact ⟨f2, f3⟩
    · by_cases z : x = p
      · subst z; rw [upd_same] at w; cases w; exact upd_same
      · rw [upd_ne z] at w ⊢; exact S.tu _ _ w
theorem callT {R : List D → List (Str × Fld) → Prop} {E : XK} (ha : EvA K C t ρ ds) (he : eraAll ds = ds') (hR : R ds' fs') (hf : frF fs' = true) (E0 : EnvB K C Hf H0 Hb H L σ ρ) {Q : VK}
    (k : ∀ x Hb1 H1 Hb2 H' vs l, Step Hb H Hb1 H1 → Step Hb1 H1 Hb2 H' → H' x = some (.tup (vs.map (·.2))) → FldsOk K C Hf Hb2 H' l fs' vs → l.Nodup → (∀ b ∈ l, Hb2 b = none ∧ H1 b = none ∧ H' b ≠ none) → Q (.ref x) H') : tCall (spT K C R) [] E t σ H Q :=
  ha Hf H0 Hb H L σ E0 _ fun vs Hb1 H1 S r => by
    have E1 := E0.step S
    have r' := RpAll.era (Hf' := H1) _ _ r
    rw [he] at r'
    rw [List.append_nil]
    refine ⟨ds', fs', r', hR, fun x H' Hm ws l e em h2 h3 nd fr tu => ?_⟩
    have J := E1.join e
    have f1 : ∀ b ∈ l, H1 b = none := fun b m => e.free (fr b m).1
    exact k x Hb1 H1 (joinH H1 Hb1 Hm) H' ws l S ⟨J.hb, e.trans em, J.bh.trans em, J.nw, fun b zs w => J.tu b zs (tu b zs w)⟩ h2 (FldsOk.into (E1.joinInto e) hf h3) nd (fun b m => ⟨by
      unfold joinH
      rw [f1 b m]; exact (fr b m).1, f1 b m, (fr b m).2⟩)
theorem at_callT {R : List D → List (Str × Fld) → Prop} {E : XK} (hi : i < ρ.length) (ha : EvA K C t ρ ds) (he : eraAll ds = ds') (hR : R ds' fs') (hf : frF fs' = true)
    (k : ∀ a, At K C Hf H0 D0.nx (ρ.set i (.tp a fs'))) : At K C Hf H0 (tAsg (tCall (spT K C R) [] E t) (gName i) D0) ρ := fun Hb H L σ E0 =>
  callT ha he hR hf E0 fun x Hb1 H1 Hb2 H' vs l S S2 h2 h3 nd fr => by
    have E1 := E0.step S
    have E3 := (E1.step S2).set (i := i) hi (c := .tp x fs') (s := some (.ref x)) (l := l) ⟨vs, rfl, h2, h3⟩ nd (fun b m => ⟨(fr b m).1, E1.ef.free (fr b m).2.1, (fr b m).2.2⟩) (fun j lj b nj q m m2 => E1.notOwned (fr b m2).2.1 q m)
    exact k x _ _ _ _ E3
theorem sq_callT {R : List D → List (Str × Fld) → Prop} {E : XK} (hi : i < ρ.length) (ha : EvA K C t ρ ds) (he : eraAll ds = ds') (hR : R ds' fs') (hf : frF fs' = true)
    (k : ∀ a, At K C Hf H0 (s2 D0) (ρ.set i (.tp a fs'))) : At K C Hf H0 (tSeq (tAsg (tCall (spT K C R) [] E t) (gName i)) s2 D0) ρ := at_seq (at_callT hi ha he hR hf k)
theorem er_callT {R : List D → List (Str × Fld) → Prop} {E : XK} (ha : EvA K C t ρ ds) (he : eraAll ds = ds') (hR : R ds' fs') (hf : frF fs' = true) : EvR K C (tCall (spT K C R) [] E t) ρ (.tup (fs'.map fun p => p.2.all)) := fun Hf H0 Hb H L σ E0 Q q =>
  callT ha he hR hf E0 fun x Hb1 H1 Hb2 H' vs l S S2 h2 h3 nd fr => q _ Hb2 H' (S.trans S2) ⟨x, _, rfl, .inl h2, h3.all S2.bh⟩
end
end Hw
namespace Hw
open PySem L2
/-! ## a def's tuple as data -/
def Fld.asD : Fld → D
  | .dat d => d
  | .own xs => .lst .f xs
section
variable {K : PySem.W.Frag} {C : Addr} {Hf H0 Hb Hb3 H H' : Hp} {ρ : List Cell} {t : TA} {d : D} {ds ds' : List D} {fs' : List (Str × Fld)} {te ta : TE}
theorem FldsOk.asD (e : Ex Hb Hb3) : ∀ {fs : List (Str × Fld)} {l : List Addr} {vs : List (Str × V)}, FldsOk K C Hf Hb H' l fs vs → (∀ b ∈ l, ∀ o, H' b = some o → Hb3 b = some o) → (∀ b ∈ l, Hf b = none) → RpAll K C Hf Hb3 (fs.map fun p => p.2.asD) (vs.map (·.2))
  | [], l, vs, h, _, _ => by obtain ⟨_, rfl⟩ := h; exact .nil
  | (n, .dat d') :: fs, l, vs, h, h1, h2 => by
    obtain ⟨v, r, rfl, k1, k2⟩ := h
    exact .cons (Rp.mono e _ _ k1) (FldsOk.asD e k2 h1 h2)
  | (n, .own ys) :: fs, l, vs, h, h1, h2 => by
    obtain ⟨p, us, r, l', rfl, rfl, k0, k1, k2⟩ := h
    exact .cons ⟨p, us, rfl, h2 p List.mem_cons_self, h1 p List.mem_cons_self _ k0, RpAll.mono e _ _ k1⟩ (FldsOk.asD e k2 (fun b m => h1 b (List.mem_cons_of_mem _ m)) fun b m => h2 b (List.mem_cons_of_mem _ m))
open Classical in
theorem ed_callT {R : List D → List (Str × Fld) → Prop} {E : XK} (ha : EvA K C t ρ ds) (he : eraAll ds = ds') (hR : R ds' fs') (hf : frF fs' = true) : EvD K C (tCall (spT K C R) [] E t) ρ (.tup (fs'.map fun p => p.2.asD)) := fun Hf H0 Hb H L σ E0 Q q =>
  callT ha he hR hf E0 fun x Hb1 H1 Hb2 H' vs l S S2 h2 h3 nd fr => by
    have S3 := S.trans S2
    have e3 : Ex Hb2 (fun b => if b ∈ l then H' b else Hb2 b) := fun b o w => by
      by_cases m : b ∈ l
      · rw [(fr b m).1] at w; cases w
      · show (if b ∈ l then H' b else Hb2 b) = _
        rw [if_neg m]; exact w
    have e4 : ∀ b ∈ l, ∀ o, H' b = some o → (fun b => if b ∈ l then H' b else Hb2 b) b = some o := fun b m o w => by
      show (if b ∈ l then H' b else Hb2 b) = _
      rw [if_pos m]; exact w
    have tu : ∀ a xs, H' a = some (.tup xs) → (fun b => if b ∈ l then H' b else Hb2 b) a = some (.tup xs) := fun a xs w => e3 _ _ (S2.tu _ _ w)
    refine q (.ref x) (fun b => if b ∈ l then H' b else Hb2 b) H' ⟨S3.hb.trans e3, S3.h, fun b o w => ?_, fun b o w => ?_, tu⟩ ⟨x, _, rfl, .inl (tu _ _ h2), h3.asD e3 e4 fun b m => E0.ef.free (S.h.free (fr b m).2.1)⟩
    · by_cases m : b ∈ l
      · rw [if_pos m] at w; exact w
      · rw [if_neg m] at w; exact S3.bh _ _ w
    · by_cases m : b ∈ l
      · exact .inr (S.h.free (fr b m).2.1)
      · rw [if_neg m] at w; exact S3.nw _ _ w
/-! x is not True -/
def xNotT (a : TE) : TE := tOp rNotB a (tC (.bl true))
theorem pe_xNotT {X : Cx} {a : Expr} {ta : TE} {pos : Pos} {j p} (ha : PE X a ta) : PE X (.Compare a [.IsNot] [.Constant (.bool true) j p] pos) (xNotT ta) := pe_cmpR op_notBl ha pe_bl (nomark _)
theorem pt_xNotT {X : Cx} {a : Expr} {ta : TE} {pos : Pos} {j p} (ha : PE X a ta) : PT X (.Compare a [.IsNot] [.Constant (.bool true) j p] pos) (tB (xNotT ta)) := pt_cmpR op_notBl ha pe_bl (nomark _)
theorem ed_notT {b : Bool} (ha : EvR K C ta ρ (.bl b)) : EvD K C (xNotT ta) ρ (.bl (!b)) := fun Hf H0 Hb H L σ E Q q => ha Hf H0 Hb H L σ E _ fun x Hb1 H1 S r => by
  refine ⟨b, true, r, rfl, ?_⟩
  have : decide (b = true) = b := by cases b <;> rfl
  rw [this]
  exact q _ Hb1 H1 S rfl
end
end Hw
namespace Hw
open PySem L2 PySem.Spec PyProof.Rows
/-! ## exceptions: rules -/
/-- an expression that may raise, in a try's body: what is raised is wished for at the names -/
def tS (f : XK → TE) (W : WX) : TE := fun σ H Q => f (WE W σ) σ H Q
abbrev WDef (E : XK) : WX := fun cls d _ H => E cls d H
section
variable {X : Cx} {W : WX} {E : XK} {k : Nat} {f C : Addr} {fd : FuncData} {ps : List Str} {sp : Sp} {x m : Str} {p pos apos : Pos} {e o : Expr} {es : List Expr} {ta : TE} {t : TA}
theorem run_makeS {E : St → XK} {ds : List Value} {dvs : List V} {pins : List (Addr × Obj)} {σ : L2.St} {H : Hp} {s : Shared} {Q : VK} {us : List Value} {vs : List V} (M : Mk X.K C f) (F : FnOk X.prog X.w X.K X.mg X.base (L2.CX X.prog X.w) k f fd ps sp) (hr : Room (k + 1) X.A) (hb : Binds X.K fd ps ds) (hd : Vals dvs ds)
    (hx : PassesAt (L2.CX X.prog X.w) X σ (E σ)) (I : Inv X pins σ H s) (r : Vals vs us)
    (h : ∀ x dx, H x = none → H dx = none → dx ≠ x → sp (.ref x :: (vs ++ dvs)) (upd (upd H dx (.own x)) x (.ins C dx [])) (fun v H2 => v = .non ∧ Q (.ref x) H2) (E σ)) :
    wpAny (model X.prog X.w) X.A (call (.ref C) us) (EP X pins σ Q) X.xe s := by
  have hq := h (s.heap.objs.size + 1) s.heap.objs.size (I.hok.fresh (Nat.le_succ _)) (I.hok.fresh (Nat.le_refl _)) (Nat.ne_of_lt (Nat.lt_succ_self _))
  have I2 := Inv.made (C := C) I
  have r2 : Vals (V.ref (s.heap.objs.size + 1) :: (vs ++ dvs)) (Value.ref (s.heap.objs.size + 1) :: (us ++ ds)) := .cons rfl (r.append hd)
  have hl : (Value.ref (s.heap.objs.size + 1) :: us ++ ds).length = ps.length := by
    have e := r2.length
    rw [F.len _ _ _ _ hq] at e
    exact e.symm
  refine wpAny_call (make_map (f := f) I.kIn M.makes M.init (beq_iff_eq.mp M.fn) (codeAny_mono (F.run _ X.stack _ _ ⟨Value.ref (s.heap.objs.size + 1) :: us, []⟩ (Value.ref (s.heap.objs.size + 1) :: (us ++ ds)) _ _ (E σ) (hr.make C us [])
    (I2.env0.make C us []) (hb _ (Value.ref (s.heap.objs.size + 1) :: us) I2.kIn hl) r2 hq) fun r s' hq' => ?_))
  cases r with
  | error e => exact hx pins _ _ e s' I2 hq'
  | ok fl =>
    cases fl with
    | ret u =>
      obtain ⟨v, H', I3, rv, ev, q3⟩ := I2.after hq'
      subst ev
      exact ⟨rv, ⟨V.ref (s.heap.objs.size + 1), H', I3, rfl, q3⟩⟩
    | next => exact False.elim hq'
    | brk => exact False.elim hq'
    | cont => exact False.elim hq'
theorem pe_callOS (tk : Takes X W) (O : Okf X.prog X.w X.K X.mg X.base x ps k sp) (hr : Room k X.A) (ha : PA X (e :: es) t) (hg : Gl X x := by rfl) (hdb : (x == ("__debug__" : Str)) = false := by decide)
    (he : starEach (e :: es) X.env = (false, eval e X.env) :: starEach es X.env := by rfl) (hpl : (backTo pos (starEach es X.env)).any (·.1) = false := by rfl) : PE X (.Call (.Name x p) (e :: es) [] pos) (tS (fun E => tCall sp [] E t) W) := by
  obtain ⟨f, fd, hm, kp, b, F⟩ := O
  exact pe_callSD F hr hg hm kp b .nil (fun σ => passAt tk σ) ha hdb he hpl
theorem pe_makeOS (tk : Takes X W) (O : OkI X.prog X.w X.K X.mg X.base C ps k sp) (hr : Room (k + 1) X.A) (hm : X.mg x = some (.ref C)) (ha : PA X (e :: es) t) (hg : Gl X x := by rfl) (hdb : (x == ("__debug__" : Str)) = false := by decide)
    (he : starEach (e :: es) X.env = (false, eval e X.env) :: starEach es X.env := by rfl) (hpl : (backTo pos (starEach es X.env)).any (·.1) = false := by rfl) : PE X (.Call (.Name x p) (e :: es) [] pos) (tS (fun E => tMake C sp [] E t) W) := by
  obtain ⟨f, fd, M, b, F⟩ := O
  refine ⟨fun pins s σ H Q I h => ?_⟩
  refine wpAny_Call_Name_kw (ld_glob I hg hm ?_ hdb)
  refine PySem.W.callWith_K (h₀ := X.base) I.ok.mod.kin M.kp (thn (ha.run pos pins s σ H _ I h) fun us s1 ⟨vs, H1, I1, r, q⟩ => ⟨I1.kIn, ?_⟩) he hpl
  exact run_makeS (E := WE W) M F hr b .nil (passAt tk σ) I1 r q
theorem pe_methOS {pl : Sem Bool} (tk : Takes X W) (O : OkM X.prog X.w X.K X.mg X.base C m ps k sp) (hr : Room k X.A) (c : Cls X.K C) (ho : PE X o ta) (ha : PA X (e :: es) t)
    (hst : starEach (e :: es) X.env = (false, eval e X.env) :: starEach es X.env := by rfl) (hpl : (backTo pos (starEach es X.env)).any (·.1) = false := by rfl)
    (ht : eval (.Call (.Attribute o m apos) (e :: es) [] pos) X.env = (do
      let ov ← eval o X.env
      standAt apos.atName
      let (f, first) ← holding [ov] (getMethod ov m pl)
      callWith pos f first (backTo pos (starEach (e :: es) X.env)) (backToKw pos (keywordEach [] X.env))) := by rfl) : PE X (.Call (.Attribute o m apos) (e :: es) [] pos) (tS (fun E => tMeth C m sp [] E ta t) W) := by
  obtain ⟨f, fd, hm, b, F⟩ := O
  refine ⟨fun pins s σ H Q I h => ?_⟩
  refine PySem.W.methodCall_KW (pl := pl) (thn (ho.run pins s σ H _ I h) fun u s1 ⟨x, H1, I1, rx, a, dx, fs, ex, ea, l, q⟩ => ?_) ht
  subst ex
  obtain rfl : u = Value.ref a := rx
  refine getmeth_ok I1 ea c hm l ?_
  refine PySem.W.callWith_K (first := [.ref a]) (h₀ := X.base) I.ok.mod.kin hm.kp (thn (ha.run pos pins s1 σ H1 _ I1 q) fun us s2 ⟨vs, H2, I2, r, q2⟩ => ⟨I2.kIn, ?_⟩) hst hpl
  exact run_fnSD (us := .ref a :: us) (vs := .ref a :: vs) (E := WE W) F hr b .nil (passAt tk σ) I2 (.cons rfl r) q2
/-! what leaves the def -/
theorem pe_callOE (tk : Takes X (WDef E)) (O : Okf X.prog X.w X.K X.mg X.base x ps k sp) (hr : Room k X.A) (ha : PA X (e :: es) t) (hg : Gl X x := by rfl) (hdb : (x == ("__debug__" : Str)) = false := by decide)
    (he : starEach (e :: es) X.env = (false, eval e X.env) :: starEach es X.env := by rfl) (hpl : (backTo pos (starEach es X.env)).any (·.1) = false := by rfl) : PE X (.Call (.Name x p) (e :: es) [] pos) (tCall sp [] E t) := by
  obtain ⟨f, fd, hm, kp, b, F⟩ := O
  exact pe_call F hr hg hm kp b .nil (passes_call tk fun _ _ _ _ h => h) ha hdb he hpl
theorem pe_methOE {pl : Sem Bool} (tk : Takes X (WDef E)) (O : OkM X.prog X.w X.K X.mg X.base C m ps k sp) (hr : Room k X.A) (c : Cls X.K C) (ho : PE X o ta) (ha : PA X (e :: es) t)
    (hst : starEach (e :: es) X.env = (false, eval e X.env) :: starEach es X.env := by rfl) (hpl : (backTo pos (starEach es X.env)).any (·.1) = false := by rfl)
    (ht : eval (.Call (.Attribute o m apos) (e :: es) [] pos) X.env = (do
      let ov ← eval o X.env
      standAt apos.atName
      let (f, first) ← holding [ov] (getMethod ov m pl)
      callWith pos f first (backTo pos (starEach (e :: es) X.env)) (backToKw pos (keywordEach [] X.env))) := by rfl) : PE X (.Call (.Attribute o m apos) (e :: es) [] pos) (tMeth C m sp [] E ta t) := by
  obtain ⟨f, fd, M, b, F⟩ := O
  exact pe_meth ho c M F hr b .nil (passes_call tk fun _ _ _ _ h => h) ha hst hpl ht
end
/-- what a class of errors must say -/
structure ErrC (K : PySem.W.Frag) (mg : Str → Option Value) (x : Str) (C : Addr) : Prop where
  g : mg x = some (.ref C)
  ex : PySem.W.excIn K C [.type "ValueError", .type "Exception", .type "BaseException", .type "object"] "ValueError.__new__" = true
  kp : PySem.W.keepIn K (.ref C) = true
  sB : PySem.W.subIn K (.ref C) (.type "BaseException") = some true
  sV : PySem.W.subIn K (.ref C) (.type "ValueError") = some true
  sS : PySem.W.subIn K (.ref C) (.ref C) = some true
  tT : PySem.W.typeIn K (.ref C) = some (.type "type")
  hd : PySem.W.hasDictIn K C = true
  ic : PySem.W.isClsIn K C = true
  hg : PySem.W.findIn K (.ref C) "__getattribute__" = some (some (.builtin "BaseException.__getattribute__"))
  hk : PySem.W.findIn K (.ref C) "__getattr__" = some none
  ha : PySem.W.findIn K (.ref C) "__class__" = some (some (.builtin "object.__class__"))
  hn : PySem.W.specialIn K (.builtin "object.__class__") "__get__" = some (some (.builtin "getset_descriptor.__get__"))
  ht : PySem.W.takesIn K (.builtin "object.__class__") = some true
  hm : PySem.W.mroIn K C (.type "object") = some true
theorem ErrC.exc {K : PySem.W.Frag} {mg : Str → Option Value} {x : Str} {C : Addr} (h : ErrC K mg x C) : ExcC K C := ⟨h.hg, h.hk, h.sB, h.hd, h.ha, h.hn, h.ht, h.hm⟩
/-- errors of the class D are caught by the class C -/
theorem ErrC.exm {K : PySem.W.Frag} {mg : Str → Option Value} {x y : Str} {C D : Addr} (h : ErrC K mg x C) (_ : ErrC K mg y D) (s : PySem.W.subIn K (.ref D) (.ref C) = some true) : PySem.W.exmOne K (.ref D) (.ref C) = some true := PySem.W.exm_ref h.sB h.hd h.tT s
theorem ErrC.kitT {K : PySem.W.Frag} {mg : Str → Option Value} {x : Str} {C : Addr} (h : ErrC K mg x C) : PySem.W.kitOne K (.ref C) (.ref C) = some true := by
  unfold PySem.W.kitOne
  rw [if_pos (by simp)]
theorem ErrC.kitF {K : PySem.W.Frag} {mg : Str → Option Value} {x : Str} {C D : Addr} (h : ErrC K mg x C) (s : PySem.W.subIn K (.ref D) (.ref C) = some false) : PySem.W.kitOne K (.ref D) (.ref C) = some false := by
  have ne : D ≠ C := fun z => by rw [z, h.sS] at s; cases s
  unfold PySem.W.kitOne
  rw [if_neg (by simpa using ne)]
  show (if ((PySem.W.clsIn K C).isSome && PySem.W.typeIn K (.ref C) == some (.type "type")) = true then PySem.W.subIn K (.ref D) (.ref C) else none) = some false
  have e1 : (PySem.W.clsIn K C).isSome = true := h.ic
  rw [e1, h.tT, if_pos (by decide)]
  exact s
theorem ErrC.kitV {K : PySem.W.Frag} {mg : Str → Option Value} {x : Str} {C : Addr} (h : ErrC K mg x C) : PySem.W.kitOne K (.ref C) (.type "ValueError") = some true := by
  unfold PySem.W.kitOne
  rw [if_neg (by simp)]
  show (if PySem.W.kitMeta "ValueError" = true then PySem.W.subIn K (.ref C) (.type "ValueError") else none) = some true
  rw [if_pos (by decide +kernel)]
  exact h.sV
/-! raise -/
def tRaise (E : XK) (c : Addr) : TS := fun _ _ H => E (.ref c) none H
theorem ps_raiseE {X : Cx} {E : XK} {x m : Str} {C : Addr} {j : Nat} {p p2 pos pos' : Pos} (tk : Takes X (WDef E)) (T : ErrC X.K X.mg x C) (hc : X.calm = true := by rfl) (hg : Gl X x := by rfl)
    (hdb : (x == ("__debug__" : Str)) = false := by decide) : PS X (.Raise (some (.Call (.Name x p) [.Constant (.str m) j p2] [] pos)) none pos') (tRaise E C) :=
  ps_raise hc tk (pmk_own PySem.F.excBase_ValueError T.ex T.g T.kp (raises_own T.sB T.tT) hg hdb)
/-! try: body / except X as n: suite -/
def tTryAs (K : PySem.W.Frag) (c : Addr) (i : Nat) (tb : WX → TS) (ts : Addr → Value → Option Addr → TS) : TS := fun D σ H => tb (wAs K (.ref c) i ts (fun _ _ _ _ => False) D) D σ H
theorem ps_tryAs {X : Cx} {x n : Str} {c : Addr} {i : Nat} {body suite : List Stmt} {b₀ : Stmt} {np pos pos' : Pos} {tb : WX → TS} {ts : Addr → Value → Option Addr → TS} (hs : X.stack = X.env :: X.outer) (hf : X.env.frame = some X.env.locals) (hN : X.N.Nodup) (hi : X.N[i]? = some n) (hln : X.env.kindOf n = some .local) (T : ErrC X.K X.mg x c)
    (hb : ∀ (W : WX) (pn : List (Addr × Obj)) (xe : Value → Shared → Prop), Takes (X.tr pn xe) W → PassesOwn (model X.prog X.w) X.A X.env xe → PSs (X.tr pn xe) body (tb W))
    (hsu : ∀ (a : Addr) (oe : Obj) (cls : Value) (d : Option Addr) (pn : List (Addr × Obj)), Zc cls d oe → (∃ vs, oe.data = .fields vs) → PSs (X.suite a ((a, oe) :: pn)) (b₀ :: suite) (ts a cls d)) (hg : Gl X x := by rfl) (hdb : (x == ("__debug__" : Str)) = false := by decide) :
    PS X (.Try body [.ExceptHandler (some (.Name x np)) (some n) (b₀ :: suite) pos'] [] [] pos) (tTryAs X.K c i tb ts) := ps_try_as hs hf hN hi hln ⟨hg, hdb, .inl T.g⟩ takes0 hb hsu
/-- the suite, for an error of one of the text's classes -/
def tExc (K : PySem.W.Frag) (t : Addr → Addr → TS) : Addr → Value → Option Addr → TS := fun a cls d Dn σ H => ∃ D, (cls = .ref D ∧ d = none ∧ ExcC K D) ∧ t D a Dn σ H
theorem pss_exc {X : Cx} {K : PySem.W.Frag} {st : List Stmt} {t : Addr → Addr → TS} {a : Addr} {oe : Obj} {cls : Value} {d : Option Addr} (hz : Zc cls d oe) (h : ∀ D, ExcC K D → Zc (.ref D) none oe → PSs X st (t D a)) : PSs X st (tExc K t a cls d) := by
  refine ⟨fun pins s σ H Dn I q => ?_⟩
  obtain ⟨D, ⟨rfl, rfl, hC⟩, q⟩ := q
  exact (h D hC hz).run pins s σ H Dn I q
/-- isinstance(e, x) in the suite -/
def x_isE (K : PySem.W.Frag) (D a : Addr) (te tc : TE) : TE := tCB (rIsE K D a) (tCons te (tCons tc tNil))
theorem pe_x_isE {X : Cx} {a D : Addr} {oe : Obj} {pn : List (Addr × Obj)} {e c : Expr} {te tc : TE} {p pos : Pos} (C : ExcC X.K D) (hz : Zc (.ref D) none oe) (hf : ∃ vs, oe.data = .fields vs) (hm : X.mg "isinstance" = none) (he : PE (X.suite a ((a, oe) :: pn)) e te) (hc : PE (X.suite a ((a, oe) :: pn)) c tc) (hg : Gl (X.suite a ((a, oe) :: pn)) "isinstance" := by rfl)
    (h1 : starEach (e :: [c]) (X.suite a ((a, oe) :: pn)).env = (false, eval e (X.suite a ((a, oe) :: pn)).env) :: starEach [c] (X.suite a ((a, oe) :: pn)).env := by rfl)
    (h2 : starEach (c :: []) (X.suite a ((a, oe) :: pn)).env = (false, eval c (X.suite a ((a, oe) :: pn)).env) :: starEach [] (X.suite a ((a, oe) :: pn)).env := by rfl) (hpl : (backTo pos (starEach [c] (X.suite a ((a, oe) :: pn)).env)).any (·.1) = false := by rfl) : PE (X.suite a ((a, oe) :: pn)) (.Call (.Name "isinstance" p) [e, c] [] pos) (x_isE X.K D a te tc) :=
  pe_callB (call_isE C hz hf) hg hm (by decide +kernel) (pa_cons he (pa_cons hc pa_nil h2) h1) (he := h1) (hpl := hpl)
theorem pe_VE {X : Cx} {pos : Pos} (hm : X.mg "ValueError" = none) (hg : Gl X "ValueError" := by rfl) : PE X (.Name "ValueError" pos) (tC (.ty "ValueError")) := pe_bltn hg hm (by decide +kernel) rfl
end Hw
namespace Hw
open PySem L2
/-! ## exceptions: from names that stand so -/
/-- a promise, or an error of the class c -/
def spE (K : PySem.W.Frag) (C : Addr) (sp : Sp) (RX : List D → Addr → Prop) : Sp := fun vs H Q E => sp vs H Q E ∨ ∃ ds c, RpAll K C H H ds vs ∧ RX ds c ∧ ∀ H', Ex H H' → E (.ref c) none H'
/-- the same of an __init__ -/
def spEM (K : PySem.W.Frag) (C : Addr) (sp : Sp) (RX : List D → Addr → Prop) : Sp := fun vs H Q E => sp vs H Q E ∨ ∃ x dx vs' ds c, vs = .ref x :: vs' ∧ H x = some (.ins C dx []) ∧ RpAll K C (hide H x) (hide H x) ds vs' ∧ RX ds c ∧ ∀ H', Ex (hide H x) H' → E (.ref c) none H'
/-- evaluating te ends with an error: from then on N -/
def EvX (K : PySem.W.Frag) (C : Addr) (te : TE) (ρ : List Cell) (N : St → Hp → Prop) : Prop := ∀ Hf H0, At K C Hf H0 N ρ → ∀ Hb H L σ, EnvB K C Hf H0 Hb H L σ ρ → ∀ Q : VK, te σ H Q
section
variable {K : PySem.W.Frag} {C : Addr} {Hf H0 Hb H : Hp} {L : List (List Addr)} {σ : St} {ρ : List Cell} {te ta tb : TE} {t tr : TA} {d : D} {ds ds' xs ks : List D} {D0 : Ends} {s2 : TS} {N : St → Hp → Prop} {E : XK} {W : WX} {c : Addr} {sp sp' : Sp} {RX : List D → Addr → Prop} {i j : Nat} {fs fs' : List (Str × Fld)} {g : Str}
/-! calls of promises that say more -/
theorem ev_callH {R : List D → D → Prop} (h : EvA K C t ρ ds) (he : eraAll ds = ds') (hR : R ds' d) (hf : d.fr = true) (hs : ∀ vs H Q E, spD K C R vs H Q E → sp' vs H Q E) : EvD K C (tCall sp' [] E t) ρ d := fun Hf H0 Hb H L σ E0 Q q =>
  h Hf H0 Hb H L σ E0 _ fun vs Hb1 H1 S r => hs _ _ _ _ (by
    refine ⟨ds', d, ?_, hR, fun v H' e r2 => ?_⟩
    · rw [List.append_nil]
      have r' := RpAll.era (Hf' := H1) _ _ r
      rw [he] at r'
      exact r'
    · have E1 := E0.step S
      exact q v (joinH H1 Hb1 H') H' (S.trans (E1.join e)) (Rp.into (E1.joinInto e) d v hf r2))
theorem ev_callLH {R : List D → List D → Prop} (h : EvA K C t ρ ds) (he : eraAll ds = ds') (hR : R ds' xs) (hf : frAll xs = true) (hs : ∀ vs H Q E, spL K C R vs H Q E → sp' vs H Q E) : EvL K C (tCall sp' [] E t) ρ xs := fun Hf H0 Hb H L σ E0 Q q =>
  h Hf H0 Hb H L σ E0 _ fun vs Hb1 H1 S r => hs _ _ _ _ (by
    refine ⟨ds', xs, ?_, hR, fun p us Hm H' e em n1 h1 tu r2 => ?_⟩
    · rw [List.append_nil]
      have r' := RpAll.era (Hf' := H1) _ _ r
      rw [he] at r'
      exact r'
    · have E1 := E0.step S
      have J := E1.join e
      have p1 : H1 p = none := e.free n1
      have jp : joinH H1 Hb1 Hm p = none := by
        unfold joinH
        rw [p1]; exact n1
      exact q p us (joinH H1 Hb1 Hm) H' (S.trans ⟨J.hb, e.trans em, J.bh.trans em, J.nw, fun a zs w => J.tu a zs (tu a zs w)⟩) (S.h.free p1) jp h1 (RpAll.into (E1.joinInto e) xs us hf r2))
theorem ed_methH {R : List D → D → Prop} {ws : List Int} {tb : List (List Int)} {mk : Mark} {m : Str} (ho : EvD K C te ρ (.ho mk ws tb)) (h : EvA K C t ρ ds) (he : eraAll ds = ds') (hR : R (.ho .x ws tb :: ds') d) (hf : d.fr = true) (h1 : ¬ m = "heavy") (h2 : ¬ m = "table") (hs : ∀ vs H Q E, spD K C R vs H Q E → sp' vs H Q E) :
    EvD K C (tMeth C m sp' [] E te t) ρ d := fun Hf H0 Hb H L σ E0 Q q => meth_args ho h he h1 h2 E0 fun vs Hb1 H1 S r => hs _ _ _ _ ⟨_, d, r, hR, fun v H' e r2 => by
    have E1 := E0.step S
    exact q v (joinH H1 Hb1 H') H' (S.trans (E1.join e)) (Rp.into (E1.joinInto e) d v hf r2)⟩
theorem ed_makeH {sp' : Sp} {R : List D → List Int → List (List Int) → Prop} {E : XK} {ds ds' : List D} {ws : List Int} {tb : List (List Int)} (h : EvAD K C t ρ ds) (he : eraAll ds = ds') (hR : R ds' ws tb) (hs : ∀ vs H Q E, spMk K C R vs H Q E → sp' vs H Q E) : EvD K C (tMake C sp' [] E t) ρ (.ho .f ws tb) := fun Hf H0 Hb H L σ E0 Q q =>
  h Hf H0 Hb H L σ E0 _ fun vs Hb1 H1 S r => by
    intro x dx hx hdx ne
    have E1 := E0.step S
    have sub : Ex Hb1 (hide (upd (upd H1 dx (.own x)) x (.ins C dx [])) x) := fun a o w => by
      have w1 := S.bh a o w
      have ax : a ≠ x := ne_of_none w1 hx
      unfold hide
      rw [if_neg ax, upd_ne ax, upd_ne (ne_of_none w1 hdx)]
      exact w1
    have up : Ex H1 (upd (upd H1 dx (.own x)) x (.ins C dx [])) := (Ex.new hdx).trans (Ex.new (by rw [upd_ne (Ne.symm ne)]; exact hx))
    refine hs _ _ _ _ ⟨x, dx, vs, ds', ws, tb, by simp, upd_same, ?_, hR, fun H' M => ⟨rfl, ?_⟩⟩
    · have r' := RpAll.era (Hf' := hide (upd (upd H1 dx (.own x)) x (.ins C dx [])) x) _ _ r
      rw [he] at r'
      exact RpAll.mono sub _ _ r'
    · obtain ⟨keep, dx', l, t', ts, n1, n2, n3, m1, m2, m3, m4⟩ := M
      have e1 : Ex H1 H' := fun a o w => keep a o (ne_of_none w hx) (up a o w)
      have fr : ∀ a, upd (upd H1 dx (.own x)) x (.ins C dx []) a = none → H1 a = none := fun a w => up.free w
      have J := E1.join e1
      refine q (.ref x) (joinH H1 Hb1 H') H' (S.trans J) ?_
      have I := E1.joinInto e1
      refine ⟨x, dx', l, t', ts, rfl, I.fr _ hx, I.fr _ (fr _ n1), I.fr _ (fr _ n2), fun b hb => I.fr _ (fr _ (n3 b hb)), I.nw _ _ hx m1, I.nw _ _ (fr _ n1) m2, I.nw _ _ (fr _ n2) m3, ?_⟩
      clear m3 hR h he q
      induction m4 with
      | nil => exact .nil
      | cons r1 _ ih => exact .cons (I.nw _ _ (fr _ (n3 _ List.mem_cons_self)) r1) (ih fun b hb => n3 b (List.mem_cons_of_mem _ hb))
theorem callTH {sp' : Sp} {R : List D → List (Str × Fld) → Prop} {E : XK} (ha : EvA K C t ρ ds) (he : eraAll ds = ds') (hR : R ds' fs') (hf : frF fs' = true) (hs : ∀ vs H Q E, spT K C R vs H Q E → sp' vs H Q E) (E0 : EnvB K C Hf H0 Hb H L σ ρ) {Q : VK}
    (k : ∀ x Hb1 H1 Hb2 H' vs l, Step Hb H Hb1 H1 → Step Hb1 H1 Hb2 H' → H' x = some (.tup (vs.map (·.2))) → FldsOk K C Hf Hb2 H' l fs' vs → l.Nodup → (∀ b ∈ l, Hb2 b = none ∧ H1 b = none ∧ H' b ≠ none) → Q (.ref x) H') : tCall sp' [] E t σ H Q :=
  ha Hf H0 Hb H L σ E0 _ fun vs Hb1 H1 S r => by
    have E1 := E0.step S
    have r' := RpAll.era (Hf' := H1) _ _ r
    rw [he] at r'
    rw [List.append_nil]
    refine hs _ _ _ _ ⟨ds', fs', r', hR, fun x H' Hm ws l e em h2 h3 nd fr tu => ?_⟩
    have J := E1.join e
    have f1 : ∀ b ∈ l, H1 b = none := fun b m => e.free (fr b m).1
    exact k x Hb1 H1 (joinH H1 Hb1 Hm) H' ws l S ⟨J.hb, e.trans em, J.bh.trans em, J.nw, fun b zs w => J.tu b zs (tu b zs w)⟩ h2 (FldsOk.into (E1.joinInto e) hf h3) nd (fun b m => ⟨by
      unfold joinH
      rw [f1 b m]; exact (fr b m).1, f1 b m, (fr b m).2⟩)

theorem at_callTH {R : List D → List (Str × Fld) → Prop} (hi : i < ρ.length) (ha : EvA K C t ρ ds) (he : eraAll ds = ds') (hR : R ds' fs') (hf : frF fs' = true) (hs : ∀ vs H Q E, spT K C R vs H Q E → sp' vs H Q E)
    (k : ∀ a, At K C Hf H0 D0.nx (ρ.set i (.tp a fs'))) : At K C Hf H0 (tAsg (tCall sp' [] E t) (gName i) D0) ρ := fun Hb H L σ E0 =>
  callTH ha he hR hf hs E0 fun x Hb1 H1 Hb2 H' vs l S S2 h2 h3 nd fr => by
    have E1 := E0.step S
    have E3 := (E1.step S2).set (i := i) hi (c := .tp x fs') (s := some (.ref x)) (l := l) ⟨vs, rfl, h2, h3⟩ nd (fun b m => ⟨(fr b m).1, E1.ef.free (fr b m).2.1, (fr b m).2.2⟩) (fun j lj b nj q m m2 => E1.notOwned (fr b m2).2.1 q m)
    exact k x _ _ _ _ E3
theorem sq_callTH {R : List D → List (Str × Fld) → Prop} (hi : i < ρ.length) (ha : EvA K C t ρ ds) (he : eraAll ds = ds') (hR : R ds' fs') (hf : frF fs' = true) (hs : ∀ vs H Q E, spT K C R vs H Q E → sp' vs H Q E)
    (k : ∀ a, At K C Hf H0 (s2 D0) (ρ.set i (.tp a fs'))) : At K C Hf H0 (tSeq (tAsg (tCall sp' [] E t) (gName i)) s2 D0) ρ := at_seq (at_callTH hi ha he hR hf hs k)
theorem spE_in : ∀ vs H Q E, sp vs H Q E → spE K C sp RX vs H Q E := fun _ _ _ _ h => .inl h
theorem spEM_in : ∀ vs H Q E, sp vs H Q E → spEM K C sp RX vs H Q E := fun _ _ _ _ h => .inl h
/-! in a try's body -/
theorem EvD.tS {f : XK → TE} (h : ∀ E, EvD K C (f E) ρ d) : EvD K C (tS f W) ρ d := fun Hf H0 Hb H L σ E0 => h _ Hf H0 Hb H L σ E0
theorem EvL.tS {f : XK → TE} (h : ∀ E, EvL K C (f E) ρ xs) : EvL K C (tS f W) ρ xs := fun Hf H0 Hb H L σ E0 => h _ Hf H0 Hb H L σ E0
theorem at_callTS {R : List D → List (Str × Fld) → Prop} (hi : i < ρ.length) (ha : EvA K C t ρ ds) (he : eraAll ds = ds') (hR : R ds' fs') (hf : frF fs' = true) (hs : ∀ vs H Q E, spT K C R vs H Q E → sp' vs H Q E)
    (k : ∀ a, At K C Hf H0 D0.nx (ρ.set i (.tp a fs'))) : At K C Hf H0 (tAsg (tS (fun E => tCall sp' [] E t) W) (gName i) D0) ρ := fun Hb H L σ E0 => at_callTH (E := WE W σ) hi ha he hR hf hs k Hb H L σ E0
/-! errors -/
theorem evx_call (h : EvA K C t ρ ds) (he : eraAll ds = ds') (hX : RX ds' c) : EvX K C (tCall (spE K C sp RX) [] E t) ρ (fun σ H => E (.ref c) none H) := fun Hf H0 A Hb H L σ E0 Q =>
  h Hf H0 Hb H L σ E0 _ fun vs Hb1 H1 S r => .inr (by
    have r' := RpAll.era (Hf' := H1) _ _ r
    rw [he] at r'
    rw [List.append_nil]
    have E1 := E0.step S
    exact ⟨ds', c, r', hX, fun H' e => A _ H' L σ (E1.step (E1.join e))⟩)
theorem evx_callS (h : EvA K C t ρ ds) (he : eraAll ds = ds') (hX : RX ds' c) : EvX K C (tS (fun E => tCall (spE K C sp RX) [] E t) W) ρ (fun σ H => W (.ref c) none σ H) := fun Hf H0 A Hb H L σ E0 Q =>
  h Hf H0 Hb H L σ E0 _ fun vs Hb1 H1 S r => .inr (by
    have r' := RpAll.era (Hf' := H1) _ _ r
    rw [he] at r'
    rw [List.append_nil]
    have E1 := E0.step S
    exact ⟨ds', c, r', hX, fun H' e => A _ H' L σ (E1.step (E1.join e))⟩)
theorem evx_meth {ws : List Int} {tb : List (List Int)} {mk : Mark} {m : Str} (ho : EvD K C te ρ (.ho mk ws tb)) (h : EvA K C t ρ ds) (he : eraAll ds = ds') (hX : RX (.ho .x ws tb :: ds') c) (h1 : ¬ m = "heavy") (h2 : ¬ m = "table") :
    EvX K C (tMeth C m (spE K C sp RX) [] E te t) ρ (fun σ H => E (.ref c) none H) := fun Hf H0 A Hb H L σ E0 Q => meth_args ho h he h1 h2 E0 fun vs Hb1 H1 S r => .inr ⟨_, c, r, hX, fun H' e => A _ H' L σ ((E0.step S).step ((E0.step S).join e))⟩
theorem evx_methS {ws : List Int} {tb : List (List Int)} {mk : Mark} {m : Str} (ho : EvD K C te ρ (.ho mk ws tb)) (h : EvA K C t ρ ds) (he : eraAll ds = ds') (hX : RX (.ho .x ws tb :: ds') c) (h1 : ¬ m = "heavy") (h2 : ¬ m = "table") :
    EvX K C (tS (fun E => tMeth C m (spE K C sp RX) [] E te t) W) ρ (fun σ H => W (.ref c) none σ H) := fun Hf H0 A Hb H L σ E0 Q => meth_args (E := WE W σ) ho h he h1 h2 E0 fun vs Hb1 H1 S r => .inr ⟨_, c, r, hX, fun H' e => A _ H' L σ ((E0.step S).step ((E0.step S).join e))⟩
theorem evx_makeS (h : EvA K C t ρ ds) (he : eraAll ds = ds') (hX : RX ds' c) : EvX K C (tS (fun E => tMake C (spEM K C sp RX) [] E t) W) ρ (fun σ H => W (.ref c) none σ H) := fun Hf H0 A Hb H L σ E0 Q =>
  h Hf H0 Hb H L σ E0 _ fun vs Hb1 H1 S r => by
    intro x dx hx hdx ne
    have r' := RpAll.era (Hf' := hide (upd (upd H1 dx (.own x)) x (.ins C dx [])) x) _ _ r
    rw [he] at r'
    have E1 := E0.step S
    have sub : Ex H1 (hide (upd (upd H1 dx (.own x)) x (.ins C dx [])) x) := fun a o w => by
      have ax : a ≠ x := ne_of_none w hx
      unfold hide
      rw [if_neg ax, upd_ne ax, upd_ne (ne_of_none w hdx)]
      exact w
    rw [List.append_nil]
    exact .inr ⟨x, dx, vs, ds', c, rfl, upd_same, RpAll.mono sub _ _ r', hX, fun H' e => A _ H' L σ (E1.step (E1.join (sub.trans e)))⟩
theorem evx_tup1 (h : EvX K C te ρ N) : EvX K C (tTup (tCons te tr)) ρ N := fun Hf H0 A Hb H L σ E0 Q => h Hf H0 A Hb H L σ E0 _
theorem evx_tup2 (h1 : EvD K C ta ρ d) (h : EvX K C te ρ N) : EvX K C (tTup (tCons ta (tCons te tr))) ρ N := fun Hf H0 A Hb H L σ E0 Q => h1 Hf H0 Hb H L σ E0 _ fun v Hb' H' S r => h Hf H0 A Hb' H' L σ (E0.step S) _
theorem at_dropX (h : EvX K C te ρ N) (k : At K C Hf H0 N ρ) : At K C Hf H0 (tDrop te D0) ρ := fun Hb H L σ E0 => h Hf H0 k Hb H L σ E0 _
theorem at_asgX {gt : TG} (h : EvX K C te ρ N) (k : At K C Hf H0 N ρ) : At K C Hf H0 (tAsg te gt D0) ρ := fun Hb H L σ E0 => h Hf H0 k Hb H L σ E0 _
theorem at_retX (h : EvX K C te ρ N) (k : At K C Hf H0 N ρ) : At K C Hf H0 (tRet te D0) ρ := fun Hb H L σ E0 => h Hf H0 k Hb H L σ E0 _
theorem sq_dropX (h : EvX K C te ρ N) (k : At K C Hf H0 N ρ) : At K C Hf H0 (tSeq (tDrop te) s2 D0) ρ := at_seq (at_dropX h k)
theorem sq_asgX {gt : TG} (h : EvX K C te ρ N) (k : At K C Hf H0 N ρ) : At K C Hf H0 (tSeq (tAsg te gt) s2 D0) ρ := at_seq (at_asgX h k)
theorem at_raise (k : ∀ H', Ex Hf H' → E (.ref c) none H') : At K C Hf H0 (tRaise E c D0) ρ := fun Hb H L σ E0 => k H E0.ef
theorem at_out (k : ∀ H', Ex Hf H' → E (.ref c) none H') : At K C Hf H0 (fun _ H => E (.ref c) none H) ρ := fun Hb H L σ E0 => k H E0.ef
/-! an except clause -/
theorem EnvB.setVal (E0 : EnvB K C Hf H0 Hb H L σ ρ) (hi : i < ρ.length) (v : V) : EnvB K C Hf H0 Hb H (L.set i []) (σ.set i (some v)) (ρ.set i (.val v)) :=
  E0.set hi (c := .val v) ⟨rfl, rfl⟩ List.nodup_nil (fun a m => nomatch m) fun _ _ _ _ _ _ m => nomatch m
theorem at_unset {M : St → Hp → Prop} (hi : i < ρ.length) (k : At K C Hf H0 M (ρ.set i .un)) : At K C Hf H0 (fun σ' H' => M (σ'.set i none) H') ρ := fun Hb H L σ E0 =>
  k Hb H _ _ (E0.set hi (c := .un) (s := none) (l := []) ⟨rfl, rfl⟩ List.nodup_nil (fun a m => nomatch m) fun _ _ _ _ _ _ m => nomatch m)
abbrev suiteEnds (D0 : Ends) (i : Nat) : Ends := { nx := fun σ' H' => D0.nx (σ'.set i none) H', rt := D0.rt, bk := fun σ' H' => D0.bk (σ'.set i none) H', ct := fun σ' H' => D0.ct (σ'.set i none) H' }
theorem at_wAs {cH : Addr} {ts : Addr → Value → Option Addr → TS} {Wout : WX} (hm : PySem.W.exmOne K (.ref c) (.ref cH) = some true) (hi : i < ρ.length)
    (h : ∀ a, At K C Hf H0 (ts a (.ref c) none (suiteEnds D0 i)) (ρ.set i (.val (.ref a)))) : At K C Hf H0 (fun σ H => wAs K (.ref cH) i ts Wout D0 (.ref c) none σ H) ρ := fun Hb H L σ E0 =>
  ⟨true, hm, fun _ a _ => h a Hb H _ _ (E0.setVal hi (.ref a)), fun z => nomatch z⟩
theorem at_exc {t : Addr → Addr → TS} {a : Addr} (hC : ExcC K c) (h : At K C Hf H0 (t c a D0) ρ) : At K C Hf H0 (tExc K t a (.ref c) none D0) ρ := fun Hb H L σ E0 => ⟨c, ⟨rfl, rfl, hC⟩, h Hb H L σ E0⟩
theorem ed_isE {a cx : Addr} {b : Bool} (h : ρ[i]? = some (.val (.ref a))) (hk : PySem.W.kitOne K (.ref c) (.ref cx) = some b) : EvD K C (x_isE K c a (tVar i) (tC (.ref cx))) ρ (.bl b) := fun Hf H0 Hb H L σ E0 Q q => by
  obtain ⟨s, l, h1, hl, _, rfl⟩ := E0.cell i _ h
  exact ⟨_, h1, .ref cx, .ref cx, b, rfl, fun u r => r, hk, q _ Hb H E0.step0 rfl⟩
theorem ed_isV {a : Addr} {n : String} {b : Bool} (h : ρ[i]? = some (.val (.ref a))) (hk : PySem.W.kitOne K (.ref c) (.type n) = some b) : EvD K C (x_isE K c a (tVar i) (tC (.ty n))) ρ (.bl b) := fun Hf H0 Hb H L σ E0 Q q => by
  obtain ⟨s, l, h1, hl, _, rfl⟩ := E0.cell i _ h
  exact ⟨_, h1, .ty n, .type n, b, rfl, fun u r => r, hk, q _ Hb H E0.step0 rfl⟩
/-! tuples of names handed back -/
theorem at_retDO (hf : ∀ a, Hf a = H0 a) (h : EvD K C te ρ d) (hj : ρ[j]? = some (.own ks)) (k : RetT K C Hf [(("" : Str), .dat d), (("" : Str), .own ks)] D0.rt) : At K C Hf H0 (tRet (tTup (tCons te (tCons (tVar j) tNil))) D0) ρ := fun Hb H L σ E0 =>
  h Hf H0 Hb H L σ E0 _ fun v Hb1 H1 S r => by
    have E1 := E0.step S
    obtain ⟨s, l, h1, hl, p, us, rfl, rfl, h2, h3⟩ := E1.cell j _ hj
    refine ⟨_, h1, line_of (by simp), fun x hx => ?_⟩
    have hb : Hb1 x = none := S.bh.free hx
    obtain ⟨f1, f2, f3⟩ := E1.fr j _ p hl (by simp)
    have px : p ≠ x := fun z => by rw [z] at f3; exact f3 hx
    refine k x (upd H1 x (.tup [v, .ref p])) (upd Hb1 x (.tup [v, .ref p])) [("", v), ("", .ref p)] [p] (fun b o w => Ex.new hb _ _ (E1.e0 _ _ (by rw [← hf]; exact w))) (fun b o w => ?_) upd_same ⟨v, _, rfl, Rp.mono (Ex.new hb) _ _ r, p, us, [], [], rfl, rfl, by rw [upd_ne px]; exact h2, RpAll.mono (Ex.new hb) _ _ h3, rfl, rfl⟩ (by simp) (fun b m => ?_) (fun b zs w => ?_)
    · by_cases z : b = x
      · subst z; rw [upd_same] at w; cases w; exact upd_same
      · rw [upd_ne z] at w ⊢; exact S.bh _ _ w
    · have e : b = p := by simpa using m
      subst e
      rw [upd_ne px, upd_ne px]
      exact ⟨f1, f3⟩
    · by_cases z : b = x
      · subst z; rw [upd_same] at w; cases w; exact upd_same
      · rw [upd_ne z] at w ⊢; exact S.tu _ _ w
theorem at_retOD (hf : ∀ a, Hf a = H0 a) (hj : ρ[j]? = some (.own ks)) (h : EvD K C te ρ d) (k : RetT K C Hf [(("" : Str), .own ks), (("" : Str), .dat d)] D0.rt) : At K C Hf H0 (tRet (tTup (tCons (tVar j) (tCons te tNil))) D0) ρ := fun Hb H L σ E0 => by
  obtain ⟨s, l, h1, hl, p, us, rfl, rfl, h2, h3⟩ := E0.cell j _ hj
  refine ⟨_, h1, h Hf H0 Hb H L σ E0 _ fun v Hb1 H1 S r => ?_⟩
  have E1 := E0.step S
  refine ⟨line_of (by simp), fun x hx => ?_⟩
  have hb : Hb1 x = none := S.bh.free hx
  obtain ⟨f1, f2, f3⟩ := E1.fr j _ p hl (by simp)
  have px : p ≠ x := fun z => by rw [z] at f3; exact f3 hx
  refine k x (upd H1 x (.tup [.ref p, v])) (upd Hb1 x (.tup [.ref p, v])) [("", .ref p), ("", v)] [p] (fun b o w => Ex.new hb _ _ (E1.e0 _ _ (by rw [← hf]; exact w))) (fun b o w => ?_) upd_same ⟨p, us, _, [], rfl, rfl, by rw [upd_ne px]; exact S.h _ _ h2, RpAll.mono (Ex.new hb) _ _ (RpAll.mono S.hb _ _ h3), v, [], rfl, Rp.mono (Ex.new hb) _ _ r, rfl, rfl⟩ (by simp) (fun b m => ?_) (fun b zs w => ?_)
  · by_cases z : b = x
    · subst z; rw [upd_same] at w; cases w; exact upd_same
    · rw [upd_ne z] at w ⊢; exact S.bh _ _ w
  · have e : b = p := by simpa using m
    subst e
    rw [upd_ne px, upd_ne px]
    exact ⟨f1, f3⟩
  · by_cases z : b = x
    · subst z; rw [upd_same] at w; cases w; exact upd_same
    · rw [upd_ne z] at w ⊢; exact S.tu _ _ w
/-- a def's tuple of a tuple with own lists, and an own list -/
def RetN (K : PySem.W.Frag) (C : Addr) (H : Hp) (fs : List (Str × Fld)) (ks : List D) (Q : VK) : Prop := ∀ a b H' Hm vs p us l, Ex H Hm → Ex Hm H' → H' a = some (.tup [.ref b, .ref p]) → H' b = some (.tup (vs.map (·.2))) → H' p = some (.lst us) → RpAll K C H Hm ks us → FldsOk K C H Hm H' l fs vs → (p :: l).Nodup → (∀ x ∈ p :: l, Hm x = none ∧ H' x ≠ none) → (∀ x zs, H' x = some (.tup zs) → Hm x = some (.tup zs)) → Q (.ref a) H'
def spN (K : PySem.W.Frag) (C : Addr) (R : List D → List (Str × Fld) → List D → Prop) : Sp := fun vs H Q _ => ∃ ds fs ks, RpAll K C H H ds vs ∧ R ds fs ks ∧ RetN K C H fs ks Q
theorem at_retTO (hf : ∀ a, Hf a = H0 a) {b : Addr} (hi : ρ[i]? = some (.tp b fs)) (hj : ρ[j]? = some (.own ks)) (hij : i ≠ j) (k : RetN K C Hf fs ks D0.rt) : At K C Hf H0 (tRet (tTup (tCons (tVar i) (tCons (tVar j) tNil))) D0) ρ := fun Hb H L σ E0 => by
  obtain ⟨h1, l, vs, hl, h2, h3⟩ := tp_view E0 hi
  obtain ⟨s, l', g1, gl, p, us, rfl, rfl, g2, g3⟩ := E0.cell j _ hj
  refine ⟨_, h1, _, g1, line_of (by simp), fun x hx => ?_⟩
  have hb : Hb x = none := E0.e1.free hx
  obtain ⟨f1, f2, f3⟩ := E0.fr j _ p gl (by simp)
  have px : p ≠ x := fun z => by rw [z] at f3; exact f3 hx
  have bx : b ≠ x := fun z => by rw [z, hx] at h2; cases h2
  have ne : Ex H (upd H x (.tup [.ref b, .ref p])) := Ex.new hx
  refine k x b (upd H x (.tup [.ref b, .ref p])) (upd Hb x (.tup [.ref b, .ref p])) vs p us l (fun b o w => Ex.new hb _ _ (E0.e0 _ _ (by rw [← hf]; exact w))) (fun b o w => ?_) upd_same (by rw [upd_ne bx]; exact h2) (by rw [upd_ne px]; exact g2) (RpAll.mono (Ex.new hb) _ _ g3) (h3.mono (Ex.new hb) ne) (List.nodup_cons.mpr ⟨fun m => hij (E0.dis i j l [p] p hl gl m (by simp)), E0.nd i l hl⟩) (fun y m => ?_) (fun b zs w => ?_)
  · by_cases z : b = x
    · subst z; rw [upd_same] at w; cases w; exact upd_same
    · rw [upd_ne z] at w ⊢; exact E0.e1 _ _ w
  · have hy : Hb y = none ∧ Hf y = none ∧ H y ≠ none := by
      rcases List.mem_cons.mp m with rfl | m
      · exact ⟨f1, f2, f3⟩
      · exact E0.fr i l y hl m
    have yx : y ≠ x := fun z => by rw [z] at hy; exact hy.2.2 hx
    rw [upd_ne yx, upd_ne yx]
    exact ⟨hy.1, hy.2.2⟩
  · by_cases z : b = x
    · subst z; rw [upd_same] at w; cases w; exact upd_same
    · rw [upd_ne z] at w ⊢; exact E0.tu _ _ w
theorem at_callN {R : List D → List (Str × Fld) → List D → Prop} (hi : i < ρ.length) (ha : EvA K C t ρ ds) (he : eraAll ds = ds') (hR : R ds' fs' ks) (hf : frF fs' = true) (hk : frAll ks = true) (hs : ∀ vs H Q E, spN K C R vs H Q E → sp' vs H Q E)
    (k : ∀ a b, At K C Hf H0 D0.nx (ρ.set i (.nt a b fs' ks))) : At K C Hf H0 (tAsg (tCall sp' [] E t) (gName i) D0) ρ := fun Hb H L σ E0 =>
  ha Hf H0 Hb H L σ E0 _ fun vs Hb1 H1 S r => by
    have E1 := E0.step S
    have r' := RpAll.era (Hf' := H1) _ _ r
    rw [he] at r'
    rw [List.append_nil]
    refine hs _ _ _ _ ⟨ds', fs', ks, r', hR, fun a b H' Hm ws p us l e em h2 h3 h4 h5 h6 nd fr tu => ?_⟩
    have J := E1.join e
    have f1 : ∀ x ∈ p :: l, H1 x = none := fun x m => e.free (fr x m).1
    have S2 : Step Hb1 H1 (joinH H1 Hb1 Hm) H' := ⟨J.hb, e.trans em, J.bh.trans em, J.nw, fun b zs w => J.tu b zs (tu b zs w)⟩
    have E3 := (E1.step S2).set (i := i) hi (c := .nt a b fs' ks) (s := some (.ref a)) (l := p :: l) ⟨ws, p, us, l, rfl, rfl, h2, h3, h4, RpAll.into (E1.joinInto e) ks us hk h5, FldsOk.into (E1.joinInto e) hf h6⟩ nd (fun x m => ⟨by
      unfold joinH
      rw [f1 x m]; exact (fr x m).1, E1.ef.free (f1 x m), (fr x m).2⟩) (fun j lj x nj q m m2 => E1.notOwned (f1 x m2) q m)
    exact k a b _ _ _ _ E3
theorem sq_callN {R : List D → List (Str × Fld) → List D → Prop} (hi : i < ρ.length) (ha : EvA K C t ρ ds) (he : eraAll ds = ds') (hR : R ds' fs' ks) (hf : frF fs' = true) (hk : frAll ks = true) (hs : ∀ vs H Q E, spN K C R vs H Q E → sp' vs H Q E)
    (k : ∀ a b, At K C Hf H0 (s2 D0) (ρ.set i (.nt a b fs' ks))) : At K C Hf H0 (tSeq (tAsg (tCall sp' [] E t) (gName i)) s2 D0) ρ := at_seq (at_callN hi ha he hR hf hk hs k)
theorem nt_view {a b : Addr} (E0 : EnvB K C Hf H0 Hb H L σ ρ) (h : ρ[i]? = some (.nt a b fs ks)) : σ[i]? = some (some (.ref a)) ∧ ∃ l vs p us, L[i]? = some (p :: l) ∧ H a = some (.tup [.ref b, .ref p]) ∧ H b = some (.tup (vs.map (·.2))) ∧ H p = some (.lst us) ∧ RpAll K C Hf Hb ks us ∧ FldsOk K C Hf Hb H l fs vs := by
  obtain ⟨s, l, h1, hl, vs, p, us, l', rfl, rfl, h2, h3, h4, h5, h6⟩ := E0.cell i _ h
  exact ⟨h1, l', vs, p, us, hl, h2, h3, h4, h5, h6⟩
theorem er_nt {a b : Addr} (h : ρ[i]? = some (.nt a b fs ks)) : EvR K C (tVar i) ρ (.tup [.tup (fs.map fun p => p.2.all), .lst .x (eraAll ks)]) := fun Hf H0 Hb H L σ E0 Q q => by
  obtain ⟨h1, l, vs, p, us, hl, h2, h3, h4, h5, h6⟩ := nt_view E0 h
  exact ⟨_, h1, q _ Hb H E0.step0 ⟨a, _, rfl, .inl h2, .cons ⟨b, _, rfl, .inl h3, h6.all E0.e1⟩ (.one ⟨p, us, rfl, trivial, h4, RpAll.era _ _ (RpAll.mono E0.e1 _ _ h5)⟩)⟩⟩
theorem er_nt0 {a b : Addr} (h : ρ[i]? = some (.nt a b fs ks)) : EvR K C (xIdx K (tVar i) (tC (.int 0))) ρ (.tup (fs.map fun p => p.2.all)) := fun Hf H0 Hb H L σ E0 Q q => by
  obtain ⟨h1, l, vs, p, us, hl, h2, h3, h4, h5, h6⟩ := nt_view E0 h
  exact ⟨_, h1, .inr (.inl ⟨a, _, 0, .ref b, rfl, rfl, .of h2, rfl, q _ Hb H E0.step0 ⟨b, _, rfl, .inl h3, h6.all E0.e1⟩⟩)⟩
theorem es_nt1 {a b : Addr} (h : ρ[i]? = some (.nt a b fs ks)) : EvS K C (xIdx K (tVar i) (tC (.int 1))) ρ ks := fun Hf H0 Hb H L σ E0 Q q => by
  obtain ⟨h1, l, vs, p, us, hl, h2, h3, h4, h5, h6⟩ := nt_view E0 h
  exact ⟨_, h1, .inr (.inl ⟨a, _, 1, .ref p, rfl, rfl, .of h2, rfl, q p us Hb H E0.step0 h4 h5⟩)⟩
theorem es_nt0 {a b : Addr} (h : ρ[i]? = some (.nt a b fs ks)) (hj : fs[j]? = some (g, .own xs)) : EvS K C (xIdx K (xIdx K (tVar i) (tC (.int 0))) (tC (.int (j : Int)))) ρ xs := fun Hf H0 Hb H L σ E0 Q q => by
  obtain ⟨h1, l, vs, p, us, hl, h2, h3, h4, h5, h6⟩ := nt_view E0 h
  obtain ⟨p2, us2, k1, k2, k3, k4⟩ := h6.ownAt hj
  exact ⟨_, h1, .inr (.inl ⟨a, _, 0, .ref b, rfl, rfl, .of h2, rfl, .inr (.inl ⟨b, _, (j : Int), .ref p2, rfl, rfl, .of h3, atI_nat k1, q p2 us2 Hb H E0.step0 k3 k4⟩)⟩)⟩
/-- x[0][j].clear() -/
theorem at_clearN {a b : Addr} (h : ρ[i]? = some (.nt a b fs ks)) (hj : fs[j]? = some (g, .own xs)) (k : At K C Hf H0 D0.nx (ρ.set i (.nt a b (fs.set j (g, .own [])) ks))) :
    At K C Hf H0 (tDrop (tBM0 K "list" rClear (xIdx K (xIdx K (tVar i) (tC (.int 0))) (tC (.int (j : Int))))) D0) ρ := fun Hb H L σ E0 => by
  obtain ⟨h1, l, vs, p, us, hl, h2, h3, h4, h5, h6⟩ := nt_view E0 h
  obtain ⟨p2, us2, k1, k2, k3, k4⟩ := h6.ownAt hj
  refine ⟨_, h1, .inr (.inl ⟨a, _, 0, .ref b, rfl, rfl, .of h2, rfl, .inr (.inl ⟨b, _, (j : Int), .ref p2, rfl, rfl, .of h3, atI_nat k1, Or.inl ⟨rfl, _, .of k3⟩, p2, us2, rfl, rfl, k3, ?_⟩)⟩)⟩
  have nd := E0.nd i _ hl
  have pp : p ≠ p2 := fun z => (List.nodup_cons.mp nd).1 (by rw [z]; exact k2)
  have ap : a ≠ p2 := fun z => by rw [z, k3] at h2; cases h2
  have bp : b ≠ p2 := fun z => by rw [z, k3] at h3; cases h3
  obtain ⟨L', E2⟩ := E0.retell hl (List.mem_cons_of_mem _ k2) (o := .lst []) (fun zs z => nomatch z) h1 (c := .nt a b (fs.set j (g, .own [])) ks) (l' := p :: l)
    ⟨vs, p, us, l, rfl, rfl, by rw [upd_ne ap]; exact h2, by rw [upd_ne bp]; exact h3, by rw [upd_ne pp]; exact h4, h5, h6.mutAt (us' := []) .nil hj k1 (List.nodup_cons.mp nd).2⟩ nd (fun b m => .inl m)
  exact k _ _ _ _ E2
theorem sq_clearN {a b : Addr} (h : ρ[i]? = some (.nt a b fs ks)) (hj : fs[j]? = some (g, .own xs)) (k : At K C Hf H0 (s2 D0) (ρ.set i (.nt a b (fs.set j (g, .own [])) ks))) :
    At K C Hf H0 (tSeq (tDrop (tBM0 K "list" rClear (xIdx K (xIdx K (tVar i) (tC (.int 0))) (tC (.int (j : Int)))))) s2 D0) ρ := at_seq (at_clearN h hj k)
/-- y = x[0]: the list goes from the tuple to the name -/
theorem at_move {a : Addr} {g1 : Str} {b : Bool} (h : ρ[i]? = some (.tp a [(g, .own xs), (g1, .dat (.bl b))])) (hj : j < ρ.length) (hij : i ≠ j) (k : ∀ p, At K C Hf H0 D0.nx ((ρ.set i (.raw a [.ref p, .bl b])).set j (.own xs))) : At K C Hf H0 (tAsg (xIdx K (tVar i) (tC (.int 0))) (gName j) D0) ρ := fun Hb H L σ E0 => by
  obtain ⟨h1, l, vs, hl, h2, p, us, r, l', rfl, rfl, h4, h5, v, r2, rfl, rv, rfl, rfl⟩ := tp_view E0 h
  have ev : v = .bl b := rv
  subst ev
  have hi : i < ρ.length := (List.getElem?_eq_some_iff.mp h).1
  refine ⟨_, h1, .inr (.inl ⟨a, _, 0, .ref p, rfl, rfl, .of h2, rfl, ?_⟩)⟩
  obtain ⟨f1, f2, f3⟩ := E0.fr i _ p hl (by simp)
  have E1 := E0.set hi (c := .raw a [.ref p, .bl b]) (s := some (.ref a)) (l := []) ⟨rfl, rfl, E0.tu _ _ h2⟩ List.nodup_nil (fun a m => nomatch m) fun _ _ _ _ _ _ m => nomatch m
  have e1 : σ.set i (some (V.ref a)) = σ := by
    obtain ⟨h3, h4⟩ := List.getElem?_eq_some_iff.mp h1
    rw [← h4]; exact List.set_getElem_self h3
  rw [e1] at E1
  have E2 := E1.set (i := j) (by simpa using hj) (c := .own xs) (s := some (.ref p)) (l := [p]) ⟨p, us, rfl, rfl, h4, h5⟩ (by simp) (fun x m => by
    have e : x = p := by simpa using m
    subst e
    exact ⟨f1, f2, f3⟩) (fun k lk x nk q m m2 => by
    have e : x = p := by simpa using m2
    subst e
    rcases getElem?_set_cases q with ⟨rfl, e3, _⟩ | ⟨ne, q⟩
    · rw [← e3] at m; exact nomatch m
    · exact ne (E0.dis k i lk [x] x q hl m (by simp)))
  exact k p _ _ _ _ E2
theorem ed_raw {a : Addr} {v : V} {b : Bool} (h : ρ[i]? = some (.raw a [v, .bl b])) : EvD K C (xIdx K (tVar i) (tC (.int 1))) ρ (.bl b) := fun Hf H0 Hb H L σ E0 Q q => by
  obtain ⟨s, l, h1, hl, _, rfl, h2⟩ := E0.cell i _ h
  exact ⟨_, h1, .inr (.inl ⟨a, _, 1, .bl b, rfl, rfl, .of (E0.e1 _ _ h2), rfl, q _ Hb H E0.step0 rfl⟩)⟩
end
end Hw
namespace Hw
/-! ## boards: rows by bases -/
/-- R's columns are the columns of O in terms of the held ones -/
structure Bas (n k : Nat) (O : Nat → Nat → Rat) (held : Nat → Nat) (R : Nat → Nat → Rat) : Prop where
  hb : ∀ i, i < n → held i < k
  sol : ∀ c, c ≤ k → ∀ b, b < n → O c b = S n (fun i => R i c * O (held i) b)
  inj : ∀ x : Nat → Rat, (∀ b, b < n → S n (fun i => x i * O (held i) b) = 0) → ∀ i, i < n → x i = 0
def pivH (held : Nat → Nat) (r col : Nat) : Nat → Nat := fun i => if i = r then col else held i
def pivR (R : Nat → Nat → Rat) (r col : Nat) : Nat → Nat → Rat := fun i c => if i = r then R r c / R r col else R i c - R r c / R r col * R i col
section
variable {n k : Nat} {O : Nat → Nat → Rat} {held : Nat → Nat} {R R' : Nat → Nat → Rat} {r col : Nat}
theorem Bas.uniq (B : Bas n k O held R) (B' : Bas n k O held R') {c : Nat} (hc : c ≤ k) {i : Nat} (hi : i < n) : R i c = R' i c := by
  have h := B.inj (fun i => R i c - R' i c) (fun b hb => by
    rw [show S n (fun i => (R i c - R' i c) * O (held i) b) = S n (fun i => R i c * O (held i) b - R' i c * O (held i) b) from S_congr fun i _ => by grind]
    rw [S_sub, ← B.sol c hc b hb, ← B'.sol c hc b hb]; grind) i hi
  grind
theorem Bas.unit (B : Bas n k O held R) {i j : Nat} (hi : i < n) (hj : j < n) : R i (held j) = if i = j then 1 else 0 := by
  have h := B.inj (fun i => R i (held j) - if i = j then 1 else 0) (fun b hb => by
    rw [show S n (fun i => (R i (held j) - if i = j then 1 else 0) * O (held i) b) = S n (fun i => R i (held j) * O (held i) b - (if i = j then 1 else 0) * O (held i) b) from S_congr fun i _ => by grind]
    rw [S_sub, ← B.sol _ (Nat.le_of_lt (B.hb j hj)) b hb, S_one (f := fun i => (if i = j then 1 else 0) * O (held i) b) hj fun i _ ne => by rw [if_neg ne]; grind]
    rw [if_pos rfl]; grind) i hi
  grind
theorem Bas.ne (B : Bas n k O held R) {i j : Nat} (hi : i < n) (hj : j < n) (e : held i = held j) : i = j := by
  have h1 := B.unit hi hi
  have h2 := B.unit hi hj
  rw [e, h2, if_pos rfl] at h1
  by_cases z : i = j
  · exact z
  · rw [if_neg z] at h1; exact absurd h1 (by decide)
theorem Bas.pivot (B : Bas n k O held R) (hr : r < n) (hc : col < k) (hp : R r col ≠ 0) : Bas n k O (pivH held r col) (pivR R r col) where
  hb := fun i hi => by
    unfold pivH
    by_cases e : i = r
    · rw [if_pos e]; exact hc
    · rw [if_neg e]; exact B.hb i hi
  sol := fun c hc' b hb => by
    have h1 := B.sol c hc' b hb
    have h2 := B.sol col (Nat.le_of_lt hc) b hb
    rw [S_split hr] at h1 h2
    rw [S_split hr]
    have e : S n (fun i => if i = r then 0 else pivR R r col i c * O (pivH held r col i) b) = S n (fun i => if i = r then 0 else R i c * O (held i) b) - R r c / R r col * S n (fun i => if i = r then 0 else R i col * O (held i) b) := by
      rw [← S_mul, ← S_sub]
      refine S_congr fun i _ => ?_
      unfold pivR pivH
      by_cases z : i = r
      · simp only [if_pos z]; grind
      · simp only [if_neg z]; grind
    rw [e]
    show _ = pivR R r col r c * O (pivH held r col r) b + _
    unfold pivR pivH
    rw [if_pos rfl, if_pos rfl]
    generalize S n (fun i => if i = r then 0 else R i c * O (held i) b) = A at *
    generalize S n (fun i => if i = r then 0 else R i col * O (held i) b) = A2 at *
    have e2 : R r c / R r col * R r col = R r c := Rat.div_mul_cancel hp
    generalize R r c / R r col = q at *
    rw [h1, h2]
    grind
  inj := fun x h => by
    have key := B.inj (fun i => if i = r then x r * R r col else x i + x r * R i col) (fun b hb => by
      have h1 := h b hb
      have h2 := B.sol col (Nat.le_of_lt hc) b hb
      rw [S_split hr] at h1 h2 ⊢
      have e1 : S n (fun i => if i = r then 0 else x i * O (pivH held r col i) b) = S n (fun i => if i = r then 0 else x i * O (held i) b) := S_congr fun i _ => by
        unfold pivH
        by_cases z : i = r
        · simp only [if_pos z]
        · simp only [if_neg z]
      have e2 : S n (fun i => if i = r then 0 else (if i = r then x r * R r col else x i + x r * R i col) * O (held i) b) = S n (fun i => if i = r then 0 else x i * O (held i) b) + x r * S n (fun i => if i = r then 0 else R i col * O (held i) b) := by
        rw [← S_mul, ← S_add]
        refine S_congr fun i _ => ?_
        by_cases z : i = r
        · simp only [if_pos z]; grind
        · simp only [if_neg z]; grind
      rw [e1] at h1
      rw [e2, if_pos rfl]
      unfold pivH at h1
      rw [if_pos rfl] at h1
      rw [h2] at h1
      grind)
    have hx : x r = 0 := by
      have := key r hr
      rw [if_pos rfl] at this
      rcases Rat.mul_eq_zero.mp this with z | z
      · exact z
      · exact absurd z hp
    intro i hi
    have := key i hi
    by_cases z : i = r
    · rw [z]; exact hx
    · rw [if_neg z, hx] at this; grind
/-- the aim, in closed form -/
def aimF (n : Nat) (cost : Nat → Rat) (held : Nat → Nat) (R : Nat → Nat → Rat) (c : Nat) : Rat := cost c - S n (fun i => cost (held i) * R i c)
theorem aim_held {cost : Nat → Rat} (B : Bas n k O held R) {i : Nat} (hi : i < n) : aimF n cost held R (held i) = 0 := by
  unfold aimF
  rw [S_one (f := fun j => cost (held j) * R j (held i)) hi fun j hj ne => by rw [B.unit hj hi, if_neg ne]; grind, B.unit hi hi, if_pos rfl]
  grind
theorem aim_pivot {cost : Nat → Rat} (hr : r < n) (hp : R r col ≠ 0) (c : Nat) : aimF n cost (pivH held r col) (pivR R r col) c = aimF n cost held R c - R r c / R r col * aimF n cost held R col := by
  unfold aimF
  rw [S_split hr (fun i => cost (pivH held r col i) * pivR R r col i c), S_split hr (fun i => cost (held i) * R i c), S_split hr (fun i => cost (held i) * R i col)]
  have e : S n (fun i => if i = r then 0 else cost (pivH held r col i) * pivR R r col i c) = S n (fun i => if i = r then 0 else cost (held i) * R i c) - R r c / R r col * S n (fun i => if i = r then 0 else cost (held i) * R i col) := by
    rw [← S_mul, ← S_sub]
    refine S_congr fun i _ => ?_
    unfold pivR pivH
    by_cases z : i = r
    · simp only [if_pos z]; grind
    · simp only [if_neg z]; grind
  rw [e]
  unfold pivR pivH
  rw [if_pos rfl, if_pos rfl]
  have e2 : R r c / R r col * R r col = R r c := Rat.div_mul_cancel hp
  generalize R r c / R r col = q at *
  rw [← e2]
  grind
end
end Hw
namespace Hw
/-! ## Bland's rule: no basis comes twice -/
theorem rzero_div (a : Rat) : 0 / a = 0 := by rw [Rat.div_def, Rat.zero_mul]
theorem argmaxN (f : Nat → Nat) : ∀ K, 0 < K → ∃ j, j < K ∧ ∀ a, a < K → f a ≤ f j
  | 0, h => absurd h (by omega)
  | 1, _ => ⟨0, by omega, fun a ha => by rw [show a = 0 by omega]; exact Nat.le_refl _⟩
  | K + 2, _ => by
    obtain ⟨j, hj, h⟩ := argmaxN f (K + 1) (by omega)
    by_cases z : f (K + 1) ≤ f j
    · exact ⟨j, by omega, fun a ha => by
        by_cases e : a = K + 1
        · rw [e]; exact z
        · exact h a (by omega)⟩
    · exact ⟨K + 1, by omega, fun a ha => by
        by_cases e : a = K + 1
        · rw [e]; exact Nat.le_refl _
        · have := h a (by omega); omega⟩
theorem comes {f : Nat → Nat} {q a : Nat} : ∀ {d : Nat}, f a ≠ q → f (a + d) = q → ∃ j, a ≤ j ∧ j < a + d ∧ f j ≠ q ∧ f (j + 1) = q
  | 0, h, e => absurd e h
  | d + 1, h, e => by
    by_cases z : f (a + d) = q
    · obtain ⟨j, h1, h2, h3⟩ := comes (d := d) h z
      exact ⟨j, h1, by omega, h3⟩
    · exact ⟨a + d, by omega, by omega, z, e⟩
theorem goes {f : Nat → Nat} {q a : Nat} : ∀ {d : Nat}, f a = q → f (a + d) ≠ q → ∃ j, a ≤ j ∧ j < a + d ∧ f j = q ∧ f (j + 1) ≠ q
  | 0, h, e => absurd h e
  | d + 1, h, e => by
    by_cases z : f (a + d) = q
    · exact ⟨a + d, by omega, by omega, z, e⟩
    · obtain ⟨j, h1, h2, h3⟩ := goes (d := d) h z
      exact ⟨j, h1, by omega, h3⟩
/-- on a round trip that is at q and elsewhere, q comes, and goes -/
theorem comes_round {f : Nat → Nat} {q a b K : Nat} (e : f K = f 0) (ha : a ≤ K) (hb : b ≤ K) (h1 : f a = q) (h2 : f b ≠ q) : ∃ j, j < K ∧ f j ≠ q ∧ f (j + 1) = q := by
  by_cases l : b ≤ a
  · obtain ⟨j, j1, j2, j3⟩ := comes (f := f) (q := q) (a := b) (d := a - b) h2 (by rw [show b + (a - b) = a by omega]; exact h1)
    exact ⟨j, by omega, j3⟩
  · by_cases z : f K = q
    · obtain ⟨j, j1, j2, j3⟩ := comes (f := f) (q := q) (a := b) (d := K - b) h2 (by rw [show b + (K - b) = K by omega]; exact z)
      exact ⟨j, by omega, j3⟩
    · obtain ⟨j, j1, j2, j3⟩ := comes (f := f) (q := q) (a := 0) (d := a) (by rw [← e]; exact z) (by rw [show 0 + a = a by omega]; exact h1)
      exact ⟨j, by omega, j3⟩
theorem goes_round {f : Nat → Nat} {q a b K : Nat} (e : f K = f 0) (ha : a ≤ K) (hb : b ≤ K) (h1 : f a = q) (h2 : f b ≠ q) : ∃ j, j < K ∧ f j = q ∧ f (j + 1) ≠ q := by
  by_cases l : a ≤ b
  · obtain ⟨j, j1, j2, j3⟩ := goes (f := f) (q := q) (a := a) (d := b - a) h1 (by rw [show a + (b - a) = b by omega]; exact h2)
    exact ⟨j, by omega, j3⟩
  · by_cases z : f K = q
    · obtain ⟨j, j1, j2, j3⟩ := goes (f := f) (q := q) (a := 0) (d := b) (by rw [← e]; exact z) (by rw [show 0 + b = b by omega]; exact h2)
      exact ⟨j, by omega, j3⟩
    · obtain ⟨j, j1, j2, j3⟩ := goes (f := f) (q := q) (a := a) (d := K - a) h1 (by rw [show a + (K - a) = K by omega]; exact z)
      exact ⟨j, by omega, j3⟩
/-- a walk from corner to corner -/
structure Path (n m k : Nat) (O : Nat → Nat → Rat) (cost : Nat → Rat) (K : Nat) (h : Nat → Nat → Nat) (R : Nat → Nat → Nat → Rat) (col r : Nat → Nat) : Prop where
  mle : m ≤ k
  bas : ∀ a, a ≤ K → Bas n k O (h a) (R a)
  feas : ∀ a, a ≤ K → ∀ i, i < n → 0 ≤ R a i k
  st : ∀ a, a < K → col a < m ∧ r a < n ∧ 0 < R a (r a) (col a)
  ent : ∀ a, a < K → aimF n cost (h a) (R a) (col a) < 0 ∧ ∀ j, j < col a → 0 ≤ aimF n cost (h a) (R a) j
  rat : ∀ a, a < K → ∀ i, i < n → 0 < R a i (col a) → R a (r a) k / R a (r a) (col a) ≤ R a i k / R a i (col a) ∧ (R a (r a) k / R a (r a) (col a) = R a i k / R a i (col a) → h a (r a) ≤ h a i)
  nxt : ∀ a, a < K → ∀ i, i < n → h (a + 1) i = pivH (h a) (r a) (col a) i
  nxtR : ∀ a, a < K → ∀ i, i < n → ∀ c, c ≤ k → R (a + 1) i c = pivR (R a) (r a) (col a) i c
section
variable {n m k K : Nat} {O : Nat → Nat → Rat} {cost : Nat → Rat} {h : Nat → Nat → Nat} {R : Nat → Nat → Nat → Rat} {col r : Nat → Nat} {held held' : Nat → Nat} {R1 R2 : Nat → Nat → Rat}
theorem aimF_congr {c : Nat} (e1 : ∀ i, i < n → held i = held' i) (e2 : ∀ i, i < n → R1 i c = R2 i c) : aimF n cost held R1 c = aimF n cost held' R2 c := by
  unfold aimF
  rw [S_congr fun i hi => by rw [e1 i hi, e2 i hi]]
theorem Bas.congr (B : Bas n k O held R1) (e1 : ∀ i, i < n → held i = held' i) (e2 : ∀ i, i < n → ∀ c, c ≤ k → R1 i c = R2 i c) : Bas n k O held' R2 where
  hb := fun i hi => by rw [← e1 i hi]; exact B.hb i hi
  sol := fun c hc b hb => by
    rw [B.sol c hc b hb]
    exact S_congr fun i hi => by rw [e1 i hi, e2 i hi c hc]
  inj := fun x hx => B.inj x fun b hb => by
    rw [← hx b hb]
    exact S_congr fun i hi => by rw [e1 i hi]
theorem div_nonneg' {a b : Rat} (ha : 0 ≤ a) (hb : 0 < b) : 0 ≤ a / b := by
  rw [Rat.div_def]
  exact Rat.mul_nonneg ha (Rat.le_of_lt (Rat.inv_pos.mpr hb))
theorem bland (P : Path n m k O cost K h R col r) (hK : 0 < K) (e : ∀ i, i < n → h K i = h 0 i) : False := by
  -- the sum stands still
  have step : ∀ a, a < K → aimF n cost (h (a + 1)) (R (a + 1)) k = aimF n cost (h a) (R a) k - R a (r a) k / R a (r a) (col a) * aimF n cost (h a) (R a) (col a) := fun a ha => by
    obtain ⟨h1, h2, h3⟩ := P.st a ha
    rw [aimF_congr (P.nxt a ha) fun i hi => P.nxtR a ha i hi k (Nat.le_refl _), aim_pivot h2 (fun z => by rw [z] at h3; exact absurd h3 (by decide))]
  have th : ∀ a, a < K → 0 ≤ R a (r a) k / R a (r a) (col a) := fun a ha => by
    obtain ⟨h1, h2, h3⟩ := P.st a ha
    exact div_nonneg' (P.feas a (by omega) _ h2) h3
  have up : ∀ a, a < K → aimF n cost (h a) (R a) k ≤ aimF n cost (h (a + 1)) (R (a + 1)) k := fun a ha => by
    rw [step a ha]
    have h1 := th a ha
    have h2 := (P.ent a ha).1
    have h3 := Rat.mul_nonneg h1 (show 0 ≤ -aimF n cost (h a) (R a) (col a) by grind)
    grind
  have chain : ∀ d a, a + d ≤ K → aimF n cost (h a) (R a) k ≤ aimF n cost (h (a + d)) (R (a + d)) k := fun d => by
    induction d with
    | zero => intro a _; exact Rat.le_refl
    | succ d ih =>
      intro a ha
      have h1 := ih a (by omega)
      have h2 := up (a + d) (by omega)
      exact Rat.le_trans h1 h2
  have back : aimF n cost (h K) (R K) k = aimF n cost (h 0) (R 0) k := by
    have B := (P.bas K (Nat.le_refl _)).congr e fun i hi c hc => rfl
    exact aimF_congr e fun i hi => B.uniq (P.bas 0 (by omega)) (Nat.le_refl _) hi
  have flat : ∀ a, a < K → R a (r a) k = 0 := fun a ha => by
    have h1 := chain a 0 (by omega)
    have h2 := chain (K - (a + 1)) (a + 1) (by omega)
    rw [show 0 + a = a by omega] at h1
    rw [show a + 1 + (K - (a + 1)) = K by omega, back] at h2
    have h3 := step a ha
    have h4 := (P.ent a ha).1
    obtain ⟨_, h5, h6⟩ := P.st a ha
    have h7 := up a ha
    have e0 : R a (r a) k / R a (r a) (col a) * aimF n cost (h a) (R a) (col a) = 0 := by grind
    rcases Rat.mul_eq_zero.mp e0 with z | z
    · have := Rat.div_mul_cancel (a := R a (r a) k) (b := R a (r a) (col a)) (fun z => by rw [z] at h6; exact absurd h6 (by decide))
      rw [z] at this
      grind
    · rw [z] at h4; exact absurd h4 (by decide)
  have same : ∀ a, a < K → ∀ i, i < n → R (a + 1) i k = R a i k := fun a ha i hi => by
    rw [P.nxtR a ha i hi k (Nat.le_refl _)]
    unfold pivR
    have h1 := flat a ha
    by_cases z : i = r a
    · rw [if_pos z, z, h1]; exact rzero_div _
    · rw [if_neg z, h1, rzero_div]; grind
  have same0 : ∀ a, a ≤ K → ∀ i, i < n → R a i k = R 0 i k := fun a => by
    induction a with
    | zero => intro _ i _; rfl
    | succ a ih => intro ha i hi; rw [same a (by omega) i hi, ih (by omega) i hi]
  have moved : ∀ a, a < K → ∀ i, i < n → h (a + 1) i ≠ h a i → i = r a := fun a ha i hi ne => by
    rw [P.nxt a ha i hi] at ne
    unfold pivH at ne
    by_cases z : i = r a
    · exact z
    · rw [if_neg z] at ne; exact absurd rfl ne
  have newH : ∀ a, a < K → h (a + 1) (r a) = col a := fun a ha => by
    rw [P.nxt a ha _ (P.st a ha).2.1]
    unfold pivH
    rw [if_pos rfl]
  -- the greatest column that comes in
  obtain ⟨ks, hks, hmax⟩ := argmaxN col K hK
  obtain ⟨t1, t2, t3⟩ := P.st ks hks
  obtain ⟨e1, e2⟩ := P.ent ks hks
  have nt : h ks (r ks) ≠ col ks := fun z => by
    have := aim_held (cost := cost) (P.bas ks (by omega)) t2
    rw [z] at this
    rw [this] at e1; exact absurd e1 (by decide)
  obtain ⟨k', hk', l1, l2⟩ := goes_round (f := fun a => h a (r ks)) (q := col ks) (a := ks + 1) (b := ks) (K := K) (e _ t2) (by omega) (by omega) (newH ks hks) nt
  have hrk : r ks = r k' := moved k' hk' _ t2 (fun z => l2 (by rw [← l1]; exact z))
  have lt : h k' (r k') = col ks := by rw [← hrk]; exact l1
  obtain ⟨s1, s2, s3⟩ := P.st k' hk'
  obtain ⟨f1, f2⟩ := P.ent k' hk'
  have Bs := P.bas ks (by omega)
  have B' := P.bas k' (by omega)
  -- the sum of the one's aim along the other's way
  have eqn : aimF n cost (h ks) (R ks) (col k') - S n (fun i => aimF n cost (h ks) (R ks) (h k' i) * R k' i (col k')) = aimF n cost (h k') (R k') (col k') := by
    have way : ∀ j, j < n → R ks j (col k') = S n (fun i => R k' i (col k') * R ks j (h k' i)) := fun j hj => by
      have := Bs.inj (fun j => R ks j (col k') - S n (fun i => R k' i (col k') * R ks j (h k' i))) (fun b hb => by
        rw [show S n (fun j => (R ks j (col k') - S n (fun i => R k' i (col k') * R ks j (h k' i))) * O (h ks j) b) = S n (fun j => R ks j (col k') * O (h ks j) b) - S n (fun j => S n (fun i => R k' i (col k') * R ks j (h k' i)) * O (h ks j) b) by
          rw [← S_sub]; exact S_congr fun j _ => by grind]
        rw [← Bs.sol _ (by have := P.mle; omega) b hb, B'.sol _ (by have := P.mle; omega) b hb]
        have e3 : S n (fun j => S n (fun i => R k' i (col k') * R ks j (h k' i)) * O (h ks j) b) = S n (fun i => R k' i (col k') * O (h k' i) b) := by
          rw [show S n (fun j => S n (fun i => R k' i (col k') * R ks j (h k' i)) * O (h ks j) b) = S n (fun j => S n (fun i => R k' i (col k') * (R ks j (h k' i) * O (h ks j) b))) from S_congr fun j _ => by
            rw [← S_mulr]; exact S_congr fun i _ => by grind]
          rw [S_swap]
          refine S_congr fun i hi => ?_
          rw [S_mul, ← Bs.sol _ (Nat.le_of_lt (B'.hb i hi)) b hb]
        rw [e3]; grind) j hj
      grind
    have e4 : S n (fun i => aimF n cost (h ks) (R ks) (h k' i) * R k' i (col k')) = S n (fun i => cost (h k' i) * R k' i (col k')) - S n (fun j => cost (h ks j) * R ks j (col k')) := by
      have e5 : S n (fun j => cost (h ks j) * R ks j (col k')) = S n (fun i => S n (fun j => cost (h ks j) * R ks j (h k' i)) * R k' i (col k')) := by
        rw [show S n (fun j => cost (h ks j) * R ks j (col k')) = S n (fun j => S n (fun i => cost (h ks j) * R ks j (h k' i) * R k' i (col k'))) from S_congr fun j hj => by
          rw [way j hj, ← S_mul]; exact S_congr fun i _ => by grind]
        rw [S_swap]
        exact S_congr fun i _ => by rw [← S_mulr]
      rw [e5, ← S_sub]
      refine S_congr fun i _ => ?_
      unfold aimF; grind
    rw [e4]
    unfold aimF; grind
  have sle := hmax k' hk'
  have sne : col k' ≠ col ks := fun z => by
    have := aim_held (cost := cost) B' s2
    rw [lt, ← z] at this
    rw [this] at f1; exact absurd f1 (by decide)
  have g1 := e2 (col k') (by omega)
  have g2 : 0 < S n (fun i => aimF n cost (h ks) (R ks) (h k' i) * R k' i (col k')) := by grind
  obtain ⟨i, hi, g3⟩ := S_pos g2
  -- q
  have q1 : ∀ j, j < n → h ks j ≠ h k' i := fun j hj z => by
    have := aim_held (cost := cost) Bs hj
    rw [z] at this
    rw [this] at g3
    exact absurd g3 (by rw [Rat.zero_mul]; decide)
  obtain ⟨k2, hk2, m1, m2⟩ := comes_round (f := fun a => h a i) (q := h k' i) (a := k') (b := ks) (K := K) (e _ hi) (by omega) (by omega) rfl (q1 i hi)
  have hr2 : i = r k2 := moved k2 hk2 _ hi (fun z => m1 (by rw [← m2]; exact z.symm))
  have q2 : col k2 = h k' i := by rw [← newH k2 hk2, ← hr2]; exact m2
  have q3 : h k' i ≤ col ks := by rw [← q2]; exact hmax k2 hk2
  have q4 : h k' i < m := by rw [← q2]; exact (P.st k2 hk2).1
  have q5 : h k' i ≠ col ks := fun z => by
    have : i = r k' := B'.ne hi s2 (by rw [z, lt])
    rw [z, this] at g3
    have := Rat.mul_nonneg (Rat.le_of_lt s3) (show 0 ≤ -aimF n cost (h ks) (R ks) (col ks) by grind)
    grind
  have q6 := e2 (h k' i) (by omega)
  have q7 : 0 < R k' i (col k') := by
    by_cases z : 0 < R k' i (col k')
    · exact z
    · have := Rat.mul_nonneg q6 (show 0 ≤ -R k' i (col k') by grind)
      grind
  have v1 : R k' i k = 0 := by
    rw [same0 k' (by omega) i hi, ← same0 k2 (by omega) i hi, hr2]
    exact flat k2 hk2
  have v2 := (P.rat k' hk' i hi q7).2 (by rw [v1, flat k' hk', rzero_div, rzero_div])
  rw [lt] at v2
  omega
end
end Hw
namespace Hw
/-! ## how great a board's numbers get: by determinants -/
def det4 (a b c d : Nat → Rat) : Rat :=
  a 0 * b 1 * c 2 * d 3 - a 0 * b 1 * c 3 * d 2 - a 0 * b 2 * c 1 * d 3 + a 0 * b 2 * c 3 * d 1 + a 0 * b 3 * c 1 * d 2 - a 0 * b 3 * c 2 * d 1
  - a 1 * b 0 * c 2 * d 3 + a 1 * b 0 * c 3 * d 2 + a 1 * b 2 * c 0 * d 3 - a 1 * b 2 * c 3 * d 0 - a 1 * b 3 * c 0 * d 2 + a 1 * b 3 * c 2 * d 0
  + a 2 * b 0 * c 1 * d 3 - a 2 * b 0 * c 3 * d 1 - a 2 * b 1 * c 0 * d 3 + a 2 * b 1 * c 3 * d 0 + a 2 * b 3 * c 0 * d 1 - a 2 * b 3 * c 1 * d 0
  - a 3 * b 0 * c 1 * d 2 + a 3 * b 0 * c 2 * d 1 + a 3 * b 1 * c 0 * d 2 - a 3 * b 1 * c 2 * d 0 - a 3 * b 2 * c 0 * d 1 + a 3 * b 2 * c 1 * d 0
def det4I (a b c d : Nat → Int) : Int :=
  a 0 * b 1 * c 2 * d 3 - a 0 * b 1 * c 3 * d 2 - a 0 * b 2 * c 1 * d 3 + a 0 * b 2 * c 3 * d 1 + a 0 * b 3 * c 1 * d 2 - a 0 * b 3 * c 2 * d 1
  - a 1 * b 0 * c 2 * d 3 + a 1 * b 0 * c 3 * d 2 + a 1 * b 2 * c 0 * d 3 - a 1 * b 2 * c 3 * d 0 - a 1 * b 3 * c 0 * d 2 + a 1 * b 3 * c 2 * d 0
  + a 2 * b 0 * c 1 * d 3 - a 2 * b 0 * c 3 * d 1 - a 2 * b 1 * c 0 * d 3 + a 2 * b 1 * c 3 * d 0 + a 2 * b 3 * c 0 * d 1 - a 2 * b 3 * c 1 * d 0
  - a 3 * b 0 * c 1 * d 2 + a 3 * b 0 * c 2 * d 1 + a 3 * b 1 * c 0 * d 2 - a 3 * b 1 * c 2 * d 0 - a 3 * b 2 * c 0 * d 1 + a 3 * b 2 * c 1 * d 0
theorem det4_cast (a b c d : Nat → Int) : ((det4I a b c d : Int) : Rat) = det4 (fun i => (a i : Rat)) (fun i => (b i : Rat)) (fun i => (c i : Rat)) (fun i => (d i : Rat)) := by
  unfold det4I det4
  simp only [Rat.intCast_add, Rat.intCast_sub, Rat.intCast_mul]
theorem prod4 {a b c d : Int} (ha : a.natAbs ≤ 1000) (hb : b.natAbs ≤ 1000) (hc : c.natAbs ≤ 1000) (hd : d.natAbs ≤ 1000) : (a * b * c * d).natAbs ≤ 10 ^ 12 := by
  rw [Int.natAbs_mul, Int.natAbs_mul, Int.natAbs_mul]
  have h := Nat.mul_le_mul (Nat.mul_le_mul (Nat.mul_le_mul ha hb) hc) hd
  exact Nat.le_trans h (by decide)
theorem det4I_le {a b c d : Nat → Int} (ha : ∀ i, (a i).natAbs ≤ 1000) (hb : ∀ i, (b i).natAbs ≤ 1000) (hc : ∀ i, (c i).natAbs ≤ 1000) (hd : ∀ i, (d i).natAbs ≤ 1000) : (det4I a b c d).natAbs < 2 ^ 45 := by
  unfold det4I
  have p : ∀ i j k l, (a i * b j * c k * d l).natAbs ≤ 10 ^ 12 := fun i j k l => prod4 (ha i) (hb j) (hc k) (hd l)
  have q : ∀ i j k l, -(10 ^ 12) ≤ a i * b j * c k * d l ∧ a i * b j * c k * d l ≤ 10 ^ 12 := fun i j k l => by
    have := p i j k l
    generalize a i * b j * c k * d l = z at *
    omega
  have q1 := q 0 1 2 3; have q2 := q 0 1 3 2; have q3 := q 0 2 1 3; have q4 := q 0 2 3 1; have q5 := q 0 3 1 2; have q6 := q 0 3 2 1
  have r1 := q 1 0 2 3; have r2 := q 1 0 3 2; have r3 := q 1 2 0 3; have r4 := q 1 2 3 0; have r5 := q 1 3 0 2; have r6 := q 1 3 2 0
  have s1 := q 2 0 1 3; have s2 := q 2 0 3 1; have s3 := q 2 1 0 3; have s4 := q 2 1 3 0; have s5 := q 2 3 0 1; have s6 := q 2 3 1 0
  have t1 := q 3 0 1 2; have t2 := q 3 0 2 1; have t3 := q 3 1 0 2; have t4 := q 3 1 2 0; have t5 := q 3 2 0 1; have t6 := q 3 2 1 0
  clear q p
  generalize a 0 * b 1 * c 2 * d 3 = x1 at *
  generalize a 0 * b 1 * c 3 * d 2 = x2 at *
  generalize a 0 * b 2 * c 1 * d 3 = x3 at *
  generalize a 0 * b 2 * c 3 * d 1 = x4 at *
  generalize a 0 * b 3 * c 1 * d 2 = x5 at *
  generalize a 0 * b 3 * c 2 * d 1 = x6 at *
  generalize a 1 * b 0 * c 2 * d 3 = x7 at *
  generalize a 1 * b 0 * c 3 * d 2 = x8 at *
  generalize a 1 * b 2 * c 0 * d 3 = x9 at *
  generalize a 1 * b 2 * c 3 * d 0 = x10 at *
  generalize a 1 * b 3 * c 0 * d 2 = x11 at *
  generalize a 1 * b 3 * c 2 * d 0 = x12 at *
  generalize a 2 * b 0 * c 1 * d 3 = x13 at *
  generalize a 2 * b 0 * c 3 * d 1 = x14 at *
  generalize a 2 * b 1 * c 0 * d 3 = x15 at *
  generalize a 2 * b 1 * c 3 * d 0 = x16 at *
  generalize a 2 * b 3 * c 0 * d 1 = x17 at *
  generalize a 2 * b 3 * c 1 * d 0 = x18 at *
  generalize a 3 * b 0 * c 1 * d 2 = x19 at *
  generalize a 3 * b 0 * c 2 * d 1 = x20 at *
  generalize a 3 * b 1 * c 0 * d 2 = x21 at *
  generalize a 3 * b 1 * c 2 * d 0 = x22 at *
  generalize a 3 * b 2 * c 0 * d 1 = x23 at *
  generalize a 3 * b 2 * c 1 * d 0 = x24 at *
  omega
section
variable {a b c d v : Nat → Rat} {x0 x1 x2 x3 : Rat}
theorem cram0 (h : ∀ i, i < 4 → v i = x0 * a i + x1 * b i + x2 * c i + x3 * d i) : det4 v b c d = x0 * det4 a b c d := by
  unfold det4
  rw [h 0 (by omega), h 1 (by omega), h 2 (by omega), h 3 (by omega)]
  grind
theorem cram1 (h : ∀ i, i < 4 → v i = x0 * a i + x1 * b i + x2 * c i + x3 * d i) : det4 a v c d = x1 * det4 a b c d := by
  unfold det4
  rw [h 0 (by omega), h 1 (by omega), h 2 (by omega), h 3 (by omega)]
  grind
theorem cram2 (h : ∀ i, i < 4 → v i = x0 * a i + x1 * b i + x2 * c i + x3 * d i) : det4 a b v d = x2 * det4 a b c d := by
  unfold det4
  rw [h 0 (by omega), h 1 (by omega), h 2 (by omega), h 3 (by omega)]
  grind
theorem cram3 (h : ∀ i, i < 4 → v i = x0 * a i + x1 * b i + x2 * c i + x3 * d i) : det4 a b c v = x3 * det4 a b c d := by
  unfold det4
  rw [h 0 (by omega), h 1 (by omega), h 2 (by omega), h 3 (by omega)]
  grind
end
/-- the held columns, filled up to four -/
def padI (n : Nat) (OI : Nat → Nat → Int) (held : Nat → Nat) (i b : Nat) : Int := if i < n then (if b < n then OI (held i) b else 0) else if i = b then 1 else 0
def colI (n : Nat) (OI : Nat → Nat → Int) (c b : Nat) : Int := if b < n then OI c b else 0
def detH (n : Nat) (OI : Nat → Nat → Int) (held : Nat → Nat) : Int := det4I (padI n OI held 0) (padI n OI held 1) (padI n OI held 2) (padI n OI held 3)
section
variable {n k : Nat} {OI : Nat → Nat → Int} {held : Nat → Nat} {R : Nat → Nat → Rat} {r col : Nat}
theorem pad_sol (hn : n ≤ 4) (B : Bas n k (fun c b => (OI c b : Rat)) held R) {c : Nat} (hc : c ≤ k) : ∀ b, b < 4 → (colI n OI c b : Rat) =
    (if 0 < n then R 0 c else 0) * (padI n OI held 0 b : Rat) + (if 1 < n then R 1 c else 0) * (padI n OI held 1 b : Rat) + (if 2 < n then R 2 c else 0) * (padI n OI held 2 b : Rat) + (if 3 < n then R 3 c else 0) * (padI n OI held 3 b : Rat) := by
  intro b _
  have e4 : ∀ f : Nat → Rat, S 4 f = f 0 + f 1 + f 2 + f 3 := fun f => by rw [S_succ, S_succ, S_succ, S_succ, S_zero]; grind
  have e : S 4 (fun i => (if i < n then R i c else 0) * (padI n OI held i b : Rat)) = S n (fun i => R i c * (padI n OI held i b : Rat)) := by
    have key : ∀ d, n + d ≤ 4 → S (n + d) (fun i => (if i < n then R i c else 0) * (padI n OI held i b : Rat)) = S n (fun i => R i c * (padI n OI held i b : Rat)) := fun d => by
      induction d with
      | zero => intro _; exact S_congr fun i hi => by rw [if_pos (show i < n from hi)]
      | succ d ih => intro hd; rw [← Nat.add_assoc, S_succ, ih (by omega), if_neg (by omega)]; grind
    have := key (4 - n) (by omega)
    rw [show n + (4 - n) = 4 by omega] at this
    exact this
  rw [e4] at e
  rw [e]
  unfold colI padI
  by_cases hb : b < n
  · rw [if_pos hb]
    refine (B.sol c hc b hb).trans (S_congr fun i hi => ?_)
    rw [if_pos hi, if_pos hb]
  · rw [if_neg hb]
    refine (S_const0 fun i hi => ?_).symm
    rw [if_pos hi, if_neg hb]; simp
/-- column r by column c -/
def detR (n : Nat) (OI : Nat → Nat → Int) (held : Nat → Nat) (r c : Nat) : Int :=
  if r = 0 then det4I (colI n OI c) (padI n OI held 1) (padI n OI held 2) (padI n OI held 3) else if r = 1 then det4I (padI n OI held 0) (colI n OI c) (padI n OI held 2) (padI n OI held 3)
  else if r = 2 then det4I (padI n OI held 0) (padI n OI held 1) (colI n OI c) (padI n OI held 3) else det4I (padI n OI held 0) (padI n OI held 1) (padI n OI held 2) (colI n OI c)
theorem cramer (hn : n ≤ 4) (B : Bas n k (fun c b => (OI c b : Rat)) held R) {c : Nat} (hc : c ≤ k) (hr : r < n) : ((detR n OI held r c : Int) : Rat) = R r c * ((detH n OI held : Int) : Rat) := by
  have h := pad_sol hn B hc
  unfold detR detH
  have cases4 : r = 0 ∨ r = 1 ∨ r = 2 ∨ r = 3 := by omega
  rcases cases4 with rfl | rfl | rfl | rfl
  · rw [if_pos rfl, det4_cast, det4_cast, cram0 h, if_pos hr]
  · rw [if_neg (by decide), if_pos rfl, det4_cast, det4_cast, cram1 h, if_pos hr]
  · rw [if_neg (by decide), if_neg (by decide), if_pos rfl, det4_cast, det4_cast, cram2 h, if_pos hr]
  · rw [if_neg (by decide), if_neg (by decide), if_neg (by decide), det4_cast, det4_cast, cram3 h, if_pos hr]
theorem detH_piv (hr : r < n) (hn : n ≤ 4) : detH n OI (pivH held r col) = detR n OI held r col := by
  have e1 : padI n OI (pivH held r col) r = colI n OI col := by
    funext b
    unfold padI colI pivH
    rw [if_pos hr, if_pos rfl]
  have e2 : ∀ i, i ≠ r → padI n OI (pivH held r col) i = padI n OI held i := fun i hi => by
    funext b
    unfold padI pivH
    rw [if_neg hi]
  unfold detH detR
  have cases4 : r = 0 ∨ r = 1 ∨ r = 2 ∨ r = 3 := by omega
  rcases cases4 with rfl | rfl | rfl | rfl
  · rw [if_pos rfl, e1, e2 1 (by decide), e2 2 (by decide), e2 3 (by decide)]
  · rw [if_neg (by decide), if_pos rfl, e1, e2 0 (by decide), e2 2 (by decide), e2 3 (by decide)]
  · rw [if_neg (by decide), if_neg (by decide), if_pos rfl, e1, e2 0 (by decide), e2 1 (by decide), e2 3 (by decide)]
  · rw [if_neg (by decide), if_neg (by decide), if_neg (by decide), e1, e2 0 (by decide), e2 1 (by decide), e2 2 (by decide)]
theorem detH_ne (hn : n ≤ 4) (B : Bas n k (fun c b => (OI c b : Rat)) held R) (hr : r < n) (hc : col ≤ k) (hp : R r col ≠ 0) (h : detH n OI held ≠ 0) : detH n OI (pivH held r col) ≠ 0 := by
  rw [detH_piv hr hn]
  intro z
  have e := cramer hn B hc hr
  rw [z] at e
  rcases Rat.mul_eq_zero.mp e.symm with q | q
  · exact hp q
  · exact h (by simpa using q)
theorem detH_congr {held' : Nat → Nat} (e : ∀ i, i < n → held i = held' i) : detH n OI held = detH n OI held' := by
  have : ∀ i, padI n OI held i = padI n OI held' i := fun i => by
    funext b
    unfold padI
    by_cases z : i < n
    · rw [if_pos z, if_pos z, e i z]
    · rw [if_neg z, if_neg z]
  unfold detH
  rw [this, this, this, this]
/-- every number of a board is small -/
theorem entry_sz (hn : n ≤ 4) (hO : ∀ c, c ≤ k → ∀ b, b < n → (OI c b).natAbs ≤ 1000) (B : Bas n k (fun c b => (OI c b : Rat)) held R) (h : detH n OI held ≠ 0) {c : Nat} (hc : c ≤ k) (hr : r < n) : Sz 45 (R r c) := by
  have e := cramer hn B hc hr
  have pb : ∀ i j, (padI n OI held i j).natAbs ≤ 1000 := fun i j => by
    unfold padI
    by_cases z : i < n
    · rw [if_pos z]
      by_cases y : j < n
      · rw [if_pos y]; exact hO _ (Nat.le_of_lt (B.hb i z)) j y
      · rw [if_neg y]; decide
    · rw [if_neg z]; split <;> decide
  have cb : ∀ j, (colI n OI c j).natAbs ≤ 1000 := fun j => by
    unfold colI
    by_cases y : j < n
    · rw [if_pos y]; exact hO c hc j y
    · rw [if_neg y]; decide
  have b1 : (detH n OI held).natAbs < 2 ^ 45 := det4I_le (pb 0) (pb 1) (pb 2) (pb 3)
  have b2 : (detR n OI held r c).natAbs < 2 ^ 45 := by
    unfold detR
    split
    · exact det4I_le cb (pb 1) (pb 2) (pb 3)
    · split
      · exact det4I_le (pb 0) cb (pb 2) (pb 3)
      · split
        · exact det4I_le (pb 0) (pb 1) cb (pb 3)
        · exact det4I_le (pb 0) (pb 1) (pb 2) cb
  have hz : ((detH n OI held : Int) : Rat) ≠ 0 := fun z => h (by simpa using z)
  have e3 : R r c = Rat.divInt (detR n OI held r c) (detH n OI held) := by
    rw [Rat.divInt_eq_div, e, Rat.mul_div_cancel hz]
  rw [e3]
  exact sz_div h b2 b1
end
end Hw
namespace Hw
/-! ## going on till no rope makes it cheaper -/
structure BSt where
  R : Nat → Nat → Rat
  h : Nat → Nat
theorem lexmin (P : Nat → Prop) (f : Nat → Rat) (g : Nat → Nat) : ∀ n, (∃ i, i < n ∧ P i) → ∃ r, r < n ∧ P r ∧ ∀ i, i < n → P i → f r ≤ f i ∧ (f r = f i → g r ≤ g i)
  | 0, ⟨i, hi, _⟩ => absurd hi (by omega)
  | n + 1, ⟨i, hi, hp⟩ => by
    by_cases e : ∃ i, i < n ∧ P i
    · obtain ⟨r, hr, pr, h⟩ := lexmin P f g n e
      by_cases pn : P n
      · by_cases c : f n < f r ∨ (f n = f r ∧ g n < g r)
        · refine ⟨n, by omega, pn, fun j hj pj => ?_⟩
          by_cases z : j = n
          · rw [z]; exact ⟨Rat.le_refl, fun _ => Nat.le_refl _⟩
          · obtain ⟨h1, h2⟩ := h j (by omega) pj
            rcases c with c | ⟨c1, c2⟩
            · exact ⟨by grind, fun q => by grind⟩
            · refine ⟨by grind, fun q => ?_⟩
              have := h2 (by grind)
              omega
        · refine ⟨r, by omega, pr, fun j hj pj => ?_⟩
          by_cases z : j = n
          · rw [z]
            refine ⟨by grind, fun q => ?_⟩
            by_cases w : g n < g r
            · exact absurd (.inr ⟨q.symm, w⟩) c
            · omega
          · exact h j (by omega) pj
      · refine ⟨r, by omega, pr, fun j hj pj => ?_⟩
        by_cases z : j = n
        · rw [z] at pj; exact absurd pj pn
        · exact h j (by omega) pj
    · have : i = n := by
        by_cases z : i = n
        · exact z
        · exact absurd ⟨i, by omega, hp⟩ e
      subst this
      refine ⟨i, by omega, hp, fun j hj pj => ?_⟩
      by_cases z : j = i
      · rw [z]; exact ⟨Rat.le_refl, fun _ => Nat.le_refl _⟩
      · exact absurd ⟨j, by omega, pj⟩ e
/-- the row whose bound is met first -/
structure Leave (n k : Nat) (s : BSt) (col r : Nat) : Prop where
  lt : r < n
  pos : 0 < s.R r col
  min : ∀ i, i < n → 0 < s.R i col → s.R r k / s.R r col ≤ s.R i k / s.R i col ∧ (s.R r k / s.R r col = s.R i k / s.R i col → s.h r ≤ s.h i)
open Classical in
noncomputable def leaveF (n k : Nat) (s : BSt) (col : Nat) : Nat := if h : ∃ r, Leave n k s col r then h.choose else 0
def entF (n m : Nat) (cost : Nat → Rat) (s : BSt) : Option Nat := (List.range m).find? fun c => decide (aimF n cost s.h s.R c < 0)
def turnF (s : BSt) (r col : Nat) : BSt := ⟨pivR s.R r col, pivH s.h r col⟩
noncomputable def stepF (n m k : Nat) (cost : Nat → Rat) (s : BSt) : Option BSt := (entF n m cost s).map fun c => turnF s (leaveF n k s c) c
noncomputable def seqF (n m k : Nat) (cost : Nat → Rat) (s : BSt) : Nat → BSt
  | 0 => s
  | j + 1 => (stepF n m k cost (seqF n m k cost s j)).getD (seqF n m k cost s j)
/-- a board as it should be -/
structure BV (n k : Nat) (OI : Nat → Nat → Int) (s : BSt) : Prop where
  bas : Bas n k (fun c b => (OI c b : Rat)) s.h s.R
  det : detH n OI s.h ≠ 0
  feas : ∀ i, i < n → 0 ≤ s.R i k
section
variable {n m k : Nat} {OI : Nat → Nat → Int} {cost : Nat → Rat} {s : BSt} {c r : Nat}
theorem entF_some (h : entF n m cost s = some c) : c < m ∧ aimF n cost s.h s.R c < 0 ∧ ∀ j, j < c → 0 ≤ aimF n cost s.h s.R j := by
  unfold entF at h
  have h1 := List.find?_some h
  have h2 := List.mem_of_find?_eq_some h
  rw [List.mem_range] at h2
  refine ⟨h2, of_decide_eq_true h1, fun j hj => ?_⟩
  rw [List.find?_range_eq_some] at h
  have := h.2.2 j hj
  rw [← Rat.not_lt]
  simpa using this
theorem entF_none (h : entF n m cost s = none) : ∀ j, j < m → 0 ≤ aimF n cost s.h s.R j := fun j hj => by
  unfold entF at h
  rw [List.find?_eq_none] at h
  have := h j (List.mem_range.mpr hj)
  rw [← Rat.not_lt]
  simpa using this
theorem Leave.ex (hc : ∀ j, 0 ≤ cost j) (h : aimF n cost s.h s.R c < 0) : ∃ r, Leave n k s c r := by
  have e : ∃ i, i < n ∧ 0 < s.R i c := by
    unfold aimF at h
    have h0 := hc c
    obtain ⟨i, hi, hp⟩ := S_pos (n := n) (f := fun i => cost (s.h i) * s.R i c) (by grind)
    refine ⟨i, hi, ?_⟩
    by_cases z : 0 < s.R i c
    · exact z
    · have := Rat.mul_nonneg (hc (s.h i)) (show 0 ≤ -s.R i c by grind)
      grind
  obtain ⟨r, h1, h2, h3⟩ := lexmin (fun i => 0 < s.R i c) (fun i => s.R i k / s.R i c) s.h n e
  exact ⟨r, h1, h2, h3⟩
theorem leaveF_spec (h : ∃ r, Leave n k s c r) : Leave n k s c (leaveF n k s c) := by
  unfold leaveF
  rw [dif_pos h]
  exact h.choose_spec
theorem Leave.uniq {r' : Nat} (B : BV n k OI s) (h1 : Leave n k s c r) (h2 : Leave n k s c r') : r = r' := by
  obtain ⟨a1, a2⟩ := h1.min r' h2.lt h2.pos
  obtain ⟨b1, b2⟩ := h2.min r h1.lt h1.pos
  have e : s.R r k / s.R r c = s.R r' k / s.R r' c := Rat.le_antisymm a1 b1
  exact B.bas.ne h1.lt h2.lt (Nat.le_antisymm (a2 e) (b2 e.symm))
theorem leaveF_eq (B : BV n k OI s) (h : Leave n k s c r) : leaveF n k s c = r := Leave.uniq B (leaveF_spec ⟨r, h⟩) h
theorem pos_ne {x : Rat} (h : 0 < x) : x ≠ 0 := fun z => by rw [z] at h; exact absurd h (by decide)
theorem le_div' {a b t : Rat} (hb : 0 < b) (h : t ≤ a / b) : t * b ≤ a := by
  have e := Rat.div_mul_cancel (a := a) (pos_ne hb)
  have := Rat.mul_nonneg (show 0 ≤ a / b - t by grind) (Rat.le_of_lt hb)
  grind
theorem BV.turn (hn : n ≤ 4) (B : BV n k OI s) (hc : c < k) (h : Leave n k s c r) : BV n k OI (turnF s r c) where
  bas := B.bas.pivot h.lt hc (pos_ne h.pos)
  det := detH_ne hn B.bas h.lt (Nat.le_of_lt hc) (pos_ne h.pos) B.det
  feas := fun i hi => by
    show 0 ≤ pivR s.R r c i k
    unfold pivR
    have h0 := div_nonneg' (B.feas r h.lt) h.pos
    by_cases z : i = r
    · rw [if_pos z]; exact h0
    · rw [if_neg z]
      have f := B.feas i hi
      by_cases w : 0 < s.R i c
      · have := le_div' w (h.min i hi w).1
        grind
      · have := Rat.mul_nonneg h0 (show 0 ≤ -s.R i c by grind)
        grind
theorem BV.next {s' : BSt} (hn : n ≤ 4) (hm : m ≤ k) (hc : ∀ j, 0 ≤ cost j) (B : BV n k OI s) (h : stepF n m k cost s = some s') : ∃ c, entF n m cost s = some c ∧ Leave n k s c (leaveF n k s c) ∧ s' = turnF s (leaveF n k s c) c ∧ BV n k OI s' := by
  unfold stepF at h
  cases e : entF n m cost s with
  | none => rw [e] at h; cases h
  | some c =>
    rw [e] at h; cases h
    obtain ⟨h1, h2, h3⟩ := entF_some e
    have L := leaveF_spec (Leave.ex (k := k) hc h2)
    exact ⟨c, rfl, L, rfl, B.turn hn (by omega) L⟩
theorem BV.seq (hn : n ≤ 4) (hm : m ≤ k) (hc : ∀ j, 0 ≤ cost j) (B : BV n k OI s) : ∀ j, BV n k OI (seqF n m k cost s j)
  | 0 => B
  | j + 1 => by
    have ih := BV.seq hn hm hc B j
    show BV n k OI ((stepF n m k cost (seqF n m k cost s j)).getD (seqF n m k cost s j))
    cases e : stepF n m k cost (seqF n m k cost s j) with
    | none => exact ih
    | some s' => exact (ih.next hn hm hc e).choose_spec.2.2.2
/-! it comes to an end -/
theorem nodup_le : ∀ (N : Nat) (l : List Nat), l.Nodup → (∀ x ∈ l, x < N) → l.length ≤ N
  | 0, l, _, h => by
    cases l with
    | nil => exact Nat.le_refl _
    | cons a l => exact absurd (h a List.mem_cons_self) (by omega)
  | N + 1, l, hd, h => by
    have h1 := nodup_le N (l.erase N) (hd.erase N) (fun x hx => by
      have m := List.mem_of_mem_erase hx
      have := h x m
      have ne : x ≠ N := fun z => by
        subst z
        exact (List.Nodup.not_mem_erase hd) hx
      omega)
    have h2 : l.length ≤ (l.erase N).length + 1 := by
      by_cases z : N ∈ l
      · rw [List.length_erase_of_mem z]; omega
      · rw [List.erase_of_not_mem z]; omega
    omega
def codeF (n : Nat) (h : Nat → Nat) : Nat := (if 0 < n then h 0 else 0) + 9 * (if 1 < n then h 1 else 0) + 81 * (if 2 < n then h 2 else 0) + 729 * (if 3 < n then h 3 else 0)
theorem codeF_lt (h : Nat → Nat) (hh : ∀ i, i < n → h i < 9) : codeF n h < 6561 := by
  unfold codeF
  have h0 : (if 0 < n then h 0 else 0) < 9 := by split; exact hh 0 (by assumption); omega
  have h1 : (if 1 < n then h 1 else 0) < 9 := by split; exact hh 1 (by assumption); omega
  have h2 : (if 2 < n then h 2 else 0) < 9 := by split; exact hh 2 (by assumption); omega
  have h3 : (if 3 < n then h 3 else 0) < 9 := by split; exact hh 3 (by assumption); omega
  omega
theorem codeF_inj (hn : n ≤ 4) {h h' : Nat → Nat} (hh : ∀ i, i < n → h i < 9) (hh' : ∀ i, i < n → h' i < 9) (e : codeF n h = codeF n h') : ∀ i, i < n → h i = h' i := by
  unfold codeF at e
  have a0 : ∀ j, (if j < n then h j else 0) < 9 := fun j => by split; exact hh j (by assumption); omega
  have b0 : ∀ j, (if j < n then h' j else 0) < 9 := fun j => by split; exact hh' j (by assumption); omega
  have x0 := a0 0; have x1 := a0 1; have x2 := a0 2; have x3 := a0 3
  have y0 := b0 0; have y1 := b0 1; have y2 := b0 2; have y3 := b0 3
  have key : ∀ j, j < 4 → (if j < n then h j else 0) = (if j < n then h' j else 0) := by
    intro j hj
    have : j = 0 ∨ j = 1 ∨ j = 2 ∨ j = 3 := by omega
    rcases this with rfl | rfl | rfl | rfl <;> omega
  intro i hi
  have := key i (by omega)
  rw [if_pos hi, if_pos hi] at this
  exact this
theorem seq_ends (hn : n ≤ 4) (hk : k ≤ 9) (hm : m ≤ k) (hc : ∀ j, 0 ≤ cost j) (B : BV n k OI s) : ∃ N, N < 6562 ∧ stepF n m k cost (seqF n m k cost s N) = none ∧ ∀ j, j < N → stepF n m k cost (seqF n m k cost s j) ≠ none := by
  -- were there no end, the bases would all be different
  have first : ∀ N, (∃ j, j < N ∧ stepF n m k cost (seqF n m k cost s j) = none) → ∃ j, j < N ∧ stepF n m k cost (seqF n m k cost s j) = none ∧ ∀ i, i < j → stepF n m k cost (seqF n m k cost s i) ≠ none := fun N => by
    induction N with
    | zero => rintro ⟨j, hj, _⟩; omega
    | succ N ih =>
      rintro ⟨j, hj, e⟩
      by_cases z : ∃ j, j < N ∧ stepF n m k cost (seqF n m k cost s j) = none
      · obtain ⟨j, h1, h2⟩ := ih z
        exact ⟨j, by omega, h2⟩
      · exact ⟨j, hj, e, fun i hi ei => z ⟨i, by omega, ei⟩⟩
  refine first 6562 ?_
  refine Classical.byContradiction fun no => ?_
  have go : ∀ j, j < 6562 → stepF n m k cost (seqF n m k cost s j) ≠ none := fun j hj e => no ⟨j, hj, e⟩
  have nx : ∀ j, j < 6562 → ∃ c, entF n m cost (seqF n m k cost s j) = some c ∧ Leave n k (seqF n m k cost s j) c (leaveF n k (seqF n m k cost s j) c) ∧ seqF n m k cost s (j + 1) = turnF (seqF n m k cost s j) (leaveF n k (seqF n m k cost s j) c) c := fun j hj => by
    cases e : stepF n m k cost (seqF n m k cost s j) with
    | none => exact absurd e (go j hj)
    | some s' =>
      obtain ⟨c, h1, h2, h3, _⟩ := (BV.seq hn hm hc B j).next hn hm hc e
      refine ⟨c, h1, h2, ?_⟩
      show (stepF n m k cost (seqF n m k cost s j)).getD (seqF n m k cost s j) = _
      rw [e]; exact h3
  have pth : ∀ a b, a < b → b ≤ 6562 → (∀ i, i < n → (seqF n m k cost s b).h i = (seqF n m k cost s a).h i) → False := fun a b hab hb e => by
    have col : ∃ f : Nat → Nat, ∀ j, j < b - a → entF n m cost (seqF n m k cost s (a + j)) = some (f j) ∧ Leave n k (seqF n m k cost s (a + j)) (f j) (leaveF n k (seqF n m k cost s (a + j)) (f j)) ∧ seqF n m k cost s (a + (j + 1)) = turnF (seqF n m k cost s (a + j)) (leaveF n k (seqF n m k cost s (a + j)) (f j)) (f j) := by
      refine ⟨fun j => if hj : j < b - a then (nx (a + j) (by omega)).choose else 0, fun j hj => ?_⟩
      simp only [dif_pos hj]
      exact (nx (a + j) (by omega)).choose_spec
    obtain ⟨f, hf⟩ := col
    refine bland (n := n) (m := m) (k := k) (O := fun c b => (OI c b : Rat)) (cost := cost) (K := b - a) (h := fun j => (seqF n m k cost s (a + j)).h) (R := fun j => (seqF n m k cost s (a + j)).R) (col := f) (r := fun j => leaveF n k (seqF n m k cost s (a + j)) (f j)) ?_ (by omega) (fun i hi => by
      show (seqF n m k cost s (a + (b - a))).h i = (seqF n m k cost s (a + 0)).h i
      rw [show a + (b - a) = b by omega]; exact e i hi)
    exact {
      mle := hm
      bas := fun j _ => (BV.seq hn hm hc B (a + j)).bas
      feas := fun j _ => (BV.seq hn hm hc B (a + j)).feas
      st := fun j hj => ⟨(entF_some (hf j hj).1).1, (hf j hj).2.1.lt, (hf j hj).2.1.pos⟩
      ent := fun j hj => (entF_some (hf j hj).1).2
      rat := fun j hj => (hf j hj).2.1.min
      nxt := fun j hj i hi => by
        show (seqF n m k cost s (a + (j + 1))).h i = _
        rw [(hf j hj).2.2]; rfl
      nxtR := fun j hj i hi c' hc' => by
        show (seqF n m k cost s (a + (j + 1))).R i c' = _
        rw [(hf j hj).2.2]; rfl }
  have h9 : ∀ j i, i < n → (seqF n m k cost s j).h i < 9 := fun j i hi => by
    have := (BV.seq hn hm hc B j).bas.hb i hi
    omega
  have nd : ((List.range 6562).map fun j => codeF n (seqF n m k cost s j).h).Nodup := by
    rw [List.nodup_iff_pairwise_ne, List.pairwise_map]
    refine List.Pairwise.imp_of_mem ?_ List.pairwise_lt_range
    intro a b ma mb hab e
    rw [List.mem_range] at ma mb
    exact pth a b hab (by omega) fun i hi => (codeF_inj hn (h9 a) (h9 b) e i hi).symm
  have := nodup_le 6561 _ nd (fun x hx => by
    obtain ⟨j, _, rfl⟩ := List.mem_map.mp hx
    exact codeF_lt _ (h9 j))
  rw [List.length_map, List.length_range] at this
  omega
end
end Hw
namespace Hw
/-! ## a hoist's board -/
section
variable {n m k : Nat} {OI : Nat → Nat → Int} {cost : Nat → Rat} {s : BSt}
theorem seq_stays {N : Nat} (e : stepF n m k cost (seqF n m k cost s N) = none) : ∀ d, seqF n m k cost s (N + d) = seqF n m k cost s N
  | 0 => rfl
  | d + 1 => by
    show (stepF n m k cost (seqF n m k cost s (N + d))).getD (seqF n m k cost s (N + d)) = _
    rw [seq_stays e d, e]; rfl
noncomputable def goF (n m k : Nat) (cost : Nat → Rat) (s : BSt) : BSt := seqF n m k cost s 6562
theorem step_none (h : stepF n m k cost s = none) : entF n m cost s = none := by
  unfold stepF at h
  cases e : entF n m cost s with
  | none => rfl
  | some c => rw [e] at h; cases h
theorem goF_end (hn : n ≤ 4) (hk : k ≤ 9) (hm : m ≤ k) (hc : ∀ j, 0 ≤ cost j) (B : BV n k OI s) : BV n k OI (goF n m k cost s) ∧ ∀ j, j < m → 0 ≤ aimF n cost (goF n m k cost s).h (goF n m k cost s).R j := by
  obtain ⟨N, h1, h2, _⟩ := seq_ends hn hk hm hc B
  refine ⟨BV.seq hn hm hc B 6562, ?_⟩
  have e : goF n m k cost s = seqF n m k cost s N := by
    have := seq_stays h2 (6562 - N)
    rw [show N + (6562 - N) = 6562 by omega] at this
    exact this
  rw [e]
  exact entF_none (step_none h2)
end
def OIh (ws : List Int) (tb : List (List Int)) (c b : Nat) : Int := if c < tb.length then tget tb c b else if c < tb.length + ws.length then (if c - tb.length = b then 1 else 0) else ws.getD b 0
def st0 (ws : List Int) (tb : List (List Int)) : BSt := ⟨fun i c => (OIh ws tb c i : Rat), fun i => tb.length + i⟩
section
variable {ws : List Int} {tb : List (List Int)}
theorem OIh_rope {c b : Nat} (h : c < tb.length) : OIh ws tb c b = tget tb c b := if_pos h
theorem OIh_help {i b : Nat} (h : i < ws.length) : OIh ws tb (tb.length + i) b = if i = b then 1 else 0 := by
  unfold OIh
  rw [if_neg (by omega), if_pos (by omega), show tb.length + i - tb.length = i by omega]
theorem OIh_last {b : Nat} : OIh ws tb (tb.length + ws.length) b = ws.getD b 0 := by
  unfold OIh
  rw [if_neg (by omega), if_neg (by omega)]
theorem OIh_le (ho : HoOk ws tb) : ∀ c, c ≤ tb.length + ws.length → ∀ b, b < ws.length → (OIh ws tb c b).natAbs ≤ 1000 := fun c hc b hb => by
  unfold OIh
  split
  · have := (ho.tget (by assumption) hb).1; omega
  · split
    · split <;> decide
    · have := ho.wv _ (getD_mem (a := 0) hb); omega
theorem st0_pad (hn : ws.length ≤ 4) (i b : Nat) : padI ws.length (OIh ws tb) (fun i => tb.length + i) i b = if i = b then 1 else 0 := by
  unfold padI
  by_cases z : i < ws.length
  · rw [if_pos z]
    by_cases y : b < ws.length
    · rw [if_pos y, OIh_help z]
    · rw [if_neg y, if_neg (by omega)]
  · rw [if_neg z]
theorem BV.start (ho : HoOk ws tb) : BV ws.length (tb.length + ws.length) (OIh ws tb) (st0 ws tb) where
  bas := {
    hb := fun i hi => by show tb.length + i < _; omega
    sol := fun c hc b hb => by
      show (OIh ws tb c b : Rat) = S ws.length (fun i => (OIh ws tb c i : Rat) * (OIh ws tb (tb.length + i) b : Rat))
      rw [S_one hb (fun i hi ne => by rw [OIh_help hi, if_neg ne]; simp), OIh_help hb, if_pos rfl]; simp
    inj := fun x h i hi => by
      have := h i hi
      have e : S ws.length (fun j => x j * (OIh ws tb (tb.length + j) i : Rat)) = x i := by
        rw [S_one (f := fun j => x j * (OIh ws tb (tb.length + j) i : Rat)) hi (fun j hj ne => by rw [OIh_help hj, if_neg ne]; simp), OIh_help hi, if_pos rfl]; simp
      rw [← e]; exact this }
  det := by
    show detH ws.length (OIh ws tb) (fun i => tb.length + i) ≠ 0
    unfold detH det4I
    simp only [st0_pad ho.w4]
    decide
  feas := fun i hi => by
    show (0 : Rat) ≤ (OIh ws tb (tb.length + ws.length) i : Rat)
    rw [OIh_last]
    have := (ho.wv _ (getD_mem (a := 0) hi)).1
    exact Rat.intCast_nonneg.mpr this
end
end Hw
namespace Hw
open PySem L2
/-! ## boards as data -/
def dQ (mk : Mark) (rows : List (List Rat)) : List D := rows.map fun r => .lst mk (dFs r)
abbrev dN (held : List Nat) : List D := held.map fun (h : Nat) => D.int h
def bF (mk : Mark) (m n : Nat) (rows : List (List Rat)) (held : List Nat) (aim : List Rat) : List (Str × Fld) :=
  [("ropes", .dat (.int m)), ("bodies", .dat (.int n)), ("rows", .own (dQ mk rows)), ("held", .own (dN held)), ("aim", .dat (.lst mk (dFs aim)))]
def rowsL (n k : Nat) (R : Nat → Nat → Rat) : List (List Rat) := (List.range n).map fun i => (List.range (k + 1)).map (R i)
def heldL (n : Nat) (h : Nat → Nat) : List Nat := (List.range n).map h
def aimLL (n k : Nat) (cost : Nat → Rat) (s : BSt) : List Rat := (List.range (k + 1)).map (aimF n cost s.h s.R)
/-- what the class Board is -/
structure BoT (K : PySem.W.Frag) (B : Addr) : Prop where
  cl : Cls K B
  nR : NoAttr K B "ropes"
  nB : NoAttr K B "bodies"
  nW : NoAttr K B "rows"
  nH : NoAttr K B "held"
  nA : NoAttr K B "aim"
theorem ne_rb : ¬ (("ropes" : Str) = "bodies") := by decide +kernel
theorem ne_rw : ¬ (("ropes" : Str) = "rows") := by decide +kernel
theorem ne_rh : ¬ (("ropes" : Str) = "held") := by decide +kernel
theorem ne_ra : ¬ (("ropes" : Str) = "aim") := by decide +kernel
theorem ne_bw : ¬ (("bodies" : Str) = "rows") := by decide +kernel
theorem ne_bh : ¬ (("bodies" : Str) = "held") := by decide +kernel
theorem ne_ba : ¬ (("bodies" : Str) = "aim") := by decide +kernel
theorem ne_wh : ¬ (("rows" : Str) = "held") := by decide +kernel
theorem ne_wa : ¬ (("rows" : Str) = "aim") := by decide +kernel
theorem ne_ha : ¬ (("held" : Str) = "aim") := by decide +kernel
theorem putFld_eq {n : Str} {f x : Fld} {r : List (Str × Fld)} : putFld n f ((n, x) :: r) = (n, f) :: r := by unfold putFld; rw [if_pos rfl]
theorem putFld_ne {n g : Str} {f x : Fld} {r : List (Str × Fld)} (h : ¬ g = n) : putFld n f ((g, x) :: r) = (g, x) :: putFld n f r := by rw [putFld, if_neg h]
theorem look_eq {α : Type} {n : Str} {x : α} {r : List (Str × α)} : List.lookup n ((n, x) :: r) = some x := by simp [List.lookup]
theorem look_ne {α : Type} {n g : Str} {x : α} {r : List (Str × α)} (h : ¬ g = n) : List.lookup n ((g, x) :: r) = List.lookup n r := by
  have e : (n == g) = false := by
    cases z : (n == g) with
    | false => rfl
    | true => exact absurd (beq_iff_eq.mp z).symm h
  simp only [List.lookup, e]
section
variable {mk : Mark} {m n : Nat} {rows rows' : List (List Rat)} {held held' : List Nat} {aim aim' : List Rat}
theorem lk_ropes : (bF mk m n rows held aim).lookup ("ropes" : Str) = some (.dat (.int m)) := look_eq
theorem lk_bodies : (bF mk m n rows held aim).lookup ("bodies" : Str) = some (.dat (.int n)) := by unfold bF; rw [look_ne ne_rb, look_eq]
theorem lk_rows : (bF mk m n rows held aim).lookup ("rows" : Str) = some (.own (dQ mk rows)) := by unfold bF; rw [look_ne ne_rw, look_ne ne_bw, look_eq]
theorem lk_held : (bF mk m n rows held aim).lookup ("held" : Str) = some (.own (dN held)) := by unfold bF; rw [look_ne ne_rh, look_ne ne_bh, look_ne ne_wh, look_eq]
theorem lk_aim : (bF mk m n rows held aim).lookup ("aim" : Str) = some (.dat (.lst mk (dFs aim))) := by unfold bF; rw [look_ne ne_ra, look_ne ne_ba, look_ne ne_wa, look_ne ne_ha, look_eq]
theorem pt_rows : putFld "rows" (.own (dQ mk rows')) (bF mk m n rows held aim) = bF mk m n rows' held aim := by unfold bF; rw [putFld_ne ne_rw, putFld_ne ne_bw, putFld_eq]
theorem pt_held : putFld "held" (.own (dN held')) (bF mk m n rows held aim) = bF mk m n rows held' aim := by unfold bF; rw [putFld_ne ne_rh, putFld_ne ne_bh, putFld_ne ne_wh, putFld_eq]
theorem pt_aim : putFld "aim" (.dat (.lst mk (dFs aim'))) (bF mk m n rows held aim) = bF mk m n rows held aim' := by unfold bF; rw [putFld_ne ne_ra, putFld_ne ne_ba, putFld_ne ne_wa, putFld_ne ne_ha, putFld_eq]
theorem fr_dQ : frAll (dQ .f rows) = true := frAll_map _ (fun r => by show (decide (Mark.f = .f) && frAll (r.map dF)) = true; rw [fr_dFs]; rfl) _
theorem fr_dN : frAll (dN held) = true := frAll_map _ (fun _ => rfl) _
theorem fr_bF : frF (bF .f m n rows held aim) = true := by
  show (true && (true && (frAll (dQ .f rows) && (frAll (dN held) && ((decide (Mark.f = .f) && frAll (aim.map dF)) && true))))) = true
  rw [fr_dQ, fr_dN, fr_dFs]; rfl
theorem era_dQ : eraAll (dQ mk rows) = dQ .x rows := eraAll_map _ _ (fun r => by show D.lst .x (eraAll (r.map dF)) = _; rw [era_dFs]) _
theorem era_dN : eraAll (dN held) = dN held := eraAll_map _ _ (fun _ => rfl) _
theorem era_bF : eraF (bF mk m n rows held aim) = bF .x m n rows held aim := by
  show [(_, Fld.dat (D.int m)), (_, Fld.dat (D.int n)), (_, Fld.own (eraAll (dQ mk rows))), (_, Fld.own (eraAll (dN held))), (_, Fld.dat (D.lst .x (eraAll (aim.map dF))))] = _
  rw [era_dQ, era_dN, era_dFs]; rfl
theorem nm_bF {q : Str} (h : (["ropes", "bodies", "rows", "held", "aim"] : List Str).all (fun g => !(q == g)) = true) : ∀ g ∈ (bF mk m n rows held aim).map (·.1), (q == g) = false := by
  rw [List.all_eq_true] at h
  intro g hg
  have := h g hg
  simpa using this
end
/-! promises -/
def belowF (row : List Rat) : Option Nat := (List.range row.length).find? fun c => decide (row.getD c 0 < 0)
def takenF (row base : List Rat) (f : Rat) : List Rat := (List.range row.length).map fun c => row.getD c 0 - base.getD c 0 * f
def R_below (ds : List D) (d : D) : Prop := ∃ row, SzL 4000 row ∧ row.length ≤ 1000 ∧ ds = [.lst .x (dFs row)] ∧ d = match belowF row with | some c => .int (c : Int) | none => .non
def R_taken (ds : List D) (xs : List D) : Prop := ∃ row base f, SzL 1000 row ∧ SzL 1000 base ∧ Sz 1000 f ∧ base.length = row.length ∧ row.length ≤ 1000 ∧ ds = [.lst .x (dFs row), .lst .x (dFs base), dF f] ∧ xs = dFs (takenF row base f)
def R_turned (ds : List D) (xs : List D) : Prop := ∃ row, SzL 3000 row ∧ row.length ≤ 1000 ∧ ds = [.lst .x (dFs row)] ∧ xs = dFs (row.map fun p => 0 - p)
def SzB (n k : Nat) (R : Nat → Nat → Rat) : Prop := ∀ i, i < n → ∀ c, c ≤ k → Sz 45 (R i c)
def R_Binit (fs : List (Str × Fld)) (ds : List D) (fs' : List (Str × Fld)) : Prop := ∃ ws tb, HoOk ws tb ∧ fs = [] ∧ ds = [.ho .x ws tb] ∧ fs' = bF .f tb.length ws.length (rowsL ws.length (tb.length + ws.length) (st0 ws tb).R) (heldL ws.length (st0 ws tb).h) []
def costF (costs : List Rat) (c : Nat) : Rat := costs.getD c 0
def R_price (fs : List (Str × Fld)) (ds : List D) (fs' : List (Str × Fld)) : Prop := ∃ m n s aim costs, n ≤ 4 ∧ m ≤ 5 ∧ SzB n (m + n) s.R ∧ (∀ i, i < n → s.h i < m + n) ∧ costs.length = m + n ∧ (∀ q ∈ costs, q = 0 ∨ q = 1) ∧
  fs = bF .f m n (rowsL n (m + n) s.R) (heldL n s.h) aim ∧ ds = [.lst .x (dFs costs)] ∧ fs' = bF .f m n (rowsL n (m + n) s.R) (heldL n s.h) (aimLL n (m + n) (costF costs) s)
/-- the aim as it is: none, or one that goes by costs -/
inductive AimIs (n k : Nat) (s : BSt) : Option (Nat → Rat) → List Rat → Prop
  | no : AimIs n k s none []
  | by (cost : Nat → Rat) : (∀ c, c ≤ k → Sz 300 (aimF n cost s.h s.R c)) → AimIs n k s (some cost) (aimLL n k cost s)
def aimO (n k : Nat) (s : BSt) : Option (Nat → Rat) → List Rat
  | none => []
  | some cost => aimLL n k cost s
def R_turn (fs : List (Str × Fld)) (ds : List D) (fs' : List (Str × Fld)) : Prop := ∃ m n s o r c, n ≤ 4 ∧ m ≤ 5 ∧ SzB n (m + n) s.R ∧ SzB n (m + n) (turnF s r c).R ∧ (∀ cost, o = some cost → ∀ c, c ≤ m + n → Sz 300 (aimF n cost s.h s.R c)) ∧ r < n ∧ c < m + n ∧ s.R r c ≠ 0 ∧
  fs = bF .f m n (rowsL n (m + n) s.R) (heldL n s.h) (aimO n (m + n) s o) ∧ ds = [.int (r : Int), .int (c : Int)] ∧ fs' = bF .f m n (rowsL n (m + n) (turnF s r c).R) (heldL n (turnF s r c).h) (aimO n (m + n) (turnF s r c) o)
def R_leaving (fs : List (Str × Fld)) (ds : List D) (d : D) : Prop := ∃ m n s aim c OI, n ≤ 4 ∧ m ≤ 5 ∧ SzB n (m + n) s.R ∧ BV n (m + n) OI s ∧ (∃ r, Leave n (m + n) s c r) ∧ c < m + n ∧
  fs = bF .x m n (rowsL n (m + n) s.R) (heldL n s.h) aim ∧ ds = [.int (c : Int)] ∧ d = .int (leaveF n (m + n) s c : Int)
def R_go (fs : List (Str × Fld)) (ds : List D) (fs' : List (Str × Fld)) : Prop := ∃ m n s cost OI, n ≤ 4 ∧ m ≤ 5 ∧ (∀ c, c ≤ m + n → ∀ b, b < n → (OI c b : Int).natAbs ≤ 1000) ∧ BV n (m + n) OI s ∧ (∀ c, cost c = 0 ∨ cost c = 1) ∧
  fs = bF .f m n (rowsL n (m + n) s.R) (heldL n s.h) (aimLL n (m + n) cost s) ∧ ds = [] ∧ fs' = bF .f m n (rowsL n (m + n) (goF n m (m + n) cost s).R) (heldL n (goF n m (m + n) cost s).h) (aimLL n (m + n) cost (goF n m (m + n) cost s))
def pullF (n k : Nat) (s : BSt) (c : Nat) : Rat := S n fun i => if s.h i = c then s.R i k else 0
def R_pulls (fs : List (Str × Fld)) (ds : List D) (xs : List D) : Prop := ∃ m n s aim OI, n ≤ 4 ∧ m ≤ 5 ∧ BV n (m + n) OI s ∧ fs = bF .x m n (rowsL n (m + n) s.R) (heldL n s.h) aim ∧ ds = [] ∧ xs = dFs ((List.range m).map (pullF n (m + n) s))
def R_worths (fs : List (Str × Fld)) (ds : List D) (xs : List D) : Prop := ∃ m n s cost q, n ≤ 4 ∧ m ≤ 5 ∧ (∀ c, c ≤ m + n → Sz 300 (aimF n cost s.h s.R c)) ∧ Sz 300 q ∧ fs = bF .x m n (rowsL n (m + n) s.R) (heldL n s.h) (aimLL n (m + n) cost s) ∧ ds = [dF q] ∧ xs = dFs ((List.range n).map fun b => q - aimF n cost s.h s.R (m + b))
def cost1 (m n : Nat) (c : Nat) : Rat := if c < m then 0 else if c < m + n then 1 else 0
noncomputable def fstB (ws : List Int) (tb : List (List Int)) : BSt := goF ws.length tb.length (tb.length + ws.length) (cost1 tb.length ws.length) (st0 ws tb)
def R_first (ds : List D) (fs' : List (Str × Fld)) : Prop := ∃ ws tb, HoOk ws tb ∧ ds = [.ho .x ws tb] ∧ fs' = bF .f tb.length ws.length (rowsL ws.length (tb.length + ws.length) (fstB ws tb).R) (heldL ws.length (fstB ws tb).h) (aimLL ws.length (tb.length + ws.length) (cost1 tb.length ws.length) (fstB ws tb))
/-- what is told of a hoist -/
noncomputable def sinksP (ws : List Int) (tb : List (List Int)) : Prop := aimF ws.length (cost1 tb.length ws.length) (fstB ws tb).h (fstB ws tb).R (tb.length + ws.length) ≠ 0
noncomputable def toldM (ws : List Int) (tb : List (List Int)) : List Rat := (List.range ws.length).map fun b => 0 - (1 - aimF ws.length (cost1 tb.length ws.length) (fstB ws tb).h (fstB ws tb).R (tb.length + b))
noncomputable def toldP (ws : List Int) (tb : List (List Int)) : List Rat := (List.range tb.length).map (pullF ws.length (tb.length + ws.length) (fstB ws tb))
def R_judged (ds : List D) (fs' : List (Str × Fld)) : Prop := ∃ ws tb, HoOk ws tb ∧ ds = [.ho .x ws tb] ∧ (sinksP ws tb → fs' = [(("" : Str), Fld.dat (.str "sinks")), (("" : Str), Fld.own (dFs (toldM ws tb)))]) ∧ (¬ sinksP ws tb → fs' = [(("" : Str), Fld.dat (.str "still")), (("" : Str), Fld.own (dFs (toldP ws tb)))])
section
variable (K : PySem.W.Frag) (C B : Addr)
abbrev sp_below : Sp := spD K C R_below
abbrev sp_taken : Sp := spL K C R_taken
abbrev sp_turned_about : Sp := spL K C R_turned
abbrev sp_Board_init : Sp := spMu K C B R_Binit
abbrev sp_Board_price : Sp := spMu K C B R_price
abbrev sp_Board_turn : Sp := spMu K C B R_turn
abbrev sp_Board_leaving : Sp := spRd K C B R_leaving
abbrev sp_Board_go : Sp := spMu K C B R_go
abbrev sp_Board_pulls : Sp := spRdL K C B R_pulls
abbrev sp_Board_worths : Sp := spRdL K C B R_worths
abbrev sp_first_board : Sp := spO K C B R_first
abbrev sp_judged : Sp := spT K C R_judged
end
end Hw
namespace Hw
open PySem L2
/-- below: row k -/
def t_below (K : PySem.W.Frag) (C : Addr) (pNOUGHT : Addr) : TS := (tSeq (tFor (iRng1 (tCons (xLen K (tVar 0)) tNil)) (gName 1) (tIfS (tB (tCall (sp_less K C) [] E0 (tCons (xIdx K (tVar 0) (tVar 1)) (tCons (tC (.ref pNOUGHT)) tNil)))) (tRet (tVar 1)) tNext)) (tRet (tC .non)))
abbrev n_below : List Str := ["row", "k"]
/-- taken: row base factor k -/
def t_taken (K : PySem.W.Frag) (C : Addr) : TS := (tRet (tLc (iRng1 (tCons (xLen K (tVar 0)) tNil)) (gName 3) tYes (tCall (sp_minus K C) [] E0 (tCons (xIdx K (tVar 0) (tVar 3)) (tCons (tCall (sp_times K C) [] E0 (tCons (xIdx K (tVar 1) (tVar 3)) (tCons (tVar 2) tNil))) tNil))) [3]))
abbrev n_taken : List Str := ["row", "base", "factor", "k"]
/-- turned_about: row part -/
def t_turned_about (K : PySem.W.Frag) (C : Addr) (pNOUGHT : Addr) : TS := (tRet (tLc (iList K (tVar 0)) (gName 1) tYes (tCall (sp_minus K C) [] E0 (tCons (tC (.ref pNOUGHT)) (tCons (tVar 1) tNil))) [1]))
abbrev n_turned_about : List Str := ["row", "part"]
/-- Board.__init__: self hoist body row r other -/
def t_Board_init (K : PySem.W.Frag) (C : Addr) : TS := (tSeq (sFld K (tVar 0) (xLen K (tFld K (tVar 1) "table")) "ropes") (tSeq (sFld K (tVar 0) (xLen K (tFld K (tVar 1) "heavy")) "bodies") (tSeq (sFld K (tVar 0) (tLst tNil) "rows") (tSeq (tFor (iRng1 (tCons (tFld K (tVar 0) "bodies") tNil)) (gName 2) (tSeq (tAsg (tLc (iRng1 (tCons (tFld K (tVar 0) "ropes") tNil)) (gName 4) tYes (tTup (tCons (xIdx K (xIdx K (tFld K (tVar 1) "table") (tVar 4)) (tVar 2)) (tCons (tC (.int 1)) tNil))) [4]) (gName 3)) (tSeq (tAsg (xCat (tVar 3) (tLc (iRng1 (tCons (tFld K (tVar 0) "bodies") tNil)) (gName 5) tYes (tTup (tCons (xInt (xEq K (tVar 5) (tVar 2))) (tCons (tC (.int 1)) tNil))) [5])) (gName 3)) (tDrop (tBM K "list" rAppend (tFld K (tVar 0) "rows") (tCons (xCat (tVar 3) (tLst (tCons (tTup (tCons (xIdx K (tFld K (tVar 1) "heavy") (tVar 2)) (tCons (tC (.int 1)) tNil))) tNil))) tNil)))))) (tSeq (sFld K (tVar 0) (tLc (iRng1 (tCons (tFld K (tVar 0) "bodies") tNil)) (gName 2) tYes (xAdd (tFld K (tVar 0) "ropes") (tVar 2)) [2]) "held") (sFld K (tVar 0) (tLst tNil) "aim"))))))
abbrev n_Board_init : List Str := ["self", "hoist", "body", "row", "r", "other"]
/-- Board.price: self costs r -/
def t_Board_price (K : PySem.W.Frag) (C : Addr) (pNOUGHT : Addr) : TS := (tSeq (sFld K (tVar 0) (xCat (tVar 1) (tLst (tCons (tC (.ref pNOUGHT)) tNil))) "aim") (tFor (iRng1 (tCons (tFld K (tVar 0) "bodies") tNil)) (gName 2) (sFld K (tVar 0) (tCall (sp_taken K C) [] E0 (tCons (tFld K (tVar 0) "aim") (tCons (xIdx K (tFld K (tVar 0) "rows") (tVar 2)) (tCons (xIdx K (tVar 1) (xIdx K (tFld K (tVar 0) "held") (tVar 2))) tNil)))) "aim")))
abbrev n_Board_price : List Str := ["self", "costs", "r"]
/-- Board.turn: self r column part base here other -/
def t_Board_turn (K : PySem.W.Frag) (C : Addr) : TS := (tSeq (tAsg (xIdx K (xIdx K (tFld K (tVar 0) "rows") (tVar 1)) (tVar 2)) (gName 3)) (tSeq (tAsg (tLc (iList K (xIdx K (tFld K (tVar 0) "rows") (tVar 1))) (gName 5) tYes (tCall (sp_over K C) [] E0 (tCons (tVar 5) (tCons (tVar 3) tNil))) [5]) (gName 4)) (tSeq (tAsg (tVar 4) (gSub (tFld K (tVar 0) "rows") (tVar 1) rSetL)) (tSeq (tFor (iRng1 (tCons (tFld K (tVar 0) "bodies") tNil)) (gName 6) (tIfS (tB (xNe K (tVar 6) (tVar 1))) (tAsg (tCall (sp_taken K C) [] E0 (tCons (xIdx K (tFld K (tVar 0) "rows") (tVar 6)) (tCons (tVar 4) (tCons (xIdx K (xIdx K (tFld K (tVar 0) "rows") (tVar 6)) (tVar 2)) tNil)))) (gSub (tFld K (tVar 0) "rows") (tVar 6) rSetL)) tNext)) (tSeq (tIfS (tB (xNe K (tFld K (tVar 0) "aim") (tLst tNil))) (sFld K (tVar 0) (tCall (sp_taken K C) [] E0 (tCons (tFld K (tVar 0) "aim") (tCons (tVar 4) (tCons (xIdx K (tFld K (tVar 0) "aim") (tVar 2)) tNil)))) "aim") tNext) (tAsg (tVar 2) (gSub (tFld K (tVar 0) "held") (tVar 1) rSetL)))))))
abbrev n_Board_turn : List Str := ["self", "r", "column", "part", "base", "here", "other"]
/-- Board.leaving: self column best r far -/
def t_Board_leaving (K : PySem.W.Frag) (C : Addr) (pNOUGHT : Addr) : TS := (tSeq (tAsg (tC .non) (gName 2)) (tSeq (tFor (iRng1 (tCons (tFld K (tVar 0) "bodies") tNil)) (gName 3) (tIfS (tB (tCall (sp_less K C) [] E0 (tCons (tC (.ref pNOUGHT)) (tCons (xIdx K (xIdx K (tFld K (tVar 0) "rows") (tVar 3)) (tVar 1)) tNil)))) (tSeq (tAsg (tCall (sp_over K C) [] E0 (tCons (xIdx K (xIdx K (tFld K (tVar 0) "rows") (tVar 3)) (xNeg (tC (.int 1)))) (tCons (xIdx K (xIdx K (tFld K (tVar 0) "rows") (tVar 3)) (tVar 1)) tNil))) (gName 4)) (tIfS (tOr (tB (xIsN (tVar 2))) (tOr (tB (tCall (sp_less K C) [] E0 (tCons (tVar 4) (tCons (xIdx K (tVar 2) (tC (.int 0))) tNil)))) (tAnd (tB (xEq K (tVar 4) (xIdx K (tVar 2) (tC (.int 0))))) (tB (xLt (xIdx K (tFld K (tVar 0) "held") (tVar 3)) (xIdx K (tFld K (tVar 0) "held") (xIdx K (tVar 2) (tC (.int 1))))))))) (tAsg (tTup (tCons (tVar 4) (tCons (tVar 3) tNil))) (gName 2)) tNext)) tNext)) (tRet (xIdx K (tVar 2) (tC (.int 1))))))
abbrev n_Board_leaving : List Str := ["self", "column", "best", "r", "far"]
/-- Board.go: self column -/
def t_Board_go (K : PySem.W.Frag) (C : Addr) (B : Addr) : TS := (tWhile (tB (tC (.bl true))) (tSeq (tAsg (tCall (sp_below K C) [] E0 (tCons (tSl (rSlL K) (tFld K (tVar 0) "aim") tNoPart (tPart (tFld K (tVar 0) "ropes"))) tNil)) (gName 1)) (tSeq (tIfS (tB (xIsN (tVar 1))) tRetN tNext) (tDrop (tMeth B "turn" (sp_Board_turn K C B) [] E0 (tVar 0) (tCons (tMeth B "leaving" (sp_Board_leaving K C B) [] E0 (tVar 0) (tCons (tVar 1) tNil)) (tCons (tVar 1) tNil)))))))
abbrev n_Board_go : List Str := ["self", "column"]
/-- Board.pulls: self found r -/
def t_Board_pulls (K : PySem.W.Frag) (C : Addr) (pNOUGHT : Addr) : TS := (tSeq (tAsg (tLc (iRng1 (tCons (tFld K (tVar 0) "ropes") tNil)) (gName 2) tYes (tC (.ref pNOUGHT)) [2]) (gName 1)) (tSeq (tFor (iRng1 (tCons (tFld K (tVar 0) "bodies") tNil)) (gName 2) (tIfS (tB (xLt (xIdx K (tFld K (tVar 0) "held") (tVar 2)) (tFld K (tVar 0) "ropes"))) (tAsg (xIdx K (xIdx K (tFld K (tVar 0) "rows") (tVar 2)) (xNeg (tC (.int 1)))) (gSub (tVar 1) (xIdx K (tFld K (tVar 0) "held") (tVar 2)) rSetL)) tNext)) (tRet (tVar 1))))
abbrev n_Board_pulls : List Str := ["self", "found", "r"]
/-- Board.worths: self cost body -/
def t_Board_worths (K : PySem.W.Frag) (C : Addr) : TS := (tRet (tLc (iRng1 (tCons (tFld K (tVar 0) "bodies") tNil)) (gName 2) tYes (tCall (sp_minus K C) [] E0 (tCons (tVar 1) (tCons (xIdx K (tFld K (tVar 0) "aim") (xAdd (tFld K (tVar 0) "ropes") (tVar 2))) tNil))) [2]))
abbrev n_Board_worths : List Str := ["self", "cost", "body"]
/-- first_board: hoist board r body -/
def t_first_board (K : PySem.W.Frag) (C : Addr) (B : Addr) (pNOUGHT : Addr) (pONE : Addr) : TS := (tSeq (tAsg (tMake B (sp_Board_init K C B) [] E0 (tCons (tVar 0) tNil)) (gName 1)) (tSeq (tDrop (tMeth B "price" (sp_Board_price K C B) [] E0 (tVar 1) (tCons (xCat (tLc (iRng1 (tCons (tFld K (tVar 1) "ropes") tNil)) (gName 2) tYes (tC (.ref pNOUGHT)) [2]) (tLc (iRng1 (tCons (tFld K (tVar 1) "bodies") tNil)) (gName 3) tYes (tC (.ref pONE)) [3])) tNil))) (tSeq (tDrop (tMeth B "go" (sp_Board_go K C B) [] E0 (tVar 1) tNil)) (tRet (tVar 1)))))
abbrev n_first_board : List Str := ["hoist", "board", "r", "body"]
/-- judged: hoist board -/
def t_judged (K : PySem.W.Frag) (C : Addr) (B : Addr) (pNOUGHT : Addr) (pONE : Addr) : TS := (tSeq (tAsg (tCall (sp_first_board K C B) [] E0 (tCons (tVar 0) tNil)) (gName 1)) (tSeq (tIfS (tB (xNe K (xIdx K (tFld K (tVar 1) "aim") (xNeg (tC (.int 1)))) (tC (.ref pNOUGHT)))) (tRet (tTup (tCons (tC (.str "sinks")) (tCons (tCall (sp_turned_about K C) [] E0 (tCons (tMeth B "worths" (sp_Board_worths K C B) [] E0 (tVar 1) (tCons (tC (.ref pONE)) tNil)) tNil)) tNil)))) tNext) (tRet (tTup (tCons (tC (.str "still")) (tCons (tMeth B "pulls" (sp_Board_pulls K C B) [] E0 (tVar 1) tNil) tNil))))))
abbrev n_judged : List Str := ["hoist", "board"]
end Hw
namespace Hw
open PySem L2
local macro_rules | `(tactic| walk_at "sd") => `(tactic| first
  | exact rfl
  | decide +kernel
  | (exact Nat.le_of_ble_eq_true rfl)
  | assumption
  | (exact Sz.mono (by assumption) (by decide))
  | decide
  | omega
  | (exact eraAll_map _ _ (fun _ => rfl) _)
  | (exact frAll_map _ (fun _ => rfl) _)
  | exact EqD.frac
  | exact EqD.int
  | exact EqD.bl
  | exact EqD.pair
  | skip)
local macro_rules | `(tactic| walk_at "R") => `(tactic| first
  | (with_reducible apply rc_common) <;> walk_at "sd"
  | (with_reducible apply rc_fraction) <;> walk_at "sd"
  | (with_reducible apply rc_plus) <;> walk_at "sd"
  | (with_reducible apply rc_minus) <;> walk_at "sd"
  | (with_reducible apply rc_times) <;> walk_at "sd"
  | (with_reducible apply rc_over) <;> walk_at "sd"
  | (with_reducible apply rc_less) <;> walk_at "sd"
  | (with_reducible apply rc_cell) <;> walk_at "sd"
  | (with_reducible apply rc_whole) <;> walk_at "sd"
  | (with_reducible apply rc_low) <;> walk_at "sd"
  | (with_reducible apply rc_part) <;> walk_at "sd"
  | (with_reducible apply rc_lfraction) <;> walk_at "sd")
local macro_rules | `(tactic| walk_at "evD") => `(tactic| first
  | with_reducible exact ed_int
  | with_reducible exact ed_bl
  | with_reducible exact ed_non
  | with_reducible exact ed_str
  | (with_reducible apply ed_var) <;> walk_at "go"
  | (with_reducible apply ed_add) <;> walk_at "go"
  | (with_reducible apply ed_sub) <;> walk_at "go"
  | (with_reducible apply ed_mul) <;> walk_at "go"
  | (with_reducible apply ed_div) <;> walk_at "go"
  | (with_reducible apply ed_mod) <;> walk_at "go"
  | (with_reducible apply ed_pow) <;> walk_at "go"
  | (with_reducible apply ed_neg) <;> walk_at "go"
  | (with_reducible apply ed_lt) <;> walk_at "go"
  | (with_reducible apply ed_le) <;> walk_at "go"
  | (with_reducible apply ed_gt) <;> walk_at "go"
  | (with_reducible apply ed_ge) <;> walk_at "go"
  | (with_reducible apply ed_leLt) <;> walk_at "go"
  | (with_reducible apply ed_leLe) <;> walk_at "go"
  | (with_reducible apply ed_ltLt) <;> walk_at "go"
  | (with_reducible apply ed_eq) <;> walk_at "go"
  | (with_reducible apply ed_ne) <;> walk_at "go"
  | (with_reducible apply ed_idxT) <;> walk_at "go"
  | (with_reducible apply ed_idxS) <;> walk_at "go"
  | (with_reducible apply ed_idxScr) <;> walk_at "go"
  | (with_reducible apply ed_lenS) <;> walk_at "go"
  | (with_reducible apply ed_lenT) <;> walk_at "go"
  | (with_reducible apply ed_lenScr) <;> walk_at "go"
  | (with_reducible apply ed_abs) <;> walk_at "go"
  | (with_reducible apply ed_intI) <;> walk_at "go"
  | (with_reducible apply ed_intB) <;> walk_at "go"
  | (with_reducible apply ed_intS) <;> walk_at "go"
  | (with_reducible apply ed_andV) <;> walk_at "go"
  | (with_reducible apply ed_orV) <;> walk_at "go"
  | (with_reducible apply ed_notV) <;> walk_at "go"
  | (with_reducible apply ed_tup) <;> walk_at "go"
  | (with_reducible apply ev_call) <;> walk_at "go"
  | (with_reducible apply ed_isi) <;> walk_at "go"
  | (with_reducible apply ed_catS) <;> walk_at "go"
  | (with_reducible apply ed_repS) <;> walk_at "go"
  | (with_reducible apply EvL.dat) <;> walk_at "go")
local macro_rules | `(tactic| walk_at "evR") => `(tactic| first
  | (with_reducible apply EvD.r) <;> walk_at "go"
  | (with_reducible apply EvS.r) <;> walk_at "go")
local macro_rules | `(tactic| walk_at "evS") => `(tactic| first
  | (with_reducible apply es_own) <;> walk_at "go"
  | (with_reducible apply EvD.s) <;> walk_at "go"
  | (with_reducible apply EvL.s) <;> walk_at "go")
local macro_rules | `(tactic| walk_at "evL") => `(tactic| first
  | (with_reducible apply el_lst) <;> walk_at "go"
  | (with_reducible apply ev_callL) <;> walk_at "go")
local macro_rules | `(tactic| walk_at "evA") => `(tactic| first
  | with_reducible exact ea_nil
  | (with_reducible apply ea_cons) <;> walk_at "go")
local macro_rules | `(tactic| walk_at "evQ") => `(tactic| first
  | with_reducible exact eq_nil
  | (with_reducible apply eq_cons) <;> walk_at "go")
local macro_rules | `(tactic| walk_at "evB") => `(tactic| first
  | (with_reducible apply eb_and) <;> walk_at "go"
  | (with_reducible apply eb_or) <;> walk_at "go"
  | (with_reducible apply eb_not) <;> walk_at "go"
  | (with_reducible apply eb_val) <;> walk_at "go")
local macro_rules | `(tactic| walk_at "era") => `(tactic| first
  | ((simp only [eraAll, D.era, era_dF, era_dP, era_dFs, era_dI, era_dS, era_dPs, era_dRows, era_dRopes]); done)
  | ((simp only [eraAll, D.era, era_dF, era_dP, era_dFs, era_dI, era_dS, era_dPs, era_dRows, era_dRopes]); exact rfl))
local macro_rules | `(tactic| walk_at "frs") => `(tactic| first
  | exact rfl
  | exact fr_dFs _
  | exact fr_dI _
  | exact fr_dS _
  | exact fr_dPs _
  | exact fr_dRows _
  | exact fr_dRopes _
  | (simp only [frAll, D.fr, fr_dFs, fr_dI, fr_dS, fr_dPs, fr_dRows, fr_dRopes, decide_true, Bool.and_true, Bool.true_and]; done))
local macro_rules | `(tactic| walk_at "go") => `(tactic| first
  | ((with_reducible show eraAll _ = _); walk_at "era")
  | ((with_reducible show D.fr _ = true); walk_at "frs")
  | ((with_reducible show frAll _ = true); walk_at "frs")
  | ((with_reducible show _ = some (Cell.dat _)); exact rfl)
  | ((with_reducible show _ = some (Cell.own _)); exact rfl)
  | ((with_reducible show D.tn _ = some _); exact rfl)
  | ((with_reducible show atI _ _ = some _); first | exact rfl | assumption)
  | ((with_reducible show EvD _ _ _ _ _); walk_at "evD")
  | ((with_reducible show EvR _ _ _ _ _); walk_at "evR")
  | ((with_reducible show EvS _ _ _ _ _); walk_at "evS")
  | ((with_reducible show EvL _ _ _ _ _); walk_at "evL")
  | ((with_reducible show EvA _ _ _ _ _); walk_at "evA")
  | ((with_reducible show EvAD _ _ _ _ _); walk_at "evQ")
  | ((with_reducible show EvB _ _ _ _ _); walk_at "evB")
  | ((with_reducible show _ = _ → _); intro hv; walk_at "go")
  | ((fail_if_success (with_reducible show EvD _ _ _ _ _)); (fail_if_success (with_reducible show EvR _ _ _ _ _)); (fail_if_success (with_reducible show EvS _ _ _ _ _)); (fail_if_success (with_reducible show EvL _ _ _ _ _)); (fail_if_success (with_reducible show EvA _ _ _ _ _)); (fail_if_success (with_reducible show EvAD _ _ _ _ _)); (fail_if_success (with_reducible show EvB _ _ _ _ _)); (fail_if_success (with_reducible show _ = some (Cell.dat _))); (fail_if_success (with_reducible show _ = some (Cell.own _))); (fail_if_success (with_reducible show atI _ _ = some _)); (fail_if_success (with_reducible show D.tn _ = some _)); (fail_if_success (with_reducible show eraAll _ = _)); (fail_if_success (with_reducible show D.fr _ = true)); (fail_if_success (with_reducible show frAll _ = true)); first | walk_at "R" | walk_at "sd"))
local macro_rules | `(tactic| walk_at "len") => `(tactic| first
  | exact (by decide)
  | (simp; done)
  | omega)
local macro_rules | `(tactic| walk_at "st") => `(tactic| first
  | ((with_reducible show At _ _ _ _ _ _); try dsimp only [List.set])
  | ((with_reducible show _ = _ → At _ _ _ _ _ _); intro hb)
  | ((with_reducible show _ < _); walk_at "len")
  | walk_at "go")
local macro_rules | `(tactic| walk_at "asg") => `(tactic| first
  | (with_reducible apply sq_asg) <;> walk_at "st"
  | (with_reducible apply at_asg) <;> walk_at "st")
local macro_rules | `(tactic| walk_at "asgL") => `(tactic| first
  | (with_reducible apply sq_asgL) <;> walk_at "st"
  | (with_reducible apply at_asgL) <;> walk_at "st")
local macro_rules | `(tactic| walk_at "app") => `(tactic| first
  | (with_reducible apply sq_append) <;> walk_at "st"
  | (with_reducible apply at_append) <;> walk_at "st")
local macro_rules | `(tactic| walk_at "ret") => `(tactic| first
  | (with_reducible apply at_ret) <;> walk_at "st")
local macro_rules | `(tactic| walk_at "when") => `(tactic| first
  | (with_reducible apply sq_when) <;> walk_at "st"
  | (with_reducible apply at_when) <;> walk_at "st")
local macro_rules | `(tactic| walk_at "if") => `(tactic| first
  | (with_reducible apply sq_if) <;> walk_at "st"
  | (with_reducible apply at_if) <;> walk_at "st")
local macro_rules | `(tactic| walk_at "fd") => `(tactic| first
  | exact rfl
  | assumption)
local macro_rules | `(tactic| walk_at "R") => `(tactic| first
  | (with_reducible apply rc_see_pairs) <;> walk_at "sd"
  | (with_reducible apply rc_hsum) <;> walk_at "sd"
  | (with_reducible apply rc_table) <;> walk_at "sd"
  | (with_reducible apply rc_lropes) <;> walk_at "sd"
  | (with_reducible apply rc_summedp) <;> walk_at "sd"
  | (with_reducible apply rc_lifted) <;> walk_at "sd"
  | (with_reducible apply rc_holds) <;> walk_at "sd"
  | (with_reducible apply rc_spare) <;> walk_at "sd"
  | (with_reducible apply rc_gain) <;> walk_at "sd"
  | (with_reducible apply rc_is_let) <;> walk_at "sd"
  | (with_reducible apply rc_lsum) <;> walk_at "sd"
  | (with_reducible apply rc_lspare) <;> walk_at "sd"
  | (with_reducible apply rc_held) <;> walk_at "sd"
  | (with_reducible apply rc_parts) <;> walk_at "sd"
  | (with_reducible apply rc_drawn) <;> walk_at "sd"
  | (with_reducible apply rc_lrow) <;> walk_at "sd"
  | (with_reducible apply rc_lplus) <;> walk_at "sd"
  | (with_reducible apply rc_times_int) <;> walk_at "sd"
  | (with_reducible apply rc_int_times) <;> walk_at "sd"
  | (with_reducible apply rc_less0) <;> walk_at "sd"
  | (with_reducible apply rc_init) <;> walk_at "sd")
local macro_rules | `(tactic| walk_at "evD") => `(tactic| first
  | (with_reducible apply ed_sum) <;> walk_at "go"
  | (with_reducible apply ed_min) <;> walk_at "go"
  | (with_reducible apply ed_max) <;> walk_at "go"
  | (with_reducible apply ed_heavy) <;> walk_at "go"
  | (with_reducible apply ed_table) <;> walk_at "go"
  | (with_reducible apply ed_make) <;> walk_at "go"
  | (with_reducible apply ed_meth) <;> walk_at "go"
  | (with_reducible apply ed_fldA) <;> walk_at "fd")
local macro_rules | `(tactic| walk_at "evL") => `(tactic| first
  | (with_reducible apply el_list) <;> walk_at "go"
  | (with_reducible apply el_cat) <;> walk_at "go"
  | (with_reducible apply el_rep) <;> walk_at "go"
  | (with_reducible apply el_slice) <;> walk_at "go"
  | (with_reducible apply el_meth) <;> walk_at "go")
local macro_rules | `(tactic| walk_at "evS") => `(tactic| first
  | (with_reducible apply es_fldA) <;> walk_at "fd")
local macro_rules | `(tactic| walk_at "evO") => `(tactic| first
  | with_reducible exact eo_none
  | (with_reducible apply eo_some) <;> walk_at "go")
local macro_rules | `(tactic| walk_at "go") => `(tactic| first
  | ((with_reducible show EvO _ _ _ _ _); walk_at "evO"))
local macro_rules | `(tactic| walk_at "fld") => `(tactic| first
  | (with_reducible apply sq_fld) <;> walk_at "st"
  | (with_reducible apply at_fld) <;> walk_at "st")
local macro_rules | `(tactic| walk_at "fldL") => `(tactic| first
  | (with_reducible apply sq_fldL) <;> walk_at "st"
  | (with_reducible apply at_fldL) <;> walk_at "st")
local macro_rules | `(tactic| walk_at "drop") => `(tactic| first
  | (with_reducible apply sq_drop) <;> walk_at "st"
  | (with_reducible apply at_drop) <;> walk_at "st")
section
variable {K : PySem.W.Frag} {C B pN pO : Addr}
theorem rc_below {row : List Rat} {d : D} (h : SzL 4000 row) (hl : row.length ≤ 1000) (e : d = match belowF row with | some c => .int (c : Int) | none => .non) : R_below [.lst .x (dFs row)] d := ⟨row, h, hl, rfl, e⟩
theorem rc_taken {row base : List Rat} {f : Rat} (h1 : SzL 1000 row) (h2 : SzL 1000 base) (h3 : Sz 1000 f) (h4 : base.length = row.length) (h5 : row.length ≤ 1000) : R_taken [.lst .x (dFs row), .lst .x (dFs base), dF f] (dFs (takenF row base f)) := ⟨row, base, f, h1, h2, h3, h4, h5, rfl, rfl⟩
theorem rc_turned {row : List Rat} (h : SzL 3000 row) (hl : row.length ≤ 1000) : R_turned [.lst .x (dFs row)] (dFs (row.map fun p => 0 - p)) := ⟨row, h, hl, rfl, rfl⟩
theorem sz0 {n : Nat} (h : 0 < n) : Sz n (0 : Rat) := Sz.mono (m := 1) ⟨by decide, by decide⟩ h
theorem sz1 {n : Nat} (h : 0 < n) : Sz n (1 : Rat) := Sz.mono (m := 1) ⟨by decide, by decide⟩ h
theorem p_below (hN : IsN K pN) : Body (t_below K C pN) n_below (sp_below K C) := by
  rintro vs H Q E ⟨ds, d, r, ⟨row, hz, hl, rfl, rfl⟩, k⟩
  refine start_at r (n := 1) (by rw [r.length]; rfl) ?_
  unfold t_below
  refine sq_forN (n := row.length) (EvA.to (by walk_at "evA") (by simp)) (by omega) (fun i ρ' => (∀ j, j < i → ¬ row.getD j 0 < 0) ∧ ∃ c, ρ' = [.dat (.lst .x (dFs row)), c]) ⟨by omega, _, rfl⟩ (by rintro i ρ' ⟨_, _, rfl⟩; simp) ?_ ?_
  · rintro i ρ' hi ⟨hI, c, rfl⟩
    dsimp only [List.set]
    have s1 : Sz 4000 (row.getD i 0) := hz _ (getD_mem hi)
    have a1 : atI (dFs row) (i : Int) = some (dF (row.getD i 0)) := atI_map 0 hi
    refine at_when (eb_val (ev_call (ea_cons (by walk_at "evR") (ea_cons (ed_nought hN).r ea_nil)) (by walk_at "era") (rc_less s1 (sz0 (by decide))) rfl)) ?_ ?_
    · intro hb
      have hb' : row.getD i 0 < 0 := of_decide_eq_true hb
      have e : belowF row = some i := by
        unfold belowF
        rw [List.find?_range_eq_some]
        exact ⟨decide_eq_true hb', by simpa using hi, fun j hj => by simpa using hI j hj⟩
      rw [e] at k
      walk_at "ret"
    · intro hb
      exact at_gx ⟨fun j hj => by
        by_cases z : j = i
        · rw [z]; exact of_decide_eq_false hb
        · exact hI j (by omega), _, rfl⟩
  · rintro ρ' ⟨hI, c, rfl⟩
    have e : belowF row = none := by
      unfold belowF
      rw [List.find?_eq_none]
      intro j hj
      simpa using hI j (List.mem_range.mp hj)
    rw [e] at k
    walk_at "ret"
theorem p_taken : Body (t_taken K C) n_taken (sp_taken K C) := by
  rintro vs H Q E ⟨ds, xs, r, ⟨row, base, f, h1, h2, h3, h4, h5, rfl, rfl⟩, k⟩
  refine start_at r (n := 1) (by rw [r.length]; rfl) ?_
  unfold t_taken
  refine at_retL (fun _ => rfl) (EvL.to (el_lcN (n := row.length) (g := fun c => dF (row.getD c 0 - base.getD c 0 * f)) (EvA.to (by walk_at "evA") (by simp)) (by omega) (by simp [uns]) fun i hi => ?_) (by simp [takenF])) k
  simp only [List.map, uns, List.cons_append, List.nil_append, List.set]
  have a1 : atI (dFs row) (i : Int) = some (dF (row.getD i 0)) := atI_map 0 hi
  have a2 : atI (dFs base) (i : Int) = some (dF (base.getD i 0)) := atI_map 0 (by omega)
  have s1 : Sz 4000 (row.getD i 0) := (h1 _ (getD_mem hi)).mono (by decide)
  have s2 : Sz 4000 (base.getD i 0) := (h2 _ (getD_mem (by omega))).mono (by decide)
  have s3 : Sz 4000 f := h3.mono (by decide)
  have s4 : Sz 4000 (base.getD i 0 * f) := ((h2 _ (getD_mem (by omega))).mul h3).mono (by decide)
  walk_at "evD"
theorem p_turned_about (hN : IsN K pN) : Body (t_turned_about K C pN) n_turned_about (sp_turned_about K C) := by
  rintro vs H Q E ⟨ds, xs, r, ⟨row, h1, h5, rfl, rfl⟩, k⟩
  refine start_at r (n := 1) (by rw [r.length]; rfl) ?_
  unfold t_turned_about
  refine at_retL (fun _ => rfl) (EvL.to (el_lcMap (as := row) (f := dF) (g := fun p => dF (0 - p)) (m := .x) (by walk_at "evD") (by omega) (by simp [uns]) fun p hp => ?_) (by simp)) k
  simp only [List.map, uns, List.cons_append, List.nil_append, List.set]
  have s1 : Sz 4000 p := (h1 _ hp).mono (by decide)
  exact ev_call (ea_cons (ed_nought hN).r (ea_cons (by walk_at "evR") ea_nil)) (by walk_at "era") (rc_minus (sz0 (by decide)) s1) rfl
end
end Hw
namespace Hw
open PySem L2
local macro_rules | `(tactic| walk_at "sd") => `(tactic| first
  | exact rfl
  | decide +kernel
  | (exact Nat.le_of_ble_eq_true rfl)
  | assumption
  | (exact Sz.mono (by assumption) (by decide))
  | decide
  | omega
  | (exact eraAll_map _ _ (fun _ => rfl) _)
  | (exact frAll_map _ (fun _ => rfl) _)
  | exact EqD.frac
  | exact EqD.int
  | exact EqD.bl
  | exact EqD.pair
  | skip)
local macro_rules | `(tactic| walk_at "R") => `(tactic| first
  | (with_reducible apply rc_common) <;> walk_at "sd"
  | (with_reducible apply rc_fraction) <;> walk_at "sd"
  | (with_reducible apply rc_plus) <;> walk_at "sd"
  | (with_reducible apply rc_minus) <;> walk_at "sd"
  | (with_reducible apply rc_times) <;> walk_at "sd"
  | (with_reducible apply rc_over) <;> walk_at "sd"
  | (with_reducible apply rc_less) <;> walk_at "sd"
  | (with_reducible apply rc_cell) <;> walk_at "sd"
  | (with_reducible apply rc_whole) <;> walk_at "sd"
  | (with_reducible apply rc_low) <;> walk_at "sd"
  | (with_reducible apply rc_part) <;> walk_at "sd"
  | (with_reducible apply rc_lfraction) <;> walk_at "sd")
local macro_rules | `(tactic| walk_at "evD") => `(tactic| first
  | with_reducible exact ed_int
  | with_reducible exact ed_bl
  | with_reducible exact ed_non
  | with_reducible exact ed_str
  | (with_reducible apply ed_var) <;> walk_at "go"
  | (with_reducible apply ed_add) <;> walk_at "go"
  | (with_reducible apply ed_sub) <;> walk_at "go"
  | (with_reducible apply ed_mul) <;> walk_at "go"
  | (with_reducible apply ed_div) <;> walk_at "go"
  | (with_reducible apply ed_mod) <;> walk_at "go"
  | (with_reducible apply ed_pow) <;> walk_at "go"
  | (with_reducible apply ed_neg) <;> walk_at "go"
  | (with_reducible apply ed_lt) <;> walk_at "go"
  | (with_reducible apply ed_le) <;> walk_at "go"
  | (with_reducible apply ed_gt) <;> walk_at "go"
  | (with_reducible apply ed_ge) <;> walk_at "go"
  | (with_reducible apply ed_leLt) <;> walk_at "go"
  | (with_reducible apply ed_leLe) <;> walk_at "go"
  | (with_reducible apply ed_ltLt) <;> walk_at "go"
  | (with_reducible apply ed_eq) <;> walk_at "go"
  | (with_reducible apply ed_ne) <;> walk_at "go"
  | (with_reducible apply ed_idxT) <;> walk_at "go"
  | (with_reducible apply ed_idxS) <;> walk_at "go"
  | (with_reducible apply ed_idxScr) <;> walk_at "go"
  | (with_reducible apply ed_lenS) <;> walk_at "go"
  | (with_reducible apply ed_lenT) <;> walk_at "go"
  | (with_reducible apply ed_lenScr) <;> walk_at "go"
  | (with_reducible apply ed_abs) <;> walk_at "go"
  | (with_reducible apply ed_intI) <;> walk_at "go"
  | (with_reducible apply ed_intB) <;> walk_at "go"
  | (with_reducible apply ed_intS) <;> walk_at "go"
  | (with_reducible apply ed_andV) <;> walk_at "go"
  | (with_reducible apply ed_orV) <;> walk_at "go"
  | (with_reducible apply ed_notV) <;> walk_at "go"
  | (with_reducible apply ed_tup) <;> walk_at "go"
  | (with_reducible apply ev_call) <;> walk_at "go"
  | (with_reducible apply ed_isi) <;> walk_at "go"
  | (with_reducible apply ed_catS) <;> walk_at "go"
  | (with_reducible apply ed_repS) <;> walk_at "go"
  | (with_reducible apply EvL.dat) <;> walk_at "go")
local macro_rules | `(tactic| walk_at "evR") => `(tactic| first
  | (with_reducible apply EvD.r) <;> walk_at "go"
  | (with_reducible apply EvS.r) <;> walk_at "go")
local macro_rules | `(tactic| walk_at "evS") => `(tactic| first
  | (with_reducible apply es_own) <;> walk_at "go"
  | (with_reducible apply EvD.s) <;> walk_at "go"
  | (with_reducible apply EvL.s) <;> walk_at "go")
local macro_rules | `(tactic| walk_at "evL") => `(tactic| first
  | (with_reducible apply el_lst) <;> walk_at "go"
  | (with_reducible apply ev_callL) <;> walk_at "go")
local macro_rules | `(tactic| walk_at "evA") => `(tactic| first
  | with_reducible exact ea_nil
  | (with_reducible apply ea_cons) <;> walk_at "go")
local macro_rules | `(tactic| walk_at "evQ") => `(tactic| first
  | with_reducible exact eq_nil
  | (with_reducible apply eq_cons) <;> walk_at "go")
local macro_rules | `(tactic| walk_at "evB") => `(tactic| first
  | (with_reducible apply eb_and) <;> walk_at "go"
  | (with_reducible apply eb_or) <;> walk_at "go"
  | (with_reducible apply eb_not) <;> walk_at "go"
  | (with_reducible apply eb_val) <;> walk_at "go")
local macro_rules | `(tactic| walk_at "era") => `(tactic| first
  | ((simp only [eraAll, D.era, era_dF, era_dP, era_dFs, era_dI, era_dS, era_dPs, era_dRows, era_dRopes]); done)
  | ((simp only [eraAll, D.era, era_dF, era_dP, era_dFs, era_dI, era_dS, era_dPs, era_dRows, era_dRopes]); exact rfl))
local macro_rules | `(tactic| walk_at "frs") => `(tactic| first
  | exact rfl
  | exact fr_dFs _
  | exact fr_dI _
  | exact fr_dS _
  | exact fr_dPs _
  | exact fr_dRows _
  | exact fr_dRopes _
  | (simp only [frAll, D.fr, fr_dFs, fr_dI, fr_dS, fr_dPs, fr_dRows, fr_dRopes, decide_true, Bool.and_true, Bool.true_and]; done))
local macro_rules | `(tactic| walk_at "go") => `(tactic| first
  | ((with_reducible show eraAll _ = _); walk_at "era")
  | ((with_reducible show D.fr _ = true); walk_at "frs")
  | ((with_reducible show frAll _ = true); walk_at "frs")
  | ((with_reducible show _ = some (Cell.dat _)); exact rfl)
  | ((with_reducible show _ = some (Cell.own _)); exact rfl)
  | ((with_reducible show D.tn _ = some _); exact rfl)
  | ((with_reducible show atI _ _ = some _); first | exact rfl | assumption)
  | ((with_reducible show EvD _ _ _ _ _); walk_at "evD")
  | ((with_reducible show EvR _ _ _ _ _); walk_at "evR")
  | ((with_reducible show EvS _ _ _ _ _); walk_at "evS")
  | ((with_reducible show EvL _ _ _ _ _); walk_at "evL")
  | ((with_reducible show EvA _ _ _ _ _); walk_at "evA")
  | ((with_reducible show EvAD _ _ _ _ _); walk_at "evQ")
  | ((with_reducible show EvB _ _ _ _ _); walk_at "evB")
  | ((with_reducible show _ = _ → _); intro hv; walk_at "go")
  | ((fail_if_success (with_reducible show EvD _ _ _ _ _)); (fail_if_success (with_reducible show EvR _ _ _ _ _)); (fail_if_success (with_reducible show EvS _ _ _ _ _)); (fail_if_success (with_reducible show EvL _ _ _ _ _)); (fail_if_success (with_reducible show EvA _ _ _ _ _)); (fail_if_success (with_reducible show EvAD _ _ _ _ _)); (fail_if_success (with_reducible show EvB _ _ _ _ _)); (fail_if_success (with_reducible show _ = some (Cell.dat _))); (fail_if_success (with_reducible show _ = some (Cell.own _))); (fail_if_success (with_reducible show atI _ _ = some _)); (fail_if_success (with_reducible show D.tn _ = some _)); (fail_if_success (with_reducible show eraAll _ = _)); (fail_if_success (with_reducible show D.fr _ = true)); (fail_if_success (with_reducible show frAll _ = true)); first | walk_at "R" | walk_at "sd"))
local macro_rules | `(tactic| walk_at "len") => `(tactic| first
  | exact (by decide)
  | (simp; done)
  | omega)
local macro_rules | `(tactic| walk_at "st") => `(tactic| first
  | ((with_reducible show At _ _ _ _ _ _); try dsimp only [List.set])
  | ((with_reducible show _ = _ → At _ _ _ _ _ _); intro hb)
  | ((with_reducible show _ < _); walk_at "len")
  | walk_at "go")
local macro_rules | `(tactic| walk_at "asg") => `(tactic| first
  | (with_reducible apply sq_asg) <;> walk_at "st"
  | (with_reducible apply at_asg) <;> walk_at "st")
local macro_rules | `(tactic| walk_at "asgL") => `(tactic| first
  | (with_reducible apply sq_asgL) <;> walk_at "st"
  | (with_reducible apply at_asgL) <;> walk_at "st")
local macro_rules | `(tactic| walk_at "app") => `(tactic| first
  | (with_reducible apply sq_append) <;> walk_at "st"
  | (with_reducible apply at_append) <;> walk_at "st")
local macro_rules | `(tactic| walk_at "ret") => `(tactic| first
  | (with_reducible apply at_ret) <;> walk_at "st")
local macro_rules | `(tactic| walk_at "when") => `(tactic| first
  | (with_reducible apply sq_when) <;> walk_at "st"
  | (with_reducible apply at_when) <;> walk_at "st")
local macro_rules | `(tactic| walk_at "if") => `(tactic| first
  | (with_reducible apply sq_if) <;> walk_at "st"
  | (with_reducible apply at_if) <;> walk_at "st")
local macro_rules | `(tactic| walk_at "fd") => `(tactic| first
  | exact rfl
  | assumption)
local macro_rules | `(tactic| walk_at "R") => `(tactic| first
  | (with_reducible apply rc_see_pairs) <;> walk_at "sd"
  | (with_reducible apply rc_hsum) <;> walk_at "sd"
  | (with_reducible apply rc_table) <;> walk_at "sd"
  | (with_reducible apply rc_lropes) <;> walk_at "sd"
  | (with_reducible apply rc_summedp) <;> walk_at "sd"
  | (with_reducible apply rc_lifted) <;> walk_at "sd"
  | (with_reducible apply rc_holds) <;> walk_at "sd"
  | (with_reducible apply rc_spare) <;> walk_at "sd"
  | (with_reducible apply rc_gain) <;> walk_at "sd"
  | (with_reducible apply rc_is_let) <;> walk_at "sd"
  | (with_reducible apply rc_lsum) <;> walk_at "sd"
  | (with_reducible apply rc_lspare) <;> walk_at "sd"
  | (with_reducible apply rc_held) <;> walk_at "sd"
  | (with_reducible apply rc_parts) <;> walk_at "sd"
  | (with_reducible apply rc_drawn) <;> walk_at "sd"
  | (with_reducible apply rc_lrow) <;> walk_at "sd"
  | (with_reducible apply rc_lplus) <;> walk_at "sd"
  | (with_reducible apply rc_times_int) <;> walk_at "sd"
  | (with_reducible apply rc_int_times) <;> walk_at "sd"
  | (with_reducible apply rc_less0) <;> walk_at "sd"
  | (with_reducible apply rc_init) <;> walk_at "sd")
local macro_rules | `(tactic| walk_at "evD") => `(tactic| first
  | (with_reducible apply ed_sum) <;> walk_at "go"
  | (with_reducible apply ed_min) <;> walk_at "go"
  | (with_reducible apply ed_max) <;> walk_at "go"
  | (with_reducible apply ed_heavy) <;> walk_at "go"
  | (with_reducible apply ed_table) <;> walk_at "go"
  | (with_reducible apply ed_make) <;> walk_at "go"
  | (with_reducible apply ed_meth) <;> walk_at "go"
  | (with_reducible apply ed_fldA) <;> walk_at "fd")
local macro_rules | `(tactic| walk_at "evL") => `(tactic| first
  | (with_reducible apply el_list) <;> walk_at "go"
  | (with_reducible apply el_cat) <;> walk_at "go"
  | (with_reducible apply el_rep) <;> walk_at "go"
  | (with_reducible apply el_slice) <;> walk_at "go"
  | (with_reducible apply el_meth) <;> walk_at "go")
local macro_rules | `(tactic| walk_at "evS") => `(tactic| first
  | (with_reducible apply es_fldA) <;> walk_at "fd")
local macro_rules | `(tactic| walk_at "evO") => `(tactic| first
  | with_reducible exact eo_none
  | (with_reducible apply eo_some) <;> walk_at "go")
local macro_rules | `(tactic| walk_at "go") => `(tactic| first
  | ((with_reducible show EvO _ _ _ _ _); walk_at "evO"))
local macro_rules | `(tactic| walk_at "fld") => `(tactic| first
  | (with_reducible apply sq_fld) <;> walk_at "st"
  | (with_reducible apply at_fld) <;> walk_at "st")
local macro_rules | `(tactic| walk_at "fldL") => `(tactic| first
  | (with_reducible apply sq_fldL) <;> walk_at "st"
  | (with_reducible apply at_fldL) <;> walk_at "st")
local macro_rules | `(tactic| walk_at "drop") => `(tactic| first
  | (with_reducible apply sq_drop) <;> walk_at "st"
  | (with_reducible apply at_drop) <;> walk_at "st")
section
variable {K : PySem.W.Frag} {C B pN pO : Addr}
local macro_rules | `(tactic| walk_at "fb") => `(tactic| first | exact lk_ropes | exact lk_bodies | exact lk_rows | exact lk_held | exact lk_aim | exact rfl | assumption)
local macro_rules | `(tactic| walk_at "evD") => `(tactic| first
  | (with_reducible apply ed_fldR) <;> walk_at "fb"
  | (with_reducible apply ed_fldA) <;> walk_at "fb")
local macro_rules | `(tactic| walk_at "evS") => `(tactic| first
  | (with_reducible apply es_fldR) <;> walk_at "fb"
  | (with_reducible apply es_fldA) <;> walk_at "fb")
theorem getD_rng {α : Type} {n i : Nat} {f : Nat → α} {a : α} (h : i < n) : ((List.range n).map f).getD i a = f i := by
  rw [List.getD_eq_getElem?_getD, List.getElem?_map, List.getElem?_range h]; rfl
theorem atI_rng {α : Type} {n i : Nat} {f : Nat → α} {g : α → D} (h : i < n) : atI (((List.range n).map f).map g) (i : Int) = some (g (f i)) := atI_nat (by
  rw [List.getElem?_map, List.getElem?_map, List.getElem?_range h]; rfl)
theorem atI_rows' {mk : Mark} {n k i : Nat} {R : Nat → Nat → Rat} (h : i < n) : atI (dQ mk (rowsL n k R)) (i : Int) = some (.lst mk (dFs ((List.range (k + 1)).map (R i)))) := atI_rng (g := fun r => D.lst mk (dFs r)) h
theorem p_Board_worths (T : BoT K B) : Body (t_Board_worths K C) n_Board_worths (sp_Board_worths K C B) := by
  rintro vs H Q E ⟨a, dx, ws, l, fs, vs', ds, xs, rfl, hx, hfs, r, ⟨m, n, s, cost, q, hn, hm, hz, hq, rfl, rfl, rfl⟩, k⟩
  refine startRd (n := 1) hx hfs r (by simp [r.length]) ?_
  obtain ⟨cl, nR, nB, nW, nH, nA⟩ := T
  unfold t_Board_worths
  refine at_retL (fun _ => rfl) (EvL.to (el_lcN (n := n) (g := fun b => dF (q - aimF n cost s.h s.R (m + b))) (by walk_at "evA") (by omega) (by simp [uns]) fun b hb => ?_) (by simp)) k
  simp only [List.map, uns, List.cons_append, List.nil_append, List.set]
  have a1 : atI (dFs (aimLL n (m + n) cost s)) ((m : Int) + (b : Int)) = some (dF (aimF n cost s.h s.R (m + b))) := by
    rw [show (m : Int) + (b : Int) = ((m + b : Nat) : Int) by omega]
    exact atI_rng (by omega)
  have s1 : Sz 4000 q := hq.mono (by decide)
  have s2 : Sz 4000 (aimF n cost s.h s.R (m + b)) := (hz _ (by omega)).mono (by decide)
  walk_at "evD"
theorem pull_set {n k : Nat} {s : BSt} (hi : ∀ i, i < n → ∀ j, j < n → s.h i = s.h j → i = j) {i m : Nat} (hin : i < n) : (List.range m).map (fun c => S (i + 1) fun j => if s.h j = c then s.R j k else 0) = if s.h i < m then ((List.range m).map fun c => S i fun j => if s.h j = c then s.R j k else 0).set (s.h i) (s.R i k) else (List.range m).map fun c => S i fun j => if s.h j = c then s.R j k else 0 := by
  have off : ∀ c, c ≠ s.h i → (S (i + 1) fun j => if s.h j = c then s.R j k else 0) = S i fun j => if s.h j = c then s.R j k else 0 := fun c ne => by
    rw [S_succ, if_neg (fun z => ne z.symm)]; grind
  have on : (S (i + 1) fun j => if s.h j = s.h i then s.R j k else 0) = s.R i k := by
    rw [S_succ, if_pos rfl, S_const0 fun j hj => if_neg fun z => by
      have := hi j (by omega) i hin z
      omega]
    grind
  by_cases h : s.h i < m
  · rw [if_pos h]
    apply List.ext_getElem (by simp)
    intro c h1 h2
    rw [List.getElem_set]
    by_cases z : s.h i = c
    · rw [if_pos z]; subst z; simpa using on
    · rw [if_neg z]; simpa using off c (fun w => z w.symm)
  · rw [if_neg h]
    exact List.map_congr_left fun c hc => off c (fun z => by rw [List.mem_range] at hc; omega)
theorem p_Board_pulls (T : BoT K B) (hN : IsN K pN) : Body (t_Board_pulls K C pN) n_Board_pulls (sp_Board_pulls K C B) := by
  rintro vs H Q E ⟨a, dx, ws, l, fs, vs', ds, xs, rfl, hx, hfs, r, ⟨m, n, s, aim, OI, hn, hm, hv, rfl, rfl, rfl⟩, k⟩
  refine startRd (n := 2) hx hfs r (by simp [r.length]) ?_
  obtain ⟨cl, nR, nB, nW, nH, nA⟩ := T
  unfold t_Board_pulls
  have e0 : ((List.range m).map fun _ => dF 0) = dFs ((List.range m).map fun c => S 0 fun j => if s.h j = c then s.R j (m + n) else 0) := by simp [dFs, S_zero]
  refine sq_asgL (EvL.to (el_lcN (n := m) (g := fun _ => dF 0) (by walk_at "evA") (by omega) (by simp [uns]) fun b hb => ed_nought hN) e0) (by simp [uns]) ?_
  simp only [List.map, uns, List.cons_append, List.nil_append, List.set]
  refine sq_forN (n := n) (by walk_at "evA") (by omega) (fun i ρ' => ∃ c2, ρ' = [.rd a B (bF .x m n (rowsL n (m + n) s.R) (heldL n s.h) aim), .own (dFs ((List.range m).map fun c => S i fun j => if s.h j = c then s.R j (m + n) else 0)), c2]) ⟨_, rfl⟩ (by rintro i ρ' ⟨_, rfl⟩; simp) ?_ ?_
  · rintro i ρ' hi ⟨c2, rfl⟩
    dsimp only [List.set]
    have a1 : atI (dN (heldL n s.h)) (i : Int) = some (.int (s.h i : Int)) := atI_rng (g := fun (h : Nat) => D.int h) hi
    have a2 := atI_rows' (mk := .x) (k := m + n) (R := s.R) hi
    have a3 : atI (dFs ((List.range (m + n + 1)).map (s.R i))) (-1) = some (dF (s.R i (m + n))) := by
      unfold atI ixN
      rw [if_neg (by decide), if_pos (by simp; omega)]
      show (dFs ((List.range (m + n + 1)).map (s.R i)))[(-1 + ((dFs ((List.range (m + n + 1)).map (s.R i))).length : Int)).toNat]? = _
      rw [show (-1 + ((dFs ((List.range (m + n + 1)).map (s.R i))).length : Int)).toNat = m + n by simp; omega]
      rw [List.getElem?_map, List.getElem?_map, List.getElem?_range (by omega)]; rfl
    have ps := pull_set (m := m) (k := m + n) (s := s) (fun i hi j hj e => hv.bas.ne hi hj e) hi
    walk_at "when"
    · rename_i hb
      have hb' : s.h i < m := by simpa using hb
      rw [if_pos hb'] at ps
      refine at_setItem (n := s.h i) rfl (by walk_at "evD") (by walk_at "evR") ?_ ?_
      · unfold ixN
        rw [if_pos (by omega), if_pos (by simp; omega), Int.toNat_natCast]
      · dsimp only [List.set]
        exact at_gx ⟨_, by rw [ps]; rw [show dFs ((((List.range m).map fun c => S i fun j => if s.h j = c then s.R j (m + n) else 0)).set (s.h i) (s.R i (m + n))) = (dFs ((List.range m).map fun c => S i fun j => if s.h j = c then s.R j (m + n) else 0)).set (s.h i) (dF (s.R i (m + n))) from List.map_set]⟩
    · rename_i hb
      have hb' : ¬ s.h i < m := by simpa using hb
      rw [if_neg hb'] at ps
      exact at_gx ⟨_, by rw [ps]⟩
  · rintro ρ' ⟨c2, rfl⟩
    exact at_retOwn (fun _ => rfl) rfl k
end
end Hw
namespace Hw
open PySem L2
local macro_rules | `(tactic| walk_at "sd") => `(tactic| first
  | exact rfl
  | decide +kernel
  | (exact Nat.le_of_ble_eq_true rfl)
  | assumption
  | (exact Sz.mono (by assumption) (by decide))
  | decide
  | omega
  | (exact eraAll_map _ _ (fun _ => rfl) _)
  | (exact frAll_map _ (fun _ => rfl) _)
  | exact EqD.frac
  | exact EqD.int
  | exact EqD.bl
  | exact EqD.pair
  | skip)
local macro_rules | `(tactic| walk_at "R") => `(tactic| first
  | (with_reducible apply rc_common) <;> walk_at "sd"
  | (with_reducible apply rc_fraction) <;> walk_at "sd"
  | (with_reducible apply rc_plus) <;> walk_at "sd"
  | (with_reducible apply rc_minus) <;> walk_at "sd"
  | (with_reducible apply rc_times) <;> walk_at "sd"
  | (with_reducible apply rc_over) <;> walk_at "sd"
  | (with_reducible apply rc_less) <;> walk_at "sd"
  | (with_reducible apply rc_cell) <;> walk_at "sd"
  | (with_reducible apply rc_whole) <;> walk_at "sd"
  | (with_reducible apply rc_low) <;> walk_at "sd"
  | (with_reducible apply rc_part) <;> walk_at "sd"
  | (with_reducible apply rc_lfraction) <;> walk_at "sd")
local macro_rules | `(tactic| walk_at "evD") => `(tactic| first
  | with_reducible exact ed_int
  | with_reducible exact ed_bl
  | with_reducible exact ed_non
  | with_reducible exact ed_str
  | (with_reducible apply ed_var) <;> walk_at "go"
  | (with_reducible apply ed_add) <;> walk_at "go"
  | (with_reducible apply ed_sub) <;> walk_at "go"
  | (with_reducible apply ed_mul) <;> walk_at "go"
  | (with_reducible apply ed_div) <;> walk_at "go"
  | (with_reducible apply ed_mod) <;> walk_at "go"
  | (with_reducible apply ed_pow) <;> walk_at "go"
  | (with_reducible apply ed_neg) <;> walk_at "go"
  | (with_reducible apply ed_lt) <;> walk_at "go"
  | (with_reducible apply ed_le) <;> walk_at "go"
  | (with_reducible apply ed_gt) <;> walk_at "go"
  | (with_reducible apply ed_ge) <;> walk_at "go"
  | (with_reducible apply ed_leLt) <;> walk_at "go"
  | (with_reducible apply ed_leLe) <;> walk_at "go"
  | (with_reducible apply ed_ltLt) <;> walk_at "go"
  | (with_reducible apply ed_eq) <;> walk_at "go"
  | (with_reducible apply ed_ne) <;> walk_at "go"
  | (with_reducible apply ed_idxT) <;> walk_at "go"
  | (with_reducible apply ed_idxS) <;> walk_at "go"
  | (with_reducible apply ed_idxScr) <;> walk_at "go"
  | (with_reducible apply ed_lenS) <;> walk_at "go"
  | (with_reducible apply ed_lenT) <;> walk_at "go"
  | (with_reducible apply ed_lenScr) <;> walk_at "go"
  | (with_reducible apply ed_abs) <;> walk_at "go"
  | (with_reducible apply ed_intI) <;> walk_at "go"
  | (with_reducible apply ed_intB) <;> walk_at "go"
  | (with_reducible apply ed_intS) <;> walk_at "go"
  | (with_reducible apply ed_andV) <;> walk_at "go"
  | (with_reducible apply ed_orV) <;> walk_at "go"
  | (with_reducible apply ed_notV) <;> walk_at "go"
  | (with_reducible apply ed_tup) <;> walk_at "go"
  | (with_reducible apply ev_call) <;> walk_at "go"
  | (with_reducible apply ed_isi) <;> walk_at "go"
  | (with_reducible apply ed_catS) <;> walk_at "go"
  | (with_reducible apply ed_repS) <;> walk_at "go"
  | (with_reducible apply EvL.dat) <;> walk_at "go")
local macro_rules | `(tactic| walk_at "evR") => `(tactic| first
  | (with_reducible apply EvD.r) <;> walk_at "go"
  | (with_reducible apply EvS.r) <;> walk_at "go")
local macro_rules | `(tactic| walk_at "evS") => `(tactic| first
  | (with_reducible apply es_own) <;> walk_at "go"
  | (with_reducible apply EvD.s) <;> walk_at "go"
  | (with_reducible apply EvL.s) <;> walk_at "go")
local macro_rules | `(tactic| walk_at "evL") => `(tactic| first
  | (with_reducible apply el_lst) <;> walk_at "go"
  | (with_reducible apply ev_callL) <;> walk_at "go")
local macro_rules | `(tactic| walk_at "evA") => `(tactic| first
  | with_reducible exact ea_nil
  | (with_reducible apply ea_cons) <;> walk_at "go")
local macro_rules | `(tactic| walk_at "evQ") => `(tactic| first
  | with_reducible exact eq_nil
  | (with_reducible apply eq_cons) <;> walk_at "go")
local macro_rules | `(tactic| walk_at "evB") => `(tactic| first
  | (with_reducible apply eb_and) <;> walk_at "go"
  | (with_reducible apply eb_or) <;> walk_at "go"
  | (with_reducible apply eb_not) <;> walk_at "go"
  | (with_reducible apply eb_val) <;> walk_at "go")
local macro_rules | `(tactic| walk_at "era") => `(tactic| first
  | ((simp only [eraAll, D.era, era_dF, era_dP, era_dFs, era_dI, era_dS, era_dPs, era_dRows, era_dRopes]); done)
  | ((simp only [eraAll, D.era, era_dF, era_dP, era_dFs, era_dI, era_dS, era_dPs, era_dRows, era_dRopes]); exact rfl))
local macro_rules | `(tactic| walk_at "frs") => `(tactic| first
  | exact rfl
  | exact fr_dFs _
  | exact fr_dI _
  | exact fr_dS _
  | exact fr_dPs _
  | exact fr_dRows _
  | exact fr_dRopes _
  | (simp only [frAll, D.fr, fr_dFs, fr_dI, fr_dS, fr_dPs, fr_dRows, fr_dRopes, decide_true, Bool.and_true, Bool.true_and]; done))
local macro_rules | `(tactic| walk_at "go") => `(tactic| first
  | ((with_reducible show eraAll _ = _); walk_at "era")
  | ((with_reducible show D.fr _ = true); walk_at "frs")
  | ((with_reducible show frAll _ = true); walk_at "frs")
  | ((with_reducible show _ = some (Cell.dat _)); exact rfl)
  | ((with_reducible show _ = some (Cell.own _)); exact rfl)
  | ((with_reducible show D.tn _ = some _); exact rfl)
  | ((with_reducible show atI _ _ = some _); first | exact rfl | assumption)
  | ((with_reducible show EvD _ _ _ _ _); walk_at "evD")
  | ((with_reducible show EvR _ _ _ _ _); walk_at "evR")
  | ((with_reducible show EvS _ _ _ _ _); walk_at "evS")
  | ((with_reducible show EvL _ _ _ _ _); walk_at "evL")
  | ((with_reducible show EvA _ _ _ _ _); walk_at "evA")
  | ((with_reducible show EvAD _ _ _ _ _); walk_at "evQ")
  | ((with_reducible show EvB _ _ _ _ _); walk_at "evB")
  | ((with_reducible show _ = _ → _); intro hv; walk_at "go")
  | ((fail_if_success (with_reducible show EvD _ _ _ _ _)); (fail_if_success (with_reducible show EvR _ _ _ _ _)); (fail_if_success (with_reducible show EvS _ _ _ _ _)); (fail_if_success (with_reducible show EvL _ _ _ _ _)); (fail_if_success (with_reducible show EvA _ _ _ _ _)); (fail_if_success (with_reducible show EvAD _ _ _ _ _)); (fail_if_success (with_reducible show EvB _ _ _ _ _)); (fail_if_success (with_reducible show _ = some (Cell.dat _))); (fail_if_success (with_reducible show _ = some (Cell.own _))); (fail_if_success (with_reducible show atI _ _ = some _)); (fail_if_success (with_reducible show D.tn _ = some _)); (fail_if_success (with_reducible show eraAll _ = _)); (fail_if_success (with_reducible show D.fr _ = true)); (fail_if_success (with_reducible show frAll _ = true)); first | walk_at "R" | walk_at "sd"))
local macro_rules | `(tactic| walk_at "len") => `(tactic| first
  | exact (by decide)
  | (simp; done)
  | omega)
local macro_rules | `(tactic| walk_at "st") => `(tactic| first
  | ((with_reducible show At _ _ _ _ _ _); try dsimp only [List.set])
  | ((with_reducible show _ = _ → At _ _ _ _ _ _); intro hb)
  | ((with_reducible show _ < _); walk_at "len")
  | walk_at "go")
local macro_rules | `(tactic| walk_at "asg") => `(tactic| first
  | (with_reducible apply sq_asg) <;> walk_at "st"
  | (with_reducible apply at_asg) <;> walk_at "st")
local macro_rules | `(tactic| walk_at "asgL") => `(tactic| first
  | (with_reducible apply sq_asgL) <;> walk_at "st"
  | (with_reducible apply at_asgL) <;> walk_at "st")
local macro_rules | `(tactic| walk_at "app") => `(tactic| first
  | (with_reducible apply sq_append) <;> walk_at "st"
  | (with_reducible apply at_append) <;> walk_at "st")
local macro_rules | `(tactic| walk_at "ret") => `(tactic| first
  | (with_reducible apply at_ret) <;> walk_at "st")
local macro_rules | `(tactic| walk_at "when") => `(tactic| first
  | (with_reducible apply sq_when) <;> walk_at "st"
  | (with_reducible apply at_when) <;> walk_at "st")
local macro_rules | `(tactic| walk_at "if") => `(tactic| first
  | (with_reducible apply sq_if) <;> walk_at "st"
  | (with_reducible apply at_if) <;> walk_at "st")
local macro_rules | `(tactic| walk_at "fd") => `(tactic| first
  | exact rfl
  | assumption)
local macro_rules | `(tactic| walk_at "R") => `(tactic| first
  | (with_reducible apply rc_see_pairs) <;> walk_at "sd"
  | (with_reducible apply rc_hsum) <;> walk_at "sd"
  | (with_reducible apply rc_table) <;> walk_at "sd"
  | (with_reducible apply rc_lropes) <;> walk_at "sd"
  | (with_reducible apply rc_summedp) <;> walk_at "sd"
  | (with_reducible apply rc_lifted) <;> walk_at "sd"
  | (with_reducible apply rc_holds) <;> walk_at "sd"
  | (with_reducible apply rc_spare) <;> walk_at "sd"
  | (with_reducible apply rc_gain) <;> walk_at "sd"
  | (with_reducible apply rc_is_let) <;> walk_at "sd"
  | (with_reducible apply rc_lsum) <;> walk_at "sd"
  | (with_reducible apply rc_lspare) <;> walk_at "sd"
  | (with_reducible apply rc_held) <;> walk_at "sd"
  | (with_reducible apply rc_parts) <;> walk_at "sd"
  | (with_reducible apply rc_drawn) <;> walk_at "sd"
  | (with_reducible apply rc_lrow) <;> walk_at "sd"
  | (with_reducible apply rc_lplus) <;> walk_at "sd"
  | (with_reducible apply rc_times_int) <;> walk_at "sd"
  | (with_reducible apply rc_int_times) <;> walk_at "sd"
  | (with_reducible apply rc_less0) <;> walk_at "sd"
  | (with_reducible apply rc_init) <;> walk_at "sd")
local macro_rules | `(tactic| walk_at "evD") => `(tactic| first
  | (with_reducible apply ed_sum) <;> walk_at "go"
  | (with_reducible apply ed_min) <;> walk_at "go"
  | (with_reducible apply ed_max) <;> walk_at "go"
  | (with_reducible apply ed_heavy) <;> walk_at "go"
  | (with_reducible apply ed_table) <;> walk_at "go"
  | (with_reducible apply ed_make) <;> walk_at "go"
  | (with_reducible apply ed_meth) <;> walk_at "go"
  | (with_reducible apply ed_fldA) <;> walk_at "fd")
local macro_rules | `(tactic| walk_at "evL") => `(tactic| first
  | (with_reducible apply el_list) <;> walk_at "go"
  | (with_reducible apply el_cat) <;> walk_at "go"
  | (with_reducible apply el_rep) <;> walk_at "go"
  | (with_reducible apply el_slice) <;> walk_at "go"
  | (with_reducible apply el_meth) <;> walk_at "go")
local macro_rules | `(tactic| walk_at "evS") => `(tactic| first
  | (with_reducible apply es_fldA) <;> walk_at "fd")
local macro_rules | `(tactic| walk_at "evO") => `(tactic| first
  | with_reducible exact eo_none
  | (with_reducible apply eo_some) <;> walk_at "go")
local macro_rules | `(tactic| walk_at "go") => `(tactic| first
  | ((with_reducible show EvO _ _ _ _ _); walk_at "evO"))
local macro_rules | `(tactic| walk_at "fld") => `(tactic| first
  | (with_reducible apply sq_fld) <;> walk_at "st"
  | (with_reducible apply at_fld) <;> walk_at "st")
local macro_rules | `(tactic| walk_at "fldL") => `(tactic| first
  | (with_reducible apply sq_fldL) <;> walk_at "st"
  | (with_reducible apply at_fldL) <;> walk_at "st")
local macro_rules | `(tactic| walk_at "drop") => `(tactic| first
  | (with_reducible apply sq_drop) <;> walk_at "st"
  | (with_reducible apply at_drop) <;> walk_at "st")
section
variable {K : PySem.W.Frag} {C B pN pO : Addr}
local macro_rules | `(tactic| walk_at "fb") => `(tactic| first | exact lk_ropes | exact lk_bodies | exact lk_rows | exact lk_held | exact lk_aim | exact rfl | assumption)
local macro_rules | `(tactic| walk_at "evD") => `(tactic| first
  | (with_reducible apply ed_fldR) <;> walk_at "fb"
  | (with_reducible apply ed_fldA) <;> walk_at "fb")
local macro_rules | `(tactic| walk_at "evS") => `(tactic| first
  | (with_reducible apply es_fldR) <;> walk_at "fb"
  | (with_reducible apply es_fldA) <;> walk_at "fb")
theorem sz01 {q : Rat} (h : q = 0 ∨ q = 1) : Sz 1 q := by
  rcases h with rfl | rfl
  · exact ⟨by decide, by decide⟩
  · exact ⟨by decide, by decide⟩
theorem aim_sz {n k : Nat} {cost : Nat → Rat} {s : BSt} (hn : n ≤ 4) (hc : ∀ c, cost c = 0 ∨ cost c = 1) (hz : SzB n k s.R) : ∀ i, i ≤ n → ∀ c, c ≤ k → Sz 200 (cost c - S i fun j => cost (s.h j) * s.R j c) := fun i hi c hk => by
  have h1 : Sz 189 (S i fun j => cost (s.h j) * s.R j c) := (sz_sum (n := 46) (l := (List.range i).map fun j => cost (s.h j) * s.R j c) fun q hq => by
    obtain ⟨j, hj, rfl⟩ := List.mem_map.mp hq
    have hj' := List.mem_range.mp hj
    exact (sz01 (hc _)).mul (hz j (by omega) c hk)).mono (by simp; omega)
  exact ((sz01 (hc c)).sub h1).mono (by decide)
theorem cost01 {costs : List Rat} (h : ∀ q ∈ costs, q = 0 ∨ q = 1) : ∀ c, costF costs c = 0 ∨ costF costs c = 1 := fun c => by
  unfold costF
  by_cases z : c < costs.length
  · exact h _ (getD_mem z)
  · rw [List.getD_eq_getElem?_getD, List.getElem?_eq_none (by omega)]; exact .inl rfl
theorem szL_rng {n N : Nat} {f : Nat → Rat} (h : ∀ i, i < n → Sz N (f i)) : SzL N ((List.range n).map f) := fun q hq => by
  obtain ⟨i, hi, rfl⟩ := List.mem_map.mp hq
  exact h i (List.mem_range.mp hi)
theorem p_Board_price (T : BoT K B) (hN : IsN K pN) : Body (t_Board_price K C pN) n_Board_price (sp_Board_price K C B) := by
  rintro vs H Q E ⟨Hf, Hb, a, dx, ws, l, fs, vs', ds, fs', rfl, F, hx, hfs, r, ⟨m, n, s, aim, costs, hn, hm, hz, hh, hl, h01, rfl, rfl, rfl⟩, k⟩
  refine startMu (n := 1) F hx hfs r (by simp [r.length]) ?_
  obtain ⟨cl, nR, nB, nW, nH, nA⟩ := T
  have c01 := cost01 h01
  unfold t_Board_price
  have e0 : dFs costs ++ [dF 0] = dFs ((List.range (m + n + 1)).map fun c => costF costs c - S 0 fun j => costF costs (s.h j) * s.R j c) := by
    rw [← dFs_snoc]
    congr 1
    apply List.ext_getElem (by simp [hl])
    intro i h1 h2
    have hi : i < m + n + 1 := by simpa using h2
    rw [List.getElem_map, List.getElem_range, S_zero]
    unfold costF
    by_cases z : i < costs.length
    · rw [List.getElem_append_left z, List.getD_eq_getElem?_getD, List.getElem?_eq_getElem z]; show _ = costs[i] - 0; grind
    · rw [List.getElem_append_right (by omega), List.getD_eq_getElem?_getD, List.getElem?_eq_none (by omega)]
      simp; grind
  have el : EvL K C (xCat (tVar 1) (tLst (tCons (tC (.ref pN)) tNil))) (.ob a B (bF .f m n (rowsL n (m + n) s.R) (heldL n s.h) aim) :: ([.lst .x (dFs costs)].map Cell.dat ++ uns 1)) (dFs ((List.range (m + n + 1)).map fun c => costF costs c - S 0 fun j => costF costs (s.h j) * s.R j c)) :=
    EvL.to (el_cat (by walk_at "evS") (el_lst (eq_cons (ed_nought hN) eq_nil) (by simp)).s (by simp; omega)) e0
  refine sq_fld cl nA rfl (by simp [bF]) el.dat ?_
  rw [pt_aim]
  simp only [List.map, uns, List.cons_append, List.nil_append, List.set]
  refine at_forN (n := n) (by walk_at "evA") (by omega) (fun i ρ' => ∃ c, ρ' = [.ob a B (bF .f m n (rowsL n (m + n) s.R) (heldL n s.h) ((List.range (m + n + 1)).map fun c => costF costs c - S i fun j => costF costs (s.h j) * s.R j c)), .dat (.lst .x (dFs costs)), c]) ⟨_, rfl⟩ (by rintro i ρ' ⟨_, rfl⟩; simp) ?_ ?_
  · rintro i ρ' hi ⟨c, rfl⟩
    dsimp only [List.set]
    have a1 : atI (dN (heldL n s.h)) (i : Int) = some (.int (s.h i : Int)) := atI_rng (g := fun (h : Nat) => D.int h) hi
    have a2 := atI_rows' (mk := .f) (k := m + n) (R := s.R) hi
    have a3 : atI (dFs costs) (s.h i : Int) = some (dF (costs.getD (s.h i) 0)) := atI_map 0 (by rw [hl]; exact hh i hi)
    have s1 : SzL 1000 ((List.range (m + n + 1)).map fun c => costF costs c - S i fun j => costF costs (s.h j) * s.R j c) := szL_rng fun c hc => (aim_sz hn c01 hz i (by omega) c (by omega)).mono (by decide)
    have s2 : SzL 1000 ((List.range (m + n + 1)).map (s.R i)) := szL_rng fun c hc => (hz i hi c (by omega)).mono (by decide)
    have s3 : Sz 1000 (costs.getD (s.h i) 0) := (sz01 (c01 (s.h i))).mono (by decide)
    have et : takenF ((List.range (m + n + 1)).map fun c => costF costs c - S i fun j => costF costs (s.h j) * s.R j c) ((List.range (m + n + 1)).map (s.R i)) (costs.getD (s.h i) 0) = (List.range (m + n + 1)).map fun c => costF costs c - S (i + 1) fun j => costF costs (s.h j) * s.R j c := by
      unfold takenF
      rw [List.length_map, List.length_range]
      refine List.map_congr_left fun c hc => ?_
      have hc' := List.mem_range.mp hc
      rw [getD_rng hc', getD_rng hc', S_succ]
      show _ - s.R i c * costF costs (s.h i) = _
      grind
    have el2 : EvL K C (tCall (sp_taken K C) [] E0 (tCons (tFld K (tVar 0) "aim") (tCons (xIdx K (tFld K (tVar 0) "rows") (tVar 2)) (tCons (xIdx K (tVar 1) (xIdx K (tFld K (tVar 0) "held") (tVar 2))) tNil))))
        [.ob a B (bF .f m n (rowsL n (m + n) s.R) (heldL n s.h) ((List.range (m + n + 1)).map fun c => costF costs c - S i fun j => costF costs (s.h j) * s.R j c)), .dat (.lst .x (dFs costs)), .dat (.int i)] (dFs ((List.range (m + n + 1)).map fun c => costF costs c - S (i + 1) fun j => costF costs (s.h j) * s.R j c)) := by
      rw [← et]
      exact ev_callL (by walk_at "evA") (by walk_at "era") (rc_taken s1 s2 s3 (by simp) (by simp; omega)) (by walk_at "frs")
    refine at_fld cl nA rfl (by simp [bF]) el2.dat ?_
    rw [pt_aim]
    exact at_gx ⟨_, rfl⟩
  · rintro ρ' ⟨c, rfl⟩
    exact at_endMu rfl k
end
end Hw
namespace Hw
open PySem L2
local macro_rules | `(tactic| walk_at "sd") => `(tactic| first
  | exact rfl
  | decide +kernel
  | (exact Nat.le_of_ble_eq_true rfl)
  | assumption
  | (exact Sz.mono (by assumption) (by decide))
  | decide
  | omega
  | (exact eraAll_map _ _ (fun _ => rfl) _)
  | (exact frAll_map _ (fun _ => rfl) _)
  | exact EqD.frac
  | exact EqD.int
  | exact EqD.bl
  | exact EqD.pair
  | skip)
local macro_rules | `(tactic| walk_at "R") => `(tactic| first
  | (with_reducible apply rc_common) <;> walk_at "sd"
  | (with_reducible apply rc_fraction) <;> walk_at "sd"
  | (with_reducible apply rc_plus) <;> walk_at "sd"
  | (with_reducible apply rc_minus) <;> walk_at "sd"
  | (with_reducible apply rc_times) <;> walk_at "sd"
  | (with_reducible apply rc_over) <;> walk_at "sd"
  | (with_reducible apply rc_less) <;> walk_at "sd"
  | (with_reducible apply rc_cell) <;> walk_at "sd"
  | (with_reducible apply rc_whole) <;> walk_at "sd"
  | (with_reducible apply rc_low) <;> walk_at "sd"
  | (with_reducible apply rc_part) <;> walk_at "sd"
  | (with_reducible apply rc_lfraction) <;> walk_at "sd")
local macro_rules | `(tactic| walk_at "evD") => `(tactic| first
  | with_reducible exact ed_int
  | with_reducible exact ed_bl
  | with_reducible exact ed_non
  | with_reducible exact ed_str
  | (with_reducible apply ed_var) <;> walk_at "go"
  | (with_reducible apply ed_add) <;> walk_at "go"
  | (with_reducible apply ed_sub) <;> walk_at "go"
  | (with_reducible apply ed_mul) <;> walk_at "go"
  | (with_reducible apply ed_div) <;> walk_at "go"
  | (with_reducible apply ed_mod) <;> walk_at "go"
  | (with_reducible apply ed_pow) <;> walk_at "go"
  | (with_reducible apply ed_neg) <;> walk_at "go"
  | (with_reducible apply ed_lt) <;> walk_at "go"
  | (with_reducible apply ed_le) <;> walk_at "go"
  | (with_reducible apply ed_gt) <;> walk_at "go"
  | (with_reducible apply ed_ge) <;> walk_at "go"
  | (with_reducible apply ed_leLt) <;> walk_at "go"
  | (with_reducible apply ed_leLe) <;> walk_at "go"
  | (with_reducible apply ed_ltLt) <;> walk_at "go"
  | (with_reducible apply ed_eq) <;> walk_at "go"
  | (with_reducible apply ed_ne) <;> walk_at "go"
  | (with_reducible apply ed_idxT) <;> walk_at "go"
  | (with_reducible apply ed_idxS) <;> walk_at "go"
  | (with_reducible apply ed_idxScr) <;> walk_at "go"
  | (with_reducible apply ed_lenS) <;> walk_at "go"
  | (with_reducible apply ed_lenT) <;> walk_at "go"
  | (with_reducible apply ed_lenScr) <;> walk_at "go"
  | (with_reducible apply ed_abs) <;> walk_at "go"
  | (with_reducible apply ed_intI) <;> walk_at "go"
  | (with_reducible apply ed_intB) <;> walk_at "go"
  | (with_reducible apply ed_intS) <;> walk_at "go"
  | (with_reducible apply ed_andV) <;> walk_at "go"
  | (with_reducible apply ed_orV) <;> walk_at "go"
  | (with_reducible apply ed_notV) <;> walk_at "go"
  | (with_reducible apply ed_tup) <;> walk_at "go"
  | (with_reducible apply ev_call) <;> walk_at "go"
  | (with_reducible apply ed_isi) <;> walk_at "go"
  | (with_reducible apply ed_catS) <;> walk_at "go"
  | (with_reducible apply ed_repS) <;> walk_at "go"
  | (with_reducible apply EvL.dat) <;> walk_at "go")
local macro_rules | `(tactic| walk_at "evR") => `(tactic| first
  | (with_reducible apply EvD.r) <;> walk_at "go"
  | (with_reducible apply EvS.r) <;> walk_at "go")
local macro_rules | `(tactic| walk_at "evS") => `(tactic| first
  | (with_reducible apply es_own) <;> walk_at "go"
  | (with_reducible apply EvD.s) <;> walk_at "go"
  | (with_reducible apply EvL.s) <;> walk_at "go")
local macro_rules | `(tactic| walk_at "evL") => `(tactic| first
  | (with_reducible apply el_lst) <;> walk_at "go"
  | (with_reducible apply ev_callL) <;> walk_at "go")
local macro_rules | `(tactic| walk_at "evA") => `(tactic| first
  | with_reducible exact ea_nil
  | (with_reducible apply ea_cons) <;> walk_at "go")
local macro_rules | `(tactic| walk_at "evQ") => `(tactic| first
  | with_reducible exact eq_nil
  | (with_reducible apply eq_cons) <;> walk_at "go")
local macro_rules | `(tactic| walk_at "evB") => `(tactic| first
  | (with_reducible apply eb_and) <;> walk_at "go"
  | (with_reducible apply eb_or) <;> walk_at "go"
  | (with_reducible apply eb_not) <;> walk_at "go"
  | (with_reducible apply eb_val) <;> walk_at "go")
local macro_rules | `(tactic| walk_at "era") => `(tactic| first
  | ((simp only [eraAll, D.era, era_dF, era_dP, era_dFs, era_dI, era_dS, era_dPs, era_dRows, era_dRopes]); done)
  | ((simp only [eraAll, D.era, era_dF, era_dP, era_dFs, era_dI, era_dS, era_dPs, era_dRows, era_dRopes]); exact rfl))
local macro_rules | `(tactic| walk_at "frs") => `(tactic| first
  | exact rfl
  | exact fr_dFs _
  | exact fr_dI _
  | exact fr_dS _
  | exact fr_dPs _
  | exact fr_dRows _
  | exact fr_dRopes _
  | (simp only [frAll, D.fr, fr_dFs, fr_dI, fr_dS, fr_dPs, fr_dRows, fr_dRopes, decide_true, Bool.and_true, Bool.true_and]; done))
local macro_rules | `(tactic| walk_at "go") => `(tactic| first
  | ((with_reducible show eraAll _ = _); walk_at "era")
  | ((with_reducible show D.fr _ = true); walk_at "frs")
  | ((with_reducible show frAll _ = true); walk_at "frs")
  | ((with_reducible show _ = some (Cell.dat _)); exact rfl)
  | ((with_reducible show _ = some (Cell.own _)); exact rfl)
  | ((with_reducible show D.tn _ = some _); exact rfl)
  | ((with_reducible show atI _ _ = some _); first | exact rfl | assumption)
  | ((with_reducible show EvD _ _ _ _ _); walk_at "evD")
  | ((with_reducible show EvR _ _ _ _ _); walk_at "evR")
  | ((with_reducible show EvS _ _ _ _ _); walk_at "evS")
  | ((with_reducible show EvL _ _ _ _ _); walk_at "evL")
  | ((with_reducible show EvA _ _ _ _ _); walk_at "evA")
  | ((with_reducible show EvAD _ _ _ _ _); walk_at "evQ")
  | ((with_reducible show EvB _ _ _ _ _); walk_at "evB")
  | ((with_reducible show _ = _ → _); intro hv; walk_at "go")
  | ((fail_if_success (with_reducible show EvD _ _ _ _ _)); (fail_if_success (with_reducible show EvR _ _ _ _ _)); (fail_if_success (with_reducible show EvS _ _ _ _ _)); (fail_if_success (with_reducible show EvL _ _ _ _ _)); (fail_if_success (with_reducible show EvA _ _ _ _ _)); (fail_if_success (with_reducible show EvAD _ _ _ _ _)); (fail_if_success (with_reducible show EvB _ _ _ _ _)); (fail_if_success (with_reducible show _ = some (Cell.dat _))); (fail_if_success (with_reducible show _ = some (Cell.own _))); (fail_if_success (with_reducible show atI _ _ = some _)); (fail_if_success (with_reducible show D.tn _ = some _)); (fail_if_success (with_reducible show eraAll _ = _)); (fail_if_success (with_reducible show D.fr _ = true)); (fail_if_success (with_reducible show frAll _ = true)); first | walk_at "R" | walk_at "sd"))
local macro_rules | `(tactic| walk_at "len") => `(tactic| first
  | exact (by decide)
  | (simp; done)
  | omega)
local macro_rules | `(tactic| walk_at "st") => `(tactic| first
  | ((with_reducible show At _ _ _ _ _ _); try dsimp only [List.set])
  | ((with_reducible show _ = _ → At _ _ _ _ _ _); intro hb)
  | ((with_reducible show _ < _); walk_at "len")
  | walk_at "go")
local macro_rules | `(tactic| walk_at "asg") => `(tactic| first
  | (with_reducible apply sq_asg) <;> walk_at "st"
  | (with_reducible apply at_asg) <;> walk_at "st")
local macro_rules | `(tactic| walk_at "asgL") => `(tactic| first
  | (with_reducible apply sq_asgL) <;> walk_at "st"
  | (with_reducible apply at_asgL) <;> walk_at "st")
local macro_rules | `(tactic| walk_at "app") => `(tactic| first
  | (with_reducible apply sq_append) <;> walk_at "st"
  | (with_reducible apply at_append) <;> walk_at "st")
local macro_rules | `(tactic| walk_at "ret") => `(tactic| first
  | (with_reducible apply at_ret) <;> walk_at "st")
local macro_rules | `(tactic| walk_at "when") => `(tactic| first
  | (with_reducible apply sq_when) <;> walk_at "st"
  | (with_reducible apply at_when) <;> walk_at "st")
local macro_rules | `(tactic| walk_at "if") => `(tactic| first
  | (with_reducible apply sq_if) <;> walk_at "st"
  | (with_reducible apply at_if) <;> walk_at "st")
local macro_rules | `(tactic| walk_at "fd") => `(tactic| first
  | exact rfl
  | assumption)
local macro_rules | `(tactic| walk_at "R") => `(tactic| first
  | (with_reducible apply rc_see_pairs) <;> walk_at "sd"
  | (with_reducible apply rc_hsum) <;> walk_at "sd"
  | (with_reducible apply rc_table) <;> walk_at "sd"
  | (with_reducible apply rc_lropes) <;> walk_at "sd"
  | (with_reducible apply rc_summedp) <;> walk_at "sd"
  | (with_reducible apply rc_lifted) <;> walk_at "sd"
  | (with_reducible apply rc_holds) <;> walk_at "sd"
  | (with_reducible apply rc_spare) <;> walk_at "sd"
  | (with_reducible apply rc_gain) <;> walk_at "sd"
  | (with_reducible apply rc_is_let) <;> walk_at "sd"
  | (with_reducible apply rc_lsum) <;> walk_at "sd"
  | (with_reducible apply rc_lspare) <;> walk_at "sd"
  | (with_reducible apply rc_held) <;> walk_at "sd"
  | (with_reducible apply rc_parts) <;> walk_at "sd"
  | (with_reducible apply rc_drawn) <;> walk_at "sd"
  | (with_reducible apply rc_lrow) <;> walk_at "sd"
  | (with_reducible apply rc_lplus) <;> walk_at "sd"
  | (with_reducible apply rc_times_int) <;> walk_at "sd"
  | (with_reducible apply rc_int_times) <;> walk_at "sd"
  | (with_reducible apply rc_less0) <;> walk_at "sd"
  | (with_reducible apply rc_init) <;> walk_at "sd")
local macro_rules | `(tactic| walk_at "evD") => `(tactic| first
  | (with_reducible apply ed_sum) <;> walk_at "go"
  | (with_reducible apply ed_min) <;> walk_at "go"
  | (with_reducible apply ed_max) <;> walk_at "go"
  | (with_reducible apply ed_heavy) <;> walk_at "go"
  | (with_reducible apply ed_table) <;> walk_at "go"
  | (with_reducible apply ed_make) <;> walk_at "go"
  | (with_reducible apply ed_meth) <;> walk_at "go"
  | (with_reducible apply ed_fldA) <;> walk_at "fd")
local macro_rules | `(tactic| walk_at "evL") => `(tactic| first
  | (with_reducible apply el_list) <;> walk_at "go"
  | (with_reducible apply el_cat) <;> walk_at "go"
  | (with_reducible apply el_rep) <;> walk_at "go"
  | (with_reducible apply el_slice) <;> walk_at "go"
  | (with_reducible apply el_meth) <;> walk_at "go")
local macro_rules | `(tactic| walk_at "evS") => `(tactic| first
  | (with_reducible apply es_fldA) <;> walk_at "fd")
local macro_rules | `(tactic| walk_at "evO") => `(tactic| first
  | with_reducible exact eo_none
  | (with_reducible apply eo_some) <;> walk_at "go")
local macro_rules | `(tactic| walk_at "go") => `(tactic| first
  | ((with_reducible show EvO _ _ _ _ _); walk_at "evO"))
local macro_rules | `(tactic| walk_at "fld") => `(tactic| first
  | (with_reducible apply sq_fld) <;> walk_at "st"
  | (with_reducible apply at_fld) <;> walk_at "st")
local macro_rules | `(tactic| walk_at "fldL") => `(tactic| first
  | (with_reducible apply sq_fldL) <;> walk_at "st"
  | (with_reducible apply at_fldL) <;> walk_at "st")
local macro_rules | `(tactic| walk_at "drop") => `(tactic| first
  | (with_reducible apply sq_drop) <;> walk_at "st"
  | (with_reducible apply at_drop) <;> walk_at "st")
section
variable {K : PySem.W.Frag} {C B pN pO : Addr}
local macro_rules | `(tactic| walk_at "fb") => `(tactic| first | exact lk_ropes | exact lk_bodies | exact lk_rows | exact lk_held | exact lk_aim | exact rfl | assumption)
local macro_rules | `(tactic| walk_at "evD") => `(tactic| first
  | (with_reducible apply ed_fldR) <;> walk_at "fb"
  | (with_reducible apply ed_fldA) <;> walk_at "fb")
local macro_rules | `(tactic| walk_at "evS") => `(tactic| first
  | (with_reducible apply es_fldR) <;> walk_at "fb"
  | (with_reducible apply es_fldA) <;> walk_at "fb")
/-- the rows while they are turned: i of them are done -/
def rowsT (n k : Nat) (s : BSt) (r c i : Nat) : List (List Rat) := (List.range n).map fun j => (List.range (k + 1)).map fun x => if j = r then s.R r x / s.R r c else if j < i then pivR s.R r c j x else s.R j x
theorem rowsT_zero {n k : Nat} {s : BSt} {r c : Nat} (hr : r < n) : (rowsL n k s.R).set r ((List.range (k + 1)).map fun x => s.R r x / s.R r c) = rowsT n k s r c 0 := by
  unfold rowsL rowsT
  apply List.ext_getElem (by simp)
  intro j h1 h2
  rw [List.getElem_set]
  by_cases z : r = j
  · subst z; simp
  · rw [if_neg z]
    have z' : ¬ j = r := fun w => z w.symm
    simp [z']
theorem rowsT_end {n k : Nat} {s : BSt} {r c : Nat} : rowsT n k s r c n = rowsL n k (turnF s r c).R := by
  unfold rowsL rowsT
  refine List.map_congr_left fun j hj => List.map_congr_left fun x hx => ?_
  have hj' := List.mem_range.mp hj
  show _ = pivR s.R r c j x
  by_cases z : j = r
  · rw [if_pos z]; unfold pivR; rw [if_pos z]
  · rw [if_neg z, if_pos hj']
theorem rowsT_same {n k : Nat} {s : BSt} {r c : Nat} : rowsT n k s r c (r + 1) = rowsT n k s r c r := by
  unfold rowsT
  refine List.map_congr_left fun j _ => List.map_congr_left fun x _ => ?_
  by_cases z : j = r
  · rw [if_pos z, if_pos z]
  · rw [if_neg z, if_neg z]
    by_cases y : j < r
    · rw [if_pos y, if_pos (by omega)]
    · rw [if_neg y, if_neg (by omega)]
theorem rowsT_succ {n k : Nat} {s : BSt} {r c i : Nat} (ne : i ≠ r) : (rowsT n k s r c i).set i ((List.range (k + 1)).map (pivR s.R r c i)) = rowsT n k s r c (i + 1) := by
  unfold rowsT
  apply List.ext_getElem (by simp)
  intro j h1 h2
  rw [List.getElem_set]
  by_cases z : i = j
  · subst z; simp [ne]
  · rw [if_neg z]
    simp only [List.getElem_map, List.getElem_range]
    refine List.map_congr_left fun x _ => ?_
    by_cases y : j = r
    · rw [if_pos y, if_pos y]
    · rw [if_neg y, if_neg y]
      by_cases w : j < i
      · rw [if_pos w, if_pos (by omega)]
      · rw [if_neg w, if_neg (by omega)]
theorem heldL_set {n : Nat} {h : Nat → Nat} {r c : Nat} : (heldL n h).set r c = heldL n (pivH h r c) := by
  unfold heldL pivH
  apply List.ext_getElem (by simp)
  intro j h1 h2
  rw [List.getElem_set]
  by_cases z : r = j
  · subst z; simp
  · rw [if_neg z]
    have z' : ¬ j = r := fun w => z w.symm
    simp [z']
theorem EqD.lnilB {m m' : Mark} {a : List Rat} : EqD (.lst m (a.map dF)) (.lst m' []) (decide (a = [])) := EqD.fracs (b := [])
theorem ixN_nat {n i : Nat} (h : i < n) : ixN n (i : Int) = some i := by
  unfold ixN
  rw [if_pos (by omega), if_pos (by omega), Int.toNat_natCast]
theorem dQ_set {mk : Mark} {rows : List (List Rat)} {i : Nat} {row : List Rat} : (dQ mk rows).set i (.lst mk (dFs row)) = dQ mk (rows.set i row) := (List.map_set ..).symm
theorem dN_set {held : List Nat} {i c : Nat} : (dN held).set i (.int (c : Int)) = dN (held.set i c) := (List.map_set ..).symm
theorem p_Board_turn (T : BoT K B) : Body (t_Board_turn K C) n_Board_turn (sp_Board_turn K C B) := by
  rintro vs H Q E ⟨Hf, Hb, a, dx, ws, l, fs, vs', ds, fs', rfl, F, hx, hfs, rr, ⟨m, n, s, o, r, c, hn, hm, hz, hz2, ho, hr, hc, hp, rfl, rfl, rfl⟩, k⟩
  refine startMu (n := 4) F hx hfs rr (by simp [rr.length]) ?_
  obtain ⟨cl, nR, nB, nW, nH, nA⟩ := T
  simp only [List.map, uns, List.cons_append, List.nil_append]
  have a1 := atI_rows' (mk := .f) (k := m + n) (R := s.R) hr
  have a2 : atI (dFs ((List.range (m + n + 1)).map (s.R r))) (c : Int) = some (dF (s.R r c)) := atI_rng (by omega)
  unfold t_Board_turn
  walk_at "asg"
  have eb : EvL K C (tLc (iList K (xIdx K (tFld K (tVar 0) "rows") (tVar 1))) (gName 5) tYes (tCall (sp_over K C) [] E0 (tCons (tVar 5) (tCons (tVar 3) tNil))) [5])
      [.ob a B (bF .f m n (rowsL n (m + n) s.R) (heldL n s.h) (aimO n (m + n) s o)), .dat (.int r), .dat (.int c), .dat (dF (s.R r c)), .un, .un, .un] (dFs ((List.range (m + n + 1)).map fun x => s.R r x / s.R r c)) := by
    refine EvL.to (el_lcMap (as := (List.range (m + n + 1)).map (s.R r)) (f := dF) (g := fun q => dF (q / s.R r c)) (m := .f) (by walk_at "evD") (by simp; omega) (by simp) fun q hq => ?_) (by simp [dFs])
    obtain ⟨x, hx, rfl⟩ := List.mem_map.mp hq
    have hx' := List.mem_range.mp hx
    have s1 : Sz 4000 (s.R r x) := (hz r hr x (by omega)).mono (by decide)
    have s2 : Sz 4000 (s.R r c) := (hz r hr c (by omega)).mono (by decide)
    dsimp only [List.set]
    walk_at "evD"
  refine sq_asgL eb (by simp) ?_
  refine At.freeze (i := 4) rfl ?_
  dsimp only [List.set]
  refine at_seq (at_setItemF cl nW rfl lk_rows (d := .lst .f (dFs ((List.range (m + n + 1)).map fun x => s.R r x / s.R r c))) (by walk_at "evD") (by walk_at "evR") (ixN_nat (by simp [dQ, rowsL]; exact hr)) ?_)
  rw [dQ_set, rowsT_zero hr, pt_rows]
  dsimp only [List.set]
  have sb : SzL 1000 ((List.range (m + n + 1)).map fun x => s.R r x / s.R r c) := szL_rng fun x hx => by
    have := hz2 r hr x (by omega)
    have e : (turnF s r c).R r x = s.R r x / s.R r c := by show pivR s.R r c r x = _; unfold pivR; rw [if_pos rfl]
    rw [e] at this
    exact this.mono (by decide)
  refine sq_forN (n := n) (by walk_at "evA") (by omega) (fun i ρ' => ∃ c6, ρ' = [.ob a B (bF .f m n (rowsT n (m + n) s r c i) (heldL n s.h) (aimO n (m + n) s o)), .dat (.int r), .dat (.int c), .dat (dF (s.R r c)), .dat (.lst .f (dFs ((List.range (m + n + 1)).map fun x => s.R r x / s.R r c))), .un, c6]) ⟨_, rfl⟩ (by rintro i ρ' ⟨_, rfl⟩; simp) ?_ ?_
  · rintro i ρ' hi ⟨c6, rfl⟩
    dsimp only [List.set]
    walk_at "when"
    · rename_i hb
      have hb' : i ≠ r := by
        intro z
        rw [z] at hb; simp at hb
      have a3 : atI (dQ .f (rowsT n (m + n) s r c i)) (i : Int) = some (.lst .f (dFs ((List.range (m + n + 1)).map (s.R i)))) := by
        have := atI_rng (n := n) (f := fun j => (List.range (m + n + 1)).map fun x => if j = r then s.R r x / s.R r c else if j < i then pivR s.R r c j x else s.R j x) (g := fun row => D.lst .f (dFs row)) hi
        rw [show ((List.range (m + n + 1)).map fun x => if i = r then s.R r x / s.R r c else if i < i then pivR s.R r c i x else s.R i x) = (List.range (m + n + 1)).map (s.R i) from List.map_congr_left fun x _ => by rw [if_neg hb', if_neg (by omega)]] at this
        exact this
      have a4 : atI (dFs ((List.range (m + n + 1)).map (s.R i))) (c : Int) = some (dF (s.R i c)) := atI_rng (by omega)
      have s1 : SzL 1000 ((List.range (m + n + 1)).map (s.R i)) := szL_rng fun x hx => (hz i hi x (by omega)).mono (by decide)
      have s3 : Sz 1000 (s.R i c) := (hz i hi c (by omega)).mono (by decide)
      have et : takenF ((List.range (m + n + 1)).map (s.R i)) ((List.range (m + n + 1)).map fun x => s.R r x / s.R r c) (s.R i c) = (List.range (m + n + 1)).map (pivR s.R r c i) := by
        unfold takenF
        rw [List.length_map, List.length_range]
        refine List.map_congr_left fun x hx => ?_
        have hx' := List.mem_range.mp hx
        rw [getD_rng hx', getD_rng hx']
        unfold pivR
        rw [if_neg hb']
      refine at_setItemF cl nW rfl lk_rows (d := .lst .f (dFs ((List.range (m + n + 1)).map (pivR s.R r c i)))) (by
        rw [← et]
        exact EvL.dat (ev_callL (by walk_at "evA") (by walk_at "era") (rc_taken s1 sb s3 (by simp) (by simp; omega)) (by walk_at "frs"))) (by walk_at "evR") (ixN_nat (by simp [dQ, rowsT]; exact hi)) ?_
      rw [dQ_set, rowsT_succ hb', pt_rows]
      exact at_gx ⟨_, rfl⟩
    · rename_i hb
      have hb' : i = r := by simp at hb; omega
      subst hb'
      rw [← rowsT_same]
      exact at_gx ⟨_, rfl⟩
  rintro ρ' ⟨c6, rfl⟩
  rw [rowsT_end]
  have last : ∀ (aim : List Rat) (D0 : Ends), D0.nx = (fun _ H' => Q .non H') → aim = aimO n (m + n) (turnF s r c) o → At K C Hf Hb (tAsg (tVar 2) (gSub (tFld K (tVar 0) "held") (tVar 1) rSetL) D0)
      [.ob a B (bF .f m n (rowsL n (m + n) (turnF s r c).R) (heldL n s.h) aim), .dat (.int r), .dat (.int c), .dat (dF (s.R r c)), .dat (.lst .f (dFs ((List.range (m + n + 1)).map fun x => s.R r x / s.R r c))), .un, c6] := by
    intro aim D0 hD ha
    refine at_setItemF cl nH rfl lk_held (d := .int (c : Int)) (by walk_at "evD") (by walk_at "evR") (ixN_nat (by simp [heldL]; exact hr)) ?_
    rw [dN_set, heldL_set, pt_held, hD, ha]
    exact at_endMu rfl k
  cases o with
  | none =>
    refine sq_when (b := false) (EvB.to (eb_val (ed_ne (by walk_at "evR") (EvL.s (by walk_at "evL")).r EqD.lnilB)) rfl) (fun z => nomatch z) fun _ => ?_
    exact last _ _ rfl rfl
  | some cost =>
    have hsz := ho cost rfl
    refine sq_when (b := true) (EvB.to (eb_val (ed_ne (d := .lst .x (dFs (aimLL n (m + n) cost s))) (by walk_at "evR") (EvL.s (by walk_at "evL")).r EqD.lnilB)) (by
      have : ¬ aimLL n (m + n) cost s = [] := fun z => by
        have := congrArg List.length z
        simp [aimLL] at this
      simpa using this)) (fun _ => ?_) (fun z => nomatch z)
    have a5 : atI (dFs (aimLL n (m + n) cost s)) (c : Int) = some (dF (aimF n cost s.h s.R c)) := atI_rng (by omega)
    have s1 : SzL 1000 (aimLL n (m + n) cost s) := szL_rng fun x hx => (hsz x (by omega)).mono (by decide)
    have s3 : Sz 1000 (aimF n cost s.h s.R c) := (hsz c (by omega)).mono (by decide)
    have et : takenF (aimLL n (m + n) cost s) ((List.range (m + n + 1)).map fun x => s.R r x / s.R r c) (aimF n cost s.h s.R c) = aimLL n (m + n) cost (turnF s r c) := by
      unfold takenF aimLL
      rw [List.length_map, List.length_range]
      refine List.map_congr_left fun x hx => ?_
      have hx' := List.mem_range.mp hx
      rw [getD_rng hx', getD_rng hx']
      exact (aim_pivot hr hp x).symm
    refine at_fld cl nA rfl (by simp [bF]) (d := .lst .f (dFs (aimLL n (m + n) cost (turnF s r c)))) (by
      rw [← et]
      exact EvL.dat (ev_callL (ea_cons (d := .lst .f (dFs (aimLL n (m + n) cost s))) (by walk_at "evR") (by walk_at "evA")) (by walk_at "era") (rc_taken s1 sb s3 (by simp [aimLL]) (by simp [aimLL]; omega)) (by walk_at "frs"))) ?_
    rw [pt_aim]
    exact last _ _ rfl rfl
end
end Hw
namespace Hw
open PySem L2
local macro_rules | `(tactic| walk_at "sd") => `(tactic| first
  | exact rfl
  | decide +kernel
  | (exact Nat.le_of_ble_eq_true rfl)
  | assumption
  | (exact Sz.mono (by assumption) (by decide))
  | decide
  | omega
  | (exact eraAll_map _ _ (fun _ => rfl) _)
  | (exact frAll_map _ (fun _ => rfl) _)
  | exact EqD.frac
  | exact EqD.int
  | exact EqD.bl
  | exact EqD.pair
  | skip)
local macro_rules | `(tactic| walk_at "R") => `(tactic| first
  | (with_reducible apply rc_common) <;> walk_at "sd"
  | (with_reducible apply rc_fraction) <;> walk_at "sd"
  | (with_reducible apply rc_plus) <;> walk_at "sd"
  | (with_reducible apply rc_minus) <;> walk_at "sd"
  | (with_reducible apply rc_times) <;> walk_at "sd"
  | (with_reducible apply rc_over) <;> walk_at "sd"
  | (with_reducible apply rc_less) <;> walk_at "sd"
  | (with_reducible apply rc_cell) <;> walk_at "sd"
  | (with_reducible apply rc_whole) <;> walk_at "sd"
  | (with_reducible apply rc_low) <;> walk_at "sd"
  | (with_reducible apply rc_part) <;> walk_at "sd"
  | (with_reducible apply rc_lfraction) <;> walk_at "sd")
local macro_rules | `(tactic| walk_at "evD") => `(tactic| first
  | with_reducible exact ed_int
  | with_reducible exact ed_bl
  | with_reducible exact ed_non
  | with_reducible exact ed_str
  | (with_reducible apply ed_var) <;> walk_at "go"
  | (with_reducible apply ed_add) <;> walk_at "go"
  | (with_reducible apply ed_sub) <;> walk_at "go"
  | (with_reducible apply ed_mul) <;> walk_at "go"
  | (with_reducible apply ed_div) <;> walk_at "go"
  | (with_reducible apply ed_mod) <;> walk_at "go"
  | (with_reducible apply ed_pow) <;> walk_at "go"
  | (with_reducible apply ed_neg) <;> walk_at "go"
  | (with_reducible apply ed_lt) <;> walk_at "go"
  | (with_reducible apply ed_le) <;> walk_at "go"
  | (with_reducible apply ed_gt) <;> walk_at "go"
  | (with_reducible apply ed_ge) <;> walk_at "go"
  | (with_reducible apply ed_leLt) <;> walk_at "go"
  | (with_reducible apply ed_leLe) <;> walk_at "go"
  | (with_reducible apply ed_ltLt) <;> walk_at "go"
  | (with_reducible apply ed_eq) <;> walk_at "go"
  | (with_reducible apply ed_ne) <;> walk_at "go"
  | (with_reducible apply ed_idxT) <;> walk_at "go"
  | (with_reducible apply ed_idxS) <;> walk_at "go"
  | (with_reducible apply ed_idxScr) <;> walk_at "go"
  | (with_reducible apply ed_lenS) <;> walk_at "go"
  | (with_reducible apply ed_lenT) <;> walk_at "go"
  | (with_reducible apply ed_lenScr) <;> walk_at "go"
  | (with_reducible apply ed_abs) <;> walk_at "go"
  | (with_reducible apply ed_intI) <;> walk_at "go"
  | (with_reducible apply ed_intB) <;> walk_at "go"
  | (with_reducible apply ed_intS) <;> walk_at "go"
  | (with_reducible apply ed_andV) <;> walk_at "go"
  | (with_reducible apply ed_orV) <;> walk_at "go"
  | (with_reducible apply ed_notV) <;> walk_at "go"
  | (with_reducible apply ed_tup) <;> walk_at "go"
  | (with_reducible apply ev_call) <;> walk_at "go"
  | (with_reducible apply ed_isi) <;> walk_at "go"
  | (with_reducible apply ed_catS) <;> walk_at "go"
  | (with_reducible apply ed_repS) <;> walk_at "go"
  | (with_reducible apply EvL.dat) <;> walk_at "go")
local macro_rules | `(tactic| walk_at "evR") => `(tactic| first
  | (with_reducible apply EvD.r) <;> walk_at "go"
  | (with_reducible apply EvS.r) <;> walk_at "go")
local macro_rules | `(tactic| walk_at "evS") => `(tactic| first
  | (with_reducible apply es_own) <;> walk_at "go"
  | (with_reducible apply EvD.s) <;> walk_at "go"
  | (with_reducible apply EvL.s) <;> walk_at "go")
local macro_rules | `(tactic| walk_at "evL") => `(tactic| first
  | (with_reducible apply el_lst) <;> walk_at "go"
  | (with_reducible apply ev_callL) <;> walk_at "go")
local macro_rules | `(tactic| walk_at "evA") => `(tactic| first
  | with_reducible exact ea_nil
  | (with_reducible apply ea_cons) <;> walk_at "go")
local macro_rules | `(tactic| walk_at "evQ") => `(tactic| first
  | with_reducible exact eq_nil
  | (with_reducible apply eq_cons) <;> walk_at "go")
local macro_rules | `(tactic| walk_at "evB") => `(tactic| first
  | (with_reducible apply eb_and) <;> walk_at "go"
  | (with_reducible apply eb_or) <;> walk_at "go"
  | (with_reducible apply eb_not) <;> walk_at "go"
  | (with_reducible apply eb_val) <;> walk_at "go")
local macro_rules | `(tactic| walk_at "era") => `(tactic| first
  | ((simp only [eraAll, D.era, era_dF, era_dP, era_dFs, era_dI, era_dS, era_dPs, era_dRows, era_dRopes]); done)
  | ((simp only [eraAll, D.era, era_dF, era_dP, era_dFs, era_dI, era_dS, era_dPs, era_dRows, era_dRopes]); exact rfl))
local macro_rules | `(tactic| walk_at "frs") => `(tactic| first
  | exact rfl
  | exact fr_dFs _
  | exact fr_dI _
  | exact fr_dS _
  | exact fr_dPs _
  | exact fr_dRows _
  | exact fr_dRopes _
  | (simp only [frAll, D.fr, fr_dFs, fr_dI, fr_dS, fr_dPs, fr_dRows, fr_dRopes, decide_true, Bool.and_true, Bool.true_and]; done))
local macro_rules | `(tactic| walk_at "go") => `(tactic| first
  | ((with_reducible show eraAll _ = _); walk_at "era")
  | ((with_reducible show D.fr _ = true); walk_at "frs")
  | ((with_reducible show frAll _ = true); walk_at "frs")
  | ((with_reducible show _ = some (Cell.dat _)); exact rfl)
  | ((with_reducible show _ = some (Cell.own _)); exact rfl)
  | ((with_reducible show D.tn _ = some _); exact rfl)
  | ((with_reducible show atI _ _ = some _); first | exact rfl | assumption)
  | ((with_reducible show EvD _ _ _ _ _); walk_at "evD")
  | ((with_reducible show EvR _ _ _ _ _); walk_at "evR")
  | ((with_reducible show EvS _ _ _ _ _); walk_at "evS")
  | ((with_reducible show EvL _ _ _ _ _); walk_at "evL")
  | ((with_reducible show EvA _ _ _ _ _); walk_at "evA")
  | ((with_reducible show EvAD _ _ _ _ _); walk_at "evQ")
  | ((with_reducible show EvB _ _ _ _ _); walk_at "evB")
  | ((with_reducible show _ = _ → _); intro hv; walk_at "go")
  | ((fail_if_success (with_reducible show EvD _ _ _ _ _)); (fail_if_success (with_reducible show EvR _ _ _ _ _)); (fail_if_success (with_reducible show EvS _ _ _ _ _)); (fail_if_success (with_reducible show EvL _ _ _ _ _)); (fail_if_success (with_reducible show EvA _ _ _ _ _)); (fail_if_success (with_reducible show EvAD _ _ _ _ _)); (fail_if_success (with_reducible show EvB _ _ _ _ _)); (fail_if_success (with_reducible show _ = some (Cell.dat _))); (fail_if_success (with_reducible show _ = some (Cell.own _))); (fail_if_success (with_reducible show atI _ _ = some _)); (fail_if_success (with_reducible show D.tn _ = some _)); (fail_if_success (with_reducible show eraAll _ = _)); (fail_if_success (with_reducible show D.fr _ = true)); (fail_if_success (with_reducible show frAll _ = true)); first | walk_at "R" | walk_at "sd"))
local macro_rules | `(tactic| walk_at "len") => `(tactic| first
  | exact (by decide)
  | (simp; done)
  | omega)
local macro_rules | `(tactic| walk_at "st") => `(tactic| first
  | ((with_reducible show At _ _ _ _ _ _); try dsimp only [List.set])
  | ((with_reducible show _ = _ → At _ _ _ _ _ _); intro hb)
  | ((with_reducible show _ < _); walk_at "len")
  | walk_at "go")
local macro_rules | `(tactic| walk_at "asg") => `(tactic| first
  | (with_reducible apply sq_asg) <;> walk_at "st"
  | (with_reducible apply at_asg) <;> walk_at "st")
local macro_rules | `(tactic| walk_at "asgL") => `(tactic| first
  | (with_reducible apply sq_asgL) <;> walk_at "st"
  | (with_reducible apply at_asgL) <;> walk_at "st")
local macro_rules | `(tactic| walk_at "app") => `(tactic| first
  | (with_reducible apply sq_append) <;> walk_at "st"
  | (with_reducible apply at_append) <;> walk_at "st")
local macro_rules | `(tactic| walk_at "ret") => `(tactic| first
  | (with_reducible apply at_ret) <;> walk_at "st")
local macro_rules | `(tactic| walk_at "when") => `(tactic| first
  | (with_reducible apply sq_when) <;> walk_at "st"
  | (with_reducible apply at_when) <;> walk_at "st")
local macro_rules | `(tactic| walk_at "if") => `(tactic| first
  | (with_reducible apply sq_if) <;> walk_at "st"
  | (with_reducible apply at_if) <;> walk_at "st")
local macro_rules | `(tactic| walk_at "fd") => `(tactic| first
  | exact rfl
  | assumption)
local macro_rules | `(tactic| walk_at "R") => `(tactic| first
  | (with_reducible apply rc_see_pairs) <;> walk_at "sd"
  | (with_reducible apply rc_hsum) <;> walk_at "sd"
  | (with_reducible apply rc_table) <;> walk_at "sd"
  | (with_reducible apply rc_lropes) <;> walk_at "sd"
  | (with_reducible apply rc_summedp) <;> walk_at "sd"
  | (with_reducible apply rc_lifted) <;> walk_at "sd"
  | (with_reducible apply rc_holds) <;> walk_at "sd"
  | (with_reducible apply rc_spare) <;> walk_at "sd"
  | (with_reducible apply rc_gain) <;> walk_at "sd"
  | (with_reducible apply rc_is_let) <;> walk_at "sd"
  | (with_reducible apply rc_lsum) <;> walk_at "sd"
  | (with_reducible apply rc_lspare) <;> walk_at "sd"
  | (with_reducible apply rc_held) <;> walk_at "sd"
  | (with_reducible apply rc_parts) <;> walk_at "sd"
  | (with_reducible apply rc_drawn) <;> walk_at "sd"
  | (with_reducible apply rc_lrow) <;> walk_at "sd"
  | (with_reducible apply rc_lplus) <;> walk_at "sd"
  | (with_reducible apply rc_times_int) <;> walk_at "sd"
  | (with_reducible apply rc_int_times) <;> walk_at "sd"
  | (with_reducible apply rc_less0) <;> walk_at "sd"
  | (with_reducible apply rc_init) <;> walk_at "sd")
local macro_rules | `(tactic| walk_at "evD") => `(tactic| first
  | (with_reducible apply ed_sum) <;> walk_at "go"
  | (with_reducible apply ed_min) <;> walk_at "go"
  | (with_reducible apply ed_max) <;> walk_at "go"
  | (with_reducible apply ed_heavy) <;> walk_at "go"
  | (with_reducible apply ed_table) <;> walk_at "go"
  | (with_reducible apply ed_make) <;> walk_at "go"
  | (with_reducible apply ed_meth) <;> walk_at "go"
  | (with_reducible apply ed_fldA) <;> walk_at "fd")
local macro_rules | `(tactic| walk_at "evL") => `(tactic| first
  | (with_reducible apply el_list) <;> walk_at "go"
  | (with_reducible apply el_cat) <;> walk_at "go"
  | (with_reducible apply el_rep) <;> walk_at "go"
  | (with_reducible apply el_slice) <;> walk_at "go"
  | (with_reducible apply el_meth) <;> walk_at "go")
local macro_rules | `(tactic| walk_at "evS") => `(tactic| first
  | (with_reducible apply es_fldA) <;> walk_at "fd")
local macro_rules | `(tactic| walk_at "evO") => `(tactic| first
  | with_reducible exact eo_none
  | (with_reducible apply eo_some) <;> walk_at "go")
local macro_rules | `(tactic| walk_at "go") => `(tactic| first
  | ((with_reducible show EvO _ _ _ _ _); walk_at "evO"))
local macro_rules | `(tactic| walk_at "fld") => `(tactic| first
  | (with_reducible apply sq_fld) <;> walk_at "st"
  | (with_reducible apply at_fld) <;> walk_at "st")
local macro_rules | `(tactic| walk_at "fldL") => `(tactic| first
  | (with_reducible apply sq_fldL) <;> walk_at "st"
  | (with_reducible apply at_fldL) <;> walk_at "st")
local macro_rules | `(tactic| walk_at "drop") => `(tactic| first
  | (with_reducible apply sq_drop) <;> walk_at "st"
  | (with_reducible apply at_drop) <;> walk_at "st")
section
variable {K : PySem.W.Frag} {C B pN pO : Addr}
local macro_rules | `(tactic| walk_at "fb") => `(tactic| first | exact lk_ropes | exact lk_bodies | exact lk_rows | exact lk_held | exact lk_aim | exact rfl | assumption)
local macro_rules | `(tactic| walk_at "evD") => `(tactic| first
  | (with_reducible apply ed_fldR) <;> walk_at "fb"
  | (with_reducible apply ed_fldA) <;> walk_at "fb")
local macro_rules | `(tactic| walk_at "evS") => `(tactic| first
  | (with_reducible apply es_fldR) <;> walk_at "fb"
  | (with_reducible apply es_fldA) <;> walk_at "fb")
theorem atI_last {n : Nat} {f : Nat → Rat} : atI (dFs ((List.range (n + 1)).map f)) (-1) = some (dF (f n)) := by
  unfold atI ixN
  rw [if_neg (by decide), if_pos (by simp; omega)]
  show (dFs ((List.range (n + 1)).map f))[(-1 + ((dFs ((List.range (n + 1)).map f)).length : Int)).toNat]? = _
  rw [show (-1 + ((dFs ((List.range (n + 1)).map f)).length : Int)).toNat = n by simp; omega]
  rw [List.getElem?_map, List.getElem?_map, List.getElem?_range (by omega)]; rfl
theorem p_Board_leaving (T : BoT K B) (hN : IsN K pN) : Body (t_Board_leaving K C pN) n_Board_leaving (sp_Board_leaving K C B) := by
  rintro vs H Q E ⟨a, dx, ws, l, fs, vs', ds, d, rfl, hx, hfs, rr, ⟨m, n, s, aim, c, OI, hn, hm, hz, hv, hL, hc, rfl, rfl, rfl⟩, k⟩
  refine startRd (n := 3) hx hfs rr (by simp [rr.length]) ?_
  obtain ⟨cl, nR, nB, nW, nH, nA⟩ := T
  simp only [List.map, uns, List.cons_append, List.nil_append]
  unfold t_Board_leaving
  walk_at "asg"
  refine sq_forN (n := n) (by walk_at "evA") (by omega) (fun i ρ' => ∃ b c3 c4, ρ' = [.rd a B (bF .x m n (rowsL n (m + n) s.R) (heldL n s.h) aim), .dat (.int c), .dat b, c3, c4] ∧
    ((b = .non ∧ ∀ j, j < i → ¬ 0 < s.R j c) ∨ ∃ r, r < i ∧ r < n ∧ b = .tup [dF (s.R r (m + n) / s.R r c), .int r] ∧ 0 < s.R r c ∧ ∀ j, j < i → 0 < s.R j c → s.R r (m + n) / s.R r c ≤ s.R j (m + n) / s.R j c ∧ (s.R r (m + n) / s.R r c = s.R j (m + n) / s.R j c → s.h r ≤ s.h j)))
    ⟨_, _, _, rfl, .inl ⟨rfl, by omega⟩⟩ (by rintro i ρ' ⟨_, _, _, rfl, _⟩; simp) ?_ ?_
  · rintro i ρ' hi ⟨b, c3, c4, rfl, hI⟩
    dsimp only [List.set]
    have a1 : atI (dN (heldL n s.h)) (i : Int) = some (.int (s.h i : Int)) := atI_rng (g := fun (h : Nat) => D.int h) hi
    have a2 := atI_rows' (mk := .x) (k := m + n) (R := s.R) hi
    have a3 : atI (dFs ((List.range (m + n + 1)).map (s.R i))) (-1) = some (dF (s.R i (m + n))) := atI_last
    have a4 : atI (dFs ((List.range (m + n + 1)).map (s.R i))) (c : Int) = some (dF (s.R i c)) := atI_rng (by omega)
    have s1 : Sz 4000 (s.R i c) := (hz i hi c (by omega)).mono (by decide)
    have s2 : Sz 4000 (s.R i (m + n)) := (hz i hi _ (by omega)).mono (by decide)
    have s0 : Sz 4000 (0 : Rat) := sz0 (by decide)
    refine at_when (eb_val (ev_call (ea_cons (ed_nought hN).r (ea_cons (by walk_at "evR") ea_nil)) (by walk_at "era") (rc_less s0 s1) rfl)) (fun hb => ?_) (fun hb => ?_)
    · have hp : 0 < s.R i c := of_decide_eq_true hb
      have hne := pos_ne hp
      walk_at "asg"
      generalize hq : s.R i (m + n) / s.R i c = q at *
      have sq : Sz 4000 q := by rw [← hq]; exact ((hz i hi _ (by omega)).div (hz i hi c (by omega)) hne).mono (by decide)
      rcases hI with ⟨rfl, hI⟩ | ⟨r, h1, h2, rfl, h3, h4⟩
      · refine at_when (b := true) (EvB.to (eb_or (a := true) (b := true) (eb_val (ed_isN (by walk_at "evR") fun Hf H v r => by rw [show v = .non from r]; rfl)) (fun z => nomatch z)) rfl) (fun _ => ?_) (fun z => nomatch z)
        walk_at "asg"
        refine at_gx ⟨_, _, _, rfl, .inr ⟨i, by omega, hi, by rw [hq], hp, fun j hj pj => ?_⟩⟩
        by_cases z : j = i
        · rw [z]; exact ⟨Rat.le_refl, fun _ => Nat.le_refl _⟩
        · exact absurd pj (hI j (by omega))
      · have sr : Sz 4000 (s.R r (m + n) / s.R r c) := ((hz r h2 _ (by omega)).div (hz r h2 c (by omega)) (pos_ne h3)).mono (by decide)
        have a5 : atI (dN (heldL n s.h)) (r : Int) = some (.int (s.h r : Int)) := atI_rng (g := fun (h : Nat) => D.int h) h2
        generalize hqr : s.R r (m + n) / s.R r c = qr at *
        have b0 : atI [dF qr, D.int (r : Int)] 0 = some (dF qr) := rfl
        have b1 : atI [dF qr, D.int (r : Int)] 1 = some (.int r) := rfl
        refine at_when (b := false || (decide (q < qr) || (decide (q = qr) && decide (s.h i < s.h r)))) (eb_or (eb_val (ed_isN (by walk_at "evR") fun Hf H v r => by
          obtain ⟨p, us, rfl, _⟩ := r; rfl)) fun _ => eb_or (eb_val (ev_call (ea_cons (by walk_at "evR") (ea_cons (by walk_at "evR") ea_nil)) (by walk_at "era") (rc_less sq sr) rfl)) fun _ => eb_and (eb_val (ed_eq (by walk_at "evR") (by walk_at "evR") EqD.frac)) fun _ => EvB.to (b := decide ((s.h i : Int) < (s.h r : Int))) (by walk_at "evB") (by simp)) (fun hb => ?_) (fun hb => ?_)
        · walk_at "asg"
          refine at_gx ⟨_, _, _, rfl, .inr ⟨i, by omega, hi, by rw [hq], hp, fun j hj pj => ?_⟩⟩
          rw [Bool.false_or, Bool.or_eq_true, Bool.and_eq_true, decide_eq_true_eq, decide_eq_true_eq, decide_eq_true_eq] at hb
          rw [hq]
          by_cases z : j = i
          · rw [z, hq]; exact ⟨Rat.le_refl, fun _ => Nat.le_refl _⟩
          · obtain ⟨g1, g2⟩ := h4 j (by omega) pj
            rcases hb with hb | ⟨hb1, hb2⟩
            · exact ⟨by grind, fun w => by grind⟩
            · refine ⟨by grind, fun w => ?_⟩
              have := g2 (by grind)
              omega
        · rw [Bool.false_or, Bool.or_eq_false_iff, Bool.and_eq_false_iff, decide_eq_false_iff_not, decide_eq_false_iff_not, decide_eq_false_iff_not] at hb
          refine at_gx ⟨_, _, _, rfl, .inr ⟨r, by omega, h2, by rw [hqr], h3, fun j hj pj => ?_⟩⟩
          rw [hqr]
          by_cases z : j = i
          · rw [z, hq]
            refine ⟨by grind, fun w => ?_⟩
            rcases hb.2 with h | h
            · exact absurd w.symm h
            · omega
          · exact h4 j (by omega) pj
    · have hp : ¬ 0 < s.R i c := of_decide_eq_false hb
      refine at_gx ⟨_, _, _, rfl, ?_⟩
      rcases hI with ⟨rfl, hI⟩ | ⟨r, h1, h2, rfl, h3, h4⟩
      · refine .inl ⟨rfl, fun j hj => ?_⟩
        by_cases z : j = i
        · rw [z]; exact hp
        · exact hI j (by omega)
      · refine .inr ⟨r, by omega, h2, rfl, h3, fun j hj pj => ?_⟩
        by_cases z : j = i
        · rw [z] at pj; exact absurd pj hp
        · exact h4 j (by omega) pj
  · rintro ρ' ⟨b, c3, c4, rfl, hI⟩
    rcases hI with ⟨rfl, hI⟩ | ⟨r, h1, h2, rfl, h3, h4⟩
    · obtain ⟨r, L⟩ := hL
      exact absurd L.pos (hI r L.lt)
    · have e : leaveF n (m + n) s c = r := leaveF_eq hv ⟨h2, h3, h4⟩
      rw [e] at k
      have b1 : atI [dF (s.R r (m + n) / s.R r c), D.int (r : Int)] 1 = some (.int r) := rfl
      walk_at "ret"
end
end Hw
namespace Hw
open PySem L2
local macro_rules | `(tactic| walk_at "sd") => `(tactic| first
  | exact rfl
  | decide +kernel
  | (exact Nat.le_of_ble_eq_true rfl)
  | assumption
  | (exact Sz.mono (by assumption) (by decide))
  | decide
  | omega
  | (exact eraAll_map _ _ (fun _ => rfl) _)
  | (exact frAll_map _ (fun _ => rfl) _)
  | exact EqD.frac
  | exact EqD.int
  | exact EqD.bl
  | exact EqD.pair
  | skip)
local macro_rules | `(tactic| walk_at "R") => `(tactic| first
  | (with_reducible apply rc_common) <;> walk_at "sd"
  | (with_reducible apply rc_fraction) <;> walk_at "sd"
  | (with_reducible apply rc_plus) <;> walk_at "sd"
  | (with_reducible apply rc_minus) <;> walk_at "sd"
  | (with_reducible apply rc_times) <;> walk_at "sd"
  | (with_reducible apply rc_over) <;> walk_at "sd"
  | (with_reducible apply rc_less) <;> walk_at "sd"
  | (with_reducible apply rc_cell) <;> walk_at "sd"
  | (with_reducible apply rc_whole) <;> walk_at "sd"
  | (with_reducible apply rc_low) <;> walk_at "sd"
  | (with_reducible apply rc_part) <;> walk_at "sd"
  | (with_reducible apply rc_lfraction) <;> walk_at "sd")
local macro_rules | `(tactic| walk_at "evD") => `(tactic| first
  | with_reducible exact ed_int
  | with_reducible exact ed_bl
  | with_reducible exact ed_non
  | with_reducible exact ed_str
  | (with_reducible apply ed_var) <;> walk_at "go"
  | (with_reducible apply ed_add) <;> walk_at "go"
  | (with_reducible apply ed_sub) <;> walk_at "go"
  | (with_reducible apply ed_mul) <;> walk_at "go"
  | (with_reducible apply ed_div) <;> walk_at "go"
  | (with_reducible apply ed_mod) <;> walk_at "go"
  | (with_reducible apply ed_pow) <;> walk_at "go"
  | (with_reducible apply ed_neg) <;> walk_at "go"
  | (with_reducible apply ed_lt) <;> walk_at "go"
  | (with_reducible apply ed_le) <;> walk_at "go"
  | (with_reducible apply ed_gt) <;> walk_at "go"
  | (with_reducible apply ed_ge) <;> walk_at "go"
  | (with_reducible apply ed_leLt) <;> walk_at "go"
  | (with_reducible apply ed_leLe) <;> walk_at "go"
  | (with_reducible apply ed_ltLt) <;> walk_at "go"
  | (with_reducible apply ed_eq) <;> walk_at "go"
  | (with_reducible apply ed_ne) <;> walk_at "go"
  | (with_reducible apply ed_idxT) <;> walk_at "go"
  | (with_reducible apply ed_idxS) <;> walk_at "go"
  | (with_reducible apply ed_idxScr) <;> walk_at "go"
  | (with_reducible apply ed_lenS) <;> walk_at "go"
  | (with_reducible apply ed_lenT) <;> walk_at "go"
  | (with_reducible apply ed_lenScr) <;> walk_at "go"
  | (with_reducible apply ed_abs) <;> walk_at "go"
  | (with_reducible apply ed_intI) <;> walk_at "go"
  | (with_reducible apply ed_intB) <;> walk_at "go"
  | (with_reducible apply ed_intS) <;> walk_at "go"
  | (with_reducible apply ed_andV) <;> walk_at "go"
  | (with_reducible apply ed_orV) <;> walk_at "go"
  | (with_reducible apply ed_notV) <;> walk_at "go"
  | (with_reducible apply ed_tup) <;> walk_at "go"
  | (with_reducible apply ev_call) <;> walk_at "go"
  | (with_reducible apply ed_isi) <;> walk_at "go"
  | (with_reducible apply ed_catS) <;> walk_at "go"
  | (with_reducible apply ed_repS) <;> walk_at "go"
  | (with_reducible apply EvL.dat) <;> walk_at "go")
local macro_rules | `(tactic| walk_at "evR") => `(tactic| first
  | (with_reducible apply EvD.r) <;> walk_at "go"
  | (with_reducible apply EvS.r) <;> walk_at "go")
local macro_rules | `(tactic| walk_at "evS") => `(tactic| first
  | (with_reducible apply es_own) <;> walk_at "go"
  | (with_reducible apply EvD.s) <;> walk_at "go"
  | (with_reducible apply EvL.s) <;> walk_at "go")
local macro_rules | `(tactic| walk_at "evL") => `(tactic| first
  | (with_reducible apply el_lst) <;> walk_at "go"
  | (with_reducible apply ev_callL) <;> walk_at "go")
local macro_rules | `(tactic| walk_at "evA") => `(tactic| first
  | with_reducible exact ea_nil
  | (with_reducible apply ea_cons) <;> walk_at "go")
local macro_rules | `(tactic| walk_at "evQ") => `(tactic| first
  | with_reducible exact eq_nil
  | (with_reducible apply eq_cons) <;> walk_at "go")
local macro_rules | `(tactic| walk_at "evB") => `(tactic| first
  | (with_reducible apply eb_and) <;> walk_at "go"
  | (with_reducible apply eb_or) <;> walk_at "go"
  | (with_reducible apply eb_not) <;> walk_at "go"
  | (with_reducible apply eb_val) <;> walk_at "go")
local macro_rules | `(tactic| walk_at "era") => `(tactic| first
  | ((simp only [eraAll, D.era, era_dF, era_dP, era_dFs, era_dI, era_dS, era_dPs, era_dRows, era_dRopes]); done)
  | ((simp only [eraAll, D.era, era_dF, era_dP, era_dFs, era_dI, era_dS, era_dPs, era_dRows, era_dRopes]); exact rfl))
local macro_rules | `(tactic| walk_at "frs") => `(tactic| first
  | exact rfl
  | exact fr_dFs _
  | exact fr_dI _
  | exact fr_dS _
  | exact fr_dPs _
  | exact fr_dRows _
  | exact fr_dRopes _
  | (simp only [frAll, D.fr, fr_dFs, fr_dI, fr_dS, fr_dPs, fr_dRows, fr_dRopes, decide_true, Bool.and_true, Bool.true_and]; done))
local macro_rules | `(tactic| walk_at "go") => `(tactic| first
  | ((with_reducible show eraAll _ = _); walk_at "era")
  | ((with_reducible show D.fr _ = true); walk_at "frs")
  | ((with_reducible show frAll _ = true); walk_at "frs")
  | ((with_reducible show _ = some (Cell.dat _)); exact rfl)
  | ((with_reducible show _ = some (Cell.own _)); exact rfl)
  | ((with_reducible show D.tn _ = some _); exact rfl)
  | ((with_reducible show atI _ _ = some _); first | exact rfl | assumption)
  | ((with_reducible show EvD _ _ _ _ _); walk_at "evD")
  | ((with_reducible show EvR _ _ _ _ _); walk_at "evR")
  | ((with_reducible show EvS _ _ _ _ _); walk_at "evS")
  | ((with_reducible show EvL _ _ _ _ _); walk_at "evL")
  | ((with_reducible show EvA _ _ _ _ _); walk_at "evA")
  | ((with_reducible show EvAD _ _ _ _ _); walk_at "evQ")
  | ((with_reducible show EvB _ _ _ _ _); walk_at "evB")
  | ((with_reducible show _ = _ → _); intro hv; walk_at "go")
  | ((fail_if_success (with_reducible show EvD _ _ _ _ _)); (fail_if_success (with_reducible show EvR _ _ _ _ _)); (fail_if_success (with_reducible show EvS _ _ _ _ _)); (fail_if_success (with_reducible show EvL _ _ _ _ _)); (fail_if_success (with_reducible show EvA _ _ _ _ _)); (fail_if_success (with_reducible show EvAD _ _ _ _ _)); (fail_if_success (with_reducible show EvB _ _ _ _ _)); (fail_if_success (with_reducible show _ = some (Cell.dat _))); (fail_if_success (with_reducible show _ = some (Cell.own _))); (fail_if_success (with_reducible show atI _ _ = some _)); (fail_if_success (with_reducible show D.tn _ = some _)); (fail_if_success (with_reducible show eraAll _ = _)); (fail_if_success (with_reducible show D.fr _ = true)); (fail_if_success (with_reducible show frAll _ = true)); first | walk_at "R" | walk_at "sd"))
local macro_rules | `(tactic| walk_at "len") => `(tactic| first
  | exact (by decide)
  | (simp; done)
  | omega)
local macro_rules | `(tactic| walk_at "st") => `(tactic| first
  | ((with_reducible show At _ _ _ _ _ _); try dsimp only [List.set])
  | ((with_reducible show _ = _ → At _ _ _ _ _ _); intro hb)
  | ((with_reducible show _ < _); walk_at "len")
  | walk_at "go")
local macro_rules | `(tactic| walk_at "asg") => `(tactic| first
  | (with_reducible apply sq_asg) <;> walk_at "st"
  | (with_reducible apply at_asg) <;> walk_at "st")
local macro_rules | `(tactic| walk_at "asgL") => `(tactic| first
  | (with_reducible apply sq_asgL) <;> walk_at "st"
  | (with_reducible apply at_asgL) <;> walk_at "st")
local macro_rules | `(tactic| walk_at "app") => `(tactic| first
  | (with_reducible apply sq_append) <;> walk_at "st"
  | (with_reducible apply at_append) <;> walk_at "st")
local macro_rules | `(tactic| walk_at "ret") => `(tactic| first
  | (with_reducible apply at_ret) <;> walk_at "st")
local macro_rules | `(tactic| walk_at "when") => `(tactic| first
  | (with_reducible apply sq_when) <;> walk_at "st"
  | (with_reducible apply at_when) <;> walk_at "st")
local macro_rules | `(tactic| walk_at "if") => `(tactic| first
  | (with_reducible apply sq_if) <;> walk_at "st"
  | (with_reducible apply at_if) <;> walk_at "st")
local macro_rules | `(tactic| walk_at "fd") => `(tactic| first
  | exact rfl
  | assumption)
local macro_rules | `(tactic| walk_at "R") => `(tactic| first
  | (with_reducible apply rc_see_pairs) <;> walk_at "sd"
  | (with_reducible apply rc_hsum) <;> walk_at "sd"
  | (with_reducible apply rc_table) <;> walk_at "sd"
  | (with_reducible apply rc_lropes) <;> walk_at "sd"
  | (with_reducible apply rc_summedp) <;> walk_at "sd"
  | (with_reducible apply rc_lifted) <;> walk_at "sd"
  | (with_reducible apply rc_holds) <;> walk_at "sd"
  | (with_reducible apply rc_spare) <;> walk_at "sd"
  | (with_reducible apply rc_gain) <;> walk_at "sd"
  | (with_reducible apply rc_is_let) <;> walk_at "sd"
  | (with_reducible apply rc_lsum) <;> walk_at "sd"
  | (with_reducible apply rc_lspare) <;> walk_at "sd"
  | (with_reducible apply rc_held) <;> walk_at "sd"
  | (with_reducible apply rc_parts) <;> walk_at "sd"
  | (with_reducible apply rc_drawn) <;> walk_at "sd"
  | (with_reducible apply rc_lrow) <;> walk_at "sd"
  | (with_reducible apply rc_lplus) <;> walk_at "sd"
  | (with_reducible apply rc_times_int) <;> walk_at "sd"
  | (with_reducible apply rc_int_times) <;> walk_at "sd"
  | (with_reducible apply rc_less0) <;> walk_at "sd"
  | (with_reducible apply rc_init) <;> walk_at "sd")
local macro_rules | `(tactic| walk_at "evD") => `(tactic| first
  | (with_reducible apply ed_sum) <;> walk_at "go"
  | (with_reducible apply ed_min) <;> walk_at "go"
  | (with_reducible apply ed_max) <;> walk_at "go"
  | (with_reducible apply ed_heavy) <;> walk_at "go"
  | (with_reducible apply ed_table) <;> walk_at "go"
  | (with_reducible apply ed_make) <;> walk_at "go"
  | (with_reducible apply ed_meth) <;> walk_at "go"
  | (with_reducible apply ed_fldA) <;> walk_at "fd")
local macro_rules | `(tactic| walk_at "evL") => `(tactic| first
  | (with_reducible apply el_list) <;> walk_at "go"
  | (with_reducible apply el_cat) <;> walk_at "go"
  | (with_reducible apply el_rep) <;> walk_at "go"
  | (with_reducible apply el_slice) <;> walk_at "go"
  | (with_reducible apply el_meth) <;> walk_at "go")
local macro_rules | `(tactic| walk_at "evS") => `(tactic| first
  | (with_reducible apply es_fldA) <;> walk_at "fd")
local macro_rules | `(tactic| walk_at "evO") => `(tactic| first
  | with_reducible exact eo_none
  | (with_reducible apply eo_some) <;> walk_at "go")
local macro_rules | `(tactic| walk_at "go") => `(tactic| first
  | ((with_reducible show EvO _ _ _ _ _); walk_at "evO"))
local macro_rules | `(tactic| walk_at "fld") => `(tactic| first
  | (with_reducible apply sq_fld) <;> walk_at "st"
  | (with_reducible apply at_fld) <;> walk_at "st")
local macro_rules | `(tactic| walk_at "fldL") => `(tactic| first
  | (with_reducible apply sq_fldL) <;> walk_at "st"
  | (with_reducible apply at_fldL) <;> walk_at "st")
local macro_rules | `(tactic| walk_at "drop") => `(tactic| first
  | (with_reducible apply sq_drop) <;> walk_at "st"
  | (with_reducible apply at_drop) <;> walk_at "st")
section
variable {K : PySem.W.Frag} {C B pN pO : Addr}
local macro_rules | `(tactic| walk_at "fb") => `(tactic| first | exact lk_ropes | exact lk_bodies | exact lk_rows | exact lk_held | exact lk_aim | exact rfl | assumption)
local macro_rules | `(tactic| walk_at "evD") => `(tactic| first
  | (with_reducible apply ed_fldR) <;> walk_at "fb"
  | (with_reducible apply ed_fldA) <;> walk_at "fb")
local macro_rules | `(tactic| walk_at "evS") => `(tactic| first
  | (with_reducible apply es_fldR) <;> walk_at "fb"
  | (with_reducible apply es_fldA) <;> walk_at "fb")
theorem find_congr {α : Type} {p q : α → Bool} : ∀ {l : List α}, (∀ x ∈ l, p x = q x) → l.find? p = l.find? q
  | [], _ => rfl
  | x :: l, h => by
    rw [List.find?_cons, List.find?_cons, h x List.mem_cons_self, find_congr fun y hy => h y (List.mem_cons_of_mem _ hy)]
theorem below_ent {n m : Nat} {cost : Nat → Rat} {s : BSt} : belowF ((List.range m).map (aimF n cost s.h s.R)) = entF n m cost s := by
  unfold belowF entF
  rw [List.length_map, List.length_range]
  exact find_congr fun c hc => by rw [getD_rng (List.mem_range.mp hc)]
theorem cut_aim {n m k : Nat} {cost : Nat → Rat} {s : BSt} (h : m ≤ k) : cutD (dFs (aimLL n k cost s)) none (some (m : Int)) = dFs ((List.range m).map (aimF n cost s.h s.R)) := by
  unfold cutD
  have l : (dFs (aimLL n k cost s)).length = k + 1 := by simp [aimLL]
  have e1 : HT.sIx (dFs (aimLL n k cost s)).length 0 none = 0 := by rw [l]; rfl
  have e2 : HT.sIx (dFs (aimLL n k cost s)).length (dFs (aimLL n k cost s)).length (some (m : Int)) = m := by
    rw [l, HT.sIx_nat]; omega
  rw [e1, e2]
  unfold aimLL dFs
  rw [List.drop_zero, Nat.sub_zero, ← List.map_take, ← List.map_take, List.take_range, Nat.min_eq_left (by omega)]
theorem p_Board_go (T : BoT K B) : Body (t_Board_go K C B) n_Board_go (sp_Board_go K C B) := by
  rintro vs H Q E ⟨Hf, Hb, a, dx, ws, l, fs, vs', ds, fs', rfl, F, hx, hfs, rr, ⟨m, n, s, cost, OI, hn, hm, hO, hv, h01, rfl, rfl, rfl⟩, k⟩
  refine startMu (n := 1) F hx hfs rr (by simp [rr.length]) ?_
  obtain ⟨cl, nR, nB, nW, nH, nA⟩ := T
  simp only [List.map, uns, List.cons_append, List.nil_append]
  unfold t_Board_go
  have hc0 : ∀ c, 0 ≤ cost c := fun c => by rcases h01 c with h | h <;> rw [h] <;> decide
  obtain ⟨N, N1, N2, N3⟩ := seq_ends (m := m) hn (by omega) (by omega) hc0 hv
  have sz : ∀ s : BSt, BV n (m + n) OI s → SzB n (m + n) s.R := fun s hv i hi c hc => entry_sz hn hO hv.bas hv.det hc hi
  have az : ∀ s : BSt, BV n (m + n) OI s → ∀ c, c ≤ m + n → Sz 300 (aimF n cost s.h s.R c) := fun s hv c hc => (aim_sz hn h01 (sz s hv) n (Nat.le_refl _) c hc).mono (by decide)
  refine at_while (fun x ρ' => ∃ j c1, j ≤ N ∧ x = N - j ∧ ρ' = [.ob a B (bF .f m n (rowsL n (m + n) (seqF n m (m + n) cost s j).R) (heldL n (seqF n m (m + n) cost s j).h) (aimLL n (m + n) cost (seqF n m (m + n) cost s j))), c1]) N ⟨0, _, Nat.zero_le _, rfl, rfl⟩ ?_
  rintro x ρ' ⟨j, c1, hj, rfl, rfl⟩
  refine ⟨true, eb_val ed_bl, fun _ => ?_, fun z => nomatch z⟩
  have hvj := BV.seq (m := m) hn (by omega) hc0 hv j
  generalize hs : seqF n m (m + n) cost s j = sj at *
  have s1 : SzL 4000 ((List.range m).map (aimF n cost sj.h sj.R)) := szL_rng fun c hc => (az sj hvj c (by omega)).mono (by decide)
  have el : EvL K C (tSl (rSlL K) (tFld K (tVar 0) "aim") tNoPart (tPart (tFld K (tVar 0) "ropes"))) [.ob a B (bF .f m n (rowsL n (m + n) sj.R) (heldL n sj.h) (aimLL n (m + n) cost sj)), c1] (dFs ((List.range m).map (aimF n cost sj.h sj.R))) :=
    EvL.to (el_slice (by walk_at "evS") eo_none (eo_some (by walk_at "evR"))) (cut_aim (by omega))
  cases e : entF n m cost sj with
  | none =>
    refine sq_asg (d := .non) (ev_call (ea_cons el.s.r ea_nil) (by walk_at "era") (rc_below s1 (by simp; omega) (by rw [below_ent, e])) rfl) (by simp) ?_
    dsimp only [List.set]
    refine sq_when (b := true) (eb_val (ed_isN (by walk_at "evR") fun Hf H v r => by rw [show v = .non from r]; rfl)) (fun _ => ?_) (fun z => nomatch z)
    have e3 : stepF n m (m + n) cost (seqF n m (m + n) cost s j) = none := by rw [hs]; unfold stepF; rw [e]; rfl
    have e4 : goF n m (m + n) cost s = sj := by
      have := seq_stays e3 (6562 - j)
      rw [show j + (6562 - j) = 6562 by omega, hs] at this
      exact this
    rw [e4] at k
    exact at_retMu rfl k
  | some c =>
    obtain ⟨h1, h2, h3⟩ := entF_some e
    have L := leaveF_spec (Leave.ex (k := m + n) hc0 h2)
    have hvt := hvj.turn hn (by omega) L
    refine sq_asg (d := .int (c : Int)) (ev_call (ea_cons el.s.r ea_nil) (by walk_at "era") (rc_below s1 (by simp; omega) (by rw [below_ent, e])) rfl) (by simp) ?_
    dsimp only [List.set]
    refine sq_when (b := false) (eb_val (ed_isN (d := .int (c : Int)) (by walk_at "evR") fun Hf H v r => by rw [show v = .int (c : Int) from r]; rfl)) (fun z => nomatch z) (fun _ => ?_)
    have elv : EvD K C (tMeth B "leaving" (sp_Board_leaving K C B) [] E0 (tVar 0) (tCons (tVar 1) tNil)) [.ob a B (bF .f m n (rowsL n (m + n) sj.R) (heldL n sj.h) (aimLL n (m + n) cost sj)), .dat (.int (c : Int))] (.int (leaveF n (m + n) sj c : Int)) :=
      ed_methRd rfl (nm_bF (by decide +kernel)) (by walk_at "evA") (by walk_at "era") (by rw [era_bF]; exact ⟨m, n, sj, _, c, OI, hn, hm, sz sj hvj, hvj, ⟨_, L⟩, by omega, rfl, rfl, rfl⟩) rfl
    refine at_methMu rfl (nm_bF (by decide +kernel)) fr_bF (eq_cons elv (eq_cons (by walk_at "evD") eq_nil)) (by walk_at "era")
      (fs' := bF .f m n (rowsL n (m + n) (turnF sj (leaveF n (m + n) sj c) c).R) (heldL n (turnF sj (leaveF n (m + n) sj c) c).h) (aimLL n (m + n) cost (turnF sj (leaveF n (m + n) sj c) c)))
      ⟨m, n, sj, some cost, leaveF n (m + n) sj c, c, hn, hm, sz sj hvj, sz _ hvt, (fun cost' hcost => by cases hcost; exact az sj hvj), L.lt, by omega, pos_ne L.pos, rfl, rfl, rfl⟩ fr_bF ?_
    dsimp only [List.set]
    have e3 : stepF n m (m + n) cost (seqF n m (m + n) cost s j) = some (turnF sj (leaveF n (m + n) sj c) c) := by rw [hs]; unfold stepF; rw [e]; rfl
    have hlt : j < N := by
      by_cases z : j = N
      · rw [z, N2] at e3; cases e3
      · omega
    have e4 : seqF n m (m + n) cost s (j + 1) = turnF sj (leaveF n (m + n) sj c) c := by
      show (stepF n m (m + n) cost (seqF n m (m + n) cost s j)).getD (seqF n m (m + n) cost s j) = _
      rw [e3]; rfl
    exact at_gx ⟨N - (j + 1), by omega, j + 1, _, by omega, rfl, by rw [e4]⟩
end
end Hw
namespace Hw
open PySem L2
local macro_rules | `(tactic| walk_at "sd") => `(tactic| first
  | exact rfl
  | decide +kernel
  | (exact Nat.le_of_ble_eq_true rfl)
  | assumption
  | (exact Sz.mono (by assumption) (by decide))
  | decide
  | omega
  | (exact eraAll_map _ _ (fun _ => rfl) _)
  | (exact frAll_map _ (fun _ => rfl) _)
  | exact EqD.frac
  | exact EqD.int
  | exact EqD.bl
  | exact EqD.pair
  | skip)
local macro_rules | `(tactic| walk_at "R") => `(tactic| first
  | (with_reducible apply rc_common) <;> walk_at "sd"
  | (with_reducible apply rc_fraction) <;> walk_at "sd"
  | (with_reducible apply rc_plus) <;> walk_at "sd"
  | (with_reducible apply rc_minus) <;> walk_at "sd"
  | (with_reducible apply rc_times) <;> walk_at "sd"
  | (with_reducible apply rc_over) <;> walk_at "sd"
  | (with_reducible apply rc_less) <;> walk_at "sd"
  | (with_reducible apply rc_cell) <;> walk_at "sd"
  | (with_reducible apply rc_whole) <;> walk_at "sd"
  | (with_reducible apply rc_low) <;> walk_at "sd"
  | (with_reducible apply rc_part) <;> walk_at "sd"
  | (with_reducible apply rc_lfraction) <;> walk_at "sd")
local macro_rules | `(tactic| walk_at "evD") => `(tactic| first
  | with_reducible exact ed_int
  | with_reducible exact ed_bl
  | with_reducible exact ed_non
  | with_reducible exact ed_str
  | (with_reducible apply ed_var) <;> walk_at "go"
  | (with_reducible apply ed_add) <;> walk_at "go"
  | (with_reducible apply ed_sub) <;> walk_at "go"
  | (with_reducible apply ed_mul) <;> walk_at "go"
  | (with_reducible apply ed_div) <;> walk_at "go"
  | (with_reducible apply ed_mod) <;> walk_at "go"
  | (with_reducible apply ed_pow) <;> walk_at "go"
  | (with_reducible apply ed_neg) <;> walk_at "go"
  | (with_reducible apply ed_lt) <;> walk_at "go"
  | (with_reducible apply ed_le) <;> walk_at "go"
  | (with_reducible apply ed_gt) <;> walk_at "go"
  | (with_reducible apply ed_ge) <;> walk_at "go"
  | (with_reducible apply ed_leLt) <;> walk_at "go"
  | (with_reducible apply ed_leLe) <;> walk_at "go"
  | (with_reducible apply ed_ltLt) <;> walk_at "go"
  | (with_reducible apply ed_eq) <;> walk_at "go"
  | (with_reducible apply ed_ne) <;> walk_at "go"
  | (with_reducible apply ed_idxT) <;> walk_at "go"
  | (with_reducible apply ed_idxS) <;> walk_at "go"
  | (with_reducible apply ed_idxScr) <;> walk_at "go"
  | (with_reducible apply ed_lenS) <;> walk_at "go"
  | (with_reducible apply ed_lenT) <;> walk_at "go"
  | (with_reducible apply ed_lenScr) <;> walk_at "go"
  | (with_reducible apply ed_abs) <;> walk_at "go"
  | (with_reducible apply ed_intI) <;> walk_at "go"
  | (with_reducible apply ed_intB) <;> walk_at "go"
  | (with_reducible apply ed_intS) <;> walk_at "go"
  | (with_reducible apply ed_andV) <;> walk_at "go"
  | (with_reducible apply ed_orV) <;> walk_at "go"
  | (with_reducible apply ed_notV) <;> walk_at "go"
  | (with_reducible apply ed_tup) <;> walk_at "go"
  | (with_reducible apply ev_call) <;> walk_at "go"
  | (with_reducible apply ed_isi) <;> walk_at "go"
  | (with_reducible apply ed_catS) <;> walk_at "go"
  | (with_reducible apply ed_repS) <;> walk_at "go"
  | (with_reducible apply EvL.dat) <;> walk_at "go")
local macro_rules | `(tactic| walk_at "evR") => `(tactic| first
  | (with_reducible apply EvD.r) <;> walk_at "go"
  | (with_reducible apply EvS.r) <;> walk_at "go")
local macro_rules | `(tactic| walk_at "evS") => `(tactic| first
  | (with_reducible apply es_own) <;> walk_at "go"
  | (with_reducible apply EvD.s) <;> walk_at "go"
  | (with_reducible apply EvL.s) <;> walk_at "go")
local macro_rules | `(tactic| walk_at "evL") => `(tactic| first
  | (with_reducible apply el_lst) <;> walk_at "go"
  | (with_reducible apply ev_callL) <;> walk_at "go")
local macro_rules | `(tactic| walk_at "evA") => `(tactic| first
  | with_reducible exact ea_nil
  | (with_reducible apply ea_cons) <;> walk_at "go")
local macro_rules | `(tactic| walk_at "evQ") => `(tactic| first
  | with_reducible exact eq_nil
  | (with_reducible apply eq_cons) <;> walk_at "go")
local macro_rules | `(tactic| walk_at "evB") => `(tactic| first
  | (with_reducible apply eb_and) <;> walk_at "go"
  | (with_reducible apply eb_or) <;> walk_at "go"
  | (with_reducible apply eb_not) <;> walk_at "go"
  | (with_reducible apply eb_val) <;> walk_at "go")
local macro_rules | `(tactic| walk_at "era") => `(tactic| first
  | ((simp only [eraAll, D.era, era_dF, era_dP, era_dFs, era_dI, era_dS, era_dPs, era_dRows, era_dRopes]); done)
  | ((simp only [eraAll, D.era, era_dF, era_dP, era_dFs, era_dI, era_dS, era_dPs, era_dRows, era_dRopes]); exact rfl))
local macro_rules | `(tactic| walk_at "frs") => `(tactic| first
  | exact rfl
  | exact fr_dFs _
  | exact fr_dI _
  | exact fr_dS _
  | exact fr_dPs _
  | exact fr_dRows _
  | exact fr_dRopes _
  | (simp only [frAll, D.fr, fr_dFs, fr_dI, fr_dS, fr_dPs, fr_dRows, fr_dRopes, decide_true, Bool.and_true, Bool.true_and]; done))
local macro_rules | `(tactic| walk_at "go") => `(tactic| first
  | ((with_reducible show eraAll _ = _); walk_at "era")
  | ((with_reducible show D.fr _ = true); walk_at "frs")
  | ((with_reducible show frAll _ = true); walk_at "frs")
  | ((with_reducible show _ = some (Cell.dat _)); exact rfl)
  | ((with_reducible show _ = some (Cell.own _)); exact rfl)
  | ((with_reducible show D.tn _ = some _); exact rfl)
  | ((with_reducible show atI _ _ = some _); first | exact rfl | assumption)
  | ((with_reducible show EvD _ _ _ _ _); walk_at "evD")
  | ((with_reducible show EvR _ _ _ _ _); walk_at "evR")
  | ((with_reducible show EvS _ _ _ _ _); walk_at "evS")
  | ((with_reducible show EvL _ _ _ _ _); walk_at "evL")
  | ((with_reducible show EvA _ _ _ _ _); walk_at "evA")
  | ((with_reducible show EvAD _ _ _ _ _); walk_at "evQ")
  | ((with_reducible show EvB _ _ _ _ _); walk_at "evB")
  | ((with_reducible show _ = _ → _); intro hv; walk_at "go")
  | ((fail_if_success (with_reducible show EvD _ _ _ _ _)); (fail_if_success (with_reducible show EvR _ _ _ _ _)); (fail_if_success (with_reducible show EvS _ _ _ _ _)); (fail_if_success (with_reducible show EvL _ _ _ _ _)); (fail_if_success (with_reducible show EvA _ _ _ _ _)); (fail_if_success (with_reducible show EvAD _ _ _ _ _)); (fail_if_success (with_reducible show EvB _ _ _ _ _)); (fail_if_success (with_reducible show _ = some (Cell.dat _))); (fail_if_success (with_reducible show _ = some (Cell.own _))); (fail_if_success (with_reducible show atI _ _ = some _)); (fail_if_success (with_reducible show D.tn _ = some _)); (fail_if_success (with_reducible show eraAll _ = _)); (fail_if_success (with_reducible show D.fr _ = true)); (fail_if_success (with_reducible show frAll _ = true)); first | walk_at "R" | walk_at "sd"))
local macro_rules | `(tactic| walk_at "len") => `(tactic| first
  | exact (by decide)
  | (simp; done)
  | omega)
local macro_rules | `(tactic| walk_at "st") => `(tactic| first
  | ((with_reducible show At _ _ _ _ _ _); try dsimp only [List.set])
  | ((with_reducible show _ = _ → At _ _ _ _ _ _); intro hb)
  | ((with_reducible show _ < _); walk_at "len")
  | walk_at "go")
local macro_rules | `(tactic| walk_at "asg") => `(tactic| first
  | (with_reducible apply sq_asg) <;> walk_at "st"
  | (with_reducible apply at_asg) <;> walk_at "st")
local macro_rules | `(tactic| walk_at "asgL") => `(tactic| first
  | (with_reducible apply sq_asgL) <;> walk_at "st"
  | (with_reducible apply at_asgL) <;> walk_at "st")
local macro_rules | `(tactic| walk_at "app") => `(tactic| first
  | (with_reducible apply sq_append) <;> walk_at "st"
  | (with_reducible apply at_append) <;> walk_at "st")
local macro_rules | `(tactic| walk_at "ret") => `(tactic| first
  | (with_reducible apply at_ret) <;> walk_at "st")
local macro_rules | `(tactic| walk_at "when") => `(tactic| first
  | (with_reducible apply sq_when) <;> walk_at "st"
  | (with_reducible apply at_when) <;> walk_at "st")
local macro_rules | `(tactic| walk_at "if") => `(tactic| first
  | (with_reducible apply sq_if) <;> walk_at "st"
  | (with_reducible apply at_if) <;> walk_at "st")
local macro_rules | `(tactic| walk_at "fd") => `(tactic| first
  | exact rfl
  | assumption)
local macro_rules | `(tactic| walk_at "R") => `(tactic| first
  | (with_reducible apply rc_see_pairs) <;> walk_at "sd"
  | (with_reducible apply rc_hsum) <;> walk_at "sd"
  | (with_reducible apply rc_table) <;> walk_at "sd"
  | (with_reducible apply rc_lropes) <;> walk_at "sd"
  | (with_reducible apply rc_summedp) <;> walk_at "sd"
  | (with_reducible apply rc_lifted) <;> walk_at "sd"
  | (with_reducible apply rc_holds) <;> walk_at "sd"
  | (with_reducible apply rc_spare) <;> walk_at "sd"
  | (with_reducible apply rc_gain) <;> walk_at "sd"
  | (with_reducible apply rc_is_let) <;> walk_at "sd"
  | (with_reducible apply rc_lsum) <;> walk_at "sd"
  | (with_reducible apply rc_lspare) <;> walk_at "sd"
  | (with_reducible apply rc_held) <;> walk_at "sd"
  | (with_reducible apply rc_parts) <;> walk_at "sd"
  | (with_reducible apply rc_drawn) <;> walk_at "sd"
  | (with_reducible apply rc_lrow) <;> walk_at "sd"
  | (with_reducible apply rc_lplus) <;> walk_at "sd"
  | (with_reducible apply rc_times_int) <;> walk_at "sd"
  | (with_reducible apply rc_int_times) <;> walk_at "sd"
  | (with_reducible apply rc_less0) <;> walk_at "sd"
  | (with_reducible apply rc_init) <;> walk_at "sd")
local macro_rules | `(tactic| walk_at "evD") => `(tactic| first
  | (with_reducible apply ed_sum) <;> walk_at "go"
  | (with_reducible apply ed_min) <;> walk_at "go"
  | (with_reducible apply ed_max) <;> walk_at "go"
  | (with_reducible apply ed_heavy) <;> walk_at "go"
  | (with_reducible apply ed_table) <;> walk_at "go"
  | (with_reducible apply ed_make) <;> walk_at "go"
  | (with_reducible apply ed_meth) <;> walk_at "go"
  | (with_reducible apply ed_fldA) <;> walk_at "fd")
local macro_rules | `(tactic| walk_at "evL") => `(tactic| first
  | (with_reducible apply el_list) <;> walk_at "go"
  | (with_reducible apply el_cat) <;> walk_at "go"
  | (with_reducible apply el_rep) <;> walk_at "go"
  | (with_reducible apply el_slice) <;> walk_at "go"
  | (with_reducible apply el_meth) <;> walk_at "go")
local macro_rules | `(tactic| walk_at "evS") => `(tactic| first
  | (with_reducible apply es_fldA) <;> walk_at "fd")
local macro_rules | `(tactic| walk_at "evO") => `(tactic| first
  | with_reducible exact eo_none
  | (with_reducible apply eo_some) <;> walk_at "go")
local macro_rules | `(tactic| walk_at "go") => `(tactic| first
  | ((with_reducible show EvO _ _ _ _ _); walk_at "evO"))
local macro_rules | `(tactic| walk_at "fld") => `(tactic| first
  | (with_reducible apply sq_fld) <;> walk_at "st"
  | (with_reducible apply at_fld) <;> walk_at "st")
local macro_rules | `(tactic| walk_at "fldL") => `(tactic| first
  | (with_reducible apply sq_fldL) <;> walk_at "st"
  | (with_reducible apply at_fldL) <;> walk_at "st")
local macro_rules | `(tactic| walk_at "drop") => `(tactic| first
  | (with_reducible apply sq_drop) <;> walk_at "st"
  | (with_reducible apply at_drop) <;> walk_at "st")
section
variable {K : PySem.W.Frag} {C B pN pO : Addr}
local macro_rules | `(tactic| walk_at "fb") => `(tactic| first | exact rfl | assumption)
local macro_rules | `(tactic| walk_at "evD") => `(tactic| first
  | (with_reducible apply ed_fldR) <;> walk_at "fb"
  | (with_reducible apply ed_fldA) <;> walk_at "fb")
theorem rng3 {f : Nat → Rat} {m n : Nat} : (List.range (m + n + 1)).map f = (List.range m).map f ++ (List.range n).map (fun o => f (m + o)) ++ [f (m + n)] := by
  rw [range_map_succ, List.range_add, List.map_append, List.map_map]; rfl
theorem row0_eq {ws : List Int} {tb : List (List Int)} {b : Nat} : (List.range (tb.length + ws.length + 1)).map ((st0 ws tb).R b) = ((List.range tb.length).map fun r => ((tget tb r b : Int) : Rat)) ++ ((List.range ws.length).map fun o => (((if o = b then 1 else 0 : Int)) : Rat)) ++ [((ws.getD b 0 : Int) : Rat)] := by
  rw [rng3]
  congr 1
  · congr 1
    · exact List.map_congr_left fun r hr => by
        show ((OIh ws tb r b : Int) : Rat) = _
        rw [OIh_rope (List.mem_range.mp hr)]
    · exact List.map_congr_left fun o ho => by
        show ((OIh ws tb (tb.length + o) b : Int) : Rat) = _
        rw [OIh_help (List.mem_range.mp ho)]
  · show [((OIh ws tb (tb.length + ws.length) b : Int) : Rat)] = _
    rw [OIh_last]
theorem ints_dF {α : Type} (l : List α) (f : α → Int) : (l.map fun x => D.tup [.int (f x), .int 1]) = dFs (l.map fun x => ((f x : Int) : Rat)) := by
  rw [dFs, List.map_map]
  exact List.map_congr_left fun x _ => (dF_int _).symm
def bF3 (m n : Nat) (rows : List (List Rat)) : List (Str × Fld) := [("ropes", .dat (.int m)), ("bodies", .dat (.int n)), ("rows", .own (dQ .f rows))]
theorem put3 {m n : Nat} : putFld "rows" (.own []) (putFld "bodies" (.dat (.int (n : Int))) (putFld "ropes" (.dat (.int (m : Int))) [])) = bF3 m n [] := by
  rw [show putFld ("ropes" : Str) (.dat (.int (m : Int))) [] = [(("ropes" : Str), .dat (.int (m : Int)))] from rfl, putFld_ne ne_rb, putFld_ne ne_rw]
  rw [show putFld ("bodies" : Str) (.dat (.int (n : Int))) [] = [(("bodies" : Str), .dat (.int (n : Int)))] from rfl, putFld_ne ne_bw]; rfl
theorem l3_ropes {m n : Nat} {rows : List (List Rat)} : (bF3 m n rows).lookup ("ropes" : Str) = some (.dat (.int m)) := look_eq
theorem l3_bodies {m n : Nat} {rows : List (List Rat)} : (bF3 m n rows).lookup ("bodies" : Str) = some (.dat (.int n)) := by unfold bF3; rw [look_ne ne_rb, look_eq]
theorem l3_rows {m n : Nat} {rows : List (List Rat)} : (bF3 m n rows).lookup ("rows" : Str) = some (.own (dQ .f rows)) := by unfold bF3; rw [look_ne ne_rw, look_ne ne_bw, look_eq]
theorem p3_rows {m n : Nat} {rows rows' : List (List Rat)} : putFld "rows" (.own (dQ .f rows')) (bF3 m n rows) = bF3 m n rows' := by unfold bF3; rw [putFld_ne ne_rw, putFld_ne ne_bw, putFld_eq]
theorem p3_end {m n : Nat} {rows : List (List Rat)} {held : List Nat} : putFld "aim" (.dat (.lst .f [])) (putFld "held" (.own (dN held)) (bF3 m n rows)) = bF .f m n rows held [] := by
  unfold bF3
  rw [putFld_ne ne_rh, putFld_ne ne_bh, putFld_ne ne_wh, putFld_ne ne_ra, putFld_ne ne_ba, putFld_ne ne_wa]
  rw [show putFld ("held" : Str) (.own (dN held)) [] = [(("held" : Str), .own (dN held))] from rfl, putFld_ne ne_ha]; rfl
theorem p_Board_init (T : BoT K B) (TH : HoT K C) : Body (t_Board_init K C) n_Board_init (sp_Board_init K C B) := by
  rintro vs H Q E ⟨Hf, Hb, a, dx, ws0, l, fs, vs', ds, fs', rfl, F, hx, hfs, rr, ⟨ws, tb, ho, rfl, rfl, rfl⟩, k⟩
  refine startMu (n := 4) F hx hfs rr (by simp [rr.length]) ?_
  obtain ⟨cl, nR, nB, nW, nH, nA⟩ := T
  have r5 := ho.r5
  have w4 := ho.w4
  simp only [List.map, uns, List.cons_append, List.nil_append]
  unfold t_Board_init
  have lt : (dRows .x tb).length = tb.length := by simp [dRows]
  refine sq_fld cl nR rfl (by simp) (d := .int (tb.length : Int)) (EvD.to (ed_lenS (ed_table TH (by walk_at "evD")).s) (by rw [lt])) ?_
  refine sq_fld cl nB rfl (by simp [putFld]) (d := .int (ws.length : Int)) (EvD.to (ed_lenS (ed_heavy TH (by walk_at "evD")).s) (by simp)) ?_
  refine sq_fldL cl nW rfl (by simp [putFld]; split <;> simp) (xs := []) (by walk_at "evL") ?_
  dsimp only [List.set]
  rw [put3]
  have v1 : ∀ {c0 c2 c3 c4 c5 : Cell}, EvD K C (tVar 1) [c0, .dat (.ho .x ws tb), c2, c3, c4, c5] (.ho .x ws tb) := ed_var rfl
  refine sq_forN (n := ws.length) (ea_cons (ed_fldA rfl l3_bodies cl nB).r ea_nil) (by omega) (fun i ρ' => ∃ c2 c3 c4 c5, ρ' = [.ob a B (bF3 tb.length ws.length ((List.range i).map fun b => (List.range (tb.length + ws.length + 1)).map ((st0 ws tb).R b))), .dat (.ho .x ws tb), c2, c3, c4, c5]) ⟨_, _, _, _, rfl⟩ (by rintro i ρ' ⟨_, _, _, _, rfl⟩; simp) ?_ ?_
  · rintro b ρ' hb ⟨c2, c3, c4, c5, rfl⟩
    dsimp only [List.set]
    have w1 : (dI ws).length = ws.length := by simp
    refine sq_asgL (xs := dFs ((List.range tb.length).map fun r => ((tget tb r b : Int) : Rat))) (EvL.to (el_lcN (n := tb.length) (g := fun r => D.tup [.int (tget tb r b), .int 1]) (ea_cons (ed_fldA rfl l3_ropes cl nR).r ea_nil) (by omega) (by simp) fun r hr => ?_) (ints_dF _ _)) (by simp) ?_
    · have a2 : atI (dRows .x tb) (r : Int) = some (.lst .x (dI (tb.getD r []))) := atI_rows hr
      have a3 : atI (dI (tb.getD r [])) (b : Int) = some (.int (tget tb r b)) := atI_map 0 (by rw [(ho.tget hr hb).2]; exact hb)
      dsimp only [List.set]
      walk_at "evD"
    dsimp only [List.set]
    have e2 : EvL K C (tLc (iRng1 (tCons (tFld K (tVar 0) "bodies") tNil)) (gName 5) tYes (tTup (tCons (xInt (xEq K (tVar 5) (tVar 2))) (tCons (tC (.int 1)) tNil))) [5])
        [.ob a B (bF3 tb.length ws.length ((List.range b).map fun b => (List.range (tb.length + ws.length + 1)).map ((st0 ws tb).R b))), .dat (.ho .x ws tb), .dat (.int b), .own (dFs ((List.range tb.length).map fun r => ((tget tb r b : Int) : Rat))), c4, c5] (dFs ((List.range ws.length).map fun o => (((if o = b then 1 else 0 : Int)) : Rat))) := by
      refine EvL.to (el_lcN (n := ws.length) (g := fun o => D.tup [.int (if o = b then 1 else 0), .int 1]) (ea_cons (ed_fldA rfl l3_bodies cl nB).r ea_nil) (by omega) (by simp) fun o ho' => ?_) (ints_dF _ _)
      dsimp only [List.set]
      refine EvD.to (d := .tup [.int (if decide ((o : Int) = (b : Int)) then 1 else 0), .int 1]) (by walk_at "evD") ?_
      by_cases z : o = b
      · subst z; simp
      · rw [if_neg z, if_neg (by simp; omega)]
    refine sq_asgL (xs := dFs ((List.range tb.length).map fun r => ((tget tb r b : Int) : Rat)) ++ dFs ((List.range ws.length).map fun o => (((if o = b then 1 else 0 : Int)) : Rat))) (el_cat (es_own rfl) e2.s (by simp; omega)) (by simp) ?_
    dsimp only [List.set]
    have a4 : atI (dI ws) (b : Int) = some (.int (ws.getD b 0)) := atI_map 0 hb
    refine at_appendF cl nW rfl l3_rows (d := .lst .f (dFs ((List.range (tb.length + ws.length + 1)).map ((st0 ws tb).R b)))) (EvL.dat (EvL.to (el_cat (es_own rfl) (EvL.s (el_lst (eq_cons (ed_tup (eq_cons (ed_idxS (ed_heavy TH v1).s (ed_var rfl).r a4) (eq_cons ed_int eq_nil)) (by simp)) eq_nil) (by simp))) (by simp; omega)) (by
      rw [row0_eq, dFs_snoc, dF_int, show ∀ x y : List Rat, dFs (x ++ y) = dFs x ++ dFs y from fun x y => List.map_append]))) (by simp [dQ]; omega) ?_
    dsimp only [List.set]
    rw [show dQ .f ((List.range b).map fun b => (List.range (tb.length + ws.length + 1)).map ((st0 ws tb).R b)) ++ [D.lst .f (dFs ((List.range (tb.length + ws.length + 1)).map ((st0 ws tb).R b)))] = dQ .f ((List.range (b + 1)).map fun b => (List.range (tb.length + ws.length + 1)).map ((st0 ws tb).R b)) by
      rw [range_map_succ (fun b => (List.range (tb.length + ws.length + 1)).map ((st0 ws tb).R b)) b]; unfold dQ; rw [List.map_append]; rfl, p3_rows]
    exact at_gx ⟨_, _, _, _, rfl⟩
  · rintro ρ' ⟨c2, c3, c4, c5, rfl⟩
    refine sq_fldL cl nH rfl (by simp [bF3]) (xs := dN (heldL ws.length (st0 ws tb).h)) (EvL.to (el_lcN (n := ws.length) (g := fun b => .int ((tb.length + b : Nat) : Int)) (ea_cons (ed_fldA rfl l3_bodies cl nB).r ea_nil) (by omega) (by simp) fun b hb => ?_) (by simp [heldL, dN, st0])) ?_
    · dsimp only [List.set]
      exact EvD.to (ed_add (ed_fldA rfl l3_ropes cl nR).r (ed_var rfl).r) (by simp)
    dsimp only [List.set]
    refine at_fld cl nA rfl (by rw [← List.length_map (f := (·.1))]; unfold bF3; rw [putFld_ne ne_rh, putFld_ne ne_bh, putFld_ne ne_wh]; show 4 < 1000; decide) (d := .lst .f []) (EvL.dat (by walk_at "evL")) ?_
    rw [p3_end]
    exact at_endMu rfl k
end
end Hw
namespace Hw
open PySem L2
local macro_rules | `(tactic| walk_at "sd") => `(tactic| first
  | exact rfl
  | decide +kernel
  | (exact Nat.le_of_ble_eq_true rfl)
  | assumption
  | (exact Sz.mono (by assumption) (by decide))
  | decide
  | omega
  | (exact eraAll_map _ _ (fun _ => rfl) _)
  | (exact frAll_map _ (fun _ => rfl) _)
  | exact EqD.frac
  | exact EqD.int
  | exact EqD.bl
  | exact EqD.pair
  | skip)
local macro_rules | `(tactic| walk_at "R") => `(tactic| first
  | (with_reducible apply rc_common) <;> walk_at "sd"
  | (with_reducible apply rc_fraction) <;> walk_at "sd"
  | (with_reducible apply rc_plus) <;> walk_at "sd"
  | (with_reducible apply rc_minus) <;> walk_at "sd"
  | (with_reducible apply rc_times) <;> walk_at "sd"
  | (with_reducible apply rc_over) <;> walk_at "sd"
  | (with_reducible apply rc_less) <;> walk_at "sd"
  | (with_reducible apply rc_cell) <;> walk_at "sd"
  | (with_reducible apply rc_whole) <;> walk_at "sd"
  | (with_reducible apply rc_low) <;> walk_at "sd"
  | (with_reducible apply rc_part) <;> walk_at "sd"
  | (with_reducible apply rc_lfraction) <;> walk_at "sd")
local macro_rules | `(tactic| walk_at "evD") => `(tactic| first
  | with_reducible exact ed_int
  | with_reducible exact ed_bl
  | with_reducible exact ed_non
  | with_reducible exact ed_str
  | (with_reducible apply ed_var) <;> walk_at "go"
  | (with_reducible apply ed_add) <;> walk_at "go"
  | (with_reducible apply ed_sub) <;> walk_at "go"
  | (with_reducible apply ed_mul) <;> walk_at "go"
  | (with_reducible apply ed_div) <;> walk_at "go"
  | (with_reducible apply ed_mod) <;> walk_at "go"
  | (with_reducible apply ed_pow) <;> walk_at "go"
  | (with_reducible apply ed_neg) <;> walk_at "go"
  | (with_reducible apply ed_lt) <;> walk_at "go"
  | (with_reducible apply ed_le) <;> walk_at "go"
  | (with_reducible apply ed_gt) <;> walk_at "go"
  | (with_reducible apply ed_ge) <;> walk_at "go"
  | (with_reducible apply ed_leLt) <;> walk_at "go"
  | (with_reducible apply ed_leLe) <;> walk_at "go"
  | (with_reducible apply ed_ltLt) <;> walk_at "go"
  | (with_reducible apply ed_eq) <;> walk_at "go"
  | (with_reducible apply ed_ne) <;> walk_at "go"
  | (with_reducible apply ed_idxT) <;> walk_at "go"
  | (with_reducible apply ed_idxS) <;> walk_at "go"
  | (with_reducible apply ed_idxScr) <;> walk_at "go"
  | (with_reducible apply ed_lenS) <;> walk_at "go"
  | (with_reducible apply ed_lenT) <;> walk_at "go"
  | (with_reducible apply ed_lenScr) <;> walk_at "go"
  | (with_reducible apply ed_abs) <;> walk_at "go"
  | (with_reducible apply ed_intI) <;> walk_at "go"
  | (with_reducible apply ed_intB) <;> walk_at "go"
  | (with_reducible apply ed_intS) <;> walk_at "go"
  | (with_reducible apply ed_andV) <;> walk_at "go"
  | (with_reducible apply ed_orV) <;> walk_at "go"
  | (with_reducible apply ed_notV) <;> walk_at "go"
  | (with_reducible apply ed_tup) <;> walk_at "go"
  | (with_reducible apply ev_call) <;> walk_at "go"
  | (with_reducible apply ed_isi) <;> walk_at "go"
  | (with_reducible apply ed_catS) <;> walk_at "go"
  | (with_reducible apply ed_repS) <;> walk_at "go"
  | (with_reducible apply EvL.dat) <;> walk_at "go")
local macro_rules | `(tactic| walk_at "evR") => `(tactic| first
  | (with_reducible apply EvD.r) <;> walk_at "go"
  | (with_reducible apply EvS.r) <;> walk_at "go")
local macro_rules | `(tactic| walk_at "evS") => `(tactic| first
  | (with_reducible apply es_own) <;> walk_at "go"
  | (with_reducible apply EvD.s) <;> walk_at "go"
  | (with_reducible apply EvL.s) <;> walk_at "go")
local macro_rules | `(tactic| walk_at "evL") => `(tactic| first
  | (with_reducible apply el_lst) <;> walk_at "go"
  | (with_reducible apply ev_callL) <;> walk_at "go")
local macro_rules | `(tactic| walk_at "evA") => `(tactic| first
  | with_reducible exact ea_nil
  | (with_reducible apply ea_cons) <;> walk_at "go")
local macro_rules | `(tactic| walk_at "evQ") => `(tactic| first
  | with_reducible exact eq_nil
  | (with_reducible apply eq_cons) <;> walk_at "go")
local macro_rules | `(tactic| walk_at "evB") => `(tactic| first
  | (with_reducible apply eb_and) <;> walk_at "go"
  | (with_reducible apply eb_or) <;> walk_at "go"
  | (with_reducible apply eb_not) <;> walk_at "go"
  | (with_reducible apply eb_val) <;> walk_at "go")
local macro_rules | `(tactic| walk_at "era") => `(tactic| first
  | ((simp only [eraAll, D.era, era_dF, era_dP, era_dFs, era_dI, era_dS, era_dPs, era_dRows, era_dRopes]); done)
  | ((simp only [eraAll, D.era, era_dF, era_dP, era_dFs, era_dI, era_dS, era_dPs, era_dRows, era_dRopes]); exact rfl))
local macro_rules | `(tactic| walk_at "frs") => `(tactic| first
  | exact rfl
  | exact fr_dFs _
  | exact fr_dI _
  | exact fr_dS _
  | exact fr_dPs _
  | exact fr_dRows _
  | exact fr_dRopes _
  | (simp only [frAll, D.fr, fr_dFs, fr_dI, fr_dS, fr_dPs, fr_dRows, fr_dRopes, decide_true, Bool.and_true, Bool.true_and]; done))
local macro_rules | `(tactic| walk_at "go") => `(tactic| first
  | ((with_reducible show eraAll _ = _); walk_at "era")
  | ((with_reducible show D.fr _ = true); walk_at "frs")
  | ((with_reducible show frAll _ = true); walk_at "frs")
  | ((with_reducible show _ = some (Cell.dat _)); exact rfl)
  | ((with_reducible show _ = some (Cell.own _)); exact rfl)
  | ((with_reducible show D.tn _ = some _); exact rfl)
  | ((with_reducible show atI _ _ = some _); first | exact rfl | assumption)
  | ((with_reducible show EvD _ _ _ _ _); walk_at "evD")
  | ((with_reducible show EvR _ _ _ _ _); walk_at "evR")
  | ((with_reducible show EvS _ _ _ _ _); walk_at "evS")
  | ((with_reducible show EvL _ _ _ _ _); walk_at "evL")
  | ((with_reducible show EvA _ _ _ _ _); walk_at "evA")
  | ((with_reducible show EvAD _ _ _ _ _); walk_at "evQ")
  | ((with_reducible show EvB _ _ _ _ _); walk_at "evB")
  | ((with_reducible show _ = _ → _); intro hv; walk_at "go")
  | ((fail_if_success (with_reducible show EvD _ _ _ _ _)); (fail_if_success (with_reducible show EvR _ _ _ _ _)); (fail_if_success (with_reducible show EvS _ _ _ _ _)); (fail_if_success (with_reducible show EvL _ _ _ _ _)); (fail_if_success (with_reducible show EvA _ _ _ _ _)); (fail_if_success (with_reducible show EvAD _ _ _ _ _)); (fail_if_success (with_reducible show EvB _ _ _ _ _)); (fail_if_success (with_reducible show _ = some (Cell.dat _))); (fail_if_success (with_reducible show _ = some (Cell.own _))); (fail_if_success (with_reducible show atI _ _ = some _)); (fail_if_success (with_reducible show D.tn _ = some _)); (fail_if_success (with_reducible show eraAll _ = _)); (fail_if_success (with_reducible show D.fr _ = true)); (fail_if_success (with_reducible show frAll _ = true)); first | walk_at "R" | walk_at "sd"))
local macro_rules | `(tactic| walk_at "len") => `(tactic| first
  | exact (by decide)
  | (simp; done)
  | omega)
local macro_rules | `(tactic| walk_at "st") => `(tactic| first
  | ((with_reducible show At _ _ _ _ _ _); try dsimp only [List.set])
  | ((with_reducible show _ = _ → At _ _ _ _ _ _); intro hb)
  | ((with_reducible show _ < _); walk_at "len")
  | walk_at "go")
local macro_rules | `(tactic| walk_at "asg") => `(tactic| first
  | (with_reducible apply sq_asg) <;> walk_at "st"
  | (with_reducible apply at_asg) <;> walk_at "st")
local macro_rules | `(tactic| walk_at "asgL") => `(tactic| first
  | (with_reducible apply sq_asgL) <;> walk_at "st"
  | (with_reducible apply at_asgL) <;> walk_at "st")
local macro_rules | `(tactic| walk_at "app") => `(tactic| first
  | (with_reducible apply sq_append) <;> walk_at "st"
  | (with_reducible apply at_append) <;> walk_at "st")
local macro_rules | `(tactic| walk_at "ret") => `(tactic| first
  | (with_reducible apply at_ret) <;> walk_at "st")
local macro_rules | `(tactic| walk_at "when") => `(tactic| first
  | (with_reducible apply sq_when) <;> walk_at "st"
  | (with_reducible apply at_when) <;> walk_at "st")
local macro_rules | `(tactic| walk_at "if") => `(tactic| first
  | (with_reducible apply sq_if) <;> walk_at "st"
  | (with_reducible apply at_if) <;> walk_at "st")
local macro_rules | `(tactic| walk_at "fd") => `(tactic| first
  | exact rfl
  | assumption)
local macro_rules | `(tactic| walk_at "R") => `(tactic| first
  | (with_reducible apply rc_see_pairs) <;> walk_at "sd"
  | (with_reducible apply rc_hsum) <;> walk_at "sd"
  | (with_reducible apply rc_table) <;> walk_at "sd"
  | (with_reducible apply rc_lropes) <;> walk_at "sd"
  | (with_reducible apply rc_summedp) <;> walk_at "sd"
  | (with_reducible apply rc_lifted) <;> walk_at "sd"
  | (with_reducible apply rc_holds) <;> walk_at "sd"
  | (with_reducible apply rc_spare) <;> walk_at "sd"
  | (with_reducible apply rc_gain) <;> walk_at "sd"
  | (with_reducible apply rc_is_let) <;> walk_at "sd"
  | (with_reducible apply rc_lsum) <;> walk_at "sd"
  | (with_reducible apply rc_lspare) <;> walk_at "sd"
  | (with_reducible apply rc_held) <;> walk_at "sd"
  | (with_reducible apply rc_parts) <;> walk_at "sd"
  | (with_reducible apply rc_drawn) <;> walk_at "sd"
  | (with_reducible apply rc_lrow) <;> walk_at "sd"
  | (with_reducible apply rc_lplus) <;> walk_at "sd"
  | (with_reducible apply rc_times_int) <;> walk_at "sd"
  | (with_reducible apply rc_int_times) <;> walk_at "sd"
  | (with_reducible apply rc_less0) <;> walk_at "sd"
  | (with_reducible apply rc_init) <;> walk_at "sd")
local macro_rules | `(tactic| walk_at "evD") => `(tactic| first
  | (with_reducible apply ed_sum) <;> walk_at "go"
  | (with_reducible apply ed_min) <;> walk_at "go"
  | (with_reducible apply ed_max) <;> walk_at "go"
  | (with_reducible apply ed_heavy) <;> walk_at "go"
  | (with_reducible apply ed_table) <;> walk_at "go"
  | (with_reducible apply ed_make) <;> walk_at "go"
  | (with_reducible apply ed_meth) <;> walk_at "go"
  | (with_reducible apply ed_fldA) <;> walk_at "fd")
local macro_rules | `(tactic| walk_at "evL") => `(tactic| first
  | (with_reducible apply el_list) <;> walk_at "go"
  | (with_reducible apply el_cat) <;> walk_at "go"
  | (with_reducible apply el_rep) <;> walk_at "go"
  | (with_reducible apply el_slice) <;> walk_at "go"
  | (with_reducible apply el_meth) <;> walk_at "go")
local macro_rules | `(tactic| walk_at "evS") => `(tactic| first
  | (with_reducible apply es_fldA) <;> walk_at "fd")
local macro_rules | `(tactic| walk_at "evO") => `(tactic| first
  | with_reducible exact eo_none
  | (with_reducible apply eo_some) <;> walk_at "go")
local macro_rules | `(tactic| walk_at "go") => `(tactic| first
  | ((with_reducible show EvO _ _ _ _ _); walk_at "evO"))
local macro_rules | `(tactic| walk_at "fld") => `(tactic| first
  | (with_reducible apply sq_fld) <;> walk_at "st"
  | (with_reducible apply at_fld) <;> walk_at "st")
local macro_rules | `(tactic| walk_at "fldL") => `(tactic| first
  | (with_reducible apply sq_fldL) <;> walk_at "st"
  | (with_reducible apply at_fldL) <;> walk_at "st")
local macro_rules | `(tactic| walk_at "drop") => `(tactic| first
  | (with_reducible apply sq_drop) <;> walk_at "st"
  | (with_reducible apply at_drop) <;> walk_at "st")
section
variable {K : PySem.W.Frag} {C B pN pO : Addr}
theorem cost1_eq {m n c : Nat} : costF ((List.range m).map (fun _ => (0 : Rat)) ++ (List.range n).map fun _ => (1 : Rat)) c = cost1 m n c := by
  unfold costF cost1
  by_cases h : c < m
  · rw [if_pos h, List.getD_eq_getElem?_getD, List.getElem?_append_left (by simpa using h), List.getElem?_map, List.getElem?_range h]; rfl
  · rw [if_neg h, List.getD_eq_getElem?_getD, List.getElem?_append_right (by simp; omega)]
    by_cases h2 : c < m + n
    · rw [if_pos h2, List.getElem?_map, List.getElem?_range (by simp; omega)]; rfl
    · rw [if_neg h2, List.getElem?_eq_none (by simp; omega)]; rfl
theorem cost1_01 (m n : Nat) : ∀ c, cost1 m n c = 0 ∨ cost1 m n c = 1 := fun c => by
  unfold cost1
  split
  · exact .inl rfl
  · split
    · exact .inr rfl
    · exact .inl rfl
theorem p_first_board (T : BoT K B) (hN : IsN K pN) (hO : IsO K pO) : Body (t_first_board K C B pN pO) n_first_board (sp_first_board K C B) := by
  rintro vs H Q E ⟨ds, fs', r, ⟨ws, tb, ho, rfl, rfl⟩, k⟩
  refine start_at r (n := 3) (by rw [r.length]; rfl) ?_
  obtain ⟨cl, nR, nB, nW, nH, nA⟩ := T
  have r5 := ho.r5
  have w4 := ho.w4
  simp only [List.map, uns, List.cons_append, List.nil_append]
  unfold t_first_board
  have hv := BV.start ho
  have hO' := OIh_le ho
  have sz0' : SzB ws.length (tb.length + ws.length) (st0 ws tb).R := fun i hi c hc => entry_sz w4 hO' hv.bas hv.det hc hi
  refine sq_makeB (by simp) (eq_cons (by walk_at "evD") eq_nil) (by walk_at "era") ⟨ws, tb, ho, rfl, rfl, rfl⟩ fr_bF fun a => ?_
  dsimp only [List.set]
  have e1 : EvD K C (xCat (tLc (iRng1 (tCons (tFld K (tVar 1) "ropes") tNil)) (gName 2) tYes (tC (.ref pN)) [2]) (tLc (iRng1 (tCons (tFld K (tVar 1) "bodies") tNil)) (gName 3) tYes (tC (.ref pO)) [3]))
      [.dat (.ho .x ws tb), .ob a B (bF .f tb.length ws.length (rowsL ws.length (tb.length + ws.length) (st0 ws tb).R) (heldL ws.length (st0 ws tb).h) []), .un, .un] (.lst .f (dFs ((List.range tb.length).map (fun _ => (0 : Rat)) ++ (List.range ws.length).map fun _ => (1 : Rat)))) :=
    EvL.dat (EvL.to (el_cat (el_lcN (n := tb.length) (g := fun _ => dF 0) (ea_cons (ed_fldA rfl lk_ropes cl nR).r ea_nil) (by omega) (by simp) fun r _ => ed_nought hN).s (el_lcN (n := ws.length) (g := fun _ => dF 1) (ea_cons (ed_fldA rfl lk_bodies cl nB).r ea_nil) (by omega) (by simp) fun r _ => ed_one hO).s (by simp; omega)) (by rw [dFs, List.map_append, List.map_map, List.map_map]; rfl))
  refine sq_methMu rfl (nm_bF (by decide +kernel)) fr_bF (eq_cons e1 eq_nil) (by walk_at "era")
    ⟨tb.length, ws.length, st0 ws tb, [], _, w4, r5, sz0', hv.bas.hb, by simp, by
      intro q hq
      rcases List.mem_append.mp hq with h | h
      · obtain ⟨_, _, rfl⟩ := List.mem_map.mp h; exact .inl rfl
      · obtain ⟨_, _, rfl⟩ := List.mem_map.mp h; exact .inr rfl, rfl, rfl, rfl⟩ fr_bF ?_
  dsimp only [List.set]
  rw [show costF ((List.range tb.length).map (fun _ => (0 : Rat)) ++ (List.range ws.length).map fun _ => (1 : Rat)) = cost1 tb.length ws.length from funext fun c => cost1_eq]
  refine sq_methMu rfl (nm_bF (by decide +kernel)) fr_bF eq_nil (by walk_at "era") ⟨tb.length, ws.length, st0 ws tb, cost1 tb.length ws.length, OIh ws tb, w4, r5, hO', hv, cost1_01 _ _, rfl, rfl, rfl⟩ fr_bF ?_
  dsimp only [List.set]
  exact at_retOb (fun _ => rfl) rfl k
end
end Hw
namespace Hw
open PySem L2
local macro_rules | `(tactic| walk_at "sd") => `(tactic| first
  | exact rfl
  | decide +kernel
  | (exact Nat.le_of_ble_eq_true rfl)
  | assumption
  | (exact Sz.mono (by assumption) (by decide))
  | decide
  | omega
  | (exact eraAll_map _ _ (fun _ => rfl) _)
  | (exact frAll_map _ (fun _ => rfl) _)
  | exact EqD.frac
  | exact EqD.int
  | exact EqD.bl
  | exact EqD.pair
  | skip)
local macro_rules | `(tactic| walk_at "R") => `(tactic| first
  | (with_reducible apply rc_common) <;> walk_at "sd"
  | (with_reducible apply rc_fraction) <;> walk_at "sd"
  | (with_reducible apply rc_plus) <;> walk_at "sd"
  | (with_reducible apply rc_minus) <;> walk_at "sd"
  | (with_reducible apply rc_times) <;> walk_at "sd"
  | (with_reducible apply rc_over) <;> walk_at "sd"
  | (with_reducible apply rc_less) <;> walk_at "sd"
  | (with_reducible apply rc_cell) <;> walk_at "sd"
  | (with_reducible apply rc_whole) <;> walk_at "sd"
  | (with_reducible apply rc_low) <;> walk_at "sd"
  | (with_reducible apply rc_part) <;> walk_at "sd"
  | (with_reducible apply rc_lfraction) <;> walk_at "sd")
local macro_rules | `(tactic| walk_at "evD") => `(tactic| first
  | with_reducible exact ed_int
  | with_reducible exact ed_bl
  | with_reducible exact ed_non
  | with_reducible exact ed_str
  | (with_reducible apply ed_var) <;> walk_at "go"
  | (with_reducible apply ed_add) <;> walk_at "go"
  | (with_reducible apply ed_sub) <;> walk_at "go"
  | (with_reducible apply ed_mul) <;> walk_at "go"
  | (with_reducible apply ed_div) <;> walk_at "go"
  | (with_reducible apply ed_mod) <;> walk_at "go"
  | (with_reducible apply ed_pow) <;> walk_at "go"
  | (with_reducible apply ed_neg) <;> walk_at "go"
  | (with_reducible apply ed_lt) <;> walk_at "go"
  | (with_reducible apply ed_le) <;> walk_at "go"
  | (with_reducible apply ed_gt) <;> walk_at "go"
  | (with_reducible apply ed_ge) <;> walk_at "go"
  | (with_reducible apply ed_leLt) <;> walk_at "go"
  | (with_reducible apply ed_leLe) <;> walk_at "go"
  | (with_reducible apply ed_ltLt) <;> walk_at "go"
  | (with_reducible apply ed_eq) <;> walk_at "go"
  | (with_reducible apply ed_ne) <;> walk_at "go"
  | (with_reducible apply ed_idxT) <;> walk_at "go"
  | (with_reducible apply ed_idxS) <;> walk_at "go"
  | (with_reducible apply ed_idxScr) <;> walk_at "go"
  | (with_reducible apply ed_lenS) <;> walk_at "go"
  | (with_reducible apply ed_lenT) <;> walk_at "go"
  | (with_reducible apply ed_lenScr) <;> walk_at "go"
  | (with_reducible apply ed_abs) <;> walk_at "go"
  | (with_reducible apply ed_intI) <;> walk_at "go"
  | (with_reducible apply ed_intB) <;> walk_at "go"
  | (with_reducible apply ed_intS) <;> walk_at "go"
  | (with_reducible apply ed_andV) <;> walk_at "go"
  | (with_reducible apply ed_orV) <;> walk_at "go"
  | (with_reducible apply ed_notV) <;> walk_at "go"
  | (with_reducible apply ed_tup) <;> walk_at "go"
  | (with_reducible apply ev_call) <;> walk_at "go"
  | (with_reducible apply ed_isi) <;> walk_at "go"
  | (with_reducible apply ed_catS) <;> walk_at "go"
  | (with_reducible apply ed_repS) <;> walk_at "go"
  | (with_reducible apply EvL.dat) <;> walk_at "go")
local macro_rules | `(tactic| walk_at "evR") => `(tactic| first
  | (with_reducible apply EvD.r) <;> walk_at "go"
  | (with_reducible apply EvS.r) <;> walk_at "go")
local macro_rules | `(tactic| walk_at "evS") => `(tactic| first
  | (with_reducible apply es_own) <;> walk_at "go"
  | (with_reducible apply EvD.s) <;> walk_at "go"
  | (with_reducible apply EvL.s) <;> walk_at "go")
local macro_rules | `(tactic| walk_at "evL") => `(tactic| first
  | (with_reducible apply el_lst) <;> walk_at "go"
  | (with_reducible apply ev_callL) <;> walk_at "go")
local macro_rules | `(tactic| walk_at "evA") => `(tactic| first
  | with_reducible exact ea_nil
  | (with_reducible apply ea_cons) <;> walk_at "go")
local macro_rules | `(tactic| walk_at "evQ") => `(tactic| first
  | with_reducible exact eq_nil
  | (with_reducible apply eq_cons) <;> walk_at "go")
local macro_rules | `(tactic| walk_at "evB") => `(tactic| first
  | (with_reducible apply eb_and) <;> walk_at "go"
  | (with_reducible apply eb_or) <;> walk_at "go"
  | (with_reducible apply eb_not) <;> walk_at "go"
  | (with_reducible apply eb_val) <;> walk_at "go")
local macro_rules | `(tactic| walk_at "era") => `(tactic| first
  | ((simp only [eraAll, D.era, era_dF, era_dP, era_dFs, era_dI, era_dS, era_dPs, era_dRows, era_dRopes]); done)
  | ((simp only [eraAll, D.era, era_dF, era_dP, era_dFs, era_dI, era_dS, era_dPs, era_dRows, era_dRopes]); exact rfl))
local macro_rules | `(tactic| walk_at "frs") => `(tactic| first
  | exact rfl
  | exact fr_dFs _
  | exact fr_dI _
  | exact fr_dS _
  | exact fr_dPs _
  | exact fr_dRows _
  | exact fr_dRopes _
  | (simp only [frAll, D.fr, fr_dFs, fr_dI, fr_dS, fr_dPs, fr_dRows, fr_dRopes, decide_true, Bool.and_true, Bool.true_and]; done))
local macro_rules | `(tactic| walk_at "go") => `(tactic| first
  | ((with_reducible show eraAll _ = _); walk_at "era")
  | ((with_reducible show D.fr _ = true); walk_at "frs")
  | ((with_reducible show frAll _ = true); walk_at "frs")
  | ((with_reducible show _ = some (Cell.dat _)); exact rfl)
  | ((with_reducible show _ = some (Cell.own _)); exact rfl)
  | ((with_reducible show D.tn _ = some _); exact rfl)
  | ((with_reducible show atI _ _ = some _); first | exact rfl | assumption)
  | ((with_reducible show EvD _ _ _ _ _); walk_at "evD")
  | ((with_reducible show EvR _ _ _ _ _); walk_at "evR")
  | ((with_reducible show EvS _ _ _ _ _); walk_at "evS")
  | ((with_reducible show EvL _ _ _ _ _); walk_at "evL")
  | ((with_reducible show EvA _ _ _ _ _); walk_at "evA")
  | ((with_reducible show EvAD _ _ _ _ _); walk_at "evQ")
  | ((with_reducible show EvB _ _ _ _ _); walk_at "evB")
  | ((with_reducible show _ = _ → _); intro hv; walk_at "go")
  | ((fail_if_success (with_reducible show EvD _ _ _ _ _)); (fail_if_success (with_reducible show EvR _ _ _ _ _)); (fail_if_success (with_reducible show EvS _ _ _ _ _)); (fail_if_success (with_reducible show EvL _ _ _ _ _)); (fail_if_success (with_reducible show EvA _ _ _ _ _)); (fail_if_success (with_reducible show EvAD _ _ _ _ _)); (fail_if_success (with_reducible show EvB _ _ _ _ _)); (fail_if_success (with_reducible show _ = some (Cell.dat _))); (fail_if_success (with_reducible show _ = some (Cell.own _))); (fail_if_success (with_reducible show atI _ _ = some _)); (fail_if_success (with_reducible show D.tn _ = some _)); (fail_if_success (with_reducible show eraAll _ = _)); (fail_if_success (with_reducible show D.fr _ = true)); (fail_if_success (with_reducible show frAll _ = true)); first | walk_at "R" | walk_at "sd"))
local macro_rules | `(tactic| walk_at "len") => `(tactic| first
  | exact (by decide)
  | (simp; done)
  | omega)
local macro_rules | `(tactic| walk_at "st") => `(tactic| first
  | ((with_reducible show At _ _ _ _ _ _); try dsimp only [List.set])
  | ((with_reducible show _ = _ → At _ _ _ _ _ _); intro hb)
  | ((with_reducible show _ < _); walk_at "len")
  | walk_at "go")
local macro_rules | `(tactic| walk_at "asg") => `(tactic| first
  | (with_reducible apply sq_asg) <;> walk_at "st"
  | (with_reducible apply at_asg) <;> walk_at "st")
local macro_rules | `(tactic| walk_at "asgL") => `(tactic| first
  | (with_reducible apply sq_asgL) <;> walk_at "st"
  | (with_reducible apply at_asgL) <;> walk_at "st")
local macro_rules | `(tactic| walk_at "app") => `(tactic| first
  | (with_reducible apply sq_append) <;> walk_at "st"
  | (with_reducible apply at_append) <;> walk_at "st")
local macro_rules | `(tactic| walk_at "ret") => `(tactic| first
  | (with_reducible apply at_ret) <;> walk_at "st")
local macro_rules | `(tactic| walk_at "when") => `(tactic| first
  | (with_reducible apply sq_when) <;> walk_at "st"
  | (with_reducible apply at_when) <;> walk_at "st")
local macro_rules | `(tactic| walk_at "if") => `(tactic| first
  | (with_reducible apply sq_if) <;> walk_at "st"
  | (with_reducible apply at_if) <;> walk_at "st")
local macro_rules | `(tactic| walk_at "fd") => `(tactic| first
  | exact rfl
  | assumption)
local macro_rules | `(tactic| walk_at "R") => `(tactic| first
  | (with_reducible apply rc_see_pairs) <;> walk_at "sd"
  | (with_reducible apply rc_hsum) <;> walk_at "sd"
  | (with_reducible apply rc_table) <;> walk_at "sd"
  | (with_reducible apply rc_lropes) <;> walk_at "sd"
  | (with_reducible apply rc_summedp) <;> walk_at "sd"
  | (with_reducible apply rc_lifted) <;> walk_at "sd"
  | (with_reducible apply rc_holds) <;> walk_at "sd"
  | (with_reducible apply rc_spare) <;> walk_at "sd"
  | (with_reducible apply rc_gain) <;> walk_at "sd"
  | (with_reducible apply rc_is_let) <;> walk_at "sd"
  | (with_reducible apply rc_lsum) <;> walk_at "sd"
  | (with_reducible apply rc_lspare) <;> walk_at "sd"
  | (with_reducible apply rc_held) <;> walk_at "sd"
  | (with_reducible apply rc_parts) <;> walk_at "sd"
  | (with_reducible apply rc_drawn) <;> walk_at "sd"
  | (with_reducible apply rc_lrow) <;> walk_at "sd"
  | (with_reducible apply rc_lplus) <;> walk_at "sd"
  | (with_reducible apply rc_times_int) <;> walk_at "sd"
  | (with_reducible apply rc_int_times) <;> walk_at "sd"
  | (with_reducible apply rc_less0) <;> walk_at "sd"
  | (with_reducible apply rc_init) <;> walk_at "sd")
local macro_rules | `(tactic| walk_at "evD") => `(tactic| first
  | (with_reducible apply ed_sum) <;> walk_at "go"
  | (with_reducible apply ed_min) <;> walk_at "go"
  | (with_reducible apply ed_max) <;> walk_at "go"
  | (with_reducible apply ed_heavy) <;> walk_at "go"
  | (with_reducible apply ed_table) <;> walk_at "go"
  | (with_reducible apply ed_make) <;> walk_at "go"
  | (with_reducible apply ed_meth) <;> walk_at "go"
  | (with_reducible apply ed_fldA) <;> walk_at "fd")
local macro_rules | `(tactic| walk_at "evL") => `(tactic| first
  | (with_reducible apply el_list) <;> walk_at "go"
  | (with_reducible apply el_cat) <;> walk_at "go"
  | (with_reducible apply el_rep) <;> walk_at "go"
  | (with_reducible apply el_slice) <;> walk_at "go"
  | (with_reducible apply el_meth) <;> walk_at "go")
local macro_rules | `(tactic| walk_at "evS") => `(tactic| first
  | (with_reducible apply es_fldA) <;> walk_at "fd")
local macro_rules | `(tactic| walk_at "evO") => `(tactic| first
  | with_reducible exact eo_none
  | (with_reducible apply eo_some) <;> walk_at "go")
local macro_rules | `(tactic| walk_at "go") => `(tactic| first
  | ((with_reducible show EvO _ _ _ _ _); walk_at "evO"))
local macro_rules | `(tactic| walk_at "fld") => `(tactic| first
  | (with_reducible apply sq_fld) <;> walk_at "st"
  | (with_reducible apply at_fld) <;> walk_at "st")
local macro_rules | `(tactic| walk_at "fldL") => `(tactic| first
  | (with_reducible apply sq_fldL) <;> walk_at "st"
  | (with_reducible apply at_fldL) <;> walk_at "st")
local macro_rules | `(tactic| walk_at "drop") => `(tactic| first
  | (with_reducible apply sq_drop) <;> walk_at "st"
  | (with_reducible apply at_drop) <;> walk_at "st")
section
variable {K : PySem.W.Frag} {C B pN pO : Addr}
theorem fst_ok {ws : List Int} {tb : List (List Int)} (ho : HoOk ws tb) : BV ws.length (tb.length + ws.length) (OIh ws tb) (fstB ws tb) ∧ ∀ j, j < tb.length → 0 ≤ aimF ws.length (cost1 tb.length ws.length) (fstB ws tb).h (fstB ws tb).R j := by
  have r5 := ho.r5
  have w4 := ho.w4
  exact goF_end w4 (by omega) (by omega) (fun c => by rcases cost1_01 tb.length ws.length c with h | h <;> rw [h] <;> decide) (BV.start ho)
theorem bv_sz {ws : List Int} {tb : List (List Int)} (ho : HoOk ws tb) {s : BSt} (hv : BV ws.length (tb.length + ws.length) (OIh ws tb) s) : SzB ws.length (tb.length + ws.length) s.R := fun i hi c hc => entry_sz ho.w4 (OIh_le ho) hv.bas hv.det hc hi
theorem bv_az {ws : List Int} {tb : List (List Int)} (ho : HoOk ws tb) {s : BSt} {cost : Nat → Rat} (h01 : ∀ c, cost c = 0 ∨ cost c = 1) (hv : BV ws.length (tb.length + ws.length) (OIh ws tb) s) : ∀ c, c ≤ tb.length + ws.length → Sz 300 (aimF ws.length cost s.h s.R c) := fun c hc => (aim_sz ho.w4 h01 (bv_sz ho hv) _ (Nat.le_refl _) c hc).mono (by decide)
theorem p_judged (T : BoT K B) (hN : IsN K pN) (hO : IsO K pO) : Body (t_judged K C B pN pO) n_judged (sp_judged K C) := by
  rintro vs H Q E ⟨ds, fs', r, ⟨ws, tb, ho, rfl, h1, h2⟩, k⟩
  refine start_at r (n := 1) (by rw [r.length]; rfl) ?_
  obtain ⟨cl, nR, nB, nW, nH, nA⟩ := T
  have r5 := ho.r5
  have w4 := ho.w4
  simp only [List.map, uns, List.cons_append, List.nil_append]
  unfold t_judged
  obtain ⟨hv, _⟩ := fst_ok ho
  have az := bv_az ho (cost1_01 tb.length ws.length) hv
  refine sq_callO (by simp) (ea_cons (by walk_at "evR") ea_nil) (by walk_at "era") ⟨ws, tb, ho, rfl, rfl⟩ fr_bF fun a => ?_
  dsimp only [List.set]
  have e0 : EvD K C (xIdx K (tFld K (tVar 1) "aim") (xNeg (tC (.int 1)))) [.dat (.ho .x ws tb), .ob a B (bF .f tb.length ws.length (rowsL ws.length (tb.length + ws.length) (fstB ws tb).R) (heldL ws.length (fstB ws tb).h) (aimLL ws.length (tb.length + ws.length) (cost1 tb.length ws.length) (fstB ws tb)))] (dF (aimF ws.length (cost1 tb.length ws.length) (fstB ws tb).h (fstB ws tb).R (tb.length + ws.length))) :=
    ed_idxS (ed_fldA rfl lk_aim cl nA).s (ed_neg ed_int.r).r atI_last
  refine sq_when (b := !decide (aimF ws.length (cost1 tb.length ws.length) (fstB ws tb).h (fstB ws tb).R (tb.length + ws.length) = 0)) (eb_val (ed_ne e0.r (ed_nought hN).r EqD.frac)) (fun hb => ?_) (fun hb => ?_)
  · have hs : sinksP ws tb := by simpa [sinksP] using hb
    rw [h1 hs] at k
    have ew : EvL K C (tMeth B "worths" (sp_Board_worths K C B) [] E0 (tVar 1) (tCons (tC (.ref pO)) tNil)) [.dat (.ho .x ws tb), .ob a B (bF .f tb.length ws.length (rowsL ws.length (tb.length + ws.length) (fstB ws tb).R) (heldL ws.length (fstB ws tb).h) (aimLL ws.length (tb.length + ws.length) (cost1 tb.length ws.length) (fstB ws tb)))] (dFs ((List.range ws.length).map fun b => 1 - aimF ws.length (cost1 tb.length ws.length) (fstB ws tb).h (fstB ws tb).R (tb.length + b))) :=
      el_methRd rfl (nm_bF (by decide +kernel)) (ea_cons (ed_one hO).r ea_nil) (by walk_at "era") (by rw [era_bF]; exact ⟨_, _, fstB ws tb, _, 1, w4, r5, az, sz1 (by decide), rfl, rfl, rfl⟩) (by walk_at "frs")
    have sw : SzL 3000 ((List.range ws.length).map fun b => 1 - aimF ws.length (cost1 tb.length ws.length) (fstB ws tb).h (fstB ws tb).R (tb.length + b)) := szL_rng fun b hb => ((sz1 (n := 1) (by decide)).sub (az _ (by omega))).mono (by decide)
    refine at_retT (fun _ => rfl) (em_dat ed_str (em_own (EvL.to (ev_callL (ea_cons ew.s.r ea_nil) (by walk_at "era") (rc_turned sw (by simp; omega)) (by walk_at "frs")) (by rw [List.map_map]; rfl)) em_nil)) (by simp) k
  · have hs : ¬ sinksP ws tb := by simpa [sinksP] using hb
    rw [h2 hs] at k
    refine at_retT (fun _ => rfl) (em_dat ed_str (em_own (el_methRd rfl (nm_bF (by decide +kernel)) ea_nil (by walk_at "era") (by rw [era_bF]; exact ⟨_, _, fstB ws tb, _, OIh ws tb, w4, r5, hv, rfl, rfl, rfl⟩) (by walk_at "frs")) em_nil)) (by simp) k
end
end Hw
namespace Hw
/-! ## what a board's end shows -/
section
variable {ws : List Int} {tb : List (List Int)} {s : BSt} {cost : Nat → Rat}
/-- what each body's weight is worth -/
def worth (ws : List Int) (tb : List (List Int)) (cost : Nat → Rat) (s : BSt) (b : Nat) : Rat := S ws.length fun i => cost (s.h i) * s.R i (tb.length + b)
theorem inv_rows (hv : BV ws.length (tb.length + ws.length) (OIh ws tb) s) {c : Nat} (hc : c ≤ tb.length + ws.length) : ∀ i, i < ws.length → s.R i c = S ws.length fun b => (OIh ws tb c b : Rat) * s.R i (tb.length + b) := fun i hi => by
  have h := hv.bas.inj (fun i => s.R i c - S ws.length fun b => (OIh ws tb c b : Rat) * s.R i (tb.length + b)) (fun b hb => by
    rw [show S ws.length (fun i => (s.R i c - S ws.length fun b => (OIh ws tb c b : Rat) * s.R i (tb.length + b)) * (OIh ws tb (s.h i) b : Rat)) = S ws.length (fun i => s.R i c * (OIh ws tb (s.h i) b : Rat)) - S ws.length (fun i => S ws.length fun b2 => (OIh ws tb c b2 : Rat) * (s.R i (tb.length + b2) * (OIh ws tb (s.h i) b : Rat))) by
      rw [← S_sub]
      refine S_congr fun i _ => ?_
      rw [show S ws.length (fun b2 => (OIh ws tb c b2 : Rat) * (s.R i (tb.length + b2) * (OIh ws tb (s.h i) b : Rat))) = S ws.length (fun b2 => (OIh ws tb c b2 : Rat) * s.R i (tb.length + b2)) * (OIh ws tb (s.h i) b : Rat) by
        rw [← S_mulr]; exact S_congr fun _ _ => by grind]
      grind]
    rw [S_swap, ← hv.bas.sol c hc b hb]
    rw [show S ws.length (fun b2 => S ws.length fun i => (OIh ws tb c b2 : Rat) * (s.R i (tb.length + b2) * (OIh ws tb (s.h i) b : Rat))) = (OIh ws tb c b : Rat) by
      rw [S_one (r := b) hb fun b2 hb2 ne => by
        rw [S_mul, ← hv.bas.sol _ (by omega) b hb, OIh_help hb2, if_neg ne]; simp]
      rw [S_mul, ← hv.bas.sol _ (by omega) b hb, OIh_help hb, if_pos rfl]; simp]
    grind) i hi
  grind
theorem aim_worth (hv : BV ws.length (tb.length + ws.length) (OIh ws tb) s) {c : Nat} (hc : c ≤ tb.length + ws.length) : aimF ws.length cost s.h s.R c = cost c - S ws.length fun b => (OIh ws tb c b : Rat) * worth ws tb cost s b := by
  unfold aimF worth
  rw [show S ws.length (fun i => cost (s.h i) * s.R i c) = S ws.length fun i => S ws.length fun b => (OIh ws tb c b : Rat) * (cost (s.h i) * s.R i (tb.length + b)) from S_congr fun i hi => by
    rw [inv_rows hv hc i hi, ← S_mul]; exact S_congr fun _ _ => by grind]
  rw [S_swap]
  rw [show S ws.length (fun b => S ws.length fun i => (OIh ws tb c b : Rat) * (cost (s.h i) * s.R i (tb.length + b))) = S ws.length fun b => (OIh ws tb c b : Rat) * S ws.length fun i => cost (s.h i) * s.R i (tb.length + b) from S_congr fun b _ => by rw [S_mul]]
theorem aim_help (hv : BV ws.length (tb.length + ws.length) (OIh ws tb) s) {b : Nat} : aimF ws.length cost s.h s.R (tb.length + b) = cost (tb.length + b) - worth ws tb cost s b := rfl
end
end Hw
namespace Hw
/-! ## what is told of a hoist is so -/
section
variable {ws : List Int} {tb : List (List Int)} {s : BSt} {cost : Nat → Rat} {q : Rat}
def motF (ws : List Int) (tb : List (List Int)) (cost : Nat → Rat) (q : Rat) (s : BSt) : List Rat := (List.range ws.length).map fun b => 0 - (q - aimF ws.length cost s.h s.R (tb.length + b))
theorem S_neg (n : Nat) (f : Nat → Rat) : S n (fun i => - f i) = - S n f := by
  rw [show S n (fun i => - f i) = S n (fun i => (-1) * f i) from S_congr fun i _ => by grind, S_mul]; grind
theorem mot_getD (hq : ∀ b, b < ws.length → cost (tb.length + b) = q) (hv : BV ws.length (tb.length + ws.length) (OIh ws tb) s) {b : Nat} (hb : b < ws.length) : (motF ws tb cost q s).getD b 0 = - worth ws tb cost s b := by
  unfold motF
  rw [List.getD_eq_getElem?_getD, List.getElem?_map, List.getElem?_range hb]
  show 0 - (q - aimF ws.length cost s.h s.R (tb.length + b)) = _
  rw [aim_help hv, hq b hb]; grind
theorem mot_spare (hq : ∀ b, b < ws.length → cost (tb.length + b) = q) (hv : BV ws.length (tb.length + ws.length) (OIh ws tb) s) {row : List Int} {c : Nat} (hc : c ≤ tb.length + ws.length) (hr : row.length = ws.length) (hrow : ∀ b, b < ws.length → row.getD b 0 = OIh ws tb c b) :
    spareOf row (motF ws tb cost q s) = aimF ws.length cost s.h s.R c - cost c := by
  rw [aim_worth hv hc, spare_S, hr]
  rw [show S ws.length (fun b => (row.getD b 0 : Rat) * (motF ws tb cost q s).getD b 0) = S ws.length (fun b => - ((OIh ws tb c b : Rat) * worth ws tb cost s b)) from S_congr fun b hb => by
    rw [mot_getD hq hv hb, hrow b hb]; grind]
  rw [S_neg]; grind
theorem row_OI (ho : HoOk ws tb) {r : Nat} (hr : r < tb.length) : ∀ b, b < ws.length → (tb.getD r []).getD b 0 = OIh ws tb r b := fun b hb => by rw [OIh_rope hr]; rfl
theorem wF_eq (ws : List Int) : wF ws = (List.range ws.length).map fun b => ((ws.getD b 0 : Int) : Rat) := by
  unfold wF
  refine List.ext_getElem (by simp) fun i h1 h2 => ?_
  have hi : i < ws.length := by simpa using h1
  rw [List.getElem_map, List.getElem_map, List.getElem_range, List.getD_eq_getElem?_getD, List.getElem?_eq_getElem hi]; rfl
theorem pull_getD {n m k : Nat} {c : Nat} (hc : c < m) : ((List.range m).map (pullF n k s)).getD c 0 = pullF n k s c := by
  rw [List.getD_eq_getElem?_getD, List.getElem?_map, List.getElem?_range hc]; rfl
theorem pull_nonneg (hv : BV ws.length (tb.length + ws.length) (OIh ws tb) s) (c : Nat) : 0 ≤ pullF ws.length (tb.length + ws.length) s c := S_nonneg fun i hi => by
  split
  · exact hv.feas i hi
  · exact Rat.le_refl
theorem pull_lift (hv : BV ws.length (tb.length + ws.length) (OIh ws tb) s) (hz : ∀ i, i < ws.length → tb.length ≤ s.h i → s.R i (tb.length + ws.length) = 0) {b : Nat} (hb : b < ws.length) :
    S tb.length (fun r => pullF ws.length (tb.length + ws.length) s r * (tget tb r b : Rat)) = (ws.getD b 0 : Rat) := by
  have e0 : (ws.getD b 0 : Rat) = (OIh ws tb (tb.length + ws.length) b : Rat) := by rw [OIh_last]
  rw [e0, hv.bas.sol _ (Nat.le_refl _) b hb]
  rw [show S tb.length (fun r => pullF ws.length (tb.length + ws.length) s r * (tget tb r b : Rat)) = S tb.length (fun r => S ws.length fun i => (if s.h i = r then s.R i (tb.length + ws.length) else 0) * (tget tb r b : Rat)) from S_congr fun r _ => by
    unfold pullF; rw [S_mulr], S_swap]
  refine S_congr fun i hi => ?_
  by_cases h : s.h i < tb.length
  · rw [S_one (r := s.h i) h fun r hr ne => by rw [if_neg (Ne.symm ne)]; grind]
    rw [if_pos rfl, OIh_rope h]
  · rw [hz i hi (by omega), S_const0 fun r hr => by rw [if_neg (by omega)]; grind]; grind
/-- the pulls that a board shows hold its hoist -/
theorem pulls_hold (hv : BV ws.length (tb.length + ws.length) (OIh ws tb) s) (hz : ∀ i, i < ws.length → tb.length ≤ s.h i → s.R i (tb.length + ws.length) = 0) :
    holdsB ws tb ((List.range tb.length).map (pullF ws.length (tb.length + ws.length) s)) = true := by
  unfold holdsB
  rw [Bool.and_eq_true, decide_eq_true_eq, decide_eq_true_eq]
  constructor
  · intro p hp
    obtain ⟨c, _, rfl⟩ := List.mem_map.mp hp
    exact Rat.not_lt.mpr (pull_nonneg hv c)
  · rw [wF_eq]
    unfold liftL
    refine List.map_congr_left fun b hb => ?_
    have hb' := List.mem_range.mp hb
    rw [← pull_lift hv hz hb']
    show S tb.length _ = _
    exact S_congr fun r hr => by rw [pull_getD hr]
theorem aim_end {n k : Nat} (hk : cost k = 0) : aimF n cost s.h s.R k = - S n fun i => cost (s.h i) * s.R i k := by unfold aimF; rw [hk]; grind
theorem sum_nonneg (h0 : ∀ c, 0 ≤ cost c) {n k : Nat} {OI : Nat → Nat → Int} (hv : BV n k OI s) : 0 ≤ S n fun i => cost (s.h i) * s.R i k := S_nonneg fun i hi => Rat.mul_nonneg (h0 _) (hv.feas i hi)
theorem cost1_nn (m n : Nat) : ∀ c, 0 ≤ cost1 m n c := fun c => by
  unfold cost1
  split
  · exact Rat.le_refl
  · split
    · decide
    · exact Rat.le_refl
theorem cost1_last (m n : Nat) : cost1 m n (m + n) = 0 := by
  unfold cost1
  split
  · rfl
  · rw [if_neg (Nat.lt_irrefl _)]
theorem cost1_help {m n c : Nat} (h1 : m ≤ c) (h2 : c < m + n) : cost1 m n c = 1 := by
  unfold cost1
  rw [if_neg (by omega), if_pos h2]
theorem cost1_rope {m n c : Nat} (h1 : c < m) : cost1 m n c = 0 := by
  unfold cost1
  rw [if_pos h1]
theorem fst_bv (ho : HoOk ws tb) : BV ws.length (tb.length + ws.length) (OIh ws tb) (fstB ws tb) ∧ ∀ j, j < tb.length → 0 ≤ aimF ws.length (cost1 tb.length ws.length) (fstB ws tb).h (fstB ws tb).R j := by
  have r5 := ho.r5
  have w4 := ho.w4
  exact goF_end w4 (by omega) (by omega) (cost1_nn _ _) (BV.start ho)
theorem still_zero (ho : HoOk ws tb) (h : ¬ sinksP ws tb) : ∀ i, i < ws.length → tb.length ≤ (fstB ws tb).h i → (fstB ws tb).R i (tb.length + ws.length) = 0 := by
  obtain ⟨hv, _⟩ := fst_bv ho
  have e : S ws.length (fun i => cost1 tb.length ws.length ((fstB ws tb).h i) * (fstB ws tb).R i (tb.length + ws.length)) = 0 := by
    have h' : aimF ws.length (cost1 tb.length ws.length) (fstB ws tb).h (fstB ws tb).R (tb.length + ws.length) = 0 := by
      unfold sinksP at h
      exact Classical.not_not.mp h
    rw [aim_end (cost1_last _ _)] at h'
    grind
  intro i hi hh
  have z := S_zero_all (fun i hi => Rat.mul_nonneg (cost1_nn _ _ _) (hv.feas i hi)) e i hi
  have hb := hv.bas.hb i hi
  rw [cost1_help hh hb] at z
  grind
theorem still_holds (ho : HoOk ws tb) (h : ¬ sinksP ws tb) : holdsB ws tb (toldP ws tb) = true := pulls_hold (fst_bv ho).1 (still_zero ho h)
theorem toldM_eq : toldM ws tb = motF ws tb (cost1 tb.length ws.length) 1 (fstB ws tb) := rfl
theorem help1 : ∀ b, b < ws.length → cost1 tb.length ws.length (tb.length + b) = 1 := fun b hb => cost1_help (by omega) (by omega)
theorem sinks_let (ho : HoOk ws tb) : letB tb (toldM ws tb) = true := by
  obtain ⟨hv, hj⟩ := fst_bv ho
  unfold letB
  rw [decide_eq_true_eq]
  intro r hr
  obtain ⟨c, hc, rfl⟩ := List.getElem_of_mem hr
  have e : tb[c] = tb.getD c [] := by rw [List.getD_eq_getElem?_getD, List.getElem?_eq_getElem hc]; rfl
  rw [e, toldM_eq, mot_spare (help1) hv (by omega) (ho.row _ (getD_mem hc)) (row_OI ho hc), cost1_rope hc]
  have := hj c hc
  exact Rat.not_lt.mpr (by grind)
theorem mot_gain (hq : ∀ b, b < ws.length → cost (tb.length + b) = q) (hv : BV ws.length (tb.length + ws.length) (OIh ws tb) s) (hk : cost (tb.length + ws.length) = 0) :
    spareOf ws (motF ws tb cost q s) = aimF ws.length cost s.h s.R (tb.length + ws.length) := by
  rw [mot_spare hq hv (Nat.le_refl _) rfl (fun b hb => by rw [OIh_last]), hk]; grind
theorem sinks_gain (ho : HoOk ws tb) (h : sinksP ws tb) : spareOf ws (toldM ws tb) < 0 := by
  obtain ⟨hv, hj⟩ := fst_bv ho
  rw [toldM_eq, mot_gain help1 hv (cost1_last _ _)]
  have h0 : aimF ws.length (cost1 tb.length ws.length) (fstB ws tb).h (fstB ws tb).R (tb.length + ws.length) ≠ 0 := h
  have h1 := sum_nonneg (cost1_nn tb.length ws.length) hv
  rw [aim_end (cost1_last _ _)] at h0 ⊢
  grind
theorem toldM_len : (toldM ws tb).length = ws.length := by simp [toldM]
theorem toldP_len : (toldP ws tb).length = tb.length := by simp [toldP]
/-- what hangs by some pulls does not sink -/
theorem held_still (ho : HoOk ws tb) {ps : List Rat} (hp : ps.length = tb.length) (h : holdsB ws tb ps = true) : ¬ sinksP ws tb := fun hs => by
  have g := gain_nonneg ho.row hp toldM_len h (sinks_let ho)
  have e : gainOf ws (toldM ws tb) = spareOf ws (toldM ws tb) := gain_spare toldM_len
  rw [e] at g
  have := sinks_gain ho hs
  grind
/-- a body that weighs something and has no strand up -/
theorem no_up (ho : HoOk ws tb) {b : Nat} (hb : b < ws.length) (hw : 0 < ws.getD b 0) (hn : ∀ r ∈ tb, r.getD b 0 < 1) : sinksP ws tb := Classical.byContradiction fun h => by
  have hh := still_holds ho h
  unfold holdsB at hh
  rw [Bool.and_eq_true, decide_eq_true_eq, decide_eq_true_eq] at hh
  have e := pull_lift (fst_bv ho).1 (still_zero ho h) hb
  have hw' : (0 : Rat) < (ws.getD b 0 : Rat) := by exact_mod_cast hw
  rw [← e] at hw'
  obtain ⟨r, hr, hf⟩ := S_pos hw'
  have h1 := pull_nonneg (fst_bv ho).1 r
  have h2 := hn _ (getD_mem (a := []) hr)
  have h3 : tget tb r b ≤ 0 := by unfold tget; omega
  have h4 : ((tget tb r b : Int) : Rat) ≤ 0 := by exact_mod_cast h3
  have : pullF ws.length (tb.length + ws.length) (fstB ws tb) r * (tget tb r b : Rat) ≤ 0 := by
    have h5 : 0 ≤ pullF ws.length (tb.length + ws.length) (fstB ws tb) r * (- (tget tb r b : Rat)) := Rat.mul_nonneg h1 (by grind)
    grind
  grind
end
end Hw
namespace Hw
open PySem L2 PySem.Spec PyProof.Rows
/-! max(xs, default=d) of a list of ints -/
section
variable {prog : Program} {w : World} {A : Around} {E : Value → Shared → Prop}
theorem maxD_loop {I : Addr} {fp wr : List Addr} {n : Nat} {P : Nat → Value → Prop} {St : Nat → Heap → Prop} {R : Result → Shared → Prop} {kw : List (Str × Value)} (W : Walks prog w A.in1 I fp wr n P St) (bt : Nat → Nat → Bool) (hcmp : CmpOf prog w A.in1 .Gt P bt) (S : Addr) (hSf : S ∉ fp) :
    ∀ (k j : Nat) (s : Shared) (vb : Value) (c : Nat), n - (j + 1) = k → j + 1 ≤ n → St (j + 1) s.heap → P (argBest bt j) vb →
    s.heap.get? S = some { cls := .type "list", dict := none, data := .seq #[vb, vb] c, slots := #[] } →
    (∀ v h' tk, P (argBest bt (n - 1)) v → (∀ b o, b ∉ wr → b ≠ S → s.heap.get? b = some o → h'.get? b = some o) → R (.ok (.ret v)) { s with heap := h', toks := tk }) →
    codeAny (model prog w) A (.builtin "max.loop" ⟨[.ref I, .none, .ref S], kw⟩) R s := by
  have hSw : S ∉ wr := fun h => hSf (W.sub _ h)
  have hname : (toString "max" ++ toString ".loop" : String) = "max.loop" := by decide
  intro k
  induction k with
  | zero =>
    intro j s vb c hk hj hst hPb hS hR
    have hin : j + 1 = n := by omega
    refine codeAny_builtin PySem.F.entry_max_loop ?_
    rw [Around.under_plainId PySem.F.plain_max_loop _]
    show wpAny _ A.in1 (seqItems? (.ref S) >>= _) _ _ s
    refine wpAny_bind (wpAny_seqItems hS rfl ?_)
    show wpAny _ A.in1 (tryCatch (pyNext (.ref I)) _ >>= _) _ _ s
    refine wpAny_bind (wpAny_tryCatch (W.done s _ _ (hin ▸ hst) fun h' tk hk' => ?_))
    have hS' := hk' S _ hSw hS
    show wpAny _ A.in1 (updateSeq S (fun _ => #[]) >>= _) _ _ _
    refine wpAny_bind ?_
    refine wpAny_updateSeq hS' rfl (wpAny_bind (wpAny_letGo (wpAny_pure ?_)))
    exact hR vb _ tk (by rw [← hin]; exact hPb) fun b o hbw hbS e => (Heap.get?_update_other _ _ (Ne.symm hbS)).trans (hk' b o hbw e)
  | succ k ih =>
    intro j s vb c hk hj hst hPb hS hR
    have hlt : j + 1 < n := by omega
    refine codeAny_builtin PySem.F.entry_max_loop ?_
    rw [Around.under_plainId PySem.F.plain_max_loop _]
    show wpAny _ A.in1 (seqItems? (.ref S) >>= _) _ _ s
    refine wpAny_bind (wpAny_seqItems hS rfl ?_)
    show wpAny _ A.in1 (tryCatch (pyNext (.ref I)) _ >>= _) _ _ s
    refine wpAny_bind (wpAny_tryCatch (W.item (j + 1) s _ _ hlt hst fun v h' tk hP hst' hk' => ?_))
    have hS' := hk' S _ hSw hS
    show wpAny _ A.in1 (tryCatch (holding [v, v] (richCompare .Gt v vb >>= _)) _ >>= _) _ _ _
    refine wpAny_bind (wpAny_tryCatch (wpAny_holding (wpAny_bind (hcmp (j + 1) (argBest bt j) v vb _ _ _ hP hPb ?_))))
    refine wpAny_bind (wpAny_holding (wpAny_truthy_bool ?_))
    refine wpAny_bind (wpAny_letGo (wpAny_pure ?_))
    cases hb : bt (j + 1) (argBest bt j) with
    | true =>
      simp only [if_true]
      refine wpAny_bind ?_
      refine wpAny_updateSeq hS' rfl (wpAny_bind (wpAny_letGo ?_))
      rw [hname]
      refine wpAny_pure ⟨plainId_quiet PySem.F.plain_max_loop _, ih (j + 1) _ v _ (by omega) hlt (W.frame _ _ _ hst' fun b hbf o e => ?_) (by simp only [argBest, hb, if_true]; exact hP) (Heap.get?_update_self _ hS' rfl)
        fun v' h'' tk'' hP' hk'' => ?_⟩
      · exact (Heap.get?_update_other _ _ (fun h : S = b => hSf (by rw [h]; exact hbf))).trans e
      · exact hR v' h'' tk'' hP' fun b o hbw hbS e => hk'' b o hbw hbS ((Heap.get?_update_other _ _ (Ne.symm hbS)).trans (hk' b o hbw e))
    | false =>
      simp only [Bool.false_eq_true, if_false]
      refine wpAny_bind (wpAny_letGo ?_)
      rw [hname]
      refine wpAny_pure ⟨plainId_quiet PySem.F.plain_max_loop _, ih (j + 1) _ vb c (by omega) hlt hst' (by simp only [argBest, hb, Bool.false_eq_true, if_false]; exact hPb) hS' fun v' h'' tk'' hP' hk'' => ?_⟩
      exact hR v' h'' tk'' hP' fun b o hbw hbS e => hk'' b o hbw hbS (hk' b o hbw e)
theorem maxD_args (a v : Value) : argsOk "max" ⟨[a], [(Str.ofString "default", v)]⟩ := by unfold argsOk; kernel_rfl
theorem call_maxD {s : Shared} {l : Addr} {xs : Array (Int × Tok)} {d : Value} {Q : Value → Shared → Prop} (hh : A.handled = none) (hl : s.heap.IsList l (intItems xs))
    (h0 : xs.size = 0 → ∀ h' tk, (∀ b o, s.heap.get? b = some o → h'.get? b = some o) → Q d { s with heap := h', toks := tk })
    (h : 0 < xs.size → ∀ v h' tk, (intItems xs)[argBest (fun i j => decide (numAt xs i > numAt xs j)) (xs.size - 1)]? = some v → (∀ b o, s.heap.get? b = some o → h'.get? b = some o) → Q v { s with heap := h', toks := tk }) :
    wpAny (model prog w) A (call (.builtin "max") [.ref l] [(Str.ofString "default", d)]) Q E s := by
  have hname : (toString "max" ++ toString ".loop" : String) = "max.loop" := by decide
  refine PyProof.Rows.kmk_tree PySem.F.kind_max PySem.F.plain_max PySem.F.entry_max (maxD_args _ _) ?_
  show wpAny _ A.in1 (Builtin.Builtins.bindParams "max" ["key", "default"] 0 ⟨[], [(Str.ofString "default", d)]⟩ >>= _) _ _ s
  refine wpAny_bind (wpAny_of_eq (show Builtin.Builtins.bindParams "max" ["key", "default"] 0 ⟨[], [(Str.ofString "default", d)]⟩ = pure [none, some d] from rfl) ?_)
  refine wpAny_bind (wpAny_pure ?_)
  refine wpAny_bind (iter_intList hl fun s₂ e st hfp hlI => ?_)
  have W := Walks.list (prog := prog) (w := w) (A := A.in1) hh s.heap.objs.size l hlI (intItems xs)
  have hsz : (intItems xs).size = xs.size := by simp [intItems]
  refine wpAny_bind (wpAny_newObj_type ?_)
  rw [hname]
  have hSf : s₂.heap.objs.size ∉ [s.heap.objs.size, l] := fun hm => Nat.lt_irrefl _ (hfp _ hm)
  have hSw : s₂.heap.objs.size ∉ [s.heap.objs.size] := fun hm => hSf (W.sub _ hm)
  have keep : ∀ {h' : Heap}, (∀ b o, b ∉ [s.heap.objs.size] → b ≠ s₂.heap.objs.size → (s₂.heap.push (seqObj "list" #[] 0)).get? b = some o → h'.get? b = some o) → ∀ b o, s.heap.get? b = some o → h'.get? b = some o := fun hk b o q => by
    have hlt : b < s.heap.objs.size := Heap.lt_size q
    have q2 : s₂.heap.get? b = some o := by rw [e]; exact Heap.get?_push_of_some _ q
    exact hk b o (fun m => Nat.ne_of_lt hlt (by simpa using m)) (Nat.ne_of_lt (Heap.lt_size q2)) (Heap.get?_push_of_some _ q2)
  have st2 : (fun (i : Nat) (h : Heap) => h.IsListIter s.heap.objs.size l i ∧ h.IsList l (intItems xs)) 0 (s₂.heap.push (seqObj "list" #[] 0)) := W.frame _ _ _ st fun b _ o q => Heap.get?_push_of_some _ q
  have gS : (s₂.heap.push (seqObj "list" #[] 0)).get? s₂.heap.objs.size = some (seqObj "list" #[] 0) := Heap.get?_push_size _ rfl
  refine wpAny_pure ⟨plainId_quiet PySem.F.plain_max_loop _, ?_⟩
  refine codeAny_builtin PySem.F.entry_max_loop ?_
  rw [Around.under_plainId PySem.F.plain_max_loop _]
  show wpAny _ A.in1 (seqItems? (.ref _) >>= _) _ _ _
  refine wpAny_bind (wpAny_seqItems gS rfl ?_)
  show wpAny _ A.in1 (tryCatch (pyNext (.ref s.heap.objs.size)) _ >>= _) _ _ _
  by_cases hz : xs.size = 0
  · refine wpAny_bind (wpAny_tryCatch (W.done _ _ _ (by rw [hsz, hz]; exact st2) fun h' tk hk' => ?_))
    show wpAny _ A.in1 (rule _ >>= fun _ => ret d) _ _ _
    refine wpAny_bind (wpAny_rule (wpAny_pure ?_))
    have := h0 hz h' tk (keep fun b o h1 h2 q => hk' b o h1 q)
    subst e
    exact this
  · have hpos : 0 < xs.size := by omega
    refine wpAny_bind (wpAny_tryCatch (W.item 0 _ _ _ (by rw [hsz]; exact hpos) st2 fun v h' tk hP hst' hk' => ?_))
    have hS' := hk' _ _ hSw gS
    show wpAny _ A.in1 (updateSeq s₂.heap.objs.size (fun _ => #[v, v]) >>= _) _ _ _
    refine wpAny_bind ?_
    refine wpAny_updateSeq hS' rfl ?_
    rw [hname]
    refine wpAny_pure ⟨plainId_quiet PySem.F.plain_max_loop _, maxD_loop W (fun i j => decide (numAt xs i > numAt xs j)) (CmpOf.ints_gt (numAt xs) (fun _ _ => intItems_at)) _ hSf _ 0 _ v _ rfl (by rw [hsz]; exact hpos) (W.frame _ _ _ hst' fun b hbf o q => ?_) hP (Heap.get?_update_self _ hS' rfl) fun v' h'' tk'' hP' hk'' => ?_⟩
    · exact (Heap.get?_update_other _ _ (fun h : s₂.heap.objs.size = b => hSf (by rw [h]; exact hbf))).trans q
    · rw [hsz] at hP'
      have := h hpos v' h'' tk'' hP' (keep fun b o h1 h2 q => hk'' b o h1 h2 ((Heap.get?_update_other _ _ (Ne.symm h2)).trans (hk' b o h1 q)))
      subst e
      exact this
end
end Hw
namespace Hw
open PySem L2 PySem.Spec PyProof.Rows
def rMaxD (K : PySem.W.Frag) : List V → List V → Hp → VK → Prop := fun vs zs H Q => ∃ (a : Addr) (ns : List Int) (z : Int), vs = [V.ref a] ∧ zs = [V.int z] ∧ SqL K H a (ns.map V.int) ∧ (ns = [] → Q (.int z) H) ∧ ∀ m, m ∈ ns → (∀ y, y ∈ ns → y ≤ m) → Q (.int m) H
theorem cr_maxD {X : Cx} (hc : X.calm = true) : CallRK X (.builtin "max") ["default"] (rMaxD X.K) := by
  intro pins s σ H vs zs us ws Q I r r2 h
  obtain ⟨a, ns, z, rfl, rfl, hs, q0, q⟩ := h
  obtain ⟨its, rv, hl, _⟩ := I.list hs
  rw [Vals.ref1 r]
  obtain ⟨u, rfl, ru⟩ : ∃ u, ws = [u] ∧ RelV (.int z) u := by
    cases r2 with
    | cons a b =>
      cases b
      exact ⟨_, rfl, a⟩
  have hi := rv.ints
  obtain ⟨xs, e⟩ := hi.allInts.items
  have hn : numsOf (intItems xs).toList = ns := by rw [← e]; exact hi.numsOf
  rw [nums_intItems] at hn
  subst hn
  have hl' : s.heap.IsList a its.toArray := hl.isList
  rw [e] at hl'
  show wpAny _ _ (call (.builtin "max") [.ref a] [(Str.ofString "default", u)]) _ _ _
  refine call_maxD (I.ok.hd hc) hl' (fun hz h' tk hk => ?_) fun hpos v h' tk hv hk => ?_
  · exact ⟨.int z, H, I.kept hk, ru, q0 (by
      have : xs.toList = [] := by
        have : xs.toList.length = 0 := by rw [Array.length_toList]; exact hz
        exact List.length_eq_zero_iff.mp this
      rw [this]; rfl)⟩
  · obtain ⟨t, rfl⟩ := intItems_at hv
    obtain ⟨h1, h2⟩ := argBest_gt (numAt xs) (xs.size - 1)
    refine ⟨.int _, H, I.kept hk, ⟨_, rfl⟩, q _ ?_ fun y hy => ?_⟩
    · rw [numAt_eq]; exact PySem.getD_mem (by rw [List.length_map, Array.length_toList]; omega)
    · obtain ⟨j, hj, rfl⟩ := mem_getD hy
      rw [List.length_map, Array.length_toList] at hj
      rw [← numAt_eq]; exact h2 j (by omega)
def x_maxD (K : PySem.W.Frag) (a b : TE) : TE := tCKw (rMaxD K) (tCons a tNil) (tCons b tNil)
theorem pe_x_maxD {X : Cx} {a b : Expr} {ta tb : TE} {pos kpos : Pos} {p : Pos} {nm : Option Str} (hm : X.mg "max" = none) (ha : PE X a ta) (hb : PE X b tb) (hc : X.calm = true := by rfl) (hg : Gl X "max" := by rfl)
    (he : starEach (a :: []) X.env = (false, eval a X.env) :: starEach [] X.env := by rfl) (hbt : backTo pos (starEach (a :: []) X.env) = (false, eval a X.env) :: backTo pos (starEach [] X.env) := by rfl)
    (hpl : (backTo pos (starEach (a :: []) X.env)).any (·.1) = false := by rfl)
    (hall : (backToKw pos (keywordEach [⟨nm, b, kpos⟩] X.env)).all (·.1.isSome) = true := by rfl) (hnone : (backToKw pos (keywordEach [⟨nm, b, kpos⟩] X.env)).any (·.1.isNone) = false := by rfl) (hks : (backToKw pos (keywordEach [⟨nm, b, kpos⟩] X.env)).filterMap (·.1) = [("default" : Str)] := by rfl) :
    PE X (.Call (.Name "max" p) [a] [⟨nm, b, kpos⟩] pos) (x_maxD X.K ta tb) :=
  pe_callBK (cr_maxD hc) hg hm (by decide +kernel) (pa_cons ha pa_nil he) (pk_cons hb pk_nil) (he := hbt) (hpl := hpl) (hall := hall) (hnone := hnone) (hks := hks)
section
variable {K : PySem.W.Frag} {C : Addr} {ρ : List Cell} {te ta tb : TE}
/-- the greatest of the list, and of nought where there is none -/
theorem ed_maxD {ns : List Int} {z m : Int} (ha : EvS K C ta ρ (ns.map .int)) (hb : EvR K C tb ρ (.int z)) (h0 : ns = [] → m = z) (hm : ns ≠ [] → IsMax ns m) : EvD K C (x_maxD K ta tb) ρ (.int m) := fun Hf H0 Hb H L σ E Q q => ha Hf H0 Hb H L σ E _ fun p us Hb1 H1 S h1 h2 =>
  hb Hf H0 Hb1 H1 L σ (E.step S) _ fun y Hb2 H2 S2 r => ⟨p, ns, z, rfl, by rw [show y = .int z from r], .of (by rw [S2.h _ _ h1, h2.ints]), fun e => q _ Hb2 H2 (S.trans S2) (by rw [h0 e]; rfl), fun k k1 k2 => q _ Hb2 H2 (S.trans S2) (by
    have hne : ns ≠ [] := fun z => by rw [z] at k1; exact nomatch k1
    rw [IsMax.uniq ⟨k1, k2⟩ (hm hne)]; rfl)⟩
end
end Hw
namespace Hw
open PySem L2
theorem lenMu {K : PySem.W.Frag} {C B : Addr} {R : List (Str × Fld) → List D → List (Str × Fld) → Prop} {n : Nat} (hR : ∀ fs ds fs', R fs ds fs' → ds.length = n) : ∀ vs H Q E, spMu K C B R vs H Q E → vs.length = n + 1 := fun vs H Q E ⟨Hf, Hb, a, dx, ws, l, fs, vs', ds, fs', e, _, _, _, r, q, _⟩ => by rw [e, List.length_cons, r.length, hR _ _ _ q]
theorem lenRd {K : PySem.W.Frag} {C B : Addr} {R : List (Str × Fld) → List D → D → Prop} {n : Nat} (hR : ∀ fs ds d, R fs ds d → ds.length = n) : ∀ vs H Q E, spRd K C B R vs H Q E → vs.length = n + 1 := fun vs H Q E ⟨a, dx, ws, l, fs, vs', ds, d, e, _, _, r, q, _⟩ => by rw [e, List.length_cons, r.length, hR _ _ _ q]
theorem lenRdL {K : PySem.W.Frag} {C B : Addr} {R : List (Str × Fld) → List D → List D → Prop} {n : Nat} (hR : ∀ fs ds xs, R fs ds xs → ds.length = n) : ∀ vs H Q E, spRdL K C B R vs H Q E → vs.length = n + 1 := fun vs H Q E ⟨a, dx, ws, l, fs, vs', ds, d, e, _, _, r, q, _⟩ => by rw [e, List.length_cons, r.length, hR _ _ _ q]
theorem lenO {K : PySem.W.Frag} {C B : Addr} {R : List D → List (Str × Fld) → Prop} {n : Nat} (hR : ∀ ds fs, R ds fs → ds.length = n) : ∀ vs H Q E, spO K C B R vs H Q E → vs.length = n := fun vs H Q E ⟨ds, fs', r, q, _⟩ => by rw [r.length, hR _ _ q]
theorem lenT {K : PySem.W.Frag} {C : Addr} {R : List D → List (Str × Fld) → Prop} {n : Nat} (hR : ∀ ds fs, R ds fs → ds.length = n) : ∀ vs H Q E, spT K C R vs H Q E → vs.length = n := fun vs H Q E ⟨ds, fs', r, q, _⟩ => by rw [r.length, hR _ _ q]
theorem BoT.of {K : PySem.W.Frag} {mg : Str → Option Value} {B : Addr} {h : Heap} {x : Str} (_ : K.In h) (_ : mg x = some (.ref B)) (pg : PySem.W.plainGet K B Str.empty = true) (hd : PySem.W.hasDictIn K B = true) (po : PySem.W.plainOver K B = true) (sa : PySem.W.findIn K (.ref B) "__setattr__" = some (some (.builtin "object.__setattr__")))
    (n1 : PySem.W.findIn K (.ref B) "ropes" = some none) (n2 : PySem.W.findIn K (.ref B) "bodies" = some none) (n3 : PySem.W.findIn K (.ref B) "rows" = some none) (n4 : PySem.W.findIn K (.ref B) "held" = some none) (n5 : PySem.W.findIn K (.ref B) "aim" = some none) : BoT K B := ⟨⟨pg, hd, po, sa⟩, n1, n2, n3, n4, n5⟩
theorem EqD.str {a b : Str} (ha : (PyData.str a).canLay0 = true) (hb : (PyData.str b).canLay0 = true) : EqD (.str a) (.str b) (decide (a = b)) := ⟨⟨_, _, rfl, rfl, by
  unfold SeqAt.shaped; rw [ha]; rfl, by
  unfold SeqAt.shaped; rw [hb]; rfl, by show (a == b) = _; by_cases h : a = b <;> simp [h]⟩⟩
/-! ## k07 -/
def R_shown7 (ds : List D) (d : D) : Prop := ∃ (ws : List Int) (tb : List (List Int)) (t : Str) (xs : List Rat), HoOk ws tb ∧ SzL 500 xs ∧
  ((t = "still" ∧ xs.length = tb.length ∧ SzL 100 xs ∧ holdsB ws tb xs = true) ∨ (t = "sinks" ∧ xs.length = ws.length ∧ letB tb xs = true ∧ spareOf ws xs < 0)) ∧ ds = [.lst .x (dI ws), .lst .x (dRows .x tb), .tup [.str t, .lst .x (dFs xs)]] ∧ d = .bl true
section
variable (K : PySem.W.Frag) (C : Addr)
abbrev sp_law_shown_k07 : Sp := spD K C R_shown7
end
end Hw
namespace Hw
/-! ## the least pull of a rope -/
section
variable {n m k : Nat} {OI : Nat → Nat → Int} {cost : Nat → Rat} {s : BSt} {c r : Nat}
/-- a turn in a row that holds nothing -/
theorem BV.turn0 (hn : n ≤ 4) (B : BV n k OI s) (hr : r < n) (hc : c < k) (hp : s.R r c ≠ 0) (h0 : s.R r k = 0) : BV n k OI (turnF s r c) where
  bas := B.bas.pivot hr hc hp
  det := detH_ne hn B.bas hr (Nat.le_of_lt hc) hp B.det
  feas := fun i hi => by
    show 0 ≤ pivR s.R r c i k
    unfold pivR
    by_cases z : i = r
    · rw [if_pos z, h0, rzero_div]; exact Rat.le_refl
    · rw [if_neg z, h0, rzero_div]
      have f := B.feas i hi
      grind
def otnF (m : Nat) (R : Nat → Rat) : Option Nat := (List.range m).find? fun c => decide (R c ≠ 0)
theorem otnF_some {R : Nat → Rat} (h : otnF m R = some c) : c < m ∧ R c ≠ 0 := by
  unfold otnF at h
  have h1 := List.find?_some h
  have h2 := List.mem_of_find?_eq_some h
  rw [List.mem_range] at h2
  exact ⟨h2, of_decide_eq_true h1⟩
theorem otnF_none {R : Nat → Rat} (h : otnF m R = none) : ∀ j, j < m → R j = 0 := fun j hj => by
  unfold otnF at h
  rw [List.find?_eq_none] at h
  have := h j (List.mem_range.mpr hj)
  simpa using this
def clrStep (m : Nat) (s : BSt) (r : Nat) : BSt := if m ≤ s.h r then (match otnF m (s.R r) with | some c => turnF s r c | none => s) else s
def clrF (m : Nat) (s : BSt) : Nat → BSt
  | 0 => s
  | r + 1 => clrStep m (clrF m s r) r
/-- the helps that are left hold nothing, and no rope reaches them -/
def Zv (n m k : Nat) (s : BSt) (r : Nat) : Prop := (∀ i, i < n → m ≤ s.h i → s.R i k = 0) ∧ ∀ i, i < n → i < r → m ≤ s.h i → ∀ j, j < m → s.R i j = 0
theorem turn_R {i j : Nat} (h : i ≠ r) : (turnF s r c).R i j = s.R i j - s.R r j / s.R r c * s.R i c := by
  show pivR s.R r c i j = _
  unfold pivR
  rw [if_neg h]
theorem turn_h {i : Nat} (h : i ≠ r) : (turnF s r c).h i = s.h i := by
  show pivH s.h r c i = _
  unfold pivH
  rw [if_neg h]
theorem turn_hr : (turnF s r c).h r = c := by
  show pivH s.h r c r = _
  unfold pivH
  rw [if_pos rfl]
theorem clr_step (hn : n ≤ 4) (hm : m ≤ k) (B : BV n k OI s) (hr : r < n) (Z : Zv n m k s r) : BV n k OI (clrStep m s r) ∧ Zv n m k (clrStep m s r) (r + 1) := by
  obtain ⟨z1, z2⟩ := Z
  unfold clrStep
  by_cases h : m ≤ s.h r
  · rw [if_pos h]
    cases e : otnF m (s.R r) with
    | none =>
      refine ⟨B, z1, fun i hi hir hh j hj => ?_⟩
      by_cases q : i = r
      · subst q; exact otnF_none e j hj
      · exact z2 i hi (by omega) hh j hj
    | some c =>
      obtain ⟨hc, hp⟩ := otnF_some e
      have h0 := z1 r hr h
      refine ⟨B.turn0 hn hr (by omega) hp h0, fun i hi hh => ?_, fun i hi hir hh j hj => ?_⟩
      · by_cases q : i = r
        · subst q
          rw [turn_hr] at hh; omega
        · rw [turn_h q] at hh
          rw [turn_R q, h0, rzero_div, z1 i hi hh]; grind
      · by_cases q : i = r
        · subst q
          rw [turn_hr] at hh; omega
        · rw [turn_h q] at hh
          have i1 : i < r := by omega
          rw [turn_R q, z2 i hi i1 hh j hj, z2 i hi i1 hh c hc]; grind
  · rw [if_neg h]
    refine ⟨B, z1, fun i hi hir hh j hj => ?_⟩
    by_cases q : i = r
    · subst q; omega
    · exact z2 i hi (by omega) hh j hj
theorem clr_inv (hn : n ≤ 4) (hm : m ≤ k) (B : BV n k OI s) (h0 : ∀ i, i < n → m ≤ s.h i → s.R i k = 0) : ∀ r, r ≤ n → BV n k OI (clrF m s r) ∧ Zv n m k (clrF m s r) r
  | 0, _ => ⟨B, h0, fun i _ h => absurd h (by omega)⟩
  | r + 1, hr => by
    obtain ⟨b, z⟩ := clr_inv hn hm B h0 r (by omega)
    exact clr_step hn hm b (by omega) z
theorem Zv.turn (hc : c < m) (hr : r < n) (hp : s.R r c ≠ 0) (Z : Zv n m k s n) : Zv n m k (turnF s r c) n := by
  obtain ⟨z1, z2⟩ := Z
  have hh : ¬ m ≤ s.h r := fun h => hp (z2 r hr hr h c hc)
  refine ⟨fun i hi h => ?_, fun i hi _ h j hj => ?_⟩
  · by_cases q : i = r
    · subst q
      rw [turn_hr] at h; omega
    · rw [turn_h q] at h
      rw [turn_R q, z1 i hi h, z2 i hi hi h c hc]; grind
  · by_cases q : i = r
    · subst q
      rw [turn_hr] at h; omega
    · rw [turn_h q] at h
      rw [turn_R q, z2 i hi hi h j hj, z2 i hi hi h c hc]; grind
theorem Zv.seq (hn : n ≤ 4) (hm : m ≤ k) (hc : ∀ j, 0 ≤ cost j) (B : BV n k OI s) (Z : Zv n m k s n) : ∀ j, Zv n m k (seqF n m k cost s j) n
  | 0 => Z
  | j + 1 => by
    have ih := Zv.seq hn hm hc B Z j
    have b := BV.seq hn hm hc B j
    show Zv n m k ((stepF n m k cost (seqF n m k cost s j)).getD (seqF n m k cost s j)) n
    cases e : stepF n m k cost (seqF n m k cost s j) with
    | none => exact ih
    | some s' =>
      obtain ⟨c, e1, L, rfl, _⟩ := b.next hn hm hc e
      exact ih.turn (entF_some e1).1 L.lt (pos_ne L.pos)
end
def cost2 (rope : Nat) (c : Nat) : Rat := if c = rope then 1 else 0
theorem cost2_01 (rope : Nat) : ∀ c, cost2 rope c = 0 ∨ cost2 rope c = 1 := fun c => by
  unfold cost2
  split
  · exact .inr rfl
  · exact .inl rfl
theorem cost2_nn (rope : Nat) : ∀ c, 0 ≤ cost2 rope c := fun c => by rcases cost2_01 rope c with h | h <;> rw [h] <;> decide
theorem cost2_ne {rope c : Nat} (h : c ≠ rope) : cost2 rope c = 0 := by unfold cost2; rw [if_neg h]
theorem cost2_eq {rope : Nat} : cost2 rope rope = 1 := by unfold cost2; rw [if_pos rfl]
noncomputable def clrB (ws : List Int) (tb : List (List Int)) : BSt := clrF tb.length (fstB ws tb) ws.length
noncomputable def sndB (ws : List Int) (tb : List (List Int)) (rope : Nat) : BSt := goF ws.length tb.length (tb.length + ws.length) (cost2 rope) (clrB ws tb)
noncomputable def leastP (ws : List Int) (tb : List (List Int)) (rope : Nat) : List Rat := (List.range tb.length).map (pullF ws.length (tb.length + ws.length) (sndB ws tb rope))
noncomputable def leastM (ws : List Int) (tb : List (List Int)) (rope : Nat) : List Rat := motF ws tb (cost2 rope) 0 (sndB ws tb rope)
section
variable {ws : List Int} {tb : List (List Int)} {rope : Nat}
theorem clr_bv (ho : HoOk ws tb) (h : ¬ sinksP ws tb) : BV ws.length (tb.length + ws.length) (OIh ws tb) (clrB ws tb) ∧ Zv ws.length tb.length (tb.length + ws.length) (clrB ws tb) ws.length :=
  clr_inv ho.w4 (by omega) (fst_bv ho).1 (still_zero ho h) ws.length (Nat.le_refl _)
theorem snd_bv (ho : HoOk ws tb) (h : ¬ sinksP ws tb) : BV ws.length (tb.length + ws.length) (OIh ws tb) (sndB ws tb rope) ∧ (∀ j, j < tb.length → 0 ≤ aimF ws.length (cost2 rope) (sndB ws tb rope).h (sndB ws tb rope).R j) ∧
    Zv ws.length tb.length (tb.length + ws.length) (sndB ws tb rope) ws.length := by
  obtain ⟨b, z⟩ := clr_bv ho h
  have r5 := ho.r5
  have w4 := ho.w4
  obtain ⟨h1, h2⟩ := goF_end (m := tb.length) w4 (by omega) (by omega) (cost2_nn rope) b
  exact ⟨h1, h2, z.seq w4 (by omega) (cost2_nn rope) b 6562⟩
theorem leastP_len : (leastP ws tb rope).length = tb.length := by simp [leastP]
theorem leastM_len : (leastM ws tb rope).length = ws.length := by simp [leastM, motF]
theorem least_holds (ho : HoOk ws tb) (h : ¬ sinksP ws tb) : holdsB ws tb (leastP ws tb rope) = true := by
  obtain ⟨b, _, z⟩ := snd_bv (rope := rope) ho h
  exact pulls_hold b z.1
theorem help2 (hr : rope < tb.length) : ∀ b, b < ws.length → cost2 rope (tb.length + b) = 0 := fun b _ => cost2_ne (by omega)
theorem least_spare (ho : HoOk ws tb) (h : ¬ sinksP ws tb) (hr : rope < tb.length) {c : Nat} (hc : c < tb.length) : - cost2 rope c ≤ spareOf (tb.getD c []) (leastM ws tb rope) := by
  obtain ⟨b, hj, z⟩ := snd_bv (rope := rope) ho h
  unfold leastM
  rw [mot_spare (help2 hr) b (by omega) (ho.row _ (getD_mem hc)) (row_OI ho hc)]
  have := hj c hc
  grind
theorem least_gain (ho : HoOk ws tb) (h : ¬ sinksP ws tb) (hr : rope < tb.length) : spareOf ws (leastM ws tb rope) = - (leastP ws tb rope).getD rope 0 := by
  obtain ⟨b, hj, z⟩ := snd_bv (rope := rope) ho h
  unfold leastM leastP
  have hk : cost2 rope (tb.length + ws.length) = 0 := cost2_ne (by omega)
  rw [mot_gain (help2 hr) b hk, pull_getD hr, aim_end hk]
  congr 1
  unfold pullF
  exact S_congr fun i hi => by
    unfold cost2
    by_cases q : (sndB ws tb rope).h i = rope
    · rw [if_pos q, if_pos q]; grind
    · rw [if_neg q, if_neg q]; grind
/-- no pulls that hold have a lesser one there -/
theorem least_le (ho : HoOk ws tb) (h : ¬ sinksP ws tb) (hr : rope < tb.length) {ps : List Rat} (hp : ps.length = tb.length) (hh : holdsB ws tb ps = true) : (leastP ws tb rope).getD rope 0 ≤ ps.getD rope 0 := by
  unfold holdsB at hh
  rw [Bool.and_eq_true, decide_eq_true_eq, decide_eq_true_eq] at hh
  have e := work_eq (ms := leastM ws tb rope) ho.row hp leastM_len
  have e2 : dotF (liftL ws tb ps) (leastM ws tb rope) = spareOf ws (leastM ws tb rope) := by
    rw [hh.2, dotF_S, spare_S, show (wF ws).length = ws.length by simp [wF]]
    exact S_congr fun b hb => by rw [show (wF ws).getD b 0 = ((ws.getD b 0 : Int) : Rat) from getD_mapS (fun w : Int => (w : Rat)) ws b 0 hb]
  rw [e2, least_gain ho h hr, dotF_S, hp] at e
  have e3 : S tb.length (fun k => ps.getD k 0 * ((tb.map fun r => spareOf r (leastM ws tb rope)).getD k 0 + cost2 rope k)) = - (leastP ws tb rope).getD rope 0 + ps.getD rope 0 := by
    rw [← e]
    rw [show S tb.length (fun k => ps.getD k 0 * ((tb.map fun r => spareOf r (leastM ws tb rope)).getD k 0 + cost2 rope k)) = S tb.length (fun k => ps.getD k 0 * (tb.map fun r => spareOf r (leastM ws tb rope)).getD k 0 + ps.getD k 0 * cost2 rope k) from S_congr fun k _ => by grind]
    rw [S_add, S_one (f := fun k => ps.getD k 0 * cost2 rope k) hr fun k _ ne => by rw [cost2_ne ne]; grind]
    rw [cost2_eq]; grind
  have e4 : 0 ≤ S tb.length (fun k => ps.getD k 0 * ((tb.map fun r => spareOf r (leastM ws tb rope)).getD k 0 + cost2 rope k)) := S_nonneg fun r hr' => by
    have a1 := hh.1 _ (getD_mem (a := (0 : Rat)) (by omega : r < ps.length))
    have a2 := least_spare ho h hr hr'
    rw [getD_mapS _ _ _ [] hr']
    exact Rat.mul_nonneg (Rat.not_lt.mp a1) (by grind)
  rw [e3] at e4
  grind
theorem least_nn (ho : HoOk ws tb) (h : ¬ sinksP ws tb) (hr : rope < tb.length) : 0 ≤ (leastP ws tb rope).getD rope 0 := by
  unfold leastP
  rw [pull_getD hr]
  exact pull_nonneg (snd_bv (rope := rope) ho h).1 rope
end
end Hw
namespace Hw
open PySem L2
/-! promises: the least pull -/
def otnL (row : List Rat) : Option Nat := (List.range row.length).find? fun c => decide (row.getD c 0 ≠ 0)
def R_otn (ds : List D) (d : D) : Prop := ∃ row : List Rat, row.length ≤ 1000 ∧ ds = [.lst .x (dFs row)] ∧ d = match otnL row with | some c => .int (c : Int) | none => .non
def R_clear (fs : List (Str × Fld)) (ds : List D) (fs' : List (Str × Fld)) : Prop := ∃ m n s cost OI, n ≤ 4 ∧ m ≤ 5 ∧ (∀ c, c ≤ m + n → ∀ b, b < n → (OI c b : Int).natAbs ≤ 1000) ∧ BV n (m + n) OI s ∧ (∀ c, cost c = 0 ∨ cost c = 1) ∧ (∀ i, i < n → m ≤ s.h i → s.R i (m + n) = 0) ∧
  fs = bF .f m n (rowsL n (m + n) s.R) (heldL n s.h) (aimLL n (m + n) cost s) ∧ ds = [] ∧ fs' = bF .f m n (rowsL n (m + n) (clrF m s n).R) (heldL n (clrF m s n).h) (aimLL n (m + n) cost (clrF m s n))
def R_see_rope (ds : List D) (d : D) : Prop := ∃ (ws : List Int) (tb : List (List Int)) (r : Nat), r < tb.length ∧ ds = [.ho .x ws tb, .int r] ∧ d = .non
noncomputable def leastFs (ws : List Int) (tb : List (List Int)) (rope : Nat) : List (Str × Fld) := [(("" : Str), Fld.own (dFs (leastP ws tb rope))), (("" : Str), Fld.own (dFs (leastM ws tb rope)))]
def R_least (ds : List D) (fs' : List (Str × Fld)) : Prop := ∃ (ws : List Int) (tb : List (List Int)) (rope : Nat), HoOk ws tb ∧ ¬ sinksP ws tb ∧ rope < tb.length ∧ ds = [.ho .x ws tb, .int rope] ∧ fs' = leastFs ws tb rope
section
variable (K : PySem.W.Frag) (C B : Addr)
abbrev sp_other_than_nought : Sp := spD K C R_otn
abbrev sp_Board_clear_helps : Sp := spMu K C B R_clear
abbrev sp_Hoist_see_rope : Sp := spD K C R_see_rope
abbrev sp_least_pull : Sp := spT K C R_least
end
theorem fr_leastFs (ws : List Int) (tb : List (List Int)) (rope : Nat) : frF (leastFs ws tb rope) = true := by
  show (frAll (dFs (leastP ws tb rope)) && (frAll (dFs (leastM ws tb rope)) && true)) = true
  rw [fr_dFs, fr_dFs]; rfl
end Hw
namespace Hw
open PySem L2
/-- _law_shown: weights table told row -/
def t_law_shown_k07 (K : PySem.W.Frag) (C : Addr) : TS := (tSeq (tIfS (tOr (tNot (tB (xIsi K "tuple" (tVar 2)))) (tB (xNe K (xLen K (tVar 2)) (tC (.int 2))))) (tRet (tC (.bl false))) tNext) (tSeq (tIfS (tB (xEq K (xIdx K (tVar 2) (tC (.int 0))) (tC (.str "still")))) (tRet (tAndV (tCall (sp_law_parts K C) [] E0 (tCons (xIdx K (tVar 2) (tC (.int 1))) (tCons (xLen K (tVar 1)) tNil))) (tCall (sp_law_held K C) [] E0 (tCons (tVar 0) (tCons (tVar 1) (tCons (xIdx K (tVar 2) (tC (.int 1))) tNil)))))) tNext) (tSeq (tIfS (tOr (tB (xNe K (xIdx K (tVar 2) (tC (.int 0))) (tC (.str "sinks")))) (tNot (tB (tCall (sp_law_parts K C) [] E0 (tCons (xIdx K (tVar 2) (tC (.int 1))) (tCons (xLen K (tVar 0)) tNil)))))) (tRet (tC (.bl false))) tNext) (tSeq (tIfS (tB (xLt (x_minD K (tLc (iList K (tVar 1)) (gName 3) tYes (xIdx K (tCall (sp_law_spare K C) [] E0 (tCons (tVar 3) (tCons (xIdx K (tVar 2) (tC (.int 1))) tNil))) (tC (.int 0))) [3]) (tC (.int 0))) (tC (.int 0)))) (tRet (tC (.bl false))) tNext) (tRet (xLt (xIdx K (tCall (sp_law_spare K C) [] E0 (tCons (tVar 0) (tCons (xIdx K (tVar 2) (tC (.int 1))) tNil))) (tC (.int 0))) (tC (.int 0))))))))
abbrev n_law_shown_k07 : List Str := ["weights", "table", "told", "row"]
/-- law: script drawn weights table hoist told pulls r body row -/
def t_law_k07 (K : PySem.W.Frag) (C : Addr) : TS := (tSeq (tAsg (tCall (sp_law_drawn K C) [] E0 (tCons (tVar 0) tNil)) (gName 1)) (tSeq (tAsg (xIdx K (tVar 1) (tC (.int 0))) (gName 2)) (tSeq (tAsg (xIdx K (tVar 1) (tC (.int 1))) (gName 3)) (tSeq (tAsg (tMake C (sp_Hoist_init K C) [] E0 (tCons (tVar 2) (tCons (tCall (sp_law_ropes K C) [] E0 (tCons (tVar 3) (tCons (tCall (sp_law_cell_at K C) [] E0 (tCons (tVar 0) (tCons (tC (.int 11)) tNil))) tNil))) tNil))) (gName 4)) (tSeq (tAsg (tCall (sp_judged K C) [] E0 (tCons (tVar 4) tNil)) (gName 5)) (tSeq (tIfS (tNot (tB (tCall (sp_law_shown_k07 K C) [] E0 (tCons (tVar 2) (tCons (tVar 3) (tCons (tVar 5) tNil)))))) (tRet (tC (.bl false))) tNext) (tSeq (tAsg (tLc (iRng1 (tCons (xLen K (tVar 3)) tNil)) (gName 7) tYes (tTup (tCons (xMod (xDiv (tCall (sp_law_cell_at K C) [] E0 (tCons (tVar 0) (tCons (xAdd (tC (.int 7)) (tVar 7)) tNil))) (tC (.int 7))) (tC (.int 9))) (tCons (tC (.int 1)) tNil))) [7]) (gName 6)) (tSeq (tIfS (tAnd (tB (tCall (sp_law_held K C) [] E0 (tCons (tVar 2) (tCons (tVar 3) (tCons (tVar 6) tNil))))) (tB (xNe K (xIdx K (tVar 5) (tC (.int 0))) (tC (.str "still"))))) (tRet (tC (.bl false))) tNext) (tSeq (tFor (iRng1 (tCons (xLen K (tVar 2)) tNil)) (gName 8) (tIfS (tAnd (tB (xGt (xIdx K (tVar 2) (tVar 8)) (tC (.int 0)))) (tAnd (tB (xLt (x_maxD K (tLc (iList K (tVar 3)) (gName 9) tYes (xIdx K (tVar 9) (tVar 8)) [9]) (tC (.int 0))) (tC (.int 1)))) (tB (xNe K (xIdx K (tVar 5) (tC (.int 0))) (tC (.str "sinks")))))) (tRet (tC (.bl false))) tNext)) (tSeq (tDrop (tBM K "list" rAppend (xIdx K (tVar 5) (tC (.int 1))) (tCons (tTup (tCons (tC (.int 0)) (tCons (tC (.int 1)) tNil))) tNil))) (tRet (tCall (sp_law_shown_k07 K C) [] E0 (tCons (tVar 2) (tCons (tVar 3) (tCons (tCall (sp_judged K C) [] E0 (tCons (tVar 4) tNil)) tNil)))))))))))))))
abbrev n_law_k07 : List Str := ["script", "drawn", "weights", "table", "hoist", "told", "pulls", "r", "body", "row"]
end Hw
namespace Hw
open PySem L2
local macro_rules | `(tactic| walk_at "sd") => `(tactic| first
  | exact rfl
  | decide +kernel
  | (exact Nat.le_of_ble_eq_true rfl)
  | assumption
  | (exact Sz.mono (by assumption) (by decide))
  | decide
  | omega
  | (exact eraAll_map _ _ (fun _ => rfl) _)
  | (exact frAll_map _ (fun _ => rfl) _)
  | exact EqD.frac
  | exact EqD.int
  | exact EqD.bl
  | exact EqD.pair
  | skip)
local macro_rules | `(tactic| walk_at "R") => `(tactic| first
  | (with_reducible apply rc_common) <;> walk_at "sd"
  | (with_reducible apply rc_fraction) <;> walk_at "sd"
  | (with_reducible apply rc_plus) <;> walk_at "sd"
  | (with_reducible apply rc_minus) <;> walk_at "sd"
  | (with_reducible apply rc_times) <;> walk_at "sd"
  | (with_reducible apply rc_over) <;> walk_at "sd"
  | (with_reducible apply rc_less) <;> walk_at "sd"
  | (with_reducible apply rc_cell) <;> walk_at "sd"
  | (with_reducible apply rc_whole) <;> walk_at "sd"
  | (with_reducible apply rc_low) <;> walk_at "sd"
  | (with_reducible apply rc_part) <;> walk_at "sd"
  | (with_reducible apply rc_lfraction) <;> walk_at "sd")
local macro_rules | `(tactic| walk_at "evD") => `(tactic| first
  | with_reducible exact ed_int
  | with_reducible exact ed_bl
  | with_reducible exact ed_non
  | with_reducible exact ed_str
  | (with_reducible apply ed_var) <;> walk_at "go"
  | (with_reducible apply ed_add) <;> walk_at "go"
  | (with_reducible apply ed_sub) <;> walk_at "go"
  | (with_reducible apply ed_mul) <;> walk_at "go"
  | (with_reducible apply ed_div) <;> walk_at "go"
  | (with_reducible apply ed_mod) <;> walk_at "go"
  | (with_reducible apply ed_pow) <;> walk_at "go"
  | (with_reducible apply ed_neg) <;> walk_at "go"
  | (with_reducible apply ed_lt) <;> walk_at "go"
  | (with_reducible apply ed_le) <;> walk_at "go"
  | (with_reducible apply ed_gt) <;> walk_at "go"
  | (with_reducible apply ed_ge) <;> walk_at "go"
  | (with_reducible apply ed_leLt) <;> walk_at "go"
  | (with_reducible apply ed_leLe) <;> walk_at "go"
  | (with_reducible apply ed_ltLt) <;> walk_at "go"
  | (with_reducible apply ed_eq) <;> walk_at "go"
  | (with_reducible apply ed_ne) <;> walk_at "go"
  | (with_reducible apply ed_idxT) <;> walk_at "go"
  | (with_reducible apply ed_idxS) <;> walk_at "go"
  | (with_reducible apply ed_idxScr) <;> walk_at "go"
  | (with_reducible apply ed_lenS) <;> walk_at "go"
  | (with_reducible apply ed_lenT) <;> walk_at "go"
  | (with_reducible apply ed_lenScr) <;> walk_at "go"
  | (with_reducible apply ed_abs) <;> walk_at "go"
  | (with_reducible apply ed_intI) <;> walk_at "go"
  | (with_reducible apply ed_intB) <;> walk_at "go"
  | (with_reducible apply ed_intS) <;> walk_at "go"
  | (with_reducible apply ed_andV) <;> walk_at "go"
  | (with_reducible apply ed_orV) <;> walk_at "go"
  | (with_reducible apply ed_notV) <;> walk_at "go"
  | (with_reducible apply ed_tup) <;> walk_at "go"
  | (with_reducible apply ev_call) <;> walk_at "go"
  | (with_reducible apply ed_isi) <;> walk_at "go"
  | (with_reducible apply ed_catS) <;> walk_at "go"
  | (with_reducible apply ed_repS) <;> walk_at "go"
  | (with_reducible apply EvL.dat) <;> walk_at "go")
local macro_rules | `(tactic| walk_at "evR") => `(tactic| first
  | (with_reducible apply EvD.r) <;> walk_at "go"
  | (with_reducible apply EvS.r) <;> walk_at "go")
local macro_rules | `(tactic| walk_at "evS") => `(tactic| first
  | (with_reducible apply es_own) <;> walk_at "go"
  | (with_reducible apply EvD.s) <;> walk_at "go"
  | (with_reducible apply EvL.s) <;> walk_at "go")
local macro_rules | `(tactic| walk_at "evL") => `(tactic| first
  | (with_reducible apply el_lst) <;> walk_at "go"
  | (with_reducible apply ev_callL) <;> walk_at "go")
local macro_rules | `(tactic| walk_at "evA") => `(tactic| first
  | with_reducible exact ea_nil
  | (with_reducible apply ea_cons) <;> walk_at "go")
local macro_rules | `(tactic| walk_at "evQ") => `(tactic| first
  | with_reducible exact eq_nil
  | (with_reducible apply eq_cons) <;> walk_at "go")
local macro_rules | `(tactic| walk_at "evB") => `(tactic| first
  | (with_reducible apply eb_and) <;> walk_at "go"
  | (with_reducible apply eb_or) <;> walk_at "go"
  | (with_reducible apply eb_not) <;> walk_at "go"
  | (with_reducible apply eb_val) <;> walk_at "go")
local macro_rules | `(tactic| walk_at "era") => `(tactic| first
  | ((simp only [eraAll, D.era, era_dF, era_dP, era_dFs, era_dI, era_dS, era_dPs, era_dRows, era_dRopes]); done)
  | ((simp only [eraAll, D.era, era_dF, era_dP, era_dFs, era_dI, era_dS, era_dPs, era_dRows, era_dRopes]); exact rfl))
local macro_rules | `(tactic| walk_at "frs") => `(tactic| first
  | exact rfl
  | exact fr_dFs _
  | exact fr_dI _
  | exact fr_dS _
  | exact fr_dPs _
  | exact fr_dRows _
  | exact fr_dRopes _
  | (simp only [frAll, D.fr, fr_dFs, fr_dI, fr_dS, fr_dPs, fr_dRows, fr_dRopes, decide_true, Bool.and_true, Bool.true_and]; done))
local macro_rules | `(tactic| walk_at "go") => `(tactic| first
  | ((with_reducible show eraAll _ = _); walk_at "era")
  | ((with_reducible show D.fr _ = true); walk_at "frs")
  | ((with_reducible show frAll _ = true); walk_at "frs")
  | ((with_reducible show _ = some (Cell.dat _)); exact rfl)
  | ((with_reducible show _ = some (Cell.own _)); exact rfl)
  | ((with_reducible show D.tn _ = some _); exact rfl)
  | ((with_reducible show atI _ _ = some _); first | exact rfl | assumption)
  | ((with_reducible show EvD _ _ _ _ _); walk_at "evD")
  | ((with_reducible show EvR _ _ _ _ _); walk_at "evR")
  | ((with_reducible show EvS _ _ _ _ _); walk_at "evS")
  | ((with_reducible show EvL _ _ _ _ _); walk_at "evL")
  | ((with_reducible show EvA _ _ _ _ _); walk_at "evA")
  | ((with_reducible show EvAD _ _ _ _ _); walk_at "evQ")
  | ((with_reducible show EvB _ _ _ _ _); walk_at "evB")
  | ((with_reducible show _ = _ → _); intro hv; walk_at "go")
  | ((fail_if_success (with_reducible show EvD _ _ _ _ _)); (fail_if_success (with_reducible show EvR _ _ _ _ _)); (fail_if_success (with_reducible show EvS _ _ _ _ _)); (fail_if_success (with_reducible show EvL _ _ _ _ _)); (fail_if_success (with_reducible show EvA _ _ _ _ _)); (fail_if_success (with_reducible show EvAD _ _ _ _ _)); (fail_if_success (with_reducible show EvB _ _ _ _ _)); (fail_if_success (with_reducible show _ = some (Cell.dat _))); (fail_if_success (with_reducible show _ = some (Cell.own _))); (fail_if_success (with_reducible show atI _ _ = some _)); (fail_if_success (with_reducible show D.tn _ = some _)); (fail_if_success (with_reducible show eraAll _ = _)); (fail_if_success (with_reducible show D.fr _ = true)); (fail_if_success (with_reducible show frAll _ = true)); first | walk_at "R" | walk_at "sd"))
local macro_rules | `(tactic| walk_at "len") => `(tactic| first
  | exact (by decide)
  | (simp; done)
  | omega)
local macro_rules | `(tactic| walk_at "st") => `(tactic| first
  | ((with_reducible show At _ _ _ _ _ _); try dsimp only [List.set])
  | ((with_reducible show _ = _ → At _ _ _ _ _ _); intro hb)
  | ((with_reducible show _ < _); walk_at "len")
  | walk_at "go")
local macro_rules | `(tactic| walk_at "asg") => `(tactic| first
  | (with_reducible apply sq_asg) <;> walk_at "st"
  | (with_reducible apply at_asg) <;> walk_at "st")
local macro_rules | `(tactic| walk_at "asgL") => `(tactic| first
  | (with_reducible apply sq_asgL) <;> walk_at "st"
  | (with_reducible apply at_asgL) <;> walk_at "st")
local macro_rules | `(tactic| walk_at "app") => `(tactic| first
  | (with_reducible apply sq_append) <;> walk_at "st"
  | (with_reducible apply at_append) <;> walk_at "st")
local macro_rules | `(tactic| walk_at "ret") => `(tactic| first
  | (with_reducible apply at_ret) <;> walk_at "st")
local macro_rules | `(tactic| walk_at "when") => `(tactic| first
  | (with_reducible apply sq_when) <;> walk_at "st"
  | (with_reducible apply at_when) <;> walk_at "st")
local macro_rules | `(tactic| walk_at "if") => `(tactic| first
  | (with_reducible apply sq_if) <;> walk_at "st"
  | (with_reducible apply at_if) <;> walk_at "st")
local macro_rules | `(tactic| walk_at "fd") => `(tactic| first
  | exact rfl
  | assumption)
local macro_rules | `(tactic| walk_at "R") => `(tactic| first
  | (with_reducible apply rc_see_pairs) <;> walk_at "sd"
  | (with_reducible apply rc_hsum) <;> walk_at "sd"
  | (with_reducible apply rc_table) <;> walk_at "sd"
  | (with_reducible apply rc_lropes) <;> walk_at "sd"
  | (with_reducible apply rc_summedp) <;> walk_at "sd"
  | (with_reducible apply rc_lifted) <;> walk_at "sd"
  | (with_reducible apply rc_holds) <;> walk_at "sd"
  | (with_reducible apply rc_spare) <;> walk_at "sd"
  | (with_reducible apply rc_gain) <;> walk_at "sd"
  | (with_reducible apply rc_is_let) <;> walk_at "sd"
  | (with_reducible apply rc_lsum) <;> walk_at "sd"
  | (with_reducible apply rc_lspare) <;> walk_at "sd"
  | (with_reducible apply rc_held) <;> walk_at "sd"
  | (with_reducible apply rc_parts) <;> walk_at "sd"
  | (with_reducible apply rc_drawn) <;> walk_at "sd"
  | (with_reducible apply rc_lrow) <;> walk_at "sd"
  | (with_reducible apply rc_lplus) <;> walk_at "sd"
  | (with_reducible apply rc_times_int) <;> walk_at "sd"
  | (with_reducible apply rc_int_times) <;> walk_at "sd"
  | (with_reducible apply rc_less0) <;> walk_at "sd"
  | (with_reducible apply rc_init) <;> walk_at "sd")
local macro_rules | `(tactic| walk_at "evD") => `(tactic| first
  | (with_reducible apply ed_sum) <;> walk_at "go"
  | (with_reducible apply ed_min) <;> walk_at "go"
  | (with_reducible apply ed_max) <;> walk_at "go"
  | (with_reducible apply ed_heavy) <;> walk_at "go"
  | (with_reducible apply ed_table) <;> walk_at "go"
  | (with_reducible apply ed_make) <;> walk_at "go"
  | (with_reducible apply ed_meth) <;> walk_at "go"
  | (with_reducible apply ed_fldA) <;> walk_at "fd")
local macro_rules | `(tactic| walk_at "evL") => `(tactic| first
  | (with_reducible apply el_list) <;> walk_at "go"
  | (with_reducible apply el_cat) <;> walk_at "go"
  | (with_reducible apply el_rep) <;> walk_at "go"
  | (with_reducible apply el_slice) <;> walk_at "go"
  | (with_reducible apply el_meth) <;> walk_at "go")
local macro_rules | `(tactic| walk_at "evS") => `(tactic| first
  | (with_reducible apply es_fldA) <;> walk_at "fd")
local macro_rules | `(tactic| walk_at "evO") => `(tactic| first
  | with_reducible exact eo_none
  | (with_reducible apply eo_some) <;> walk_at "go")
local macro_rules | `(tactic| walk_at "go") => `(tactic| first
  | ((with_reducible show EvO _ _ _ _ _); walk_at "evO"))
local macro_rules | `(tactic| walk_at "fld") => `(tactic| first
  | (with_reducible apply sq_fld) <;> walk_at "st"
  | (with_reducible apply at_fld) <;> walk_at "st")
local macro_rules | `(tactic| walk_at "fldL") => `(tactic| first
  | (with_reducible apply sq_fldL) <;> walk_at "st"
  | (with_reducible apply at_fldL) <;> walk_at "st")
local macro_rules | `(tactic| walk_at "drop") => `(tactic| first
  | (with_reducible apply sq_drop) <;> walk_at "st"
  | (with_reducible apply at_drop) <;> walk_at "st")
section
variable {K : PySem.W.Frag} {C : Addr}
local macro_rules | `(tactic| walk_at "R") => `(tactic| first
  | (with_reducible apply rc_initD) <;> walk_at "sd"
  | (with_reducible apply rc_lspare5) <;> walk_at "sd")
theorem ok_still : (PyData.str "still").canLay0 = true := by decide +kernel
theorem ok_sinks : (PyData.str "sinks").canLay0 = true := by decide +kernel
theorem ne_ss : ¬ (("sinks" : Str) = "still") := by decide +kernel
theorem spare_num {row : List Int} {ms : List Rat} : decide ((spareOf row ms).num < 0) = decide (spareOf row ms < 0) := decide_eq_decide.mpr rat_num_neg
/-- the least of what the ropes get -/
theorem ex_min (tb : List (List Int)) (ms : List Rat) : ∃ m : Int, (tb = [] → m = 0) ∧ (tb ≠ [] → IsMin (tb.map fun r => (spareOf r ms).num) m) := by
  by_cases z : tb = []
  · exact ⟨0, fun _ => rfl, fun h => absurd z h⟩
  · obtain ⟨m, hm⟩ := exMin (ns := tb.map fun r => (spareOf r ms).num) (by simpa using z)
    exact ⟨m, fun h => absurd h z, fun _ => hm⟩
theorem p_law_shown_k07 : Body (t_law_shown_k07 K C) n_law_shown_k07 (sp_law_shown_k07 K C) := by
  rintro vs H Q E ⟨ds, d, r, ⟨ws, tb, t, xs, ho, hz, hh, rfl, rfl⟩, k⟩
  refine start_at r (n := 1) (by rw [r.length]; rfl) ?_
  have r5 := ho.r5
  have w4 := ho.w4
  have dl : (dI ws).length = ws.length := by simp
  have dt : (dRows .x tb).length = tb.length := by simp [dRows]
  have ii0 : ∀ a b : D, atI [a, b] 0 = some a := fun _ _ => rfl
  have ii1 : ∀ a b : D, atI [a, b] 1 = some b := fun _ _ => rfl
  unfold t_law_shown_k07
  simp only [List.map, uns, List.cons_append, List.nil_append]
  refine sq_when (b := false) (EvB.to (eb_or (a := false) (EvB.to (eb_not (eb_val (ed_isi (b := true) (by walk_at "evR") rfl (by decide +kernel)))) rfl) fun _ => EvB.to (eb_val (ed_ne (d := .int 2) (EvD.r (EvD.to (ed_lenT (xs := [.str t, .lst .x (dFs xs)]) (by walk_at "evD")) rfl)) (by walk_at "evR") EqD.int)) (b' := false) rfl) rfl) (fun z => nomatch z) fun _ => ?_
  have e0 : EvD K C (xIdx K (tVar 2) (tC (.int 0))) [.dat (.lst .x (dI ws)), .dat (.lst .x (dRows .x tb)), .dat (.tup [.str t, .lst .x (dFs xs)]), .un] (.str t) := by walk_at "evD"
  have e1 : EvD K C (xIdx K (tVar 2) (tC (.int 1))) [.dat (.lst .x (dI ws)), .dat (.lst .x (dRows .x tb)), .dat (.tup [.str t, .lst .x (dFs xs)]), .un] (.lst .x (dFs xs)) := by walk_at "evD"
  have sz85 : SzL 8500 xs := fun q hq => (hz q hq).mono (by decide)
  rcases hh with ⟨rfl, hl, hz1, hh⟩ | ⟨rfl, hl, h1, h2⟩
  · refine sq_when (b := true) (EvB.to (eb_val (ed_eq e0.r ed_str.r (EqD.str ok_still ok_still))) (by simp)) (fun _ => ?_) (fun z => nomatch z)
    refine at_ret (EvD.to (ed_andV (a := true) (ev_call (ea_cons e1.r (ea_cons (by walk_at "evR") ea_nil)) (by walk_at "era") (rc_parts sz85 (by omega) (by rw [dt, hl])) rfl) fun _ => ev_call (ea_cons (by walk_at "evR") (ea_cons (by walk_at "evR") (ea_cons e1.r ea_nil))) (by walk_at "era") (rc_held ho hz1 hl) rfl) ?_) k
    rw [hh]; rfl
  · refine sq_when (b := false) (EvB.to (eb_val (ed_eq e0.r ed_str.r (EqD.str ok_sinks ok_still))) (by rw [decide_eq_false ne_ss])) (fun z => nomatch z) fun _ => ?_
    refine sq_when (b := false) (EvB.to (eb_or (a := false) (EvB.to (eb_val (ed_ne e0.r ed_str.r (EqD.str ok_sinks ok_sinks))) (by simp)) fun _ => EvB.to (eb_not (eb_val (ev_call (ea_cons e1.r (ea_cons (by walk_at "evR") ea_nil)) (by walk_at "era") (rc_parts sz85 (by omega) (by rw [dl, hl])) rfl))) (b' := false) rfl) rfl) (fun z => nomatch z) fun _ => ?_
    obtain ⟨m, h0, hm⟩ := ex_min tb xs
    have lm := let_min h0 hm
    rw [h1] at lm
    have hm0 : ¬ m < 0 := by
      have := of_decide_eq_true lm.symm
      omega
    refine sq_when (b := false) (EvB.to (eb_val (ed_lt (ed_minD (ns := tb.map fun r => (spareOf r xs).num) (EvL.s (EvL.to (el_lcMap (as := tb) (f := fun r => .lst .x (dI r)) (g := fun r => .int (spareOf r xs).num) (m := .x) (by walk_at "evD") (by omega) (by simp) fun r hr => ?_) (by simp))) ed_int.r (fun z => h0 (by simpa using z)) (fun z => hm (by simpa using z))).r ed_int.r)) (by rw [decide_eq_false hm0])) (fun z => nomatch z) fun _ => ?_
    · have h2 := ho.row r hr
      have h3 := ho.st r hr
      have h4 : ∀ z ∈ r, -2000 ≤ z ∧ z ≤ 2000 := fun z hz => by have := h3 z hz; omega
      dsimp only [List.set]
      refine ed_idxT (d := .int (spareOf r xs).num) (xs := [.int (spareOf r xs).num, .int (spareOf r xs).den]) (ev_call (d := dF (spareOf r xs)) (ea_cons (by walk_at "evR") (ea_cons (EvD.r (ed_idxT (by walk_at "evD") ed_int.r rfl)) ea_nil)) (by walk_at "era") (rc_lspare5 (by omega) h4 hz (by omega)) rfl) ed_int.r rfl
    · have h4 : ∀ z ∈ ws, -2000 ≤ z ∧ z ≤ 2000 := fun z hz => by have := ho.wv z hz; omega
      refine at_ret (EvD.to (ed_lt (ed_idxT (d := .int (spareOf ws xs).num) (xs := [.int (spareOf ws xs).num, .int (spareOf ws xs).den]) (ev_call (d := dF (spareOf ws xs)) (ea_cons (by walk_at "evR") (ea_cons e1.r ea_nil)) (by walk_at "era") (rc_lspare5 (by omega) h4 hz (by omega)) rfl) ed_int.r rfl).r ed_int.r) ?_) k
      rw [spare_num, decide_eq_true h2]

open Classical in
noncomputable def toldT (ws : List Int) (tb : List (List Int)) : Str := if sinksP ws tb then "sinks" else "still"
open Classical in
noncomputable def toldX (ws : List Int) (tb : List (List Int)) : List Rat := if sinksP ws tb then toldM ws tb else toldP ws tb
noncomputable def toldF (ws : List Int) (tb : List (List Int)) : List (Str × Fld) := [(("" : Str), Fld.dat (.str (toldT ws tb))), (("" : Str), Fld.own (dFs (toldX ws tb)))]
theorem toldT_s {ws : List Int} {tb : List (List Int)} (h : sinksP ws tb) : toldT ws tb = "sinks" := by unfold toldT; rw [if_pos h]
theorem toldT_n {ws : List Int} {tb : List (List Int)} (h : ¬ sinksP ws tb) : toldT ws tb = "still" := by unfold toldT; rw [if_neg h]
theorem toldX_s {ws : List Int} {tb : List (List Int)} (h : sinksP ws tb) : toldX ws tb = toldM ws tb := by unfold toldX; rw [if_pos h]
theorem toldX_n {ws : List Int} {tb : List (List Int)} (h : ¬ sinksP ws tb) : toldX ws tb = toldP ws tb := by unfold toldX; rw [if_neg h]
theorem rc_judged {ws : List Int} {tb : List (List Int)} (ho : HoOk ws tb) : R_judged [.ho .x ws tb] (toldF ws tb) := ⟨ws, tb, ho, rfl, fun h => by unfold toldF; rw [toldT_s h, toldX_s h], fun h => by unfold toldF; rw [toldT_n h, toldX_n h]⟩
theorem fr_toldF (ws : List Int) (tb : List (List Int)) : frF (toldF ws tb) = true := by
  show (true && (frAll (dFs (toldX ws tb)) && true)) = true
  rw [fr_dFs]; rfl
theorem pull_one {n k m : Nat} {OI : Nat → Nat → Int} {s : BSt} (hv : BV n k OI s) (c : Nat) : pullF n k s c = 0 ∨ ∃ i, i < n ∧ s.h i = c ∧ pullF n k s c = s.R i k := by
  by_cases h : ∃ i, i < n ∧ s.h i = c
  · obtain ⟨i, hi, e⟩ := h
    refine .inr ⟨i, hi, e, ?_⟩
    unfold pullF
    rw [S_one (r := i) hi fun j hj ne => if_neg fun z => ne (hv.bas.ne hj hi (z.trans e.symm)), if_pos e]
  · refine .inl (S_const0 fun i hi => if_neg fun z => h ⟨i, hi, z⟩)
theorem sz_pulls {ws : List Int} {tb : List (List Int)} (ho : HoOk ws tb) {s : BSt} (hv : BV ws.length (tb.length + ws.length) (OIh ws tb) s) {m : Nat} : SzL 45 ((List.range m).map (pullF ws.length (tb.length + ws.length) s)) := fun q hq => by
  obtain ⟨c, _, rfl⟩ := List.mem_map.mp hq
  rcases pull_one (m := m) hv c with h | ⟨i, hi, _, h⟩
  · rw [h]; exact ⟨by decide, by decide⟩
  · rw [h]; exact bv_sz ho hv i hi _ (Nat.le_refl _)
theorem sz_mot {ws : List Int} {tb : List (List Int)} (ho : HoOk ws tb) {s : BSt} {cost : Nat → Rat} {q : Rat} (hq : q = 0 ∨ q = 1) (h01 : ∀ c, cost c = 0 ∨ cost c = 1) (hv : BV ws.length (tb.length + ws.length) (OIh ws tb) s) : SzL 500 (motF ws tb cost q s) := fun x hx => by
  obtain ⟨b, hb, rfl⟩ := List.mem_map.mp hx
  have hb' := List.mem_range.mp hb
  have az := bv_az ho h01 hv
  have h0 : Sz 1 (0 : Rat) := ⟨by decide, by decide⟩
  have h1 : Sz 1 q := by rcases hq with rfl | rfl <;> exact ⟨by decide, by decide⟩
  exact (h0.sub (h1.sub (az _ (by omega)))).mono (by decide)
theorem told_ok {ws : List Int} {tb : List (List Int)} (ho : HoOk ws tb) : SzL 500 (toldX ws tb) ∧ ((toldT ws tb = "still" ∧ (toldX ws tb).length = tb.length ∧ SzL 100 (toldX ws tb) ∧ holdsB ws tb (toldX ws tb) = true) ∨ (toldT ws tb = "sinks" ∧ (toldX ws tb).length = ws.length ∧ letB tb (toldX ws tb) = true ∧ spareOf ws (toldX ws tb) < 0)) := by
  by_cases h : sinksP ws tb
  · rw [toldT_s h, toldX_s h]
    exact ⟨sz_mot ho (.inr rfl) (cost1_01 _ _) (fst_bv ho).1, .inr ⟨rfl, toldM_len, sinks_let ho, sinks_gain ho h⟩⟩
  · rw [toldT_n h, toldX_n h]
    have z := sz_pulls ho (fst_bv ho).1 (m := tb.length)
    exact ⟨fun q hq => (z q hq).mono (by decide), .inl ⟨rfl, toldP_len, fun q hq => (z q hq).mono (by decide), still_holds ho h⟩⟩
theorem rc_shown7 {ws : List Int} {tb : List (List Int)} (ho : HoOk ws tb) : R_shown7 [.lst .x (dI ws), .lst .x (dRows .x tb), .tup [.str (toldT ws tb), .lst .x (dFs (toldX ws tb))]] (.bl true) := ⟨ws, tb, _, _, ho, (told_ok ho).1, (told_ok ho).2, rfl, rfl⟩
theorem all_toldF (ws : List Int) (tb : List (List Int)) : D.tup ((toldF ws tb).map fun p => p.2.all) = .tup [.str (toldT ws tb), .lst .x (dFs (toldX ws tb))] := by
  show D.tup [.str (toldT ws tb), .lst .x (eraAll ((toldX ws tb).map dF))] = _
  rw [era_dFs]
theorem p_law_k07 : Body (t_law_k07 K C) n_law_k07 (sp_law K C) := by
  rintro vs H Q E ⟨ds, d, r, ⟨ns, hn, rfl, rfl⟩, k⟩
  refine start_at r (n := 9) (by rw [r.length]; rfl) ?_
  have q11 : (11 : Int) = ((11 : Nat) : Int) := rfl
  have z9 : (0 : Int) < 9 := by decide
  have ho := HoOk.drawn ns
  have r5 := ho.r5
  have w4 := ho.w4
  have tl : (drawnTb ns).length ≤ 100 := by omega
  have hrow : ∀ r ∈ drawnTb ns, 1 ≤ r.length ∧ r.length ≤ 10 := fun r hr => by
    have := ho.row r hr
    have := ho.w1
    omega
  have dl : (dI (drawnWs ns)).length = (drawnWs ns).length := by simp
  have dt : (dRows .f (drawnTb ns)).length = (drawnTb ns).length := by simp [dRows]
  unfold t_law_k07
  walk_at "asg"
  walk_at "asg"
  walk_at "asg"
  walk_at "asg"
  dsimp only [List.set, List.map, uns, List.cons_append, List.nil_append]
  refine sq_callT (fs' := toldF (drawnWs ns) (drawnTb ns)) (by simp) (by walk_at "evA") (by walk_at "era") (rc_judged ho) (fr_toldF _ _) fun a => ?_
  dsimp only [List.set]
  have eshown : ∀ {ρ : List Cell} {t : TE}, EvR K C (tVar 2) ρ (.lst .f (dI (drawnWs ns))) → EvR K C (tVar 3) ρ (.lst .f (dRows .f (drawnTb ns))) → EvR K C t ρ (.tup ((toldF (drawnWs ns) (drawnTb ns)).map fun p => p.2.all)) →
      EvD K C (tCall (sp_law_shown_k07 K C) [] E0 (tCons (tVar 2) (tCons (tVar 3) (tCons t tNil)))) ρ (.bl true) := fun h2 h3 h => ev_call (ea_cons h2 (ea_cons h3 (ea_cons (h.to (all_toldF _ _)) ea_nil))) (by walk_at "era") (rc_shown7 ho) rfl
  refine sq_when (b := false) (EvB.to (eb_not (eb_val (eshown (by walk_at "evR") (by walk_at "evR") (er_tp rfl)))) rfl) (fun z => nomatch z) fun _ => ?_
  have e1 : ((List.range (drawnTb ns).length).map fun r => D.tup [.int (madeP ns r), .int 1]) = dFs ((List.range (drawnTb ns).length).map fun r => ((madeP ns r : Int) : Rat)) := by
    rw [dFs, List.map_map]
    exact List.map_congr_left fun r _ => (dF_int _).symm
  refine sq_asgL (EvL.to (el_lcN (n := (drawnTb ns).length) (g := fun r => D.tup [.int (madeP ns r), .int 1]) (EvA.to (by walk_at "evA") (by rw [dt])) (by omega) (by simp) fun r hr => ?_) e1) (by simp) ?_
  · have e1 : (7 : Int) + (r : Int) = ((7 + r : Nat) : Int) := by omega
    have a7 : CDivW (ns.getD (7 + r) 0) 7 := ⟨by decide, by decide +kernel⟩
    dsimp only [List.set]
    refine EvD.to (d := .tup [.int (ns.getD (7 + r) 0 / 7 % 9), .int 1]) (by walk_at "evD") rfl
  dsimp only [List.set]
  have hsz : SzL 100 ((List.range (drawnTb ns).length).map fun r => ((madeP ns r : Int) : Rat)) := fun q hq => by
    obtain ⟨r, _, rfl⟩ := List.mem_map.mp hq
    exact sz_madeP ns r
  have hlen : ((List.range (drawnTb ns).length).map fun r => ((madeP ns r : Int) : Rat)).length = (drawnTb ns).length := by simp
  generalize ((List.range (drawnTb ns).length).map fun r => ((madeP ns r : Int) : Rat)) = ps at *
  have okt : (PyData.str (toldT (drawnWs ns) (drawnTb ns))).canLay0 = true := by
    rcases (told_ok ho).2 with h | h <;> rw [h.1]
    · exact ok_still
    · exact ok_sinks
  generalize hρ : [Cell.dat (.scr ns), .dat (.tup [.lst .f (dI (drawnWs ns)), .lst .f (dRows .f (drawnTb ns))]), .dat (.lst .f (dI (drawnWs ns))), .dat (.lst .f (dRows .f (drawnTb ns))), .dat (.ho .f (drawnWs ns) (drawnTb ns)), .tp a (toldF (drawnWs ns) (drawnTb ns)), .own (dFs ps), .un, .un, .un] = ρ
  have t0 : EvD K C (xIdx K (tVar 5) (tC (.int 0))) ρ (.str (toldT (drawnWs ns) (drawnTb ns))) := by rw [← hρ]; exact ed_tpI (j := 0) rfl rfl
  refine sq_when (b := holdsB (drawnWs ns) (drawnTb ns) ps && !decide (toldT (drawnWs ns) (drawnTb ns) = "still")) (eb_and (eb_val (ev_call (by rw [← hρ]; walk_at "evA") (by walk_at "era") (rc_held ho hsz hlen) rfl)) fun _ => eb_val (ed_ne t0.r ed_str.r (EqD.str okt ok_still))) (fun hb => ?_) fun _ => ?_
  · rw [Bool.and_eq_true] at hb
    rw [toldT_n (held_still ho hlen hb.1)] at hb
    simp at hb
  subst hρ
  refine sq_forN (n := (drawnWs ns).length) (EvA.to (by walk_at "evA") (by simp)) (by omega) (fun i ρ' => ∃ c8, ρ' = [.dat (.scr ns), .dat (.tup [.lst .f (dI (drawnWs ns)), .lst .f (dRows .f (drawnTb ns))]), .dat (.lst .f (dI (drawnWs ns))), .dat (.lst .f (dRows .f (drawnTb ns))), .dat (.ho .f (drawnWs ns) (drawnTb ns)), .tp a (toldF (drawnWs ns) (drawnTb ns)), .own (dFs ps), .un, c8, .un]) ⟨_, rfl⟩ (by rintro i ρ' ⟨_, rfl⟩; simp) ?_ ?_
  · rintro b ρ' hb ⟨c8, rfl⟩
    dsimp only [List.set]
    have a2 : atI (dI (drawnWs ns)) (b : Int) = some (.int ((drawnWs ns).getD b 0)) := atI_map 0 hb
    obtain ⟨m, h0, hm⟩ : ∃ m : Int, (drawnTb ns = [] → m = 0) ∧ (drawnTb ns ≠ [] → IsMax ((drawnTb ns).map fun r => r.getD b 0) m) := by
      by_cases z : drawnTb ns = []
      · exact ⟨0, fun _ => rfl, fun h => absurd z h⟩
      · obtain ⟨m, hm⟩ := exMax (ns := (drawnTb ns).map fun r => r.getD b 0) (by simpa using z)
        exact ⟨m, fun h => absurd h z, fun _ => hm⟩
    have em : EvD K C (x_maxD K (tLc (iList K (tVar 3)) (gName 9) tYes (xIdx K (tVar 9) (tVar 8)) [9]) (tC (.int 0))) [.dat (.scr ns), .dat (.tup [.lst .f (dI (drawnWs ns)), .lst .f (dRows .f (drawnTb ns))]), .dat (.lst .f (dI (drawnWs ns))), .dat (.lst .f (dRows .f (drawnTb ns))), .dat (.ho .f (drawnWs ns) (drawnTb ns)), .tp a (toldF (drawnWs ns) (drawnTb ns)), .own (dFs ps), .un, .dat (.int b), .un] (.int m) :=
      ed_maxD (ns := (drawnTb ns).map fun r => r.getD b 0) (EvL.s (EvL.to (el_lcMap (as := drawnTb ns) (f := fun r => .lst .f (dI r)) (g := fun r => .int (r.getD b 0)) (m := .f) (by walk_at "evD") (by omega) (by simp) fun r hr => by
        have a3 : atI (dI r) (b : Int) = some (.int (r.getD b 0)) := atI_map 0 (by rw [ho.row r hr]; exact hb)
        dsimp only [List.set]
        walk_at "evD") (by simp))) ed_int.r (fun z => h0 (by simpa using z)) (fun z => hm (by simpa using z))
    refine at_when (b := decide (0 < (drawnWs ns).getD b 0) && (decide (m < 1) && !decide (toldT (drawnWs ns) (drawnTb ns) = "sinks"))) (eb_and (eb_val (ed_gt (by walk_at "evR") ed_int.r)) fun _ => eb_and (eb_val (ed_lt em.r ed_int.r)) fun _ => eb_val (ed_ne (EvD.r (ed_tpI (j := 0) rfl rfl)) ed_str.r (EqD.str okt ok_sinks))) (fun hh => ?_) fun _ => ?_
    · rw [Bool.and_eq_true, Bool.and_eq_true, decide_eq_true_eq, decide_eq_true_eq] at hh
      have hs : sinksP (drawnWs ns) (drawnTb ns) := no_up ho hb hh.1 fun r hr => by
        have hne : drawnTb ns ≠ [] := fun z => by rw [z] at hr; exact nomatch hr
        have := (hm hne).le _ (List.mem_map_of_mem hr)
        omega
      rw [toldT_s hs] at hh
      simp at hh
    · exact at_gx ⟨_, rfl⟩
  · rintro ρ' ⟨c8, rfl⟩
    have d01 : EvD K C (tTup (tCons (tC (.int 0)) (tCons (tC (.int 1)) tNil))) [.dat (.scr ns), .dat (.tup [.lst .f (dI (drawnWs ns)), .lst .f (dRows .f (drawnTb ns))]), .dat (.lst .f (dI (drawnWs ns))), .dat (.lst .f (dRows .f (drawnTb ns))), .dat (.ho .f (drawnWs ns) (drawnTb ns)), .tp a (toldF (drawnWs ns) (drawnTb ns)), .own (dFs ps), .un, c8, .un] (.tup [.int 0, .int 1]) := by walk_at "evD"
    refine sq_appendT (j := 1) rfl rfl d01 ?_ ?_
    · rcases (told_ok ho).2 with h | h <;> rw [List.length_map, h.2.1] <;> omega
    dsimp only [List.set]
    refine at_ret (eshown (by walk_at "evR") (by walk_at "evR") (er_callT (by walk_at "evA") (by walk_at "era") (rc_judged ho) (fr_toldF _ _))) k
end
end Hw
namespace Hw
open PySem L2
/-- other_than_nought: row k -/
def t_other_than_nought (K : PySem.W.Frag) (C : Addr) (pNOUGHT : Addr) : TS := (tSeq (tFor (iRng1 (tCons (xLen K (tVar 0)) tNil)) (gName 1) (tIfS (tB (xNe K (xIdx K (tVar 0) (tVar 1)) (tC (.ref pNOUGHT)))) (tRet (tVar 1)) tNext)) (tRet (tC .non)))
abbrev n_other_than_nought : List Str := ["row", "k"]
/-- Board.clear_helps: self r column -/
def t_Board_clear_helps (K : PySem.W.Frag) (C : Addr) (B : Addr) : TS := (tFor (iRng1 (tCons (tFld K (tVar 0) "bodies") tNil)) (gName 1) (tIfS (tB (xGe (xIdx K (tFld K (tVar 0) "held") (tVar 1)) (tFld K (tVar 0) "ropes"))) (tSeq (tAsg (tCall (sp_other_than_nought K C) [] E0 (tCons (tSl (rSlL K) (xIdx K (tFld K (tVar 0) "rows") (tVar 1)) tNoPart (tPart (tFld K (tVar 0) "ropes"))) tNil)) (gName 2)) (tIfS (tB (xNotN (tVar 2))) (tDrop (tMeth B "turn" (sp_Board_turn K C B) [] E0 (tVar 0) (tCons (tVar 1) (tCons (tVar 2) tNil)))) tNext)) tNext))
abbrev n_Board_clear_helps : List Str := ["self", "r", "column"]
/-- Hoist.see_rope: self rope -/
def t_Hoist_see_rope (K : PySem.W.Frag) (C : Addr) : TS := (tIfS (tNot (tB (xLeLt (tC (.int 0)) (tVar 1) (xLen K (tFld K (tVar 0) "table"))))) tNever tNext)
abbrev n_Hoist_see_rope : List Str := ["self", "rope"]
/-- least_pull: hoist rope board r body -/
def t_least_pull (K : PySem.W.Frag) (C : Addr) (B : Addr) (pNOUGHT : Addr) : TS := (tSeq (tDrop (tMeth C "see_rope" (sp_Hoist_see_rope K C) [] E0 (tVar 0) (tCons (tVar 1) tNil))) (tSeq (tAsg (tCall (sp_first_board K C B) [] E0 (tCons (tVar 0) tNil)) (gName 2)) (tSeq (tIfS (tB (xNe K (xIdx K (tFld K (tVar 2) "aim") (xNeg (tC (.int 1)))) (tC (.ref pNOUGHT)))) tNever tNext) (tSeq (tDrop (tMeth B "clear_helps" (sp_Board_clear_helps K C B) [] E0 (tVar 2) tNil)) (tSeq (tDrop (tMeth B "price" (sp_Board_price K C B) [] E0 (tVar 2) (tCons (xCat (tLc (iRng1 (tCons (tFld K (tVar 2) "ropes") tNil)) (gName 3) tYes (tTup (tCons (xInt (xEq K (tVar 3) (tVar 1))) (tCons (tC (.int 1)) tNil))) [3]) (tLc (iRng1 (tCons (tFld K (tVar 2) "bodies") tNil)) (gName 4) tYes (tC (.ref pNOUGHT)) [4])) tNil))) (tSeq (tDrop (tMeth B "go" (sp_Board_go K C B) [] E0 (tVar 2) tNil)) (tRet (tTup (tCons (tMeth B "pulls" (sp_Board_pulls K C B) [] E0 (tVar 2) tNil) (tCons (tCall (sp_turned_about K C) [] E0 (tCons (tMeth B "worths" (sp_Board_worths K C B) [] E0 (tVar 2) (tCons (tC (.ref pNOUGHT)) tNil)) tNil)) tNil))))))))))
abbrev n_least_pull : List Str := ["hoist", "rope", "board", "r", "body"]
end Hw
namespace Hw
open PySem L2
local macro_rules | `(tactic| walk_at "sd") => `(tactic| first
  | exact rfl
  | decide +kernel
  | (exact Nat.le_of_ble_eq_true rfl)
  | assumption
  | (exact Sz.mono (by assumption) (by decide))
  | decide
  | omega
  | (exact eraAll_map _ _ (fun _ => rfl) _)
  | (exact frAll_map _ (fun _ => rfl) _)
  | exact EqD.frac
  | exact EqD.int
  | exact EqD.bl
  | exact EqD.pair
  | skip)
local macro_rules | `(tactic| walk_at "R") => `(tactic| first
  | (with_reducible apply rc_common) <;> walk_at "sd"
  | (with_reducible apply rc_fraction) <;> walk_at "sd"
  | (with_reducible apply rc_plus) <;> walk_at "sd"
  | (with_reducible apply rc_minus) <;> walk_at "sd"
  | (with_reducible apply rc_times) <;> walk_at "sd"
  | (with_reducible apply rc_over) <;> walk_at "sd"
  | (with_reducible apply rc_less) <;> walk_at "sd"
  | (with_reducible apply rc_cell) <;> walk_at "sd"
  | (with_reducible apply rc_whole) <;> walk_at "sd"
  | (with_reducible apply rc_low) <;> walk_at "sd"
  | (with_reducible apply rc_part) <;> walk_at "sd"
  | (with_reducible apply rc_lfraction) <;> walk_at "sd")
local macro_rules | `(tactic| walk_at "evD") => `(tactic| first
  | with_reducible exact ed_int
  | with_reducible exact ed_bl
  | with_reducible exact ed_non
  | with_reducible exact ed_str
  | (with_reducible apply ed_var) <;> walk_at "go"
  | (with_reducible apply ed_add) <;> walk_at "go"
  | (with_reducible apply ed_sub) <;> walk_at "go"
  | (with_reducible apply ed_mul) <;> walk_at "go"
  | (with_reducible apply ed_div) <;> walk_at "go"
  | (with_reducible apply ed_mod) <;> walk_at "go"
  | (with_reducible apply ed_pow) <;> walk_at "go"
  | (with_reducible apply ed_neg) <;> walk_at "go"
  | (with_reducible apply ed_lt) <;> walk_at "go"
  | (with_reducible apply ed_le) <;> walk_at "go"
  | (with_reducible apply ed_gt) <;> walk_at "go"
  | (with_reducible apply ed_ge) <;> walk_at "go"
  | (with_reducible apply ed_leLt) <;> walk_at "go"
  | (with_reducible apply ed_leLe) <;> walk_at "go"
  | (with_reducible apply ed_ltLt) <;> walk_at "go"
  | (with_reducible apply ed_eq) <;> walk_at "go"
  | (with_reducible apply ed_ne) <;> walk_at "go"
  | (with_reducible apply ed_idxT) <;> walk_at "go"
  | (with_reducible apply ed_idxS) <;> walk_at "go"
  | (with_reducible apply ed_idxScr) <;> walk_at "go"
  | (with_reducible apply ed_lenS) <;> walk_at "go"
  | (with_reducible apply ed_lenT) <;> walk_at "go"
  | (with_reducible apply ed_lenScr) <;> walk_at "go"
  | (with_reducible apply ed_abs) <;> walk_at "go"
  | (with_reducible apply ed_intI) <;> walk_at "go"
  | (with_reducible apply ed_intB) <;> walk_at "go"
  | (with_reducible apply ed_intS) <;> walk_at "go"
  | (with_reducible apply ed_andV) <;> walk_at "go"
  | (with_reducible apply ed_orV) <;> walk_at "go"
  | (with_reducible apply ed_notV) <;> walk_at "go"
  | (with_reducible apply ed_tup) <;> walk_at "go"
  | (with_reducible apply ev_call) <;> walk_at "go"
  | (with_reducible apply ed_isi) <;> walk_at "go"
  | (with_reducible apply ed_catS) <;> walk_at "go"
  | (with_reducible apply ed_repS) <;> walk_at "go"
  | (with_reducible apply EvL.dat) <;> walk_at "go")
local macro_rules | `(tactic| walk_at "evR") => `(tactic| first
  | (with_reducible apply EvD.r) <;> walk_at "go"
  | (with_reducible apply EvS.r) <;> walk_at "go")
local macro_rules | `(tactic| walk_at "evS") => `(tactic| first
  | (with_reducible apply es_own) <;> walk_at "go"
  | (with_reducible apply EvD.s) <;> walk_at "go"
  | (with_reducible apply EvL.s) <;> walk_at "go")
local macro_rules | `(tactic| walk_at "evL") => `(tactic| first
  | (with_reducible apply el_lst) <;> walk_at "go"
  | (with_reducible apply ev_callL) <;> walk_at "go")
local macro_rules | `(tactic| walk_at "evA") => `(tactic| first
  | with_reducible exact ea_nil
  | (with_reducible apply ea_cons) <;> walk_at "go")
local macro_rules | `(tactic| walk_at "evQ") => `(tactic| first
  | with_reducible exact eq_nil
  | (with_reducible apply eq_cons) <;> walk_at "go")
local macro_rules | `(tactic| walk_at "evB") => `(tactic| first
  | (with_reducible apply eb_and) <;> walk_at "go"
  | (with_reducible apply eb_or) <;> walk_at "go"
  | (with_reducible apply eb_not) <;> walk_at "go"
  | (with_reducible apply eb_val) <;> walk_at "go")
local macro_rules | `(tactic| walk_at "era") => `(tactic| first
  | ((simp only [eraAll, D.era, era_dF, era_dP, era_dFs, era_dI, era_dS, era_dPs, era_dRows, era_dRopes]); done)
  | ((simp only [eraAll, D.era, era_dF, era_dP, era_dFs, era_dI, era_dS, era_dPs, era_dRows, era_dRopes]); exact rfl))
local macro_rules | `(tactic| walk_at "frs") => `(tactic| first
  | exact rfl
  | exact fr_dFs _
  | exact fr_dI _
  | exact fr_dS _
  | exact fr_dPs _
  | exact fr_dRows _
  | exact fr_dRopes _
  | (simp only [frAll, D.fr, fr_dFs, fr_dI, fr_dS, fr_dPs, fr_dRows, fr_dRopes, decide_true, Bool.and_true, Bool.true_and]; done))
local macro_rules | `(tactic| walk_at "go") => `(tactic| first
  | ((with_reducible show eraAll _ = _); walk_at "era")
  | ((with_reducible show D.fr _ = true); walk_at "frs")
  | ((with_reducible show frAll _ = true); walk_at "frs")
  | ((with_reducible show _ = some (Cell.dat _)); exact rfl)
  | ((with_reducible show _ = some (Cell.own _)); exact rfl)
  | ((with_reducible show D.tn _ = some _); exact rfl)
  | ((with_reducible show atI _ _ = some _); first | exact rfl | assumption)
  | ((with_reducible show EvD _ _ _ _ _); walk_at "evD")
  | ((with_reducible show EvR _ _ _ _ _); walk_at "evR")
  | ((with_reducible show EvS _ _ _ _ _); walk_at "evS")
  | ((with_reducible show EvL _ _ _ _ _); walk_at "evL")
  | ((with_reducible show EvA _ _ _ _ _); walk_at "evA")
  | ((with_reducible show EvAD _ _ _ _ _); walk_at "evQ")
  | ((with_reducible show EvB _ _ _ _ _); walk_at "evB")
  | ((with_reducible show _ = _ → _); intro hv; walk_at "go")
  | ((fail_if_success (with_reducible show EvD _ _ _ _ _)); (fail_if_success (with_reducible show EvR _ _ _ _ _)); (fail_if_success (with_reducible show EvS _ _ _ _ _)); (fail_if_success (with_reducible show EvL _ _ _ _ _)); (fail_if_success (with_reducible show EvA _ _ _ _ _)); (fail_if_success (with_reducible show EvAD _ _ _ _ _)); (fail_if_success (with_reducible show EvB _ _ _ _ _)); (fail_if_success (with_reducible show _ = some (Cell.dat _))); (fail_if_success (with_reducible show _ = some (Cell.own _))); (fail_if_success (with_reducible show atI _ _ = some _)); (fail_if_success (with_reducible show D.tn _ = some _)); (fail_if_success (with_reducible show eraAll _ = _)); (fail_if_success (with_reducible show D.fr _ = true)); (fail_if_success (with_reducible show frAll _ = true)); first | walk_at "R" | walk_at "sd"))
local macro_rules | `(tactic| walk_at "len") => `(tactic| first
  | exact (by decide)
  | (simp; done)
  | omega)
local macro_rules | `(tactic| walk_at "st") => `(tactic| first
  | ((with_reducible show At _ _ _ _ _ _); try dsimp only [List.set])
  | ((with_reducible show _ = _ → At _ _ _ _ _ _); intro hb)
  | ((with_reducible show _ < _); walk_at "len")
  | walk_at "go")
local macro_rules | `(tactic| walk_at "asg") => `(tactic| first
  | (with_reducible apply sq_asg) <;> walk_at "st"
  | (with_reducible apply at_asg) <;> walk_at "st")
local macro_rules | `(tactic| walk_at "asgL") => `(tactic| first
  | (with_reducible apply sq_asgL) <;> walk_at "st"
  | (with_reducible apply at_asgL) <;> walk_at "st")
local macro_rules | `(tactic| walk_at "app") => `(tactic| first
  | (with_reducible apply sq_append) <;> walk_at "st"
  | (with_reducible apply at_append) <;> walk_at "st")
local macro_rules | `(tactic| walk_at "ret") => `(tactic| first
  | (with_reducible apply at_ret) <;> walk_at "st")
local macro_rules | `(tactic| walk_at "when") => `(tactic| first
  | (with_reducible apply sq_when) <;> walk_at "st"
  | (with_reducible apply at_when) <;> walk_at "st")
local macro_rules | `(tactic| walk_at "if") => `(tactic| first
  | (with_reducible apply sq_if) <;> walk_at "st"
  | (with_reducible apply at_if) <;> walk_at "st")
local macro_rules | `(tactic| walk_at "fd") => `(tactic| first
  | exact rfl
  | assumption)
local macro_rules | `(tactic| walk_at "R") => `(tactic| first
  | (with_reducible apply rc_see_pairs) <;> walk_at "sd"
  | (with_reducible apply rc_hsum) <;> walk_at "sd"
  | (with_reducible apply rc_table) <;> walk_at "sd"
  | (with_reducible apply rc_lropes) <;> walk_at "sd"
  | (with_reducible apply rc_summedp) <;> walk_at "sd"
  | (with_reducible apply rc_lifted) <;> walk_at "sd"
  | (with_reducible apply rc_holds) <;> walk_at "sd"
  | (with_reducible apply rc_spare) <;> walk_at "sd"
  | (with_reducible apply rc_gain) <;> walk_at "sd"
  | (with_reducible apply rc_is_let) <;> walk_at "sd"
  | (with_reducible apply rc_lsum) <;> walk_at "sd"
  | (with_reducible apply rc_lspare) <;> walk_at "sd"
  | (with_reducible apply rc_held) <;> walk_at "sd"
  | (with_reducible apply rc_parts) <;> walk_at "sd"
  | (with_reducible apply rc_drawn) <;> walk_at "sd"
  | (with_reducible apply rc_lrow) <;> walk_at "sd"
  | (with_reducible apply rc_lplus) <;> walk_at "sd"
  | (with_reducible apply rc_times_int) <;> walk_at "sd"
  | (with_reducible apply rc_int_times) <;> walk_at "sd"
  | (with_reducible apply rc_less0) <;> walk_at "sd"
  | (with_reducible apply rc_init) <;> walk_at "sd")
local macro_rules | `(tactic| walk_at "evD") => `(tactic| first
  | (with_reducible apply ed_sum) <;> walk_at "go"
  | (with_reducible apply ed_min) <;> walk_at "go"
  | (with_reducible apply ed_max) <;> walk_at "go"
  | (with_reducible apply ed_heavy) <;> walk_at "go"
  | (with_reducible apply ed_table) <;> walk_at "go"
  | (with_reducible apply ed_make) <;> walk_at "go"
  | (with_reducible apply ed_meth) <;> walk_at "go"
  | (with_reducible apply ed_fldA) <;> walk_at "fd")
local macro_rules | `(tactic| walk_at "evL") => `(tactic| first
  | (with_reducible apply el_list) <;> walk_at "go"
  | (with_reducible apply el_cat) <;> walk_at "go"
  | (with_reducible apply el_rep) <;> walk_at "go"
  | (with_reducible apply el_slice) <;> walk_at "go"
  | (with_reducible apply el_meth) <;> walk_at "go")
local macro_rules | `(tactic| walk_at "evS") => `(tactic| first
  | (with_reducible apply es_fldA) <;> walk_at "fd")
local macro_rules | `(tactic| walk_at "evO") => `(tactic| first
  | with_reducible exact eo_none
  | (with_reducible apply eo_some) <;> walk_at "go")
local macro_rules | `(tactic| walk_at "go") => `(tactic| first
  | ((with_reducible show EvO _ _ _ _ _); walk_at "evO"))
local macro_rules | `(tactic| walk_at "fld") => `(tactic| first
  | (with_reducible apply sq_fld) <;> walk_at "st"
  | (with_reducible apply at_fld) <;> walk_at "st")
local macro_rules | `(tactic| walk_at "fldL") => `(tactic| first
  | (with_reducible apply sq_fldL) <;> walk_at "st"
  | (with_reducible apply at_fldL) <;> walk_at "st")
local macro_rules | `(tactic| walk_at "drop") => `(tactic| first
  | (with_reducible apply sq_drop) <;> walk_at "st"
  | (with_reducible apply at_drop) <;> walk_at "st")
section
variable {K : PySem.W.Frag} {C B pN pO : Addr}
theorem p_other_than_nought (hN : IsN K pN) : Body (t_other_than_nought K C pN) n_other_than_nought (sp_other_than_nought K C) := by
  rintro vs H Q E ⟨ds, d, r, ⟨row, hl, rfl, rfl⟩, k⟩
  refine start_at r (n := 1) (by rw [r.length]; rfl) ?_
  unfold t_other_than_nought
  refine sq_forN (n := row.length) (EvA.to (by walk_at "evA") (by simp)) (by omega) (fun i ρ' => (∀ j, j < i → row.getD j 0 = 0) ∧ ∃ c, ρ' = [.dat (.lst .x (dFs row)), c]) ⟨by omega, _, rfl⟩ (by rintro i ρ' ⟨_, _, rfl⟩; simp) ?_ ?_
  · rintro i ρ' hi ⟨hI, c, rfl⟩
    dsimp only [List.set]
    have a1 : atI (dFs row) (i : Int) = some (dF (row.getD i 0)) := atI_map 0 hi
    refine at_when (eb_val (ed_ne (d := dF (row.getD i 0)) (by walk_at "evR") (ed_nought hN).r EqD.frac)) ?_ ?_
    · intro hb
      have hb' : row.getD i 0 ≠ 0 := by simpa using hb
      have e : otnL row = some i := by
        unfold otnL
        rw [List.find?_range_eq_some]
        exact ⟨decide_eq_true hb', by simpa using hi, fun j hj => by simpa using hI j hj⟩
      rw [e] at k
      walk_at "ret"
    · intro hb
      have hb' : row.getD i 0 = 0 := by simpa using hb
      exact at_gx ⟨fun j hj => by
        by_cases z : j = i
        · rw [z]; exact hb'
        · exact hI j (by omega), _, rfl⟩
  · rintro ρ' ⟨hI, c, rfl⟩
    have e : otnL row = none := by
      unfold otnL
      rw [List.find?_eq_none]
      intro j hj
      simpa using hI j (List.mem_range.mp hj)
    rw [e] at k
    walk_at "ret"
theorem otn_eq {m : Nat} {R : Nat → Rat} : otnL ((List.range m).map R) = otnF m R := by
  unfold otnL otnF
  rw [List.length_map, List.length_range]
  exact find_congr fun c hc => by rw [getD_rng (List.mem_range.mp hc)]
theorem cut_row {m k : Nat} {R : Nat → Rat} (h : m ≤ k) : cutD (dFs ((List.range (k + 1)).map R)) none (some (m : Int)) = dFs ((List.range m).map R) := by
  unfold cutD
  have l : (dFs ((List.range (k + 1)).map R)).length = k + 1 := by simp
  have e1 : HT.sIx (dFs ((List.range (k + 1)).map R)).length 0 none = 0 := by rw [l]; rfl
  have e2 : HT.sIx (dFs ((List.range (k + 1)).map R)).length (dFs ((List.range (k + 1)).map R)).length (some (m : Int)) = m := by
    rw [l, HT.sIx_nat]; omega
  rw [e1, e2]
  unfold dFs
  rw [List.drop_zero, Nat.sub_zero, ← List.map_take, ← List.map_take, List.take_range, Nat.min_eq_left (by omega)]
theorem p_Board_clear_helps (T : BoT K B) : Body (t_Board_clear_helps K C B) n_Board_clear_helps (sp_Board_clear_helps K C B) := by
  rintro vs H Q E ⟨Hf, Hb, a, dx, ws, l, fs, vs', ds, fs', rfl, F, hx, hfs, rr, ⟨m, n, s, cost, OI, hn, hm, hO, hv, h01, h0, rfl, rfl, rfl⟩, k⟩
  refine startMu (n := 2) F hx hfs rr (by simp [rr.length]) ?_
  obtain ⟨cl, nR, nB, nW, nH, nA⟩ := T
  simp only [List.map, uns, List.cons_append, List.nil_append]
  unfold t_Board_clear_helps
  have sz : ∀ s : BSt, BV n (m + n) OI s → SzB n (m + n) s.R := fun s hv i hi c hc => entry_sz hn hO hv.bas hv.det hc hi
  have az : ∀ s : BSt, BV n (m + n) OI s → ∀ c, c ≤ m + n → Sz 300 (aimF n cost s.h s.R c) := fun s hv c hc => (aim_sz hn h01 (sz s hv) n (Nat.le_refl _) c hc).mono (by decide)
  refine at_forN (n := n) (by walk_at "evA") (by omega) (fun i ρ' => i ≤ n ∧ ∃ c1 c2, ρ' = [.ob a B (bF .f m n (rowsL n (m + n) (clrF m s i).R) (heldL n (clrF m s i).h) (aimLL n (m + n) cost (clrF m s i))), c1, c2]) ⟨Nat.zero_le _, _, _, rfl⟩ (by rintro i ρ' ⟨_, _, _, rfl⟩; simp) ?_ ?_
  · rintro r ρ' hr ⟨_, c1, c2, rfl⟩
    dsimp only [List.set]
    obtain ⟨b, z⟩ := clr_inv hn (by omega) hv h0 r (by omega)
    have e1 : clrF m s (r + 1) = clrStep m (clrF m s r) r := rfl
    obtain ⟨b2, _⟩ := clr_step hn (by omega) b hr z
    generalize clrF m s r = sj at *
    have a1 : atI (dN (heldL n sj.h)) (r : Int) = some (.int (sj.h r : Int)) := atI_rng hr
    have a2 := atI_rows' (mk := .f) (k := m + n) (R := sj.R) hr
    refine at_when (b := decide ((m : Int) ≤ (sj.h r : Int))) (by walk_at "evB") (fun hb => ?_) (fun hb => ?_)
    · have hb' : m ≤ sj.h r := by simpa using hb
      have el : EvL K C (tSl (rSlL K) (xIdx K (tFld K (tVar 0) "rows") (tVar 1)) tNoPart (tPart (tFld K (tVar 0) "ropes"))) [.ob a B (bF .f m n (rowsL n (m + n) sj.R) (heldL n sj.h) (aimLL n (m + n) cost sj)), .dat (.int r), c2] (dFs ((List.range m).map (sj.R r))) :=
        EvL.to (el_slice (by walk_at "evS") eo_none (eo_some (by walk_at "evR"))) (cut_row (by omega))
      cases e : otnF m (sj.R r) with
      | none =>
        have e2 : clrStep m sj r = sj := by unfold clrStep; rw [if_pos hb', e]
        refine sq_asg (d := .non) (ev_call (ea_cons el.s.r ea_nil) (by walk_at "era") ⟨(List.range m).map (sj.R r), by simp; omega, rfl, by rw [otn_eq, e]⟩ rfl) (by simp) ?_
        dsimp only [List.set]
        refine at_when (b := false) (eb_val (ed_notN (by walk_at "evR") fun Hf H v r => by rw [show v = .non from r]; rfl)) (fun z => nomatch z) (fun _ => ?_)
        exact at_gx ⟨by omega, _, _, by rw [e1, e2]⟩
      | some c =>
        have e2 : clrStep m sj r = turnF sj r c := by unfold clrStep; rw [if_pos hb', e]
        obtain ⟨hc, hp⟩ := otnF_some e
        refine sq_asg (d := .int (c : Int)) (ev_call (ea_cons el.s.r ea_nil) (by walk_at "era") ⟨(List.range m).map (sj.R r), by simp; omega, rfl, by rw [otn_eq, e]⟩ rfl) (by simp) ?_
        dsimp only [List.set]
        refine at_when (b := true) (eb_val (ed_notN (d := .int (c : Int)) (by walk_at "evR") fun Hf H v r => by rw [show v = .int (c : Int) from r]; rfl)) (fun _ => ?_) (fun z => nomatch z)
        rw [e2] at b2
        refine at_methMu rfl (nm_bF (by decide +kernel)) fr_bF (eq_cons (by walk_at "evD") (eq_cons (by walk_at "evD") eq_nil)) (by walk_at "era")
          (fs' := bF .f m n (rowsL n (m + n) (turnF sj r c).R) (heldL n (turnF sj r c).h) (aimLL n (m + n) cost (turnF sj r c)))
          ⟨m, n, sj, some cost, r, c, hn, hm, sz sj b, sz _ b2, (fun cost' hcost => by cases hcost; exact az sj b), hr, by omega, hp, rfl, rfl, rfl⟩ fr_bF ?_
        dsimp only [List.set]
        exact at_gx ⟨by omega, _, _, by rw [e1, e2]⟩
    · have hb' : ¬ m ≤ sj.h r := by simpa using hb
      have e2 : clrStep m sj r = sj := by unfold clrStep; rw [if_neg hb']
      exact at_gx ⟨by omega, _, _, by rw [e1, e2]⟩
  · rintro ρ' ⟨_, c1, c2, rfl⟩
    exact at_endMu rfl k
theorem p_Hoist_see_rope (T : HoT K C) : Body (t_Hoist_see_rope K C) n_Hoist_see_rope (sp_Hoist_see_rope K C) := by
  rintro vs H Q E ⟨ds, d, r, ⟨ws, tb, x, hx, rfl, rfl⟩, k⟩
  refine start_at r (n := 0) (by rw [r.length]; rfl) ?_
  unfold t_Hoist_see_rope
  have e1 : EvD K C (xLen K (tFld K (tVar 0) "table")) [.dat (.ho .x ws tb), .dat (.int x)] (.int tb.length) := EvD.to (ed_lenS (EvD.s (ed_table T (by walk_at "evD")))) (by simp [dRows])
  refine at_when (b := false) (EvB.to (eb_not (eb_val (ed_leLt ed_int.r (n := (x : Int)) (by walk_at "evR") e1.r))) ?_) (fun z => nomatch z) (fun _ => at_end k)
  have h1 : decide ((0 : Int) ≤ (x : Int)) = true := decide_eq_true (by omega)
  have h2 : decide ((x : Int) < (tb.length : Int)) = true := decide_eq_true (by omega)
  rw [h1, h2]; rfl
def t_least_tail (K : PySem.W.Frag) (C B pNOUGHT : Addr) : TS := (tSeq (tDrop (tMeth B "clear_helps" (sp_Board_clear_helps K C B) [] E0 (tVar 2) tNil)) (tSeq (tDrop (tMeth B "price" (sp_Board_price K C B) [] E0 (tVar 2) (tCons (xCat (tLc (iRng1 (tCons (tFld K (tVar 2) "ropes") tNil)) (gName 3) tYes (tTup (tCons (xInt (xEq K (tVar 3) (tVar 1))) (tCons (tC (.int 1)) tNil))) [3]) (tLc (iRng1 (tCons (tFld K (tVar 2) "bodies") tNil)) (gName 4) tYes (tC (.ref pNOUGHT)) [4])) tNil))) (tSeq (tDrop (tMeth B "go" (sp_Board_go K C B) [] E0 (tVar 2) tNil)) (tRet (tTup (tCons (tMeth B "pulls" (sp_Board_pulls K C B) [] E0 (tVar 2) tNil) (tCons (tCall (sp_turned_about K C) [] E0 (tCons (tMeth B "worths" (sp_Board_worths K C B) [] E0 (tVar 2) (tCons (tC (.ref pNOUGHT)) tNil)) tNil)) tNil)))))))
theorem cost2_list {m n rope c : Nat} (hr : rope < m) : costF ((List.range m).map (fun r => if r = rope then (1 : Rat) else 0) ++ (List.range n).map fun _ => (0 : Rat)) c = cost2 rope c := by
  unfold costF cost2
  by_cases h : c < m
  · rw [List.getD_eq_getElem?_getD, List.getElem?_append_left (by simpa using h), List.getElem?_map, List.getElem?_range h]; rfl
  · rw [if_neg (by omega), List.getD_eq_getElem?_getD, List.getElem?_append_right (by simp; omega)]
    by_cases h2 : c < m + n
    · rw [List.getElem?_map, List.getElem?_range (by simp; omega)]; rfl
    · rw [List.getElem?_eq_none (by simp; omega)]; rfl
theorem least_tail (T : BoT K B) (hN : IsN K pN) {ws : List Int} {tb : List (List Int)} {rope : Nat} (ho : HoOk ws tb) (hs : ¬ sinksP ws tb) (hr : rope < tb.length) {Hf H0 : Hp} {D0 : Ends} {a : Addr} (hf : ∀ a, Hf a = H0 a) (k : RetT K C Hf (leastFs ws tb rope) D0.rt) :
    At K C Hf H0 (t_least_tail K C B pN D0) [.dat (.ho .x ws tb), .dat (.int rope), .ob a B (bF .f tb.length ws.length (rowsL ws.length (tb.length + ws.length) (fstB ws tb).R) (heldL ws.length (fstB ws tb).h) (aimLL ws.length (tb.length + ws.length) (cost1 tb.length ws.length) (fstB ws tb))), .un, .un] := by
  obtain ⟨cl, nR, nB, nW, nH, nA⟩ := T
  have r5 := ho.r5
  have w4 := ho.w4
  have hO' := OIh_le ho
  obtain ⟨hv1, _⟩ := fst_ok ho
  obtain ⟨hv2, z2⟩ := clr_bv ho hs
  obtain ⟨hv3, _, z3⟩ := snd_bv (rope := rope) ho hs
  unfold t_least_tail
  refine sq_methMu rfl (nm_bF (by decide +kernel)) fr_bF eq_nil (by walk_at "era") ⟨tb.length, ws.length, fstB ws tb, cost1 tb.length ws.length, OIh ws tb, w4, r5, hO', hv1, cost1_01 _ _, still_zero ho hs, rfl, rfl, rfl⟩ fr_bF ?_
  dsimp only [List.set]
  show At K C Hf H0 _ [.dat (.ho .x ws tb), .dat (.int rope), .ob a B (bF .f tb.length ws.length (rowsL ws.length (tb.length + ws.length) (clrB ws tb).R) (heldL ws.length (clrB ws tb).h) (aimLL ws.length (tb.length + ws.length) (cost1 tb.length ws.length) (clrB ws tb))), .un, .un]
  have e1 : EvD K C (xCat (tLc (iRng1 (tCons (tFld K (tVar 2) "ropes") tNil)) (gName 3) tYes (tTup (tCons (xInt (xEq K (tVar 3) (tVar 1))) (tCons (tC (.int 1)) tNil))) [3]) (tLc (iRng1 (tCons (tFld K (tVar 2) "bodies") tNil)) (gName 4) tYes (tC (.ref pN)) [4]))
      [.dat (.ho .x ws tb), .dat (.int rope), .ob a B (bF .f tb.length ws.length (rowsL ws.length (tb.length + ws.length) (clrB ws tb).R) (heldL ws.length (clrB ws tb).h) (aimLL ws.length (tb.length + ws.length) (cost1 tb.length ws.length) (clrB ws tb))), .un, .un]
      (.lst .f (dFs ((List.range tb.length).map (fun r => if r = rope then (1 : Rat) else 0) ++ (List.range ws.length).map fun _ => (0 : Rat)))) := by
    refine EvL.dat (EvL.to (el_cat (el_lcN (n := tb.length) (g := fun r => dF (if r = rope then (1 : Rat) else 0)) (ea_cons (ed_fldA rfl lk_ropes cl nR).r ea_nil) (by omega) (by simp) fun r hr => ?_).s (el_lcN (n := ws.length) (g := fun r => dF 0) (ea_cons (ed_fldA rfl lk_bodies cl nB).r ea_nil) (by omega) (by simp) fun r _ => ed_nought hN).s (by simp; omega)) (by rw [dFs, List.map_append, List.map_map, List.map_map]; rfl))
    dsimp only [List.set]
    refine EvD.to (d := .tup [.int (if decide ((r : Int) = (rope : Int)) then 1 else 0), .int 1]) (by walk_at "evD") ?_
    by_cases q : r = rope
    · rw [if_pos q, q]
      simp only [decide_true, if_true]; rfl
    · rw [if_neg q, decide_eq_false (by omega)]; rfl
  refine sq_methMu rfl (nm_bF (by decide +kernel)) fr_bF (eq_cons e1 eq_nil) (by walk_at "era")
    ⟨tb.length, ws.length, clrB ws tb, _, _, w4, r5, bv_sz ho hv2, hv2.bas.hb, by simp, by
      intro q hq
      rcases List.mem_append.mp hq with h | h
      · obtain ⟨x, _, rfl⟩ := List.mem_map.mp h
        by_cases q : x = rope
        · rw [if_pos q]; exact .inr rfl
        · rw [if_neg q]; exact .inl rfl
      · obtain ⟨_, _, rfl⟩ := List.mem_map.mp h; exact .inl rfl, rfl, rfl, rfl⟩ fr_bF ?_
  dsimp only [List.set]
  rw [show costF ((List.range tb.length).map (fun r => if r = rope then (1 : Rat) else 0) ++ (List.range ws.length).map fun _ => (0 : Rat)) = cost2 rope from funext fun c => cost2_list hr]
  refine sq_methMu rfl (nm_bF (by decide +kernel)) fr_bF eq_nil (by walk_at "era") ⟨tb.length, ws.length, clrB ws tb, cost2 rope, OIh ws tb, w4, r5, hO', hv2, cost2_01 _, rfl, rfl, rfl⟩ fr_bF ?_
  dsimp only [List.set]
  show At K C Hf H0 _ [.dat (.ho .x ws tb), .dat (.int rope), .ob a B (bF .f tb.length ws.length (rowsL ws.length (tb.length + ws.length) (sndB ws tb rope).R) (heldL ws.length (sndB ws tb rope).h) (aimLL ws.length (tb.length + ws.length) (cost2 rope) (sndB ws tb rope))), .un, .un]
  have az := bv_az ho (cost2_01 rope) hv3
  have ew : EvL K C (tMeth B "worths" (sp_Board_worths K C B) [] E0 (tVar 2) (tCons (tC (.ref pN)) tNil)) [.dat (.ho .x ws tb), .dat (.int rope), .ob a B (bF .f tb.length ws.length (rowsL ws.length (tb.length + ws.length) (sndB ws tb rope).R) (heldL ws.length (sndB ws tb rope).h) (aimLL ws.length (tb.length + ws.length) (cost2 rope) (sndB ws tb rope))), .un, .un] (dFs ((List.range ws.length).map fun b => 0 - aimF ws.length (cost2 rope) (sndB ws tb rope).h (sndB ws tb rope).R (tb.length + b))) :=
    el_methRd rfl (nm_bF (by decide +kernel)) (ea_cons (ed_nought hN).r ea_nil) (by walk_at "era") (by rw [era_bF]; exact ⟨_, _, sndB ws tb rope, _, 0, w4, r5, az, sz0 (by decide), rfl, rfl, rfl⟩) (by walk_at "frs")
  have sw : SzL 3000 ((List.range ws.length).map fun b => 0 - aimF ws.length (cost2 rope) (sndB ws tb rope).h (sndB ws tb rope).R (tb.length + b)) := szL_rng fun b hb => ((sz0 (n := 1) (by decide)).sub (az _ (by omega))).mono (by decide)
  refine at_retT hf (em_own (xs := dFs (leastP ws tb rope)) (el_methRd rfl (nm_bF (by decide +kernel)) ea_nil (by walk_at "era") (by rw [era_bF]; exact ⟨_, _, sndB ws tb rope, _, OIh ws tb, w4, r5, hv3, rfl, rfl, rfl⟩) (by walk_at "frs")) (em_own (xs := dFs (leastM ws tb rope)) (EvL.to (ev_callL (ea_cons ew.s.r ea_nil) (by walk_at "era") (rc_turned sw (by simp; omega)) (by walk_at "frs")) (by rw [List.map_map]; rfl)) em_nil)) (by simp) k
/-- what the search ends with, looked at -/
theorem ed_aimlast (T : BoT K B) {ws : List Int} {tb : List (List Int)} {ρ : List Cell} {a : Addr} {i : Nat} (h : ρ[i]? = some (.ob a B (bF .f tb.length ws.length (rowsL ws.length (tb.length + ws.length) (fstB ws tb).R) (heldL ws.length (fstB ws tb).h) (aimLL ws.length (tb.length + ws.length) (cost1 tb.length ws.length) (fstB ws tb))))) :
    EvD K C (xIdx K (tFld K (tVar i) "aim") (xNeg (tC (.int 1)))) ρ (dF (aimF ws.length (cost1 tb.length ws.length) (fstB ws tb).h (fstB ws tb).R (tb.length + ws.length))) :=
  ed_idxS (ed_fldA h lk_aim T.cl T.nA).s (ed_neg ed_int.r).r atI_last
theorem p_least_pull (T : BoT K B) (hN : IsN K pN) (hO : IsO K pO) (TH : HoT K C) : Body (t_least_pull K C B pN) n_least_pull (sp_least_pull K C) := by
  rintro vs H Q E ⟨ds, fs', r, ⟨ws, tb, rope, ho, hs, hr, rfl, rfl⟩, k⟩
  refine start_at r (n := 3) (by rw [r.length]; rfl) ?_
  have r5 := ho.r5
  have w4 := ho.w4
  simp only [List.map, uns, List.cons_append, List.nil_append]
  unfold t_least_pull
  refine sq_drop (d := .non) (EvD.r (ed_meth (by walk_at "evD") (by walk_at "evA") (by walk_at "era") ⟨ws, tb, rope, hr, rfl, rfl⟩ rfl (by decide +kernel) (by decide +kernel))) ?_
  refine sq_callO (by simp) (ea_cons (by walk_at "evR") ea_nil) (by walk_at "era") ⟨ws, tb, ho, rfl, rfl⟩ fr_bF fun a => ?_
  dsimp only [List.set]
  refine sq_when (b := false) (EvB.to (eb_val (ed_ne (ed_aimlast T rfl).r (ed_nought hN).r EqD.frac)) ?_) (fun z => nomatch z) fun _ => ?_
  · have hs' : aimF ws.length (cost1 tb.length ws.length) (fstB ws tb).h (fstB ws tb).R (tb.length + ws.length) = 0 := Classical.not_not.mp hs
    rw [hs']; rfl
  exact least_tail T hN ho hs hr (fun _ => rfl) k
end
end Hw
namespace Hw
open PySem L2
theorem ErrC.of {K : PySem.W.Frag} {mg : Str → Option Value} {x : Str} {C : Addr} {h : Heap} (_ : K.In h) (g : mg x = some (.ref C))
    (f1 : PySem.W.excIn K C [.type "ValueError", .type "Exception", .type "BaseException", .type "object"] "ValueError.__new__" = true) (f2 : PySem.W.keepIn K (.ref C) = true) (f3 : PySem.W.subIn K (.ref C) (.type "BaseException") = some true) (f4 : PySem.W.subIn K (.ref C) (.type "ValueError") = some true)
    (f5 : PySem.W.subIn K (.ref C) (.ref C) = some true) (f6 : PySem.W.typeIn K (.ref C) = some (.type "type")) (f7 : PySem.W.hasDictIn K C = true) (f8 : PySem.W.isClsIn K C = true) (f9 : PySem.W.findIn K (.ref C) "__getattribute__" = some (some (.builtin "BaseException.__getattribute__")))
    (f10 : PySem.W.findIn K (.ref C) "__getattr__" = some none) (f11 : PySem.W.findIn K (.ref C) "__class__" = some (some (.builtin "object.__class__"))) (f12 : PySem.W.specialIn K (.builtin "object.__class__") "__get__" = some (some (.builtin "getset_descriptor.__get__")))
    (f13 : PySem.W.takesIn K (.builtin "object.__class__") = some true) (f14 : PySem.W.mroIn K C (.type "object") = some true) : ErrC K mg x C := ⟨g, f1, f2, f3, f4, f5, f6, f7, f8, f9, f10, f11, f12, f13, f14⟩
theorem subOf {K : PySem.W.Frag} {mg : Str → Option Value} {x y : Str} {C D : Addr} {h : Heap} {b : Bool} (_ : K.In h) (_ : mg x = some (.ref D)) (_ : mg y = some (.ref C)) (s : PySem.W.subIn K (.ref D) (.ref C) = some b) : PySem.W.subIn K (.ref D) (.ref C) = some b := s
/-- what an error of the class D is: cH catches it; of which classes it is -/
structure Raised (K : PySem.W.Frag) (cH cN cR cB cS cT cX D : Addr) (bN bR bB bS bT bX : Bool) : Prop where
  exm : PySem.W.exmOne K (.ref D) (.ref cH) = some true
  exc : ExcC K D
  kV : PySem.W.kitOne K (.ref D) (.type "ValueError") = some true
  kN : PySem.W.kitOne K (.ref D) (.ref cN) = some bN
  kR : PySem.W.kitOne K (.ref D) (.ref cR) = some bR
  kB : PySem.W.kitOne K (.ref D) (.ref cB) = some bB
  kS : PySem.W.kitOne K (.ref D) (.ref cS) = some bS
  kT : PySem.W.kitOne K (.ref D) (.ref cT) = some bT
  kX : PySem.W.kitOne K (.ref D) (.ref cX) = some bX
theorem Raised.of {K : PySem.W.Frag} {mg : Str → Option Value} {x y : Str} {cH cN cR cB cS cT cX D : Addr} {bN bR bB bS bT bX : Bool} (eH : ErrC K mg x cH) (eD : ErrC K mg y D) (s : PySem.W.subIn K (.ref D) (.ref cH) = some true)
    (kN : PySem.W.kitOne K (.ref D) (.ref cN) = some bN) (kR : PySem.W.kitOne K (.ref D) (.ref cR) = some bR) (kB : PySem.W.kitOne K (.ref D) (.ref cB) = some bB) (kS : PySem.W.kitOne K (.ref D) (.ref cS) = some bS) (kT : PySem.W.kitOne K (.ref D) (.ref cT) = some bT) (kX : PySem.W.kitOne K (.ref D) (.ref cX) = some bX) :
    Raised K cH cN cR cB cS cT cX D bN bR bB bS bT bX := ⟨eH.exm eD s, eD.exc, eD.kitV, kN, kR, kB, kS, kT, kX⟩
structure RaisedQ (K : PySem.W.Frag) (cH D : Addr) : Prop where
  exm : PySem.W.exmOne K (.ref D) (.ref cH) = some true
  exc : ExcC K D
  kD : PySem.W.kitOne K (.ref D) (.ref D) = some true
theorem RaisedQ.of {K : PySem.W.Frag} {mg : Str → Option Value} {x y : Str} {cH D : Addr} (eH : ErrC K mg x cH) (eD : ErrC K mg y D) (s : PySem.W.subIn K (.ref D) (.ref cH) = some true) : RaisedQ K cH D := ⟨eH.exm eD s, eD.exc, eD.kitT⟩
theorem lenE {K : PySem.W.Frag} {C : Addr} {sp : Sp} {RX : List D → Addr → Prop} {n : Nat} (h1 : ∀ vs H Q E, sp vs H Q E → vs.length = n) (h2 : ∀ ds c, RX ds c → ds.length = n) : ∀ vs H Q E, spE K C sp RX vs H Q E → vs.length = n := fun vs H Q E h => by
  rcases h with h | ⟨ds, c, r, q, _⟩
  · exact h1 _ _ _ _ h
  · rw [r.length, h2 _ _ q]
theorem lenEM {K : PySem.W.Frag} {C : Addr} {sp : Sp} {RX : List D → Addr → Prop} {n : Nat} (h1 : ∀ vs H Q E, sp vs H Q E → vs.length = n + 1) (h2 : ∀ ds c, RX ds c → ds.length = n) : ∀ vs H Q E, spEM K C sp RX vs H Q E → vs.length = n + 1 := fun vs H Q E h => by
  rcases h with h | ⟨x, dx, vs', ds, c, e, _, r, q, _⟩
  · exact h1 _ _ _ _ h
  · rw [e, List.length_cons, r.length, h2 _ _ q]
theorem lenN {K : PySem.W.Frag} {C : Addr} {R : List D → List (Str × Fld) → List D → Prop} {n : Nat} (hR : ∀ ds fs ks, R ds fs ks → ds.length = n) : ∀ vs H Q E, spN K C R vs H Q E → vs.length = n := fun vs H Q E ⟨ds, fs', ks, r, q, _⟩ => by rw [r.length, hR _ _ _ q]
def spOr (sp sp' : Sp) : Sp := fun vs H Q E => sp vs H Q E ∨ sp' vs H Q E
theorem lenTN {sp sp' : Sp} {n : Nat} (h1 : ∀ vs H Q E, sp vs H Q E → vs.length = n) (h2 : ∀ vs H Q E, sp' vs H Q E → vs.length = n) : ∀ vs H Q E, spOr sp sp' vs H Q E → vs.length = n := fun vs H Q E h => h.elim (h1 _ _ _ _) (h2 _ _ _ _)
theorem or1 {sp sp' : Sp} : ∀ vs H Q E, sp vs H Q E → spOr sp sp' vs H Q E := fun _ _ _ _ h => .inl h
theorem or2 {sp sp' : Sp} : ∀ vs H Q E, sp' vs H Q E → spOr sp sp' vs H Q E := fun _ _ _ _ h => .inr h
end Hw
namespace Hw
open PySem L2
/-! k08 -/
def RX_sinks (cS : Addr) (ds : List D) (c : Addr) : Prop := ∃ (ws : List Int) (tb : List (List Int)) (rope : Nat), HoOk ws tb ∧ sinksP ws tb ∧ rope < tb.length ∧ c = cS ∧ ds = [.ho .x ws tb, .int rope]
def R_tried8a (ds : List D) (fs : List (Str × Fld)) : Prop := ∃ (ws : List Int) (tb : List (List Int)) (rope : Nat), HoOk ws tb ∧ sinksP ws tb ∧ rope < tb.length ∧ ds = [.ho .x ws tb, .int rope] ∧ fs = [(("" : Str), .dat .non), (("" : Str), .own [.bl true, .bl false, .bl false, .bl false, .bl false, .bl false, .bl true])]
def R_tried8b (ds : List D) (fs : List (Str × Fld)) (ks : List D) : Prop := ∃ (ws : List Int) (tb : List (List Int)) (rope : Nat), HoOk ws tb ∧ ¬ sinksP ws tb ∧ rope < tb.length ∧ ds = [.ho .x ws tb, .int rope] ∧ fs = leastFs ws tb rope ∧ ks = []
def R_shown8 (ds : List D) (d : D) : Prop := ∃ (ws : List Int) (tb : List (List Int)) (rope : Nat) (ps ms : List Rat), HoOk ws tb ∧ rope < tb.length ∧ ps.length = tb.length ∧ SzL 100 ps ∧ holdsB ws tb ps = true ∧ ms.length = ws.length ∧ SzL 500 ms ∧ (∀ r, r < tb.length → - cost2 rope r ≤ spareOf (tb.getD r []) ms) ∧
  spareOf ws ms = - ps.getD rope 0 ∧ ds = [.lst .x (dI ws), .lst .x (dRows .x tb), .int rope, .tup [.lst .x (dFs ps), .lst .x (dFs ms)]] ∧ d = .bl true
section
variable (K : PySem.W.Frag) (C : Addr) (cSinks : Addr)
abbrev sp_least_pull_k08 : Sp := spE K C (spT K C R_least) (RX_sinks cSinks)
abbrev sp_law_tried_k08 : Sp := spOr (spT K C R_tried8a) (spN K C R_tried8b)
abbrev sp_law_shown_k08 : Sp := spD K C R_shown8
end
end Hw
namespace Hw
open PySem L2
/-- least_pull: hoist rope board r body -/
def t_least_pull_k08 (K : PySem.W.Frag) (C : Addr) (B : Addr) (pNOUGHT : Addr) (cSinks : Addr) (E : XK) : TS := (tSeq (tDrop (tMeth C "see_rope" (sp_Hoist_see_rope K C) [] E0 (tVar 0) (tCons (tVar 1) tNil))) (tSeq (tAsg (tCall (sp_first_board K C B) [] E0 (tCons (tVar 0) tNil)) (gName 2)) (tSeq (tIfS (tB (xNe K (xIdx K (tFld K (tVar 2) "aim") (xNeg (tC (.int 1)))) (tC (.ref pNOUGHT)))) (tRaise E cSinks) tNext) (tSeq (tDrop (tMeth B "clear_helps" (sp_Board_clear_helps K C B) [] E0 (tVar 2) tNil)) (tSeq (tDrop (tMeth B "price" (sp_Board_price K C B) [] E0 (tVar 2) (tCons (xCat (tLc (iRng1 (tCons (tFld K (tVar 2) "ropes") tNil)) (gName 3) tYes (tTup (tCons (xInt (xEq K (tVar 3) (tVar 1))) (tCons (tC (.int 1)) tNil))) [3]) (tLc (iRng1 (tCons (tFld K (tVar 2) "bodies") tNil)) (gName 4) tYes (tC (.ref pNOUGHT)) [4])) tNil))) (tSeq (tDrop (tMeth B "go" (sp_Board_go K C B) [] E0 (tVar 2) tNil)) (tRet (tTup (tCons (tMeth B "pulls" (sp_Board_pulls K C B) [] E0 (tVar 2) tNil) (tCons (tCall (sp_turned_about K C) [] E0 (tCons (tMeth B "worths" (sp_Board_worths K C B) [] E0 (tVar 2) (tCons (tC (.ref pNOUGHT)) tNil)) tNil)) tNil))))))))))
abbrev n_least_pull_k08 : List Str := ["hoist", "rope", "board", "r", "body"]
/-- _law_tried: hoist rope found kinds e -/
def t_law_tried_k08 (K : PySem.W.Frag) (C : Addr) (cHoistError : Addr) (cNoHoist : Addr) (cNoRope : Addr) (cNoBody : Addr) (cSinks : Addr) (cTooMany : Addr) (cBadText : Addr) : TS := (tSeq (tAsg (tC .non) (gName 2)) (tSeq (tAsg (tLst tNil) (gName 3)) (tSeq (tTryAs K cHoistError 4 (fun W => (tAsg (tS (fun e0 => tCall (sp_least_pull_k08 K C cSinks) [] e0 (tCons (tVar 0) (tCons (tVar 1) tNil))) W) (gName 2))) (tExc K fun D a => (tSeq (tAsg (tLst (tCons (x_isE K D a (tVar 4) (tC (.ref cSinks))) (tCons (x_isE K D a (tVar 4) (tC (.ref cNoRope))) (tCons (x_isE K D a (tVar 4) (tC (.ref cNoBody))) (tCons (x_isE K D a (tVar 4) (tC (.ref cNoHoist))) tNil))))) (gName 3)) (tAsg (xCat (tVar 3) (tLst (tCons (x_isE K D a (tVar 4) (tC (.ref cTooMany))) (tCons (x_isE K D a (tVar 4) (tC (.ref cBadText))) (tCons (x_isE K D a (tVar 4) (tC (.ty "ValueError"))) tNil))))) (gName 3))))) (tRet (tTup (tCons (tVar 2) (tCons (tVar 3) tNil)))))))
abbrev n_law_tried_k08 : List Str := ["hoist", "rope", "found", "kinds", "e"]
/-- _law_shown: weights table rope found r part least -/
def t_law_shown_k08 (K : PySem.W.Frag) (C : Addr) : TS := (tSeq (tIfS (tOr (tNot (tB (xIsi K "tuple" (tVar 3)))) (tOr (tB (xNe K (xLen K (tVar 3)) (tC (.int 2)))) (tNot (tB (tCall (sp_law_parts K C) [] E0 (tCons (xIdx K (tVar 3) (tC (.int 0))) (tCons (xLen K (tVar 1)) tNil))))))) (tRet (tC (.bl false))) tNext) (tSeq (tIfS (tOr (tNot (tB (tCall (sp_law_held K C) [] E0 (tCons (tVar 0) (tCons (tVar 1) (tCons (xIdx K (tVar 3) (tC (.int 0))) tNil)))))) (tNot (tB (tCall (sp_law_parts K C) [] E0 (tCons (xIdx K (tVar 3) (tC (.int 1))) (tCons (xLen K (tVar 0)) tNil)))))) (tRet (tC (.bl false))) tNext) (tSeq (tFor (iRng1 (tCons (xLen K (tVar 1)) tNil)) (gName 4) (tSeq (tAsg (tCall (sp_law_spare K C) [] E0 (tCons (xIdx K (tVar 1) (tVar 4)) (tCons (xIdx K (tVar 3) (tC (.int 1))) tNil))) (gName 5)) (tIfS (tB (xLt (xAdd (xIdx K (tVar 5) (tC (.int 0))) (xMul (xIdx K (tVar 5) (tC (.int 1))) (xInt (xEq K (tVar 4) (tVar 2))))) (tC (.int 0)))) (tRet (tC (.bl false))) tNext))) (tSeq (tAsg (xIdx K (xIdx K (tVar 3) (tC (.int 0))) (tVar 2)) (gName 6)) (tRet (xEq K (tCall (sp_law_spare K C) [] E0 (tCons (tVar 0) (tCons (xIdx K (tVar 3) (tC (.int 1))) tNil))) (tTup (tCons (xSub (tC (.int 0)) (xIdx K (tVar 6) (tC (.int 0)))) (tCons (xIdx K (tVar 6) (tC (.int 1))) tNil)))))))))
abbrev n_law_shown_k08 : List Str := ["weights", "table", "rope", "found", "r", "part", "least"]
/-- law: script drawn weights table hoist rope tried kept again -/
def t_law_k08 (K : PySem.W.Frag) (C : Addr) (cSinks : Addr) : TS := (tSeq (tAsg (tCall (sp_law_drawn K C) [] E0 (tCons (tVar 0) tNil)) (gName 1)) (tSeq (tAsg (xIdx K (tVar 1) (tC (.int 0))) (gName 2)) (tSeq (tAsg (xIdx K (tVar 1) (tC (.int 1))) (gName 3)) (tSeq (tIfS (tB (xEq K (tVar 3) (tLst tNil))) (tRet (tC (.bl true))) tNext) (tSeq (tAsg (tMake C (sp_Hoist_init K C) [] E0 (tCons (tVar 2) (tCons (tCall (sp_law_ropes K C) [] E0 (tCons (tVar 3) (tCons (tCall (sp_law_cell_at K C) [] E0 (tCons (tVar 0) (tCons (tC (.int 11)) tNil))) tNil))) tNil))) (gName 4)) (tSeq (tAsg (xMod (tCall (sp_law_cell_at K C) [] E0 (tCons (tVar 0) (tCons (tC (.int 12)) tNil))) (xLen K (tVar 3))) (gName 5)) (tSeq (tAsg (tCall (sp_law_tried_k08 K C) [] E0 (tCons (tVar 4) (tCons (tVar 5) tNil))) (gName 6)) (tSeq (tIfS (tB (xEq K (xIdx K (tCall (sp_judged K C) [] E0 (tCons (tVar 4) tNil)) (tC (.int 0))) (tC (.str "sinks")))) (tRet (xEq K (tVar 6) (tTup (tCons (tC .non) (tCons (tLst (tCons (tC (.bl true)) (tCons (tC (.bl false)) (tCons (tC (.bl false)) (tCons (tC (.bl false)) (tCons (tC (.bl false)) (tCons (tC (.bl false)) (tCons (tC (.bl true)) tNil)))))))) tNil))))) tNext) (tSeq (tIfS (tOr (tB (xNe K (xIdx K (tVar 6) (tC (.int 1))) (tLst tNil))) (tNot (tB (tCall (sp_law_shown_k08 K C) [] E0 (tCons (tVar 2) (tCons (tVar 3) (tCons (tVar 5) (tCons (xIdx K (tVar 6) (tC (.int 0))) tNil)))))))) (tRet (tC (.bl false))) tNext) (tSeq (tAsg (xIdx K (xIdx K (xIdx K (tVar 6) (tC (.int 0))) (tC (.int 0))) (tVar 5)) (gName 7)) (tSeq (tDrop (tBM0 K "list" rClear (xIdx K (xIdx K (tVar 6) (tC (.int 0))) (tC (.int 0))))) (tSeq (tDrop (tBM0 K "list" rClear (xIdx K (xIdx K (tVar 6) (tC (.int 0))) (tC (.int 1))))) (tSeq (tAsg (tCall (sp_least_pull_k08 K C cSinks) [] E0 (tCons (tVar 4) (tCons (tVar 5) tNil))) (gName 8)) (tRet (tAndV (tCall (sp_law_shown_k08 K C) [] E0 (tCons (tVar 2) (tCons (tVar 3) (tCons (tVar 5) (tCons (tVar 8) tNil))))) (xEq K (xIdx K (xIdx K (tVar 8) (tC (.int 0))) (tVar 5)) (tVar 7)))))))))))))))))
abbrev n_law_k08 : List Str := ["script", "drawn", "weights", "table", "hoist", "rope", "tried", "kept", "again"]
end Hw
namespace Hw
open PySem L2
local macro_rules | `(tactic| walk_at "sd") => `(tactic| first
  | exact rfl
  | decide +kernel
  | (exact Nat.le_of_ble_eq_true rfl)
  | assumption
  | (exact Sz.mono (by assumption) (by decide))
  | decide
  | omega
  | (exact eraAll_map _ _ (fun _ => rfl) _)
  | (exact frAll_map _ (fun _ => rfl) _)
  | exact EqD.frac
  | exact EqD.int
  | exact EqD.bl
  | exact EqD.pair
  | skip)
local macro_rules | `(tactic| walk_at "R") => `(tactic| first
  | (with_reducible apply rc_common) <;> walk_at "sd"
  | (with_reducible apply rc_fraction) <;> walk_at "sd"
  | (with_reducible apply rc_plus) <;> walk_at "sd"
  | (with_reducible apply rc_minus) <;> walk_at "sd"
  | (with_reducible apply rc_times) <;> walk_at "sd"
  | (with_reducible apply rc_over) <;> walk_at "sd"
  | (with_reducible apply rc_less) <;> walk_at "sd"
  | (with_reducible apply rc_cell) <;> walk_at "sd"
  | (with_reducible apply rc_whole) <;> walk_at "sd"
  | (with_reducible apply rc_low) <;> walk_at "sd"
  | (with_reducible apply rc_part) <;> walk_at "sd"
  | (with_reducible apply rc_lfraction) <;> walk_at "sd")
local macro_rules | `(tactic| walk_at "evD") => `(tactic| first
  | with_reducible exact ed_int
  | with_reducible exact ed_bl
  | with_reducible exact ed_non
  | with_reducible exact ed_str
  | (with_reducible apply ed_var) <;> walk_at "go"
  | (with_reducible apply ed_add) <;> walk_at "go"
  | (with_reducible apply ed_sub) <;> walk_at "go"
  | (with_reducible apply ed_mul) <;> walk_at "go"
  | (with_reducible apply ed_div) <;> walk_at "go"
  | (with_reducible apply ed_mod) <;> walk_at "go"
  | (with_reducible apply ed_pow) <;> walk_at "go"
  | (with_reducible apply ed_neg) <;> walk_at "go"
  | (with_reducible apply ed_lt) <;> walk_at "go"
  | (with_reducible apply ed_le) <;> walk_at "go"
  | (with_reducible apply ed_gt) <;> walk_at "go"
  | (with_reducible apply ed_ge) <;> walk_at "go"
  | (with_reducible apply ed_leLt) <;> walk_at "go"
  | (with_reducible apply ed_leLe) <;> walk_at "go"
  | (with_reducible apply ed_ltLt) <;> walk_at "go"
  | (with_reducible apply ed_eq) <;> walk_at "go"
  | (with_reducible apply ed_ne) <;> walk_at "go"
  | (with_reducible apply ed_idxT) <;> walk_at "go"
  | (with_reducible apply ed_idxS) <;> walk_at "go"
  | (with_reducible apply ed_idxScr) <;> walk_at "go"
  | (with_reducible apply ed_lenS) <;> walk_at "go"
  | (with_reducible apply ed_lenT) <;> walk_at "go"
  | (with_reducible apply ed_lenScr) <;> walk_at "go"
  | (with_reducible apply ed_abs) <;> walk_at "go"
  | (with_reducible apply ed_intI) <;> walk_at "go"
  | (with_reducible apply ed_intB) <;> walk_at "go"
  | (with_reducible apply ed_intS) <;> walk_at "go"
  | (with_reducible apply ed_andV) <;> walk_at "go"
  | (with_reducible apply ed_orV) <;> walk_at "go"
  | (with_reducible apply ed_notV) <;> walk_at "go"
  | (with_reducible apply ed_tup) <;> walk_at "go"
  | (with_reducible apply ev_call) <;> walk_at "go"
  | (with_reducible apply ed_isi) <;> walk_at "go"
  | (with_reducible apply ed_catS) <;> walk_at "go"
  | (with_reducible apply ed_repS) <;> walk_at "go"
  | (with_reducible apply EvL.dat) <;> walk_at "go")
local macro_rules | `(tactic| walk_at "evR") => `(tactic| first
  | (with_reducible apply EvD.r) <;> walk_at "go"
  | (with_reducible apply EvS.r) <;> walk_at "go")
local macro_rules | `(tactic| walk_at "evS") => `(tactic| first
  | (with_reducible apply es_own) <;> walk_at "go"
  | (with_reducible apply EvD.s) <;> walk_at "go"
  | (with_reducible apply EvL.s) <;> walk_at "go")
local macro_rules | `(tactic| walk_at "evL") => `(tactic| first
  | (with_reducible apply el_lst) <;> walk_at "go"
  | (with_reducible apply ev_callL) <;> walk_at "go")
local macro_rules | `(tactic| walk_at "evA") => `(tactic| first
  | with_reducible exact ea_nil
  | (with_reducible apply ea_cons) <;> walk_at "go")
local macro_rules | `(tactic| walk_at "evQ") => `(tactic| first
  | with_reducible exact eq_nil
  | (with_reducible apply eq_cons) <;> walk_at "go")
local macro_rules | `(tactic| walk_at "evB") => `(tactic| first
  | (with_reducible apply eb_and) <;> walk_at "go"
  | (with_reducible apply eb_or) <;> walk_at "go"
  | (with_reducible apply eb_not) <;> walk_at "go"
  | (with_reducible apply eb_val) <;> walk_at "go")
local macro_rules | `(tactic| walk_at "era") => `(tactic| first
  | ((simp only [eraAll, D.era, era_dF, era_dP, era_dFs, era_dI, era_dS, era_dPs, era_dRows, era_dRopes]); done)
  | ((simp only [eraAll, D.era, era_dF, era_dP, era_dFs, era_dI, era_dS, era_dPs, era_dRows, era_dRopes]); exact rfl))
local macro_rules | `(tactic| walk_at "frs") => `(tactic| first
  | exact rfl
  | exact fr_dFs _
  | exact fr_dI _
  | exact fr_dS _
  | exact fr_dPs _
  | exact fr_dRows _
  | exact fr_dRopes _
  | (simp only [frAll, D.fr, fr_dFs, fr_dI, fr_dS, fr_dPs, fr_dRows, fr_dRopes, decide_true, Bool.and_true, Bool.true_and]; done))
local macro_rules | `(tactic| walk_at "go") => `(tactic| first
  | ((with_reducible show eraAll _ = _); walk_at "era")
  | ((with_reducible show D.fr _ = true); walk_at "frs")
  | ((with_reducible show frAll _ = true); walk_at "frs")
  | ((with_reducible show _ = some (Cell.dat _)); exact rfl)
  | ((with_reducible show _ = some (Cell.own _)); exact rfl)
  | ((with_reducible show D.tn _ = some _); exact rfl)
  | ((with_reducible show atI _ _ = some _); first | exact rfl | assumption)
  | ((with_reducible show EvD _ _ _ _ _); walk_at "evD")
  | ((with_reducible show EvR _ _ _ _ _); walk_at "evR")
  | ((with_reducible show EvS _ _ _ _ _); walk_at "evS")
  | ((with_reducible show EvL _ _ _ _ _); walk_at "evL")
  | ((with_reducible show EvA _ _ _ _ _); walk_at "evA")
  | ((with_reducible show EvAD _ _ _ _ _); walk_at "evQ")
  | ((with_reducible show EvB _ _ _ _ _); walk_at "evB")
  | ((with_reducible show _ = _ → _); intro hv; walk_at "go")
  | ((fail_if_success (with_reducible show EvD _ _ _ _ _)); (fail_if_success (with_reducible show EvR _ _ _ _ _)); (fail_if_success (with_reducible show EvS _ _ _ _ _)); (fail_if_success (with_reducible show EvL _ _ _ _ _)); (fail_if_success (with_reducible show EvA _ _ _ _ _)); (fail_if_success (with_reducible show EvAD _ _ _ _ _)); (fail_if_success (with_reducible show EvB _ _ _ _ _)); (fail_if_success (with_reducible show _ = some (Cell.dat _))); (fail_if_success (with_reducible show _ = some (Cell.own _))); (fail_if_success (with_reducible show atI _ _ = some _)); (fail_if_success (with_reducible show D.tn _ = some _)); (fail_if_success (with_reducible show eraAll _ = _)); (fail_if_success (with_reducible show D.fr _ = true)); (fail_if_success (with_reducible show frAll _ = true)); first | walk_at "R" | walk_at "sd"))
local macro_rules | `(tactic| walk_at "len") => `(tactic| first
  | exact (by decide)
  | (simp; done)
  | omega)
local macro_rules | `(tactic| walk_at "st") => `(tactic| first
  | ((with_reducible show At _ _ _ _ _ _); try dsimp only [List.set])
  | ((with_reducible show _ = _ → At _ _ _ _ _ _); intro hb)
  | ((with_reducible show _ < _); walk_at "len")
  | walk_at "go")
local macro_rules | `(tactic| walk_at "asg") => `(tactic| first
  | (with_reducible apply sq_asg) <;> walk_at "st"
  | (with_reducible apply at_asg) <;> walk_at "st")
local macro_rules | `(tactic| walk_at "asgL") => `(tactic| first
  | (with_reducible apply sq_asgL) <;> walk_at "st"
  | (with_reducible apply at_asgL) <;> walk_at "st")
local macro_rules | `(tactic| walk_at "app") => `(tactic| first
  | (with_reducible apply sq_append) <;> walk_at "st"
  | (with_reducible apply at_append) <;> walk_at "st")
local macro_rules | `(tactic| walk_at "ret") => `(tactic| first
  | (with_reducible apply at_ret) <;> walk_at "st")
local macro_rules | `(tactic| walk_at "when") => `(tactic| first
  | (with_reducible apply sq_when) <;> walk_at "st"
  | (with_reducible apply at_when) <;> walk_at "st")
local macro_rules | `(tactic| walk_at "if") => `(tactic| first
  | (with_reducible apply sq_if) <;> walk_at "st"
  | (with_reducible apply at_if) <;> walk_at "st")
local macro_rules | `(tactic| walk_at "fd") => `(tactic| first
  | exact rfl
  | assumption)
local macro_rules | `(tactic| walk_at "R") => `(tactic| first
  | (with_reducible apply rc_see_pairs) <;> walk_at "sd"
  | (with_reducible apply rc_hsum) <;> walk_at "sd"
  | (with_reducible apply rc_table) <;> walk_at "sd"
  | (with_reducible apply rc_lropes) <;> walk_at "sd"
  | (with_reducible apply rc_summedp) <;> walk_at "sd"
  | (with_reducible apply rc_lifted) <;> walk_at "sd"
  | (with_reducible apply rc_holds) <;> walk_at "sd"
  | (with_reducible apply rc_spare) <;> walk_at "sd"
  | (with_reducible apply rc_gain) <;> walk_at "sd"
  | (with_reducible apply rc_is_let) <;> walk_at "sd"
  | (with_reducible apply rc_lsum) <;> walk_at "sd"
  | (with_reducible apply rc_lspare) <;> walk_at "sd"
  | (with_reducible apply rc_held) <;> walk_at "sd"
  | (with_reducible apply rc_parts) <;> walk_at "sd"
  | (with_reducible apply rc_drawn) <;> walk_at "sd"
  | (with_reducible apply rc_lrow) <;> walk_at "sd"
  | (with_reducible apply rc_lplus) <;> walk_at "sd"
  | (with_reducible apply rc_times_int) <;> walk_at "sd"
  | (with_reducible apply rc_int_times) <;> walk_at "sd"
  | (with_reducible apply rc_less0) <;> walk_at "sd"
  | (with_reducible apply rc_init) <;> walk_at "sd")
local macro_rules | `(tactic| walk_at "evD") => `(tactic| first
  | (with_reducible apply ed_sum) <;> walk_at "go"
  | (with_reducible apply ed_min) <;> walk_at "go"
  | (with_reducible apply ed_max) <;> walk_at "go"
  | (with_reducible apply ed_heavy) <;> walk_at "go"
  | (with_reducible apply ed_table) <;> walk_at "go"
  | (with_reducible apply ed_make) <;> walk_at "go"
  | (with_reducible apply ed_meth) <;> walk_at "go"
  | (with_reducible apply ed_fldA) <;> walk_at "fd")
local macro_rules | `(tactic| walk_at "evL") => `(tactic| first
  | (with_reducible apply el_list) <;> walk_at "go"
  | (with_reducible apply el_cat) <;> walk_at "go"
  | (with_reducible apply el_rep) <;> walk_at "go"
  | (with_reducible apply el_slice) <;> walk_at "go"
  | (with_reducible apply el_meth) <;> walk_at "go")
local macro_rules | `(tactic| walk_at "evS") => `(tactic| first
  | (with_reducible apply es_fldA) <;> walk_at "fd")
local macro_rules | `(tactic| walk_at "evO") => `(tactic| first
  | with_reducible exact eo_none
  | (with_reducible apply eo_some) <;> walk_at "go")
local macro_rules | `(tactic| walk_at "go") => `(tactic| first
  | ((with_reducible show EvO _ _ _ _ _); walk_at "evO"))
local macro_rules | `(tactic| walk_at "fld") => `(tactic| first
  | (with_reducible apply sq_fld) <;> walk_at "st"
  | (with_reducible apply at_fld) <;> walk_at "st")
local macro_rules | `(tactic| walk_at "fldL") => `(tactic| first
  | (with_reducible apply sq_fldL) <;> walk_at "st"
  | (with_reducible apply at_fldL) <;> walk_at "st")
local macro_rules | `(tactic| walk_at "drop") => `(tactic| first
  | (with_reducible apply sq_drop) <;> walk_at "st"
  | (with_reducible apply at_drop) <;> walk_at "st")
section
variable {K : PySem.W.Frag} {C B pN pO cHoistError cNoHoist cNoRope cNoBody cSinks cTooMany cBadText : Addr}
local macro_rules | `(tactic| walk_at "R") => `(tactic| first
  | (with_reducible apply rc_initD) <;> walk_at "sd"
  | (with_reducible apply rc_lspare5) <;> walk_at "sd")
theorem p_least_pull_k08 (T : BoT K B) (hN : IsN K pN) (hO : IsO K pO) (TH : HoT K C) (vs : List V) (H : Hp) (Q : VK) (E : XK) (h : sp_least_pull_k08 K C cSinks vs H Q E) :
    t_least_pull_k08 K C B pN cSinks E { nx := fun _ H' => Q .non H', rt := Q } (start n_least_pull_k08 vs) H := by
  have go : ∀ (ws : List Int) (tb : List (List Int)) (rope : Nat) (r : RpAll K C H H [.ho .x ws tb, .int rope] vs) (ho : HoOk ws tb) (hr : rope < tb.length) (k : ¬ sinksP ws tb → RetT K C H (leastFs ws tb rope) Q) (kx : sinksP ws tb → ∀ H', Ex H H' → E (.ref cSinks) none H'),
      t_least_pull_k08 K C B pN cSinks E { nx := fun _ H' => Q .non H', rt := Q } (start n_least_pull_k08 vs) H := by
    intro ws tb rope r ho hr k kx
    refine start_at r (n := 3) (by rw [r.length]; rfl) ?_
    have r5 := ho.r5
    have w4 := ho.w4
    simp only [List.map, uns, List.cons_append, List.nil_append]
    unfold t_least_pull_k08
    refine sq_drop (d := .non) (EvD.r (ed_meth (by walk_at "evD") (by walk_at "evA") (by walk_at "era") ⟨ws, tb, rope, hr, rfl, rfl⟩ rfl (by decide +kernel) (by decide +kernel))) ?_
    refine sq_callO (by simp) (ea_cons (by walk_at "evR") ea_nil) (by walk_at "era") ⟨ws, tb, ho, rfl, rfl⟩ fr_bF fun a => ?_
    dsimp only [List.set]
    refine sq_when (b := !decide (aimF ws.length (cost1 tb.length ws.length) (fstB ws tb).h (fstB ws tb).R (tb.length + ws.length) = 0)) (eb_val (ed_ne (ed_aimlast T rfl).r (ed_nought hN).r EqD.frac)) (fun hb => ?_) (fun hb => ?_)
    · have hs : sinksP ws tb := by simpa [sinksP] using hb
      exact at_raise (kx hs)
    · have hs : ¬ sinksP ws tb := by simpa [sinksP] using hb
      exact least_tail T hN ho hs hr (fun _ => rfl) (k hs)
  rcases h with ⟨ds, fs', r, ⟨ws, tb, rope, ho, hs, hr, rfl, rfl⟩, k⟩ | ⟨ds, c, r, ⟨ws, tb, rope, ho, hs, hr, rfl, rfl⟩, kx⟩
  · exact go ws tb rope r ho hr (fun _ => k) fun z => absurd z hs
  · exact go ws tb rope r ho hr (fun z => absurd hs z) fun _ => kx
/-- what kinds an error of the class Sinks is told to be -/
theorem p_law_tried_k08 (R : Raised K cHoistError cNoHoist cNoRope cNoBody cSinks cTooMany cBadText cSinks false false false true false false) :
    Body (t_law_tried_k08 K C cHoistError cNoHoist cNoRope cNoBody cSinks cTooMany cBadText) n_law_tried_k08 (sp_law_tried_k08 K C) := by
  obtain ⟨exm, exc, kV, kN, kR, kB, kS, kT, kX⟩ := R
  rintro vs H Q E (⟨ds, fs', r, ⟨ws, tb, rope, ho, hs, hr, rfl, rfl⟩, k⟩ | ⟨ds, fs', ks, r, ⟨ws, tb, rope, ho, hs, hr, rfl, rfl, rfl⟩, k⟩)
  · refine start_at r (n := 3) (by rw [r.length]; rfl) ?_
    simp only [List.map, uns, List.cons_append, List.nil_append]
    unfold t_law_tried_k08
    walk_at "asg"
    refine sq_asgL (xs := []) (by walk_at "evL") (by simp) ?_
    dsimp only [List.set]
    refine at_seq ?_
    refine at_asgX (evx_callS (ds := [.ho .x ws tb, .int rope]) (by walk_at "evA") rfl ⟨ws, tb, rope, ho, hs, hr, rfl, rfl⟩) ?_
    refine at_wAs exm (by simp) fun a => ?_
    dsimp only [List.set]
    refine at_exc exc ?_
    refine sq_asgL (xs := [.bl true, .bl false, .bl false, .bl false]) (el_lst (eq_cons (ed_isE rfl kS) (eq_cons (ed_isE rfl kR) (eq_cons (ed_isE rfl kB) (eq_cons (ed_isE rfl kN) eq_nil)))) (by simp)) (by simp) ?_
    dsimp only [List.set]
    refine at_asgL (xs := [.bl true, .bl false, .bl false, .bl false, .bl false, .bl false, .bl true]) (EvL.to (el_cat (es_own rfl) (EvL.s (el_lst (eq_cons (ed_isE rfl kT) (eq_cons (ed_isE rfl kX) (eq_cons (ed_isV rfl kV) eq_nil))) (by simp))) (by simp)) rfl) (by simp) ?_
    dsimp only [List.set]
    refine at_unset (by simp) ?_
    dsimp only [List.set]
    exact at_retDO (fun _ => rfl) (by walk_at "evD") rfl k
  · refine start_at r (n := 3) (by rw [r.length]; rfl) ?_
    simp only [List.map, uns, List.cons_append, List.nil_append]
    unfold t_law_tried_k08
    walk_at "asg"
    refine sq_asgL (xs := []) (by walk_at "evL") (by simp) ?_
    dsimp only [List.set]
    refine at_seq ?_
    refine at_callTS (by simp) (ds := [.ho .x ws tb, .int rope]) (by walk_at "evA") rfl ⟨ws, tb, rope, ho, hs, hr, rfl, rfl⟩ (fr_leastFs _ _ _) spE_in fun a => ?_
    dsimp only [List.set]
    exact at_retTO (fun _ => rfl) rfl rfl (by decide) k
theorem num_ge {x : Rat} (h : -1 ≤ x) : ¬ x.num + x.den * 1 < 0 := by
  have := (Rat.le_iff _ _).mp h
  have e1 : (-1 : Rat).num = -1 := rfl
  have e2 : (-1 : Rat).den = 1 := rfl
  rw [e1, e2] at this
  omega
theorem dF_neg (x : Rat) : dF (-x) = .tup [.int (0 - x.num), .int x.den] := by
  unfold dF
  rw [Rat.neg_num, Rat.neg_den, Int.zero_sub]
theorem p_law_shown_k08 : Body (t_law_shown_k08 K C) n_law_shown_k08 (sp_law_shown_k08 K C) := by
  rintro vs H Q E ⟨ds, d, r, ⟨ws, tb, rope, ps, ms, ho, hr, pl, pz, ph, ml, mz, msp, mg, rfl, rfl⟩, k⟩
  refine start_at r (n := 3) (by rw [r.length]; rfl) ?_
  have r5 := ho.r5
  have w4 := ho.w4
  have dl : (dI ws).length = ws.length := by simp
  have dt : (dRows .x tb).length = tb.length := by simp [dRows]
  have ii0 : ∀ a b : D, atI [a, b] 0 = some a := fun _ _ => rfl
  have ii1 : ∀ a b : D, atI [a, b] 1 = some b := fun _ _ => rfl
  have p85 : SzL 8500 ps := fun q hq => (pz q hq).mono (by decide)
  have m85 : SzL 8500 ms := fun q hq => (mz q hq).mono (by decide)
  unfold t_law_shown_k08
  simp only [List.map, uns, List.cons_append, List.nil_append]
  have e0 : ∀ c4 c5 c6, EvD K C (xIdx K (tVar 3) (tC (.int 0))) [.dat (.lst .x (dI ws)), .dat (.lst .x (dRows .x tb)), .dat (.int rope), .dat (.tup [.lst .x (dFs ps), .lst .x (dFs ms)]), c4, c5, c6] (.lst .x (dFs ps)) := fun _ _ _ => by walk_at "evD"
  have e1 : ∀ c4 c5 c6, EvD K C (xIdx K (tVar 3) (tC (.int 1))) [.dat (.lst .x (dI ws)), .dat (.lst .x (dRows .x tb)), .dat (.int rope), .dat (.tup [.lst .x (dFs ps), .lst .x (dFs ms)]), c4, c5, c6] (.lst .x (dFs ms)) := fun _ _ _ => by walk_at "evD"
  refine sq_when (b := false) (EvB.to (eb_or (a := false) (EvB.to (eb_not (eb_val (ed_isi (b := true) (by walk_at "evR") rfl (by decide +kernel)))) rfl) fun _ => eb_or (a := false) (EvB.to (eb_val (ed_ne (d := .int 2) (EvD.r (EvD.to (ed_lenT (xs := [.lst .x (dFs ps), .lst .x (dFs ms)]) (by walk_at "evD")) rfl)) (by walk_at "evR") EqD.int)) (b' := false) rfl) fun _ =>
    EvB.to (eb_not (eb_val (ev_call (ea_cons (e0 _ _ _).r (ea_cons (by walk_at "evR") ea_nil)) (by walk_at "era") (rc_parts p85 (by omega) (by rw [dt, pl])) rfl))) (b' := false) rfl) rfl) (fun z => nomatch z) fun _ => ?_
  refine sq_when (b := false) (EvB.to (eb_or (a := false) (EvB.to (eb_not (eb_val (ev_call (ea_cons (by walk_at "evR") (ea_cons (by walk_at "evR") (ea_cons (e0 _ _ _).r ea_nil))) (by walk_at "era") (rc_held ho pz pl) rfl))) (by rw [ph]; rfl)) fun _ =>
    EvB.to (eb_not (eb_val (ev_call (ea_cons (e1 _ _ _).r (ea_cons (by walk_at "evR") ea_nil)) (by walk_at "era") (rc_parts m85 (by omega) (by rw [dl, ml])) rfl))) (b' := false) rfl) rfl) (fun z => nomatch z) fun _ => ?_
  refine sq_forN (n := tb.length) (EvA.to (by walk_at "evA") (by rw [dt])) (by omega) (fun i ρ' => ∃ c4 c5, ρ' = [.dat (.lst .x (dI ws)), .dat (.lst .x (dRows .x tb)), .dat (.int rope), .dat (.tup [.lst .x (dFs ps), .lst .x (dFs ms)]), c4, c5, .un]) ⟨_, _, rfl⟩ (by rintro i ρ' ⟨_, _, rfl⟩; simp) ?_ ?_
  · rintro i ρ' hi ⟨c4, c5, rfl⟩
    dsimp only [List.set]
    have hm : tb.getD i [] ∈ tb := getD_mem hi
    have a1 : atI (dRows .x tb) (i : Int) = some (.lst .x (dI (tb.getD i []))) := atI_rows hi
    have h2 := ho.row _ hm
    have h3 := ho.st _ hm
    have h4 : ∀ z ∈ tb.getD i [], -2000 ≤ z ∧ z ≤ 2000 := fun z hz => by have := h3 z hz; omega
    have ge := msp i hi
    have sz : Sz 4000 (spareOf (tb.getD i []) ms) := (sz_sum (n := 504) fun q hq => by
      obtain ⟨b, hb, rfl⟩ := List.mem_map.mp hq
      have hb' := List.mem_range.mp hb
      exact (sz9 (h3 _ (getD_mem hb'))).mul (mz _ (getD_mem (by omega)))).mono (by rw [List.length_map, List.length_range]; omega)
    refine sq_asg (d := dF (spareOf (tb.getD i []) ms)) (ev_call (ea_cons (by walk_at "evR") (ea_cons (e1 _ _ _).r ea_nil)) (by walk_at "era") (rc_lspare5 (by omega) h4 mz (by omega)) rfl) (by simp) ?_
    dsimp only [List.set]
    generalize spareOf (tb.getD i []) ms = x at *
    have ex : EvD K C (tVar 5) [.dat (.lst .x (dI ws)), .dat (.lst .x (dRows .x tb)), .dat (.int rope), .dat (.tup [.lst .x (dFs ps), .lst .x (dFs ms)]), .dat (.int i), .dat (dF x), .un] (.tup [.int x.num, .int x.den]) := by walk_at "evD"
    have b7 : CMulW (x.den : Int) (if decide ((i : Int) = (rope : Int)) then 1 else 0) := wide_mul sz.den (show (if decide ((i : Int) = (rope : Int)) then (1 : Int) else 0).natAbs < 2 ^ 1 by split <;> decide) (by decide) (by decide) (by decide)
    refine at_when (b := false) (EvB.to (eb_val (ed_lt (EvD.r (ed_add (EvD.r (ed_idxT ex ed_int.r (ii0 _ _))) (EvD.r (ed_mul (EvD.r (ed_idxT ex ed_int.r (ii1 _ _))) (EvD.r (ed_intB (b := decide ((i : Int) = (rope : Int))) (by walk_at "evR"))) b7)))) ed_int.r)) ?_) (fun z => nomatch z) fun _ => at_gx ⟨_, _, rfl⟩
    refine decide_eq_false ?_
    by_cases q : i = rope
    · subst q
      rw [cost2_eq] at ge
      rw [decide_eq_true rfl, if_pos rfl]
      exact num_ge ge
    · rw [cost2_ne q] at ge
      rw [decide_eq_false (by omega), if_neg (by decide)]
      have : 0 ≤ x.num := Rat.num_nonneg.mpr (by grind)
      omega
  rintro ρ' ⟨c4, c5, rfl⟩
  have a0 : atI (dFs ps) (rope : Int) = some (dF (ps.getD rope 0)) := atI_map 0 (by omega)
  refine sq_asg (d := dF (ps.getD rope 0)) (ed_idxS (e0 _ _ _).s (by walk_at "evR") a0) (by simp) ?_
  dsimp only [List.set]
  have h4 : ∀ z ∈ ws, -2000 ≤ z ∧ z ≤ 2000 := fun z hz => by have := ho.wv z hz; omega
  have ex : EvD K C (tVar 6) [.dat (.lst .x (dI ws)), .dat (.lst .x (dRows .x tb)), .dat (.int rope), .dat (.tup [.lst .x (dFs ps), .lst .x (dFs ms)]), c4, c5, .dat (dF (ps.getD rope 0))] (.tup [.int (ps.getD rope 0).num, .int (ps.getD rope 0).den]) := by walk_at "evD"
  refine at_ret (EvD.to (ed_eq (d := dF (spareOf ws ms)) (e := dF (- ps.getD rope 0)) (EvD.r (ev_call (ea_cons (by walk_at "evR") (ea_cons (e1 _ _ _).r ea_nil)) (by walk_at "era") (rc_lspare5 (by omega) h4 mz (by omega)) rfl)) (EvD.r (EvD.to (ed_tup (eq_cons (ed_sub ed_int.r (EvD.r (ed_idxT ex ed_int.r (ii0 _ _)))) (eq_cons (ed_idxT ex ed_int.r (ii1 _ _)) eq_nil)) (by simp)) (dF_neg _).symm)) EqD.frac) ?_) k
  rw [decide_eq_true mg]
theorem ne_st : ¬ (("still" : Str) = "sinks") := by decide +kernel
theorem all_leastFs (ws : List Int) (tb : List (List Int)) (rope : Nat) : D.tup ((leastFs ws tb rope).map fun p => p.2.all) = .tup [.lst .x (dFs (leastP ws tb rope)), .lst .x (dFs (leastM ws tb rope))] := by
  show D.tup [.lst .x (eraAll ((leastP ws tb rope).map dF)), .lst .x (eraAll ((leastM ws tb rope).map dF))] = _
  rw [era_dFs, era_dFs]
theorem rc_shown8 {ws : List Int} {tb : List (List Int)} {rope : Nat} (ho : HoOk ws tb) (hs : ¬ sinksP ws tb) (hr : rope < tb.length) : R_shown8 [.lst .x (dI ws), .lst .x (dRows .x tb), .int rope, .tup [.lst .x (dFs (leastP ws tb rope)), .lst .x (dFs (leastM ws tb rope))]] (.bl true) := by
  obtain ⟨b, _, _⟩ := snd_bv (rope := rope) ho hs
  exact ⟨ws, tb, rope, _, _, ho, hr, leastP_len, fun q hq => (sz_pulls ho b (m := tb.length) q hq).mono (by decide), least_holds ho hs, leastM_len, sz_mot ho (.inl rfl) (cost2_01 rope) b, fun r h => least_spare ho hs hr h, least_gain ho hs hr, rfl, rfl⟩
theorem eqd_tried : EqD (.tup [.non, .lst .x [.bl true, .bl false, .bl false, .bl false, .bl false, .bl false, .bl true]]) (.tup [.non, .lst .f [.bl true, .bl false, .bl false, .bl false, .bl false, .bl false, .bl true]]) true := ⟨⟨_, _, rfl, rfl, by decide +kernel, by decide +kernel, by decide +kernel⟩⟩
theorem p_law_k08 : Body (t_law_k08 K C cSinks) n_law_k08 (sp_law K C) := by
  rintro vs H Q E ⟨ds, d, r, ⟨ns, hn, rfl, rfl⟩, k⟩
  refine start_at r (n := 8) (by rw [r.length]; rfl) ?_
  have q11 : (11 : Int) = ((11 : Nat) : Int) := rfl
  have q12 : (12 : Int) = ((12 : Nat) : Int) := rfl
  have ho := HoOk.drawn ns
  have r5 := ho.r5
  have w4 := ho.w4
  have tl : (drawnTb ns).length ≤ 100 := by omega
  have hrow : ∀ r ∈ drawnTb ns, 1 ≤ r.length ∧ r.length ≤ 10 := fun r hr => by
    have := ho.row r hr
    have := ho.w1
    omega
  have dt : (dRows .f (drawnTb ns)).length = (drawnTb ns).length := by simp [dRows]
  unfold t_law_k08
  walk_at "asg"
  walk_at "asg"
  walk_at "asg"
  dsimp only [List.set, List.map, uns, List.cons_append, List.nil_append]
  refine sq_when (b := decide (drawnTb ns = [])) (eb_val (ed_eq (d := .lst .f (dRows .f (drawnTb ns))) (by walk_at "evR") (EvL.s (el_lst (xs := []) eq_nil (by simp))).r (EqD.rows (m' := .x) (b := [])))) (fun _ => at_ret ed_bl k) fun hb => ?_
  have hne : drawnTb ns ≠ [] := of_decide_eq_false hb
  have hpos : 0 < (drawnTb ns).length := List.length_pos_iff.mpr hne
  walk_at "asg"
  obtain ⟨rope, hrope⟩ : ∃ rope : Nat, (rope : Int) = ns.getD 12 0 % ((drawnTb ns).length : Int) := ⟨(ns.getD 12 0 % ((drawnTb ns).length : Int)).toNat, Int.toNat_of_nonneg (Int.emod_nonneg _ (by omega))⟩
  have hr : rope < (drawnTb ns).length := by
    have := Int.emod_lt_of_pos (ns.getD 12 0) (show (0 : Int) < ((drawnTb ns).length : Int) by omega)
    omega
  have dpos : (0 : Int) < ((dRows .f (drawnTb ns)).length : Int) := by rw [dt]; omega
  refine sq_asg (d := .int rope) (EvD.to (d := .int (ns.getD 12 0 % ((dRows .f (drawnTb ns)).length : Int))) (by walk_at "evD") (by rw [dt, hrope])) (by simp) ?_
  dsimp only [List.set]
  have ej : ∀ {ρ : List Cell}, EvD K C (tVar 4) ρ (.ho .f (drawnWs ns) (drawnTb ns)) → EvD K C (xIdx K (tCall (sp_judged K C) [] E0 (tCons (tVar 4) tNil)) (tC (.int 0))) ρ (.str (toldT (drawnWs ns) (drawnTb ns))) := fun h =>
    ed_idxT (ed_callT (ea_cons h.r ea_nil) (by walk_at "era") (rc_judged ho) (fr_toldF _ _)) ed_int.r rfl
  by_cases hs : sinksP (drawnWs ns) (drawnTb ns)
  · refine sq_callTH (by simp) (ds' := [.ho .x (drawnWs ns) (drawnTb ns), .int rope]) (by walk_at "evA") (by walk_at "era") (⟨_, _, rope, ho, hs, hr, rfl, rfl⟩ : R_tried8a _ _) rfl or1 fun a => ?_
    dsimp only [List.set]
    refine sq_when (b := true) (EvB.to (eb_val (ed_eq (EvD.r (ej (by walk_at "evD"))) ed_str.r (by rw [toldT_s hs]; exact EqD.str ok_sinks ok_sinks))) (by simp)) (fun _ => ?_) (fun z => nomatch z)
    refine at_ret (ed_eq (er_tp rfl) (EvD.r (ed_tup (eq_cons ed_non (eq_cons (EvL.dat (el_lst (eq_cons ed_bl (eq_cons ed_bl (eq_cons ed_bl (eq_cons ed_bl (eq_cons ed_bl (eq_cons ed_bl (eq_cons ed_bl eq_nil))))))) (by simp))) eq_nil)) (by simp))) eqd_tried) k
  · refine sq_callN (by simp) (ds' := [.ho .x (drawnWs ns) (drawnTb ns), .int rope]) (by walk_at "evA") (by walk_at "era") (⟨_, _, rope, ho, hs, hr, rfl, rfl, rfl⟩ : R_tried8b _ _ _) (fr_leastFs _ _ _) rfl or2 fun a b => ?_
    dsimp only [List.set]
    refine sq_when (b := false) (EvB.to (eb_val (ed_eq (EvD.r (ej (by walk_at "evD"))) ed_str.r (by rw [toldT_n hs]; exact EqD.str ok_still ok_sinks))) (decide_eq_false ne_st)) (fun z => nomatch z) fun _ => ?_
    have esh : ∀ {ρ : List Cell} {t : TE}, EvR K C (tVar 2) ρ (.lst .f (dI (drawnWs ns))) → EvR K C (tVar 3) ρ (.lst .f (dRows .f (drawnTb ns))) → EvR K C (tVar 5) ρ (.int rope) → EvR K C t ρ (.tup ((leastFs (drawnWs ns) (drawnTb ns) rope).map fun p => p.2.all)) →
        EvD K C (tCall (sp_law_shown_k08 K C) [] E0 (tCons (tVar 2) (tCons (tVar 3) (tCons (tVar 5) (tCons t tNil))))) ρ (.bl true) := fun h2 h3 h5 h => ev_call (ea_cons h2 (ea_cons h3 (ea_cons h5 (ea_cons (h.to (all_leastFs _ _ _)) ea_nil)))) (by walk_at "era") (rc_shown8 ho hs hr) rfl
    refine sq_when (b := false) (EvB.to (eb_or (a := false) (EvB.to (eb_val (ed_ne (es_nt1 rfl).r (EvL.s (el_lst (xs := []) eq_nil (by simp))).r (EqD.fracs (m := .x) (m' := .x) (a := []) (b := [])))) rfl) fun _ => EvB.to (eb_not (eb_val (esh (by walk_at "evR") (by walk_at "evR") (by walk_at "evR") (er_nt0 rfl)))) (b' := false) rfl) rfl) (fun z => nomatch z) fun _ => ?_
    have a0 : atI (dFs (leastP (drawnWs ns) (drawnTb ns) rope)) (rope : Int) = some (dF ((leastP (drawnWs ns) (drawnTb ns) rope).getD rope 0)) := atI_map 0 (by rw [leastP_len]; exact hr)
    refine sq_asg (d := dF ((leastP (drawnWs ns) (drawnTb ns) rope).getD rope 0)) (ed_idxS (es_nt0 (j := 0) rfl rfl) (by walk_at "evR") a0) (by simp) ?_
    dsimp only [List.set]
    refine sq_clearN (j := 0) rfl rfl ?_
    dsimp only [List.set]
    refine sq_clearN (j := 1) rfl rfl ?_
    dsimp only [List.set]
    refine sq_callTH (by simp) (ds' := [.ho .x (drawnWs ns) (drawnTb ns), .int rope]) (by walk_at "evA") (by walk_at "era") (⟨_, _, rope, ho, hs, hr, rfl, rfl⟩ : R_least _ _) (fr_leastFs _ _ _) spE_in fun a' => ?_
    dsimp only [List.set]
    refine at_ret (EvD.to (ed_andV (esh (by walk_at "evR") (by walk_at "evR") (by walk_at "evR") (er_tp rfl)) fun _ => ed_eq (d := dF ((leastP (drawnWs ns) (drawnTb ns) rope).getD rope 0)) (EvD.r (ed_idxS (es_tpI (j := 0) rfl rfl) (by walk_at "evR") a0)) (by walk_at "evR") EqD.frac) (by simp)) k
end
end Hw
namespace Hw
open PySem L2
local macro_rules | `(tactic| walk_at "lenR") => `(tactic| ((repeat (obtain ⟨_, h⟩ := h)); subst_vars; rfl))
/-! ## the text of this law by its places -/
def topS (i : Nat) : Stmt := PySem.Challenge.pw_hoistworks_k08_whole_the_least_pull.main.body.getD i (.Pass ⟨0, 0, 0, 0⟩)
def inClass (st : Stmt) (j : Nat) : Stmt := match st with
  | .ClassDef _ _ _ b _ _ _ _ _ _ _ => b.getD j (.Pass ⟨0, 0, 0, 0⟩)
  | _ => st
theorem sc_see_pairs : FnScope ["pairs", "bodies", "body", "number"] ["pairs", "bodies"] (defScope (topS 10)) := ⟨rfl, rfl, rfl, by decide +kernel, rfl, by decide +kernel, by decide +kernel⟩
theorem sc_summed : FnScope ["pairs", "body", "pair"] ["pairs", "body"] (defScope (topS 11)) := ⟨rfl, rfl, rfl, by decide +kernel, rfl, by decide +kernel, by decide +kernel⟩
theorem sc_Hoist_see_rope : FnScope ["self", "rope"] ["self", "rope"] (defScope (inClass (topS 12) 3)) := ⟨rfl, rfl, rfl, by decide +kernel, rfl, by decide +kernel, by decide +kernel⟩
theorem sc_common : FnScope ["one", "other", "rest"] ["one", "other"] (defScope (topS 16)) := ⟨rfl, rfl, rfl, by decide +kernel, rfl, by decide +kernel, by decide +kernel⟩
theorem sc_less : FnScope ["one", "other"] ["one", "other"] (defScope (topS 21)) := ⟨rfl, rfl, rfl, by decide +kernel, rfl, by decide +kernel, by decide +kernel⟩
theorem sc_Board_init : FnScope ["self", "hoist", "body", "row", "r", "other"] ["self", "hoist"] (defScope (inClass (topS 23) 0)) := ⟨rfl, rfl, rfl, by decide +kernel, rfl, by decide +kernel, by decide +kernel⟩
theorem sc_Board_pulls : FnScope ["self", "found", "r"] ["self"] (defScope (inClass (topS 23) 6)) := ⟨rfl, rfl, rfl, by decide +kernel, rfl, by decide +kernel, by decide +kernel⟩
theorem sc_other_than_nought : FnScope ["row", "k"] ["row"] (defScope (topS 25)) := ⟨rfl, rfl, rfl, by decide +kernel, rfl, by decide +kernel, by decide +kernel⟩
theorem sc_law_cell_at : FnScope ["script", "k"] ["script", "k"] (defScope (topS 32)) := ⟨rfl, rfl, rfl, by decide +kernel, rfl, by decide +kernel, by decide +kernel⟩
theorem sc_law_whole : FnScope ["found"] ["found"] (defScope (topS 33)) := ⟨rfl, rfl, rfl, by decide +kernel, rfl, by decide +kernel, by decide +kernel⟩
theorem sc_law_low : FnScope ["top", "bottom", "one", "other", "rest"] ["top", "bottom"] (defScope (topS 34)) := ⟨rfl, rfl, rfl, by decide +kernel, rfl, by decide +kernel, by decide +kernel⟩
theorem sc_law_ropes : FnScope ["table", "cell", "ropes", "row", "pairs", "body"] ["table", "cell"] (defScope (topS 38)) := ⟨rfl, rfl, rfl, by decide +kernel, rfl, by decide +kernel, by decide +kernel⟩
theorem sc_Hoist_init : FnScope ["self", "weights", "ropes", "weight", "pairs", "body", "row"] ["self", "weights", "ropes"] (defScope (inClass (topS 12) 0)) := ⟨rfl, rfl, rfl, by decide +kernel, rfl, by decide +kernel, by decide +kernel⟩
theorem sc_fraction : FnScope ["top", "bottom", "far"] ["top", "bottom"] (defScope (topS 17)) := ⟨rfl, rfl, rfl, by decide +kernel, rfl, by decide +kernel, by decide +kernel⟩
theorem sc_below : FnScope ["row", "k"] ["row"] (defScope (topS 24)) := ⟨rfl, rfl, rfl, by decide +kernel, rfl, by decide +kernel, by decide +kernel⟩
theorem sc_law_plus : FnScope ["one", "other"] ["one", "other"] (defScope (topS 35)) := ⟨rfl, rfl, rfl, by decide +kernel, rfl, by decide +kernel, by decide +kernel⟩
theorem sc_law_part : FnScope ["found"] ["found"] (defScope (topS 36)) := ⟨rfl, rfl, rfl, by decide +kernel, rfl, by decide +kernel, by decide +kernel⟩
theorem sc_law_table : FnScope ["script", "first", "ropes", "bodies", "table", "r", "cell", "row", "body"] ["script", "first", "ropes", "bodies"] (defScope (topS 37)) := ⟨rfl, rfl, rfl, by decide +kernel, rfl, by decide +kernel, by decide +kernel⟩
theorem sc_minus : FnScope ["one", "other"] ["one", "other"] (defScope (topS 18)) := ⟨rfl, rfl, rfl, by decide +kernel, rfl, by decide +kernel, by decide +kernel⟩
theorem sc_times : FnScope ["one", "other"] ["one", "other"] (defScope (topS 19)) := ⟨rfl, rfl, rfl, by decide +kernel, rfl, by decide +kernel, by decide +kernel⟩
theorem sc_over : FnScope ["one", "other"] ["one", "other"] (defScope (topS 20)) := ⟨rfl, rfl, rfl, by decide +kernel, rfl, by decide +kernel, by decide +kernel⟩
theorem sc_law_sum : FnScope ["table", "pulls", "body", "total", "r"] ["table", "pulls", "body"] (defScope (topS 39)) := ⟨rfl, rfl, rfl, by decide +kernel, rfl, by decide +kernel, by decide +kernel⟩
theorem sc_law_spare : FnScope ["row", "motion", "total", "body"] ["row", "motion"] (defScope (topS 40)) := ⟨rfl, rfl, rfl, by decide +kernel, rfl, by decide +kernel, by decide +kernel⟩
theorem sc_law_parts : FnScope ["found", "many", "part"] ["found", "many"] (defScope (topS 42)) := ⟨rfl, rfl, rfl, by decide +kernel, rfl, by decide +kernel, by decide +kernel⟩
theorem sc_law_drawn : FnScope ["script", "bodies", "ropes", "table", "weights", "body", "cell", "made", "r"] ["script"] (defScope (topS 43)) := ⟨rfl, rfl, rfl, by decide +kernel, rfl, by decide +kernel, by decide +kernel⟩
theorem sc_Board_leaving : FnScope ["self", "column", "best", "r", "far"] ["self", "column"] (defScope (inClass (topS 23) 3)) := ⟨rfl, rfl, rfl, by decide +kernel, rfl, by decide +kernel, by decide +kernel⟩
theorem sc_Board_worths : FnScope ["self", "cost", "body"] ["self", "cost"] (defScope (inClass (topS 23) 7)) := ⟨rfl, rfl, rfl, by decide +kernel, rfl, by decide +kernel, by decide +kernel⟩
theorem sc_taken : FnScope ["row", "base", "factor", "k"] ["row", "base", "factor"] (defScope (topS 26)) := ⟨rfl, rfl, rfl, by decide +kernel, rfl, by decide +kernel, by decide +kernel⟩
theorem sc_turned_about : FnScope ["row", "part"] ["row"] (defScope (topS 27)) := ⟨rfl, rfl, rfl, by decide +kernel, rfl, by decide +kernel, by decide +kernel⟩
theorem sc_law_held : FnScope ["weights", "table", "pulls", "pull", "body"] ["weights", "table", "pulls"] (defScope (topS 41)) := ⟨rfl, rfl, rfl, by decide +kernel, rfl, by decide +kernel, by decide +kernel⟩
theorem sc_Board_price : FnScope ["self", "costs", "r"] ["self", "costs"] (defScope (inClass (topS 23) 1)) := ⟨rfl, rfl, rfl, by decide +kernel, rfl, by decide +kernel, by decide +kernel⟩
theorem sc_Board_turn : FnScope ["self", "r", "column", "part", "base", "here", "other"] ["self", "r", "column"] (defScope (inClass (topS 23) 2)) := ⟨rfl, rfl, rfl, by decide +kernel, rfl, by decide +kernel, by decide +kernel⟩
theorem sc_law_shown : FnScope ["weights", "table", "rope", "found", "r", "part", "least"] ["weights", "table", "rope", "found"] (defScope (topS 45)) := ⟨rfl, rfl, rfl, by decide +kernel, rfl, by decide +kernel, by decide +kernel⟩
theorem sc_Board_go : FnScope ["self", "column"] ["self"] (defScope (inClass (topS 23) 4)) := ⟨rfl, rfl, rfl, by decide +kernel, rfl, by decide +kernel, by decide +kernel⟩
theorem sc_Board_clear_helps : FnScope ["self", "r", "column"] ["self"] (defScope (inClass (topS 23) 5)) := ⟨rfl, rfl, rfl, by decide +kernel, rfl, by decide +kernel, by decide +kernel⟩
theorem sc_first_board : FnScope ["hoist", "board", "r", "body"] ["hoist"] (defScope (topS 28)) := ⟨rfl, rfl, rfl, by decide +kernel, rfl, by decide +kernel, by decide +kernel⟩
theorem sc_judged : FnScope ["hoist", "board"] ["hoist"] (defScope (topS 29)) := ⟨rfl, rfl, rfl, by decide +kernel, rfl, by decide +kernel, by decide +kernel⟩
theorem sc_least_pull : FnScope ["hoist", "rope", "board", "r", "body"] ["hoist", "rope"] (defScope (topS 30)) := ⟨rfl, rfl, rfl, by decide +kernel, rfl, by decide +kernel, by decide +kernel⟩
theorem sc_law_tried : FnScope ["hoist", "rope", "found", "kinds", "e"] ["hoist", "rope"] (defScope (topS 44)) := ⟨rfl, rfl, rfl, by decide +kernel, rfl, by decide +kernel, by decide +kernel⟩
theorem sc_law : FnScope ["script", "drawn", "weights", "table", "hoist", "rope", "tried", "kept", "again"] ["script"] (defScope (topS 46)) := ⟨rfl, rfl, rfl, by decide +kernel, rfl, by decide +kernel, by decide +kernel⟩
section
variable {P : Program} {w : World} {K : PySem.W.Frag} {mg : Str → Option Value} {base : Heap} {C B : Addr} {pNOUGHT : Addr} {pONE : Addr} {cHoistError : Addr} {cNoHoist : Addr} {cNoRope : Addr} {cNoBody : Addr} {cSinks : Addr} {cTooMany : Addr} {cBadText : Addr}
theorem ok_see_pairs (T : Bt mg) (F : FnAt K mg "see_pairs" "see_pairs" (topS 10) ["pairs", "bodies"]) : Okf P w K mg base "see_pairs" ["pairs", "bodies"] 1 (sp_see_pairs K C) :=
  Okf.mk F sc_see_pairs (lenD fun ds d h => by (repeat (obtain ⟨_, h⟩ := h)); subst_vars; rfl) (fun E => t_see_pairs K C) (fun f cdv A outer s H E hr => (pss_cons (ps_if (pt_xGt (pe_xLen T.b_len (pv 0)) pe_int) (pss_one ps_never) pss_nil)
    (pss_one (ps_for (passes_of rfl) rfl (pi_list (pv 0)) (pg_tup rfl (pgs_cons (pg_name (i := 2) sc_see_pairs.nd rfl (Or.inl rfl)) (pgs_cons (pg_name (i := 3) sc_see_pairs.nd rfl (Or.inl rfl)) pgs_nil))) (pss_one (ps_if (PW.pt (pw_or (pt_not (pt_xLeLt pe_int (pv 2) (pv 1))) (pw_or1 (pt_not (pt_xLeLe (pe_xNeg pe_int) (pv 3) pe_int))))) (pss_one ps_never) pss_nil)))))) p_see_pairs
theorem ok_summed (T : Bt mg) (F : FnAt K mg "summed" "summed" (topS 11) ["pairs", "body"]) : Okf P w K mg base "summed" ["pairs", "body"] 1 (sp_summed_hoist K C) :=
  Okf.mk F sc_summed (lenD fun ds d h => by (repeat (obtain ⟨_, h⟩ := h)); subst_vars; rfl) (fun E => t_summed_hoist K C) (fun f cdv A outer s H E hr => (pss_one (ps_ret (pe_x_sum T.b_sum (pe_lc (own := [("pair", 2)]) (g := gName 2) rfl sc_summed.nd (pi_list (pv 0)) (blkOk_by (N := ["pairs", "body", "pair"]) (sc := defScope (topS 11)) (by decide +kernel)) (fun _ _ _ _ _ => pg_name (i := 2) sc_summed.nd rfl (Or.inl rfl)) (fun _ _ _ _ _ => pts_one (pt_xEq hr (pe_xIdx (pv 2) pe_int) (pv 1))) (fun _ _ _ _ _ => (pe_xIdx (pv 2) pe_int))))))) p_summed_hoist
theorem ok_Hoist_see_rope (T : Bt mg) (HT : HoT K C) (F : MethAt K C "see_rope" "Hoist.see_rope" (inClass (topS 12) 3) ["self", "rope"]) : OkM P w K mg base C "see_rope" ["self", "rope"] 1 (sp_Hoist_see_rope K C) :=
  OkM.mk F sc_Hoist_see_rope (lenD fun ds d h => by (repeat (obtain ⟨_, h⟩ := h)); subst_vars; rfl) (fun E => t_Hoist_see_rope K C) (fun f cdv A outer s H E hr => (pss_one (ps_if (pt_not (pt_xLeLt pe_int (pv 1) (pe_xLen T.b_len (pe_fld (pv 0) rfl)))) (pss_one ps_never) pss_nil))) (p_Hoist_see_rope HT)
theorem ok_common (T : Bt mg) (F : FnAt K mg "common" "common" (topS 16) ["one", "other"]) : Okf P w K mg base "common" ["one", "other"] 1 (sp_common K C) :=
  Okf.mk F sc_common (lenD fun ds d h => by (repeat (obtain ⟨_, h⟩ := h)); subst_vars; rfl) (fun E => t_common K C) (fun f cdv A outer s H E hr => (pss_cons (ps_while (passes_of rfl) (pt_xGt (pv 1) pe_int) (pss_cons (ps_set (i := 2) sc_common.nd rfl (Or.inl rfl) (pe_xMod (pv 0) (pv 1)))
    (pss_cons (ps_set (i := 0) sc_common.nd rfl (Or.inl rfl) (pv 1))
    (pss_one (ps_set (i := 1) sc_common.nd rfl (Or.inl rfl) (pv 2))))))
    (pss_one (ps_ret (pv 0))))) p_common
theorem ok_less (T : Bt mg) (F : FnAt K mg "less" "less" (topS 21) ["one", "other"]) : Okf P w K mg base "less" ["one", "other"] 1 (sp_less K C) :=
  Okf.mk F sc_less (lenD fun ds d h => by (repeat (obtain ⟨_, h⟩ := h)); subst_vars; rfl) (fun E => t_less K C) (fun f cdv A outer s H E hr => (pss_one (ps_ret (pe_xLt (pe_xMul (pe_xIdx (pv 0) pe_int) (pe_xIdx (pv 1) pe_int)) (pe_xMul (pe_xIdx (pv 1) pe_int) (pe_xIdx (pv 0) pe_int)))))) p_less
theorem ok_Board_init (T : Bt mg) (HT : HoT K C) (BT : BoT K B) (F : InitAt K B "Board.__init__" (inClass (topS 23) 0) ["self", "hoist"]) : OkI P w K mg base B ["self", "hoist"] 1 (sp_Board_init K C B) :=
  OkI.mk F sc_Board_init (lenMu fun fs ds fs' h => by (repeat (obtain ⟨_, h⟩ := h)); subst_vars; rfl) (fun E => t_Board_init K C) (fun f cdv A outer s H E hr => (pss_cons (ps_fld (pv 0) (pe_xLen T.b_len (pe_fld (pv 1) rfl)) rfl)
    (pss_cons (ps_fld (pv 0) (pe_xLen T.b_len (pe_fld (pv 1) rfl)) rfl)
    (pss_cons (ps_fld (pv 0) (pe_lst pa_nil) rfl)
    (pss_cons (ps_for (passes_of rfl) rfl (pi_range1 rfl T.b_range (pa_cons (pe_fld (pv 0) rfl) pa_nil)) (pg_name (i := 2) sc_Board_init.nd rfl (Or.inr rfl)) (pss_cons (ps_setLc (i := 3) (own := [("r", 4)]) (g := gName 4) rfl sc_Board_init.nd rfl rfl (sw_true rfl rfl rfl (by decide +kernel)) (pi_range1 rfl T.b_range (pa_cons (pe_fld (pv 0) rfl) pa_nil)) (blkOk_by (N := ["self", "hoist", "body", "row", "r", "other"]) (sc := defScope (inClass (topS 23) 0)) (by decide +kernel)) (fun _ _ _ _ _ => pg_name (i := 4) sc_Board_init.nd rfl (Or.inl rfl)) (fun _ _ _ _ _ => pts_nil) (fun _ _ _ _ _ => (pe_tup (pa_cons (pe_xIdx (pe_xIdx (pe_fld (pv 1) rfl) (pv 4)) (pv 2)) (pa_cons pe_int pa_nil)))))
    (pss_cons (ps_set (i := 3) sc_Board_init.nd rfl (Or.inl rfl) (pe_xCat (pv 3) (pe_lc (own := [("other", 5)]) (g := gName 5) rfl sc_Board_init.nd (pi_range1 rfl T.b_range (pa_cons (pe_fld (pv 0) rfl) pa_nil)) (blkOk_by (N := ["self", "hoist", "body", "row", "r", "other"]) (sc := defScope (inClass (topS 23) 0)) (by decide +kernel)) (fun _ _ _ _ _ => pg_name (i := 5) sc_Board_init.nd rfl (Or.inl rfl)) (fun _ _ _ _ _ => pts_nil) (fun _ _ _ _ _ => (pe_tup (pa_cons (pe_xInt T.b_int (pe_xEq hr (pv 5) (pv 2))) (pa_cons pe_int pa_nil)))))))
    (pss_one (ps_expr (pe_bm PySem.F.plainAttrs_list PySem.F.slot_list_append PySem.F.type_list_append mt_append (pe_fld (pv 0) rfl) (pa_cons (pe_xCat (pv 3) (pe_lst (pa_cons (pe_tup (pa_cons (pe_xIdx (pe_fld (pv 1) rfl) (pv 2)) (pa_cons pe_int pa_nil))) pa_nil))) pa_nil)))))))
    (pss_cons (ps_fld (pv 0) (pe_lc (own := [("body", 2)]) (g := gName 2) rfl sc_Board_init.nd (pi_range1 rfl T.b_range (pa_cons (pe_fld (pv 0) rfl) pa_nil)) (blkOk_by (N := ["self", "hoist", "body", "row", "r", "other"]) (sc := defScope (inClass (topS 23) 0)) (by decide +kernel)) (fun _ _ _ _ _ => pg_name (i := 2) sc_Board_init.nd rfl (Or.inl rfl)) (fun _ _ _ _ _ => pts_nil) (fun _ _ _ _ _ => (pe_xAdd (pe_fld (pv 0) rfl) (pv 2)))) rfl)
    (pss_one (ps_fld (pv 0) (pe_lst pa_nil) rfl)))))))) (p_Board_init BT HT)
theorem ok_Board_pulls (T : Bt mg) (gNOUGHT : mg "NOUGHT" = some (.ref pNOUGHT)) (BT : BoT K B) (hN : IsN K pNOUGHT) (F : MethAt K B "pulls" "Board.pulls" (inClass (topS 23) 6) ["self"]) : OkM P w K mg base B "pulls" ["self"] 1 (sp_Board_pulls K C B) :=
  OkM.mk F sc_Board_pulls (lenRdL fun fs ds xs h => by (repeat (obtain ⟨_, h⟩ := h)); subst_vars; rfl) (fun E => t_Board_pulls K C pNOUGHT) (fun f cdv A outer s H E hr => (pss_cons (ps_setLc (i := 1) (own := [("r", 2)]) (g := gName 2) rfl sc_Board_pulls.nd rfl rfl (sw_true rfl rfl rfl (by decide +kernel)) (pi_range1 rfl T.b_range (pa_cons (pe_fld (pv 0) rfl) pa_nil)) (blkOk_by (N := ["self", "found", "r"]) (sc := defScope (inClass (topS 23) 6)) (by decide +kernel)) (fun _ _ _ _ _ => pg_name (i := 2) sc_Board_pulls.nd rfl (Or.inl rfl)) (fun _ _ _ _ _ => pts_nil) (fun _ _ _ _ _ => (pe_glob rfl gNOUGHT rfl)))
    (pss_cons (ps_for (passes_of rfl) rfl (pi_range1 rfl T.b_range (pa_cons (pe_fld (pv 0) rfl) pa_nil)) (pg_name (i := 2) sc_Board_pulls.nd rfl (Or.inl rfl)) (pss_one (ps_if (pt_xLt (pe_xIdx (pe_fld (pv 0) rfl) (pv 2)) (pe_fld (pv 0) rfl)) (pss_one (ps_asg (pe_xIdx (pe_xIdx (pe_fld (pv 0) rfl) (pv 2)) (pe_xNeg pe_int)) (pg_sub (pv 1) (pe_xIdx (pe_fld (pv 0) rfl) (pv 2)) set_list))) pss_nil)))
    (pss_one (ps_ret (pv 1)))))) (p_Board_pulls BT hN)
theorem ok_other_than_nought (T : Bt mg) (gNOUGHT : mg "NOUGHT" = some (.ref pNOUGHT)) (hN : IsN K pNOUGHT) (F : FnAt K mg "other_than_nought" "other_than_nought" (topS 25) ["row"]) : Okf P w K mg base "other_than_nought" ["row"] 1 (sp_other_than_nought K C) :=
  Okf.mk F sc_other_than_nought (lenD fun ds d h => by (repeat (obtain ⟨_, h⟩ := h)); subst_vars; rfl) (fun E => t_other_than_nought K C pNOUGHT) (fun f cdv A outer s H E hr => (pss_cons (ps_for (passes_of rfl) rfl (pi_range1 rfl T.b_range (pa_cons (pe_xLen T.b_len (pv 0)) pa_nil)) (pg_name (i := 1) sc_other_than_nought.nd rfl (Or.inl rfl)) (pss_one (ps_if (pt_xNe hr (pe_xIdx (pv 0) (pv 1)) (pe_glob rfl gNOUGHT rfl)) (pss_one (ps_ret (pv 1))) pss_nil)))
    (pss_one (ps_ret pe_non)))) (p_other_than_nought hN)
theorem ok_law_cell_at (T : Bt mg) (F : FnAt K mg "_law_cell_at" "_law_cell_at" (topS 32) ["script", "k"]) : Okf P w K mg base "_law_cell_at" ["script", "k"] 1 (sp_law_cell_at K C) :=
  Okf.mk F sc_law_cell_at (lenD fun ds d h => by (repeat (obtain ⟨_, h⟩ := h)); subst_vars; rfl) (fun E => t_law_cell_at K C) (fun f cdv A outer s H E hr => (pss_cons (ps_if (pt_xLt (pv 1) (pe_xLen T.b_len (pv 0))) (pss_one (ps_ret (pe_xIdx (pv 0) (pv 1)))) pss_nil)
    (pss_one (ps_ret pe_int)))) p_law_cell_at
theorem ok_law_whole (T : Bt mg) (F : FnAt K mg "_law_whole" "_law_whole" (topS 33) ["found"]) : Okf P w K mg base "_law_whole" ["found"] 1 (sp_law_whole K C) :=
  Okf.mk F sc_law_whole (lenD fun ds d h => by (repeat (obtain ⟨_, h⟩ := h)); subst_vars; rfl) (fun E => t_law_whole K C) (fun f cdv A outer s H E hr => (pss_one (ps_ret (pe_and (pe_xIsi T.b_isinstance T.b_int (by decide +kernel) (pv 0)) (pe_one (pe_not (pe_xIsi T.b_isinstance T.b_bool (by decide +kernel) (pv 0)))))))) p_law_whole
theorem ok_law_low (T : Bt mg) (F : FnAt K mg "_law_low" "_law_low" (topS 34) ["top", "bottom"]) : Okf P w K mg base "_law_low" ["top", "bottom"] 1 (sp_law_low K C) :=
  Okf.mk F sc_law_low (lenD fun ds d h => by (repeat (obtain ⟨_, h⟩ := h)); subst_vars; rfl) (fun E => t_law_low K C) (fun f cdv A outer s H E hr => (pss_cons (ps_set (i := 2) sc_law_low.nd rfl (Or.inl rfl) (pe_xAbs T.b_abs (pv 0)))
    (pss_cons (ps_set (i := 3) sc_law_low.nd rfl (Or.inl rfl) (pv 1))
    (pss_cons (ps_while (passes_of rfl) (pt_xGt (pv 3) pe_int) (pss_cons (ps_set (i := 4) sc_law_low.nd rfl (Or.inl rfl) (pe_xMod (pv 2) (pv 3)))
    (pss_cons (ps_set (i := 2) sc_law_low.nd rfl (Or.inl rfl) (pv 3))
    (pss_one (ps_set (i := 3) sc_law_low.nd rfl (Or.inl rfl) (pv 4))))))
    (pss_one (ps_ret (pe_tup (pa_cons (pe_xDiv (pv 0) (pv 2)) (pa_cons (pe_xDiv (pv 1) (pv 2)) pa_nil))))))))) p_law_low
theorem ok_law_ropes (T : Bt mg) (F : FnAt K mg "_law_ropes" "_law_ropes" (topS 38) ["table", "cell"]) : Okf P w K mg base "_law_ropes" ["table", "cell"] 1 (sp_law_ropes K C) :=
  Okf.mk F sc_law_ropes (lenL fun ds d h => by (repeat (obtain ⟨_, h⟩ := h)); subst_vars; rfl) (fun E => t_law_ropes K C) (fun f cdv A outer s H E hr => (pss_cons (ps_set (i := 2) sc_law_ropes.nd rfl (Or.inl rfl) (pe_lst pa_nil))
    (pss_cons (ps_for (passes_of rfl) rfl (pi_list (pv 0)) (pg_name (i := 3) sc_law_ropes.nd rfl (Or.inl rfl)) (pss_cons (ps_set (i := 4) sc_law_ropes.nd rfl (Or.inl rfl) (pe_lst pa_nil))
    (pss_cons (ps_for (passes_of rfl) rfl (pi_range1 rfl T.b_range (pa_cons (pe_xLen T.b_len (pv 3)) pa_nil)) (pg_name (i := 5) sc_law_ropes.nd rfl (Or.inl rfl)) (pss_one (ps_if (pt_xNe hr (pe_xIdx (pv 3) (pv 5)) pe_int) (pss_one (ps_expr (pe_bm PySem.F.plainAttrs_list PySem.F.slot_list_append PySem.F.type_list_append mt_append (pv 4) (pa_cons (pe_tup (pa_cons (pv 5) (pa_cons (pe_xIdx (pv 3) (pv 5)) pa_nil))) pa_nil)))) pss_nil)))
    (pss_cons (ps_if (pt_xEq hr (pe_xMod (pv 1) pe_int) pe_int) (pss_one (ps_expr (pe_bm0 PySem.F.plainAttrs_list PySem.F.slot_list_reverse PySem.F.type_list_reverse mt_reverse (pv 4)))) pss_nil)
    (pss_cons (ps_if (pt_xEq hr (pe_xMod (pv 1) pe_int) pe_int) (pss_one (ps_set (i := 4) sc_law_ropes.nd rfl (Or.inl rfl) (pe_xCat (pe_xCat (pe_lst (pa_cons (pe_tup (pa_cons (pe_xSub (pe_xLen T.b_len (pv 3)) pe_int) (pa_cons pe_int pa_nil))) (pa_cons (pe_tup (pa_cons pe_int (pa_cons pe_int pa_nil))) pa_nil))) (pv 4)) (pe_lst (pa_cons (pe_tup (pa_cons pe_int (pa_cons (pe_xNeg pe_int) pa_nil))) pa_nil))))) pss_nil)
    (pss_one (ps_expr (pe_bm PySem.F.plainAttrs_list PySem.F.slot_list_append PySem.F.type_list_append mt_append (pv 2) (pa_cons (pv 4) pa_nil)))))))))
    (pss_one (ps_ret (pv 2)))))) p_law_ropes
theorem ok_Hoist_init (T : Bt mg) (HT : HoT K C) (O_see_pairs : Okf P w K mg base "see_pairs" ["pairs", "bodies"] 1 (sp_see_pairs K C)) (O_summed : Okf P w K mg base "summed" ["pairs", "body"] 1 (sp_summed_hoist K C)) (F : InitAt K C "Hoist.__init__" (inClass (topS 12) 0) ["self", "weights", "ropes"]) : OkI P w K mg base C ["self", "weights", "ropes"] 2 (sp_Hoist_init K C) :=
  OkI.mk F sc_Hoist_init (lenMk fun ds ws tb h => by (repeat (obtain ⟨_, h⟩ := h)); subst_vars; rfl) (fun E => t_Hoist_init K C) (fun f cdv A outer s H E hr => (pss_cons (ps_if (PW.pt (pw_or (pt_not (pt_xLeLe pe_int (pe_xLen T.b_len (pv 1)) pe_int)) (pw_or1 (pt_xGt (pe_xLen T.b_len (pv 2)) pe_int)))) (pss_one ps_never) pss_nil)
    (pss_cons (ps_for (passes_of rfl) rfl (pi_list (pv 1)) (pg_name (i := 3) sc_Hoist_init.nd rfl (Or.inl rfl)) (pss_one (ps_if (pt_not (pt_xLeLe pe_int (pv 3) pe_int)) (pss_one ps_never) pss_nil)))
    (pss_cons (ps_for (passes_of rfl) rfl (pi_list (pv 2)) (pg_name (i := 4) sc_Hoist_init.nd rfl (Or.inl rfl)) (pss_one (ps_expr (pe_callO O_see_pairs (hr.mono (by decide)) (pa_cons (pv 4) (pa_cons (pe_xLen T.b_len (pv 1)) pa_nil))))))
    (pss_cons (ps_fld (pv 0) (pe_x_list T.b_list (pv 1)) rfl)
    (pss_cons (ps_fld (pv 0) (pe_lc (own := [("pairs", 4)]) (g := gName 4) rfl sc_Hoist_init.nd (pi_list (pv 2)) (blkOk_by (N := ["self", "weights", "ropes", "weight", "pairs", "body", "row"]) (sc := defScope (inClass (topS 12) 0)) (by decide +kernel)) (fun _ _ _ _ _ => pg_name (i := 4) sc_Hoist_init.nd rfl (Or.inr rfl)) (fun _ _ _ _ _ => pts_nil) (fun _ _ _ _ _ => (pe_lc (own := [("body", 5)]) (g := gName 5) rfl sc_Hoist_init.nd (pi_range1 rfl T.b_range (pa_cons (pe_xLen T.b_len (pv 1)) pa_nil)) (blkOk_by (N := ["self", "weights", "ropes", "weight", "pairs", "body", "row"]) (sc := ({ kind := .function, names := [(".0", .local), ("pairs", .cell), ("range", .globalImplicit), ("len", .globalImplicit), ("weights", .cell)], isGenerator := false, isCoroutine := false } : Scope)) (by decide +kernel)) (fun _ _ _ _ _ => pg_name (i := 5) sc_Hoist_init.nd rfl (Or.inl rfl)) (fun _ _ _ _ _ => pts_nil) (fun _ _ _ _ _ => (pe_callO O_summed (hr.mono (by decide)) (pa_cons (pv 4) (pa_cons (pv 5) pa_nil))))))) rfl)
    (pss_one (ps_for (passes_of rfl) rfl (pi_list (pe_fld (pv 0) rfl)) (pg_name (i := 6) sc_Hoist_init.nd rfl (Or.inl rfl)) (pss_one (ps_if (PW.pt (pw_or (pt_xLt (pe_x_min T.b_min (pv 6)) (pe_xNeg pe_int)) (pw_or1 (pt_xGt (pe_x_max T.b_max (pv 6)) pe_int)))) (pss_one ps_never) pss_nil)))))))))) (p_Hoist_init HT)
theorem ok_fraction (T : Bt mg) (O_common : Okf P w K mg base "common" ["one", "other"] 1 (sp_common K C)) (F : FnAt K mg "fraction" "fraction" (topS 17) ["top", "bottom"]) : Okf P w K mg base "fraction" ["top", "bottom"] 2 (sp_fraction K C) :=
  Okf.mk F sc_fraction (lenD fun ds d h => by (repeat (obtain ⟨_, h⟩ := h)); subst_vars; rfl) (fun E => t_fraction K C) (fun f cdv A outer s H E hr => (pss_cons (ps_if (pt_xLt (pv 1) pe_int) (pss_cons (ps_set (i := 0) sc_fraction.nd rfl (Or.inl rfl) (pe_xSub pe_int (pv 0)))
    (pss_one (ps_set (i := 1) sc_fraction.nd rfl (Or.inl rfl) (pe_xSub pe_int (pv 1))))) pss_nil)
    (pss_cons (ps_set (i := 2) sc_fraction.nd rfl (Or.inl rfl) (pe_callO O_common (hr.mono (by decide)) (pa_cons (pe_xAbs T.b_abs (pv 0)) (pa_cons (pv 1) pa_nil))))
    (pss_one (ps_ret (pe_tup (pa_cons (pe_xDiv (pv 0) (pv 2)) (pa_cons (pe_xDiv (pv 1) (pv 2)) pa_nil)))))))) p_fraction
theorem ok_below (T : Bt mg) (gNOUGHT : mg "NOUGHT" = some (.ref pNOUGHT)) (hN : IsN K pNOUGHT) (O_less : Okf P w K mg base "less" ["one", "other"] 1 (sp_less K C)) (F : FnAt K mg "below" "below" (topS 24) ["row"]) : Okf P w K mg base "below" ["row"] 2 (sp_below K C) :=
  Okf.mk F sc_below (lenD fun ds d h => by (repeat (obtain ⟨_, h⟩ := h)); subst_vars; rfl) (fun E => t_below K C pNOUGHT) (fun f cdv A outer s H E hr => (pss_cons (ps_for (passes_of rfl) rfl (pi_range1 rfl T.b_range (pa_cons (pe_xLen T.b_len (pv 0)) pa_nil)) (pg_name (i := 1) sc_below.nd rfl (Or.inl rfl)) (pss_one (ps_if (pt_val (pe_callO O_less (hr.mono (by decide)) (pa_cons (pe_xIdx (pv 0) (pv 1)) (pa_cons (pe_glob rfl gNOUGHT rfl) pa_nil)))) (pss_one (ps_ret (pv 1))) pss_nil)))
    (pss_one (ps_ret pe_non)))) (p_below hN)
theorem ok_law_plus (T : Bt mg) (O_law_low : Okf P w K mg base "_law_low" ["top", "bottom"] 1 (sp_law_low K C)) (F : FnAt K mg "_law_plus" "_law_plus" (topS 35) ["one", "other"]) : Okf P w K mg base "_law_plus" ["one", "other"] 2 (sp_law_plus K C) :=
  Okf.mk F sc_law_plus (lenD fun ds d h => by (repeat (obtain ⟨_, h⟩ := h)); subst_vars; rfl) (fun E => t_law_plus K C) (fun f cdv A outer s H E hr => (pss_one (ps_ret (pe_callO O_law_low (hr.mono (by decide)) (pa_cons (pe_xAdd (pe_xMul (pe_xIdx (pv 0) pe_int) (pe_xIdx (pv 1) pe_int)) (pe_xMul (pe_xIdx (pv 1) pe_int) (pe_xIdx (pv 0) pe_int))) (pa_cons (pe_xMul (pe_xIdx (pv 0) pe_int) (pe_xIdx (pv 1) pe_int)) pa_nil)))))) p_law_plus
theorem ok_law_part (T : Bt mg) (O_law_whole : Okf P w K mg base "_law_whole" ["found"] 1 (sp_law_whole K C)) (O_law_low : Okf P w K mg base "_law_low" ["top", "bottom"] 1 (sp_law_low K C)) (F : FnAt K mg "_law_part" "_law_part" (topS 36) ["found"]) : Okf P w K mg base "_law_part" ["found"] 2 (sp_law_part K C) :=
  Okf.mk F sc_law_part (lenD fun ds d h => by (repeat (obtain ⟨_, h⟩ := h)); subst_vars; rfl) (fun E => t_law_part K C) (fun f cdv A outer s H E hr => (pss_cons (ps_if (PW.pt (pw_or (pt_not (pt_val (pe_xIsi T.b_isinstance T.b_tuple (by decide +kernel) (pv 0)))) (pw_or (pt_xNe hr (pe_xLen T.b_len (pv 0)) pe_int) (pw_or (pt_not (pt_val (pe_callO O_law_whole (hr.mono (by decide)) (pa_cons (pe_xIdx (pv 0) pe_int) pa_nil)))) (pw_or1 (pt_not (pt_val (pe_callO O_law_whole (hr.mono (by decide)) (pa_cons (pe_xIdx (pv 0) pe_int) pa_nil))))))))) (pss_one (ps_ret pe_bl)) pss_nil)
    (pss_one (ps_ret (pe_and (pe_xGt (pe_xIdx (pv 0) pe_int) pe_int) (pe_one (pe_xEq hr (pe_callO O_law_low (hr.mono (by decide)) (pa_cons (pe_xIdx (pv 0) pe_int) (pa_cons (pe_xIdx (pv 0) pe_int) pa_nil))) (pv 0)))))))) p_law_part
theorem ok_law_table (T : Bt mg) (O_law_cell_at : Okf P w K mg base "_law_cell_at" ["script", "k"] 1 (sp_law_cell_at K C)) (F : FnAt K mg "_law_table" "_law_table" (topS 37) ["script", "first", "ropes", "bodies"]) : Okf P w K mg base "_law_table" ["script", "first", "ropes", "bodies"] 2 (sp_law_table K C) :=
  Okf.mk F sc_law_table (lenL fun ds d h => by (repeat (obtain ⟨_, h⟩ := h)); subst_vars; rfl) (fun E => t_law_table K C) (fun f cdv A outer s H E hr => (pss_cons (ps_set (i := 4) sc_law_table.nd rfl (Or.inl rfl) (pe_lst pa_nil))
    (pss_cons (ps_for (passes_of rfl) rfl (pi_range1 rfl T.b_range (pa_cons (pv 2) pa_nil)) (pg_name (i := 5) sc_law_table.nd rfl (Or.inl rfl)) (pss_cons (ps_set (i := 6) sc_law_table.nd rfl (Or.inl rfl) (pe_callO O_law_cell_at (hr.mono (by decide)) (pa_cons (pv 0) (pa_cons (pe_xAdd (pv 1) (pv 5)) pa_nil))))
    (pss_cons (ps_set (i := 7) sc_law_table.nd rfl (Or.inl rfl) (pe_lst pa_nil))
    (pss_cons (ps_for (passes_of rfl) rfl (pi_range1 rfl T.b_range (pa_cons (pv 3) pa_nil)) (pg_name (i := 8) sc_law_table.nd rfl (Or.inl rfl)) (pss_cons (ps_expr (pe_bm PySem.F.plainAttrs_list PySem.F.slot_list_append PySem.F.type_list_append mt_append (pv 7) (pa_cons (pe_xIdx (pe_lst (pa_cons pe_int (pa_cons pe_int (pa_cons pe_int (pa_cons pe_int (pa_cons pe_int (pa_cons (pe_xNeg pe_int) (pa_cons pe_int (pa_cons pe_int (pa_cons (pe_xNeg pe_int) (pa_cons pe_int (pa_cons pe_int (pa_cons pe_int (pa_cons pe_int (pa_cons (pe_xNeg pe_int) (pa_cons pe_int (pa_cons (pe_xNeg pe_int) pa_nil))))))))))))))))) (pe_xMod (pv 6) pe_int)) pa_nil)))
    (pss_one (ps_set (i := 6) sc_law_table.nd rfl (Or.inl rfl) (pe_xDiv (pv 6) pe_int)))))
    (pss_one (ps_expr (pe_bm PySem.F.plainAttrs_list PySem.F.slot_list_append PySem.F.type_list_append mt_append (pv 4) (pa_cons (pv 7) pa_nil))))))))
    (pss_one (ps_ret (pv 4)))))) p_law_table
theorem ok_minus (T : Bt mg) (O_fraction : Okf P w K mg base "fraction" ["top", "bottom"] 2 (sp_fraction K C)) (F : FnAt K mg "minus" "minus" (topS 18) ["one", "other"]) : Okf P w K mg base "minus" ["one", "other"] 3 (sp_minus K C) :=
  Okf.mk F sc_minus (lenD fun ds d h => by (repeat (obtain ⟨_, h⟩ := h)); subst_vars; rfl) (fun E => t_minus K C) (fun f cdv A outer s H E hr => (pss_one (ps_ret (pe_callO O_fraction (hr.mono (by decide)) (pa_cons (pe_xSub (pe_xMul (pe_xIdx (pv 0) pe_int) (pe_xIdx (pv 1) pe_int)) (pe_xMul (pe_xIdx (pv 1) pe_int) (pe_xIdx (pv 0) pe_int))) (pa_cons (pe_xMul (pe_xIdx (pv 0) pe_int) (pe_xIdx (pv 1) pe_int)) pa_nil)))))) p_minus
theorem ok_times (T : Bt mg) (O_fraction : Okf P w K mg base "fraction" ["top", "bottom"] 2 (sp_fraction K C)) (F : FnAt K mg "times" "times" (topS 19) ["one", "other"]) : Okf P w K mg base "times" ["one", "other"] 3 (sp_times K C) :=
  Okf.mk F sc_times (lenD fun ds d h => by (repeat (obtain ⟨_, h⟩ := h)); subst_vars; rfl) (fun E => t_times K C) (fun f cdv A outer s H E hr => (pss_one (ps_ret (pe_callO O_fraction (hr.mono (by decide)) (pa_cons (pe_xMul (pe_xIdx (pv 0) pe_int) (pe_xIdx (pv 1) pe_int)) (pa_cons (pe_xMul (pe_xIdx (pv 0) pe_int) (pe_xIdx (pv 1) pe_int)) pa_nil)))))) p_times
theorem ok_over (T : Bt mg) (O_fraction : Okf P w K mg base "fraction" ["top", "bottom"] 2 (sp_fraction K C)) (F : FnAt K mg "over" "over" (topS 20) ["one", "other"]) : Okf P w K mg base "over" ["one", "other"] 3 (sp_over K C) :=
  Okf.mk F sc_over (lenD fun ds d h => by (repeat (obtain ⟨_, h⟩ := h)); subst_vars; rfl) (fun E => t_over K C) (fun f cdv A outer s H E hr => (pss_one (ps_ret (pe_callO O_fraction (hr.mono (by decide)) (pa_cons (pe_xMul (pe_xIdx (pv 0) pe_int) (pe_xIdx (pv 1) pe_int)) (pa_cons (pe_xMul (pe_xIdx (pv 0) pe_int) (pe_xIdx (pv 1) pe_int)) pa_nil)))))) p_over
theorem ok_law_sum (T : Bt mg) (O_law_plus : Okf P w K mg base "_law_plus" ["one", "other"] 2 (sp_law_plus K C)) (F : FnAt K mg "_law_sum" "_law_sum" (topS 39) ["table", "pulls", "body"]) : Okf P w K mg base "_law_sum" ["table", "pulls", "body"] 3 (sp_law_sum K C) :=
  Okf.mk F sc_law_sum (lenD fun ds d h => by (repeat (obtain ⟨_, h⟩ := h)); subst_vars; rfl) (fun E => t_law_sum K C) (fun f cdv A outer s H E hr => (pss_cons (ps_set (i := 3) sc_law_sum.nd rfl (Or.inl rfl) (pe_tup (pa_cons pe_int (pa_cons pe_int pa_nil))))
    (pss_cons (ps_for (passes_of rfl) rfl (pi_range1 rfl T.b_range (pa_cons (pe_xLen T.b_len (pv 0)) pa_nil)) (pg_name (i := 4) sc_law_sum.nd rfl (Or.inl rfl)) (pss_one (ps_set (i := 3) sc_law_sum.nd rfl (Or.inl rfl) (pe_callO O_law_plus (hr.mono (by decide)) (pa_cons (pv 3) (pa_cons (pe_tup (pa_cons (pe_xMul (pe_xIdx (pe_xIdx (pv 1) (pv 4)) pe_int) (pe_xIdx (pe_xIdx (pv 0) (pv 4)) (pv 2))) (pa_cons (pe_xIdx (pe_xIdx (pv 1) (pv 4)) pe_int) pa_nil))) pa_nil))))))
    (pss_one (ps_ret (pv 3)))))) p_law_sum
theorem ok_law_spare (T : Bt mg) (O_law_plus : Okf P w K mg base "_law_plus" ["one", "other"] 2 (sp_law_plus K C)) (F : FnAt K mg "_law_spare" "_law_spare" (topS 40) ["row", "motion"]) : Okf P w K mg base "_law_spare" ["row", "motion"] 3 (sp_law_spare K C) :=
  Okf.mk F sc_law_spare (lenD fun ds d h => by (repeat (obtain ⟨_, h⟩ := h)); subst_vars; rfl) (fun E => t_law_spare K C) (fun f cdv A outer s H E hr => (pss_cons (ps_set (i := 2) sc_law_spare.nd rfl (Or.inl rfl) (pe_tup (pa_cons pe_int (pa_cons pe_int pa_nil))))
    (pss_cons (ps_for (passes_of rfl) rfl (pi_range1 rfl T.b_range (pa_cons (pe_xLen T.b_len (pv 0)) pa_nil)) (pg_name (i := 3) sc_law_spare.nd rfl (Or.inl rfl)) (pss_one (ps_set (i := 2) sc_law_spare.nd rfl (Or.inl rfl) (pe_callO O_law_plus (hr.mono (by decide)) (pa_cons (pv 2) (pa_cons (pe_tup (pa_cons (pe_xMul (pe_xIdx (pv 0) (pv 3)) (pe_xIdx (pe_xIdx (pv 1) (pv 3)) pe_int)) (pa_cons (pe_xIdx (pe_xIdx (pv 1) (pv 3)) pe_int) pa_nil))) pa_nil))))))
    (pss_one (ps_ret (pv 2)))))) p_law_spare
theorem ok_law_parts (T : Bt mg) (O_law_part : Okf P w K mg base "_law_part" ["found"] 2 (sp_law_part K C)) (F : FnAt K mg "_law_parts" "_law_parts" (topS 42) ["found", "many"]) : Okf P w K mg base "_law_parts" ["found", "many"] 3 (sp_law_parts K C) :=
  Okf.mk F sc_law_parts (lenD fun ds d h => by (repeat (obtain ⟨_, h⟩ := h)); subst_vars; rfl) (fun E => t_law_parts K C) (fun f cdv A outer s H E hr => (pss_cons (ps_if (PW.pt (pw_or (pt_not (pt_val (pe_xIsi T.b_isinstance T.b_list (by decide +kernel) (pv 0)))) (pw_or1 (pt_xNe hr (pe_xLen T.b_len (pv 0)) (pv 1))))) (pss_one (ps_ret pe_bl)) pss_nil)
    (pss_cons (ps_for (passes_of rfl) rfl (pi_list (pv 0)) (pg_name (i := 2) sc_law_parts.nd rfl (Or.inl rfl)) (pss_one (ps_if (pt_not (pt_val (pe_callO O_law_part (hr.mono (by decide)) (pa_cons (pv 2) pa_nil)))) (pss_one (ps_ret pe_bl)) pss_nil)))
    (pss_one (ps_ret pe_bl))))) p_law_parts
theorem ok_law_drawn (T : Bt mg) (O_law_table : Okf P w K mg base "_law_table" ["script", "first", "ropes", "bodies"] 2 (sp_law_table K C)) (O_law_cell_at : Okf P w K mg base "_law_cell_at" ["script", "k"] 1 (sp_law_cell_at K C)) (F : FnAt K mg "_law_drawn" "_law_drawn" (topS 43) ["script"]) : Okf P w K mg base "_law_drawn" ["script"] 3 (sp_law_drawn K C) :=
  Okf.mk F sc_law_drawn (lenD fun ds d h => by (repeat (obtain ⟨_, h⟩ := h)); subst_vars; rfl) (fun E => t_law_drawn K C) (fun f cdv A outer s H E hr => (pss_cons (ps_set (i := 1) sc_law_drawn.nd rfl (Or.inl rfl) (pe_xAdd pe_int (pe_xMod (pe_callO O_law_cell_at (hr.mono (by decide)) (pa_cons (pv 0) (pa_cons pe_int pa_nil))) pe_int)))
    (pss_cons (ps_set (i := 2) sc_law_drawn.nd rfl (Or.inl rfl) (pe_xMod (pe_xDiv (pe_callO O_law_cell_at (hr.mono (by decide)) (pa_cons (pv 0) (pa_cons pe_int pa_nil))) pe_int) pe_int))
    (pss_cons (ps_set (i := 3) sc_law_drawn.nd rfl (Or.inr rfl) (pe_callO O_law_table (hr.mono (by decide)) (pa_cons (pv 0) (pa_cons pe_int (pa_cons (pv 2) (pa_cons (pv 1) pa_nil))))))
    (pss_cons (ps_set (i := 4) sc_law_drawn.nd rfl (Or.inl rfl) (pe_lst pa_nil))
    (pss_cons (ps_for (passes_of rfl) rfl (pi_range1 rfl T.b_range (pa_cons (pv 1) pa_nil)) (pg_name (i := 5) sc_law_drawn.nd rfl (Or.inr rfl)) (pss_cons (ps_set (i := 6) sc_law_drawn.nd rfl (Or.inl rfl) (pe_callO O_law_cell_at (hr.mono (by decide)) (pa_cons (pv 0) (pa_cons (pe_xAdd pe_int (pv 5)) pa_nil))))
    (pss_one (ps_expr (pe_bm PySem.F.plainAttrs_list PySem.F.slot_list_append PySem.F.type_list_append mt_append (pv 4) (pa_cons (pe_xMod (pe_xDiv (pv 6) pe_int) (pe_xIdx (pe_lst (pa_cons pe_int (pa_cons pe_int (pa_cons pe_int (pa_cons pe_int (pa_cons pe_int pa_nil)))))) (pe_xMod (pv 6) pe_int))) pa_nil))))))
    (pss_cons (ps_if (pt_xGt (pe_xMod (pe_callO O_law_cell_at (hr.mono (by decide)) (pa_cons (pv 0) (pa_cons pe_int pa_nil))) pe_int) pe_int) (pss_cons (ps_set (i := 7) sc_law_drawn.nd rfl (Or.inl rfl) (pe_lst pa_nil))
    (pss_cons (ps_for (passes_of rfl) rfl (pi_range1 rfl T.b_range (pa_cons (pv 1) pa_nil)) (pg_name (i := 5) sc_law_drawn.nd rfl (Or.inr rfl)) (pss_one (ps_expr (pe_bm PySem.F.plainAttrs_list PySem.F.slot_list_append PySem.F.type_list_append mt_append (pv 7) (pa_cons (pe_x_sum T.b_sum (pe_lc (own := [("r", 8)]) (g := gName 8) rfl sc_law_drawn.nd (pi_range1 rfl T.b_range (pa_cons (pv 2) pa_nil)) (blkOk_by (N := ["script", "bodies", "ropes", "table", "weights", "body", "cell", "made", "r"]) (sc := defScope (topS 43)) (by decide +kernel)) (fun _ _ _ _ _ => pg_name (i := 8) sc_law_drawn.nd rfl (Or.inl rfl)) (fun _ _ _ _ _ => pts_nil) (fun _ _ _ _ _ => (pe_xMul (pe_xIdx (pe_xIdx (pv 3) (pv 8)) (pv 5)) (pe_xMod (pe_xDiv (pe_callO O_law_cell_at (hr.mono (by decide)) (pa_cons (pv 0) (pa_cons (pe_xAdd pe_int (pv 8)) pa_nil))) pe_int) pe_int))))) pa_nil)))))
    (pss_one (ps_if (PW.pt (pw_and (pt_xGe (pe_x_min T.b_min (pv 7)) pe_int) (pw_and1 (pt_xLe (pe_x_max T.b_max (pv 7)) pe_int)))) (pss_one (ps_set (i := 4) sc_law_drawn.nd rfl (Or.inl rfl) (pv 7))) pss_nil)))) pss_nil)
    (pss_one (ps_ret (pe_tup (pa_cons (pv 4) (pa_cons (pv 3) pa_nil)))))))))))) p_law_drawn
theorem ok_Board_leaving (T : Bt mg) (gNOUGHT : mg "NOUGHT" = some (.ref pNOUGHT)) (BT : BoT K B) (hN : IsN K pNOUGHT) (O_less : Okf P w K mg base "less" ["one", "other"] 1 (sp_less K C)) (O_over : Okf P w K mg base "over" ["one", "other"] 3 (sp_over K C)) (F : MethAt K B "leaving" "Board.leaving" (inClass (topS 23) 3) ["self", "column"]) : OkM P w K mg base B "leaving" ["self", "column"] 4 (sp_Board_leaving K C B) :=
  OkM.mk F sc_Board_leaving (lenRd fun fs ds d h => by (repeat (obtain ⟨_, h⟩ := h)); subst_vars; rfl) (fun E => t_Board_leaving K C pNOUGHT) (fun f cdv A outer s H E hr => (pss_cons (ps_set (i := 2) sc_Board_leaving.nd rfl (Or.inl rfl) pe_non)
    (pss_cons (ps_for (passes_of rfl) rfl (pi_range1 rfl T.b_range (pa_cons (pe_fld (pv 0) rfl) pa_nil)) (pg_name (i := 3) sc_Board_leaving.nd rfl (Or.inl rfl)) (pss_one (ps_if (pt_val (pe_callO O_less (hr.mono (by decide)) (pa_cons (pe_glob rfl gNOUGHT rfl) (pa_cons (pe_xIdx (pe_xIdx (pe_fld (pv 0) rfl) (pv 3)) (pv 1)) pa_nil)))) (pss_cons (ps_set (i := 4) sc_Board_leaving.nd rfl (Or.inl rfl) (pe_callO O_over (hr.mono (by decide)) (pa_cons (pe_xIdx (pe_xIdx (pe_fld (pv 0) rfl) (pv 3)) (pe_xNeg pe_int)) (pa_cons (pe_xIdx (pe_xIdx (pe_fld (pv 0) rfl) (pv 3)) (pv 1)) pa_nil))))
    (pss_one (ps_if (PW.pt (pw_or (pt_xIsN (pv 2)) (pw_or (pt_val (pe_callO O_less (hr.mono (by decide)) (pa_cons (pv 4) (pa_cons (pe_xIdx (pv 2) pe_int) pa_nil)))) (pw_or1 (PW.pt (pw_and (pt_xEq hr (pv 4) (pe_xIdx (pv 2) pe_int)) (pw_and1 (pt_xLt (pe_xIdx (pe_fld (pv 0) rfl) (pv 3)) (pe_xIdx (pe_fld (pv 0) rfl) (pe_xIdx (pv 2) pe_int)))))))))) (pss_one (ps_set (i := 2) sc_Board_leaving.nd rfl (Or.inl rfl) (pe_tup (pa_cons (pv 4) (pa_cons (pv 3) pa_nil))))) pss_nil))) pss_nil)))
    (pss_one (ps_ret (pe_xIdx (pv 2) pe_int)))))) (p_Board_leaving BT hN)
theorem ok_Board_worths (T : Bt mg) (BT : BoT K B) (O_minus : Okf P w K mg base "minus" ["one", "other"] 3 (sp_minus K C)) (F : MethAt K B "worths" "Board.worths" (inClass (topS 23) 7) ["self", "cost"]) : OkM P w K mg base B "worths" ["self", "cost"] 4 (sp_Board_worths K C B) :=
  OkM.mk F sc_Board_worths (lenRdL fun fs ds xs h => by (repeat (obtain ⟨_, h⟩ := h)); subst_vars; rfl) (fun E => t_Board_worths K C) (fun f cdv A outer s H E hr => (pss_one (ps_ret (pe_lc (own := [("body", 2)]) (g := gName 2) rfl sc_Board_worths.nd (pi_range1 rfl T.b_range (pa_cons (pe_fld (pv 0) rfl) pa_nil)) (blkOk_by (N := ["self", "cost", "body"]) (sc := defScope (inClass (topS 23) 7)) (by decide +kernel)) (fun _ _ _ _ _ => pg_name (i := 2) sc_Board_worths.nd rfl (Or.inl rfl)) (fun _ _ _ _ _ => pts_nil) (fun _ _ _ _ _ => (pe_callO O_minus (hr.mono (by decide)) (pa_cons (pv 1) (pa_cons (pe_xIdx (pe_fld (pv 0) rfl) (pe_xAdd (pe_fld (pv 0) rfl) (pv 2))) pa_nil)))))))) (p_Board_worths BT)
theorem ok_taken (T : Bt mg) (O_minus : Okf P w K mg base "minus" ["one", "other"] 3 (sp_minus K C)) (O_times : Okf P w K mg base "times" ["one", "other"] 3 (sp_times K C)) (F : FnAt K mg "taken" "taken" (topS 26) ["row", "base", "factor"]) : Okf P w K mg base "taken" ["row", "base", "factor"] 4 (sp_taken K C) :=
  Okf.mk F sc_taken (lenL fun ds d h => by (repeat (obtain ⟨_, h⟩ := h)); subst_vars; rfl) (fun E => t_taken K C) (fun f cdv A outer s H E hr => (pss_one (ps_ret (pe_lc (own := [("k", 3)]) (g := gName 3) rfl sc_taken.nd (pi_range1 rfl T.b_range (pa_cons (pe_xLen T.b_len (pv 0)) pa_nil)) (blkOk_by (N := ["row", "base", "factor", "k"]) (sc := defScope (topS 26)) (by decide +kernel)) (fun _ _ _ _ _ => pg_name (i := 3) sc_taken.nd rfl (Or.inl rfl)) (fun _ _ _ _ _ => pts_nil) (fun _ _ _ _ _ => (pe_callO O_minus (hr.mono (by decide)) (pa_cons (pe_xIdx (pv 0) (pv 3)) (pa_cons (pe_callO O_times (hr.mono (by decide)) (pa_cons (pe_xIdx (pv 1) (pv 3)) (pa_cons (pv 2) pa_nil))) pa_nil)))))))) p_taken
theorem ok_turned_about (T : Bt mg) (gNOUGHT : mg "NOUGHT" = some (.ref pNOUGHT)) (hN : IsN K pNOUGHT) (O_minus : Okf P w K mg base "minus" ["one", "other"] 3 (sp_minus K C)) (F : FnAt K mg "turned_about" "turned_about" (topS 27) ["row"]) : Okf P w K mg base "turned_about" ["row"] 4 (sp_turned_about K C) :=
  Okf.mk F sc_turned_about (lenL fun ds d h => by (repeat (obtain ⟨_, h⟩ := h)); subst_vars; rfl) (fun E => t_turned_about K C pNOUGHT) (fun f cdv A outer s H E hr => (pss_one (ps_ret (pe_lc (own := [("part", 1)]) (g := gName 1) rfl sc_turned_about.nd (pi_list (pv 0)) (blkOk_by (N := ["row", "part"]) (sc := defScope (topS 27)) (by decide +kernel)) (fun _ _ _ _ _ => pg_name (i := 1) sc_turned_about.nd rfl (Or.inl rfl)) (fun _ _ _ _ _ => pts_nil) (fun _ _ _ _ _ => (pe_callO O_minus (hr.mono (by decide)) (pa_cons (pe_glob rfl gNOUGHT rfl) (pa_cons (pv 1) pa_nil)))))))) (p_turned_about hN)
theorem ok_law_held (T : Bt mg) (O_law_sum : Okf P w K mg base "_law_sum" ["table", "pulls", "body"] 3 (sp_law_sum K C)) (F : FnAt K mg "_law_held" "_law_held" (topS 41) ["weights", "table", "pulls"]) : Okf P w K mg base "_law_held" ["weights", "table", "pulls"] 4 (sp_law_held K C) :=
  Okf.mk F sc_law_held (lenD fun ds d h => by (repeat (obtain ⟨_, h⟩ := h)); subst_vars; rfl) (fun E => t_law_held K C) (fun f cdv A outer s H E hr => (pss_cons (ps_for (passes_of rfl) rfl (pi_list (pv 2)) (pg_name (i := 3) sc_law_held.nd rfl (Or.inl rfl)) (pss_one (ps_if (pt_xLt (pe_xIdx (pv 3) pe_int) pe_int) (pss_one (ps_ret pe_bl)) pss_nil)))
    (pss_cons (ps_for (passes_of rfl) rfl (pi_range1 rfl T.b_range (pa_cons (pe_xLen T.b_len (pv 0)) pa_nil)) (pg_name (i := 4) sc_law_held.nd rfl (Or.inl rfl)) (pss_one (ps_if (pt_xNe hr (pe_callO O_law_sum (hr.mono (by decide)) (pa_cons (pv 1) (pa_cons (pv 2) (pa_cons (pv 4) pa_nil)))) (pe_tup (pa_cons (pe_xIdx (pv 0) (pv 4)) (pa_cons pe_int pa_nil)))) (pss_one (ps_ret pe_bl)) pss_nil)))
    (pss_one (ps_ret pe_bl))))) p_law_held
theorem ok_Board_price (T : Bt mg) (gNOUGHT : mg "NOUGHT" = some (.ref pNOUGHT)) (BT : BoT K B) (hN : IsN K pNOUGHT) (O_taken : Okf P w K mg base "taken" ["row", "base", "factor"] 4 (sp_taken K C)) (F : MethAt K B "price" "Board.price" (inClass (topS 23) 1) ["self", "costs"]) : OkM P w K mg base B "price" ["self", "costs"] 5 (sp_Board_price K C B) :=
  OkM.mk F sc_Board_price (lenMu fun fs ds fs' h => by (repeat (obtain ⟨_, h⟩ := h)); subst_vars; rfl) (fun E => t_Board_price K C pNOUGHT) (fun f cdv A outer s H E hr => (pss_cons (ps_fld (pv 0) (pe_xCat (pv 1) (pe_lst (pa_cons (pe_glob rfl gNOUGHT rfl) pa_nil))) rfl)
    (pss_one (ps_for (passes_of rfl) rfl (pi_range1 rfl T.b_range (pa_cons (pe_fld (pv 0) rfl) pa_nil)) (pg_name (i := 2) sc_Board_price.nd rfl (Or.inl rfl)) (pss_one (ps_fld (pv 0) (pe_callO O_taken (hr.mono (by decide)) (pa_cons (pe_fld (pv 0) rfl) (pa_cons (pe_xIdx (pe_fld (pv 0) rfl) (pv 2)) (pa_cons (pe_xIdx (pv 1) (pe_xIdx (pe_fld (pv 0) rfl) (pv 2))) pa_nil)))) rfl)))))) (p_Board_price BT hN)
theorem ok_Board_turn (T : Bt mg) (BT : BoT K B) (O_over : Okf P w K mg base "over" ["one", "other"] 3 (sp_over K C)) (O_taken : Okf P w K mg base "taken" ["row", "base", "factor"] 4 (sp_taken K C)) (F : MethAt K B "turn" "Board.turn" (inClass (topS 23) 2) ["self", "r", "column"]) : OkM P w K mg base B "turn" ["self", "r", "column"] 5 (sp_Board_turn K C B) :=
  OkM.mk F sc_Board_turn (lenMu fun fs ds fs' h => by (repeat (obtain ⟨_, h⟩ := h)); subst_vars; rfl) (fun E => t_Board_turn K C) (fun f cdv A outer s H E hr => (pss_cons (ps_set (i := 3) sc_Board_turn.nd rfl (Or.inr rfl) (pe_xIdx (pe_xIdx (pe_fld (pv 0) rfl) (pv 1)) (pv 2)))
    (pss_cons (ps_setLc (i := 4) (own := [("here", 5)]) (g := gName 5) rfl sc_Board_turn.nd rfl rfl (sw_true rfl rfl rfl (by decide +kernel)) (pi_list (pe_xIdx (pe_fld (pv 0) rfl) (pv 1))) (blkOk_by (N := ["self", "r", "column", "part", "base", "here", "other"]) (sc := defScope (inClass (topS 23) 2)) (by decide +kernel)) (fun _ _ _ _ _ => pg_name (i := 5) sc_Board_turn.nd rfl (Or.inl rfl)) (fun _ _ _ _ _ => pts_nil) (fun _ _ _ _ _ => (pe_callO O_over (hr.mono (by decide)) (pa_cons (pv 5) (pa_cons (pv 3) pa_nil)))))
    (pss_cons (ps_asg (pv 4) (pg_sub (pe_fld (pv 0) rfl) (pv 1) set_list))
    (pss_cons (ps_for (passes_of rfl) rfl (pi_range1 rfl T.b_range (pa_cons (pe_fld (pv 0) rfl) pa_nil)) (pg_name (i := 6) sc_Board_turn.nd rfl (Or.inl rfl)) (pss_one (ps_if (pt_xNe hr (pv 6) (pv 1)) (pss_one (ps_asg (pe_callO O_taken (hr.mono (by decide)) (pa_cons (pe_xIdx (pe_fld (pv 0) rfl) (pv 6)) (pa_cons (pv 4) (pa_cons (pe_xIdx (pe_xIdx (pe_fld (pv 0) rfl) (pv 6)) (pv 2)) pa_nil)))) (pg_sub (pe_fld (pv 0) rfl) (pv 6) set_list))) pss_nil)))
    (pss_cons (ps_if (pt_xNe hr (pe_fld (pv 0) rfl) (pe_lst pa_nil)) (pss_one (ps_fld (pv 0) (pe_callO O_taken (hr.mono (by decide)) (pa_cons (pe_fld (pv 0) rfl) (pa_cons (pv 4) (pa_cons (pe_xIdx (pe_fld (pv 0) rfl) (pv 2)) pa_nil)))) rfl)) pss_nil)
    (pss_one (ps_asg (pv 2) (pg_sub (pe_fld (pv 0) rfl) (pv 1) set_list))))))))) (p_Board_turn BT)
theorem ok_law_shown (T : Bt mg) (O_law_spare : Okf P w K mg base "_law_spare" ["row", "motion"] 3 (sp_law_spare K C)) (O_law_parts : Okf P w K mg base "_law_parts" ["found", "many"] 3 (sp_law_parts K C)) (O_law_held : Okf P w K mg base "_law_held" ["weights", "table", "pulls"] 4 (sp_law_held K C)) (F : FnAt K mg "_law_shown" "_law_shown" (topS 45) ["weights", "table", "rope", "found"]) : Okf P w K mg base "_law_shown" ["weights", "table", "rope", "found"] 5 (sp_law_shown_k08 K C) :=
  Okf.mk F sc_law_shown (lenD fun ds d h => by (repeat (obtain ⟨_, h⟩ := h)); subst_vars; rfl) (fun E => t_law_shown_k08 K C) (fun f cdv A outer s H E hr => (pss_cons (ps_if (PW.pt (pw_or (pt_not (pt_val (pe_xIsi T.b_isinstance T.b_tuple (by decide +kernel) (pv 3)))) (pw_or (pt_xNe hr (pe_xLen T.b_len (pv 3)) pe_int) (pw_or1 (pt_not (pt_val (pe_callO O_law_parts (hr.mono (by decide)) (pa_cons (pe_xIdx (pv 3) pe_int) (pa_cons (pe_xLen T.b_len (pv 1)) pa_nil))))))))) (pss_one (ps_ret pe_bl)) pss_nil)
    (pss_cons (ps_if (PW.pt (pw_or (pt_not (pt_val (pe_callO O_law_held (hr.mono (by decide)) (pa_cons (pv 0) (pa_cons (pv 1) (pa_cons (pe_xIdx (pv 3) pe_int) pa_nil)))))) (pw_or1 (pt_not (pt_val (pe_callO O_law_parts (hr.mono (by decide)) (pa_cons (pe_xIdx (pv 3) pe_int) (pa_cons (pe_xLen T.b_len (pv 0)) pa_nil)))))))) (pss_one (ps_ret pe_bl)) pss_nil)
    (pss_cons (ps_for (passes_of rfl) rfl (pi_range1 rfl T.b_range (pa_cons (pe_xLen T.b_len (pv 1)) pa_nil)) (pg_name (i := 4) sc_law_shown.nd rfl (Or.inl rfl)) (pss_cons (ps_set (i := 5) sc_law_shown.nd rfl (Or.inl rfl) (pe_callO O_law_spare (hr.mono (by decide)) (pa_cons (pe_xIdx (pv 1) (pv 4)) (pa_cons (pe_xIdx (pv 3) pe_int) pa_nil))))
    (pss_one (ps_if (pt_xLt (pe_xAdd (pe_xIdx (pv 5) pe_int) (pe_xMul (pe_xIdx (pv 5) pe_int) (pe_xInt T.b_int (pe_xEq hr (pv 4) (pv 2))))) pe_int) (pss_one (ps_ret pe_bl)) pss_nil))))
    (pss_cons (ps_set (i := 6) sc_law_shown.nd rfl (Or.inl rfl) (pe_xIdx (pe_xIdx (pv 3) pe_int) (pv 2)))
    (pss_one (ps_ret (pe_xEq hr (pe_callO O_law_spare (hr.mono (by decide)) (pa_cons (pv 0) (pa_cons (pe_xIdx (pv 3) pe_int) pa_nil))) (pe_tup (pa_cons (pe_xSub pe_int (pe_xIdx (pv 6) pe_int)) (pa_cons (pe_xIdx (pv 6) pe_int) pa_nil))))))))))) p_law_shown_k08
theorem ok_Board_go (T : Bt mg) (BT : BoT K B) (O_below : Okf P w K mg base "below" ["row"] 2 (sp_below K C)) (O_Board_turn : OkM P w K mg base B "turn" ["self", "r", "column"] 5 (sp_Board_turn K C B)) (O_Board_leaving : OkM P w K mg base B "leaving" ["self", "column"] 4 (sp_Board_leaving K C B)) (F : MethAt K B "go" "Board.go" (inClass (topS 23) 4) ["self"]) : OkM P w K mg base B "go" ["self"] 6 (sp_Board_go K C B) :=
  OkM.mk F sc_Board_go (lenMu fun fs ds fs' h => by (repeat (obtain ⟨_, h⟩ := h)); subst_vars; rfl) (fun E => t_Board_go K C B) (fun f cdv A outer s H E hr => (pss_one (ps_while (passes_of rfl) (pt_val pe_bl) (pss_cons (ps_set (i := 1) sc_Board_go.nd rfl (Or.inl rfl) (pe_callO O_below (hr.mono (by decide)) (pa_cons (pe_slice sl_list (pe_fld (pv 0) rfl) po_none (po_some (pe_fld (pv 0) rfl))) pa_nil)))
    (pss_cons (ps_if (pt_xIsN (pv 1)) (pss_one ps_retN) pss_nil)
    (pss_one (ps_expr (pe_methO O_Board_turn (hr.mono (by decide)) BT.cl (pv 0) (pa_cons (pe_methO O_Board_leaving (hr.mono (by decide)) BT.cl (pv 0) (pa_cons (pv 1) pa_nil)) (pa_cons (pv 1) pa_nil)))))))))) (p_Board_go BT)
theorem ok_Board_clear_helps (T : Bt mg) (BT : BoT K B) (O_other_than_nought : Okf P w K mg base "other_than_nought" ["row"] 1 (sp_other_than_nought K C)) (O_Board_turn : OkM P w K mg base B "turn" ["self", "r", "column"] 5 (sp_Board_turn K C B)) (F : MethAt K B "clear_helps" "Board.clear_helps" (inClass (topS 23) 5) ["self"]) : OkM P w K mg base B "clear_helps" ["self"] 6 (sp_Board_clear_helps K C B) :=
  OkM.mk F sc_Board_clear_helps (lenMu fun fs ds fs' h => by (repeat (obtain ⟨_, h⟩ := h)); subst_vars; rfl) (fun E => t_Board_clear_helps K C B) (fun f cdv A outer s H E hr => (pss_one (ps_for (passes_of rfl) rfl (pi_range1 rfl T.b_range (pa_cons (pe_fld (pv 0) rfl) pa_nil)) (pg_name (i := 1) sc_Board_clear_helps.nd rfl (Or.inl rfl)) (pss_one (ps_if (pt_xGe (pe_xIdx (pe_fld (pv 0) rfl) (pv 1)) (pe_fld (pv 0) rfl)) (pss_cons (ps_set (i := 2) sc_Board_clear_helps.nd rfl (Or.inl rfl) (pe_callO O_other_than_nought (hr.mono (by decide)) (pa_cons (pe_slice sl_list (pe_xIdx (pe_fld (pv 0) rfl) (pv 1)) po_none (po_some (pe_fld (pv 0) rfl))) pa_nil)))
    (pss_one (ps_if (pt_xNotN (pv 2)) (pss_one (ps_expr (pe_methO O_Board_turn (hr.mono (by decide)) BT.cl (pv 0) (pa_cons (pv 1) (pa_cons (pv 2) pa_nil))))) pss_nil))) pss_nil))))) (p_Board_clear_helps BT)
theorem ok_first_board (T : Bt mg) (gNOUGHT : mg "NOUGHT" = some (.ref pNOUGHT)) (gONE : mg "ONE" = some (.ref pONE)) (gBoard : mg "Board" = some (.ref B)) (BT : BoT K B) (hN : IsN K pNOUGHT) (hO : IsO K pONE) (O_Board_init : OkI P w K mg base B ["self", "hoist"] 1 (sp_Board_init K C B)) (O_Board_price : OkM P w K mg base B "price" ["self", "costs"] 5 (sp_Board_price K C B)) (O_Board_go : OkM P w K mg base B "go" ["self"] 6 (sp_Board_go K C B)) (F : FnAt K mg "first_board" "first_board" (topS 28) ["hoist"]) : Okf P w K mg base "first_board" ["hoist"] 7 (sp_first_board K C B) :=
  Okf.mk F sc_first_board (lenO fun ds fs h => by (repeat (obtain ⟨_, h⟩ := h)); subst_vars; rfl) (fun E => t_first_board K C B pNOUGHT pONE) (fun f cdv A outer s H E hr => (pss_cons (ps_set (i := 1) sc_first_board.nd rfl (Or.inl rfl) (pe_makeO O_Board_init (hr.mono (by decide)) gBoard (pa_cons (pv 0) pa_nil)))
    (pss_cons (ps_expr (pe_methO O_Board_price (hr.mono (by decide)) BT.cl (pv 1) (pa_cons (pe_xCat (pe_lc (own := [("r", 2)]) (g := gName 2) rfl sc_first_board.nd (pi_range1 rfl T.b_range (pa_cons (pe_fld (pv 1) rfl) pa_nil)) (blkOk_by (N := ["hoist", "board", "r", "body"]) (sc := defScope (topS 28)) (by decide +kernel)) (fun _ _ _ _ _ => pg_name (i := 2) sc_first_board.nd rfl (Or.inl rfl)) (fun _ _ _ _ _ => pts_nil) (fun _ _ _ _ _ => (pe_glob rfl gNOUGHT rfl))) (pe_lc (own := [("body", 3)]) (g := gName 3) rfl sc_first_board.nd (pi_range1 rfl T.b_range (pa_cons (pe_fld (pv 1) rfl) pa_nil)) (blkOk_by (N := ["hoist", "board", "r", "body"]) (sc := defScope (topS 28)) (by decide +kernel)) (fun _ _ _ _ _ => pg_name (i := 3) sc_first_board.nd rfl (Or.inl rfl)) (fun _ _ _ _ _ => pts_nil) (fun _ _ _ _ _ => (pe_glob rfl gONE rfl)))) pa_nil)))
    (pss_cons (ps_expr (pe_methO0 O_Board_go (hr.mono (by decide)) BT.cl (pv 1)))
    (pss_one (ps_ret (pv 1))))))) (p_first_board BT hN hO)
theorem ok_judged (T : Bt mg) (gNOUGHT : mg "NOUGHT" = some (.ref pNOUGHT)) (gONE : mg "ONE" = some (.ref pONE)) (BT : BoT K B) (hN : IsN K pNOUGHT) (hO : IsO K pONE) (O_first_board : Okf P w K mg base "first_board" ["hoist"] 7 (sp_first_board K C B)) (O_Board_pulls : OkM P w K mg base B "pulls" ["self"] 1 (sp_Board_pulls K C B)) (O_turned_about : Okf P w K mg base "turned_about" ["row"] 4 (sp_turned_about K C)) (O_Board_worths : OkM P w K mg base B "worths" ["self", "cost"] 4 (sp_Board_worths K C B)) (F : FnAt K mg "judged" "judged" (topS 29) ["hoist"]) : Okf P w K mg base "judged" ["hoist"] 8 (sp_judged K C) :=
  Okf.mk F sc_judged (lenT fun ds fs h => by (repeat (obtain ⟨_, h⟩ := h)); subst_vars; rfl) (fun E => t_judged K C B pNOUGHT pONE) (fun f cdv A outer s H E hr => (pss_cons (ps_set (i := 1) sc_judged.nd rfl (Or.inl rfl) (pe_callO O_first_board (hr.mono (by decide)) (pa_cons (pv 0) pa_nil)))
    (pss_cons (ps_if (pt_xNe hr (pe_xIdx (pe_fld (pv 1) rfl) (pe_xNeg pe_int)) (pe_glob rfl gNOUGHT rfl)) (pss_one (ps_ret (pe_tup (pa_cons pe_str (pa_cons (pe_callO O_turned_about (hr.mono (by decide)) (pa_cons (pe_methO O_Board_worths (hr.mono (by decide)) BT.cl (pv 1) (pa_cons (pe_glob rfl gONE rfl) pa_nil)) pa_nil)) pa_nil))))) pss_nil)
    (pss_one (ps_ret (pe_tup (pa_cons pe_str (pa_cons (pe_methO0 O_Board_pulls (hr.mono (by decide)) BT.cl (pv 1)) pa_nil)))))))) (p_judged BT hN hO)
theorem ok_least_pull (T : Bt mg) (gNOUGHT : mg "NOUGHT" = some (.ref pNOUGHT)) (e_Sinks : ErrC K mg "Sinks" cSinks) (HT : HoT K C) (BT : BoT K B) (hN : IsN K pNOUGHT) (hO : IsO K pONE) (O_Hoist_see_rope : OkM P w K mg base C "see_rope" ["self", "rope"] 1 (sp_Hoist_see_rope K C)) (O_first_board : Okf P w K mg base "first_board" ["hoist"] 7 (sp_first_board K C B)) (O_Board_clear_helps : OkM P w K mg base B "clear_helps" ["self"] 6 (sp_Board_clear_helps K C B)) (O_Board_price : OkM P w K mg base B "price" ["self", "costs"] 5 (sp_Board_price K C B)) (O_Board_go : OkM P w K mg base B "go" ["self"] 6 (sp_Board_go K C B)) (O_Board_pulls : OkM P w K mg base B "pulls" ["self"] 1 (sp_Board_pulls K C B)) (O_turned_about : Okf P w K mg base "turned_about" ["row"] 4 (sp_turned_about K C)) (O_Board_worths : OkM P w K mg base B "worths" ["self", "cost"] 4 (sp_Board_worths K C B)) (F : FnAt K mg "least_pull" "least_pull" (topS 30) ["hoist", "rope"]) : Okf P w K mg base "least_pull" ["hoist", "rope"] 8 (sp_least_pull_k08 K C cSinks) :=
  Okf.mk F sc_least_pull (lenE (lenT fun ds fs h => by (repeat (obtain ⟨_, h⟩ := h)); subst_vars; rfl) (fun ds c h => by (repeat (obtain ⟨_, h⟩ := h)); subst_vars; rfl)) (fun E => t_least_pull_k08 K C B pNOUGHT cSinks E) (fun f cdv A outer s H E hr => (pss_cons (ps_expr (pe_methO O_Hoist_see_rope (hr.mono (by decide)) HT.cl (pv 0) (pa_cons (pv 1) pa_nil)))
    (pss_cons (ps_set (i := 2) sc_least_pull.nd rfl (Or.inl rfl) (pe_callO O_first_board (hr.mono (by decide)) (pa_cons (pv 0) pa_nil)))
    (pss_cons (ps_if (pt_xNe hr (pe_xIdx (pe_fld (pv 2) rfl) (pe_xNeg pe_int)) (pe_glob rfl gNOUGHT rfl)) (pss_one (ps_raiseE (takes_of rfl rfl rfl rfl) e_Sinks)) pss_nil)
    (pss_cons (ps_expr (pe_methO0 O_Board_clear_helps (hr.mono (by decide)) BT.cl (pv 2)))
    (pss_cons (ps_expr (pe_methO O_Board_price (hr.mono (by decide)) BT.cl (pv 2) (pa_cons (pe_xCat (pe_lc (own := [("r", 3)]) (g := gName 3) rfl sc_least_pull.nd (pi_range1 rfl T.b_range (pa_cons (pe_fld (pv 2) rfl) pa_nil)) (blkOk_by (N := ["hoist", "rope", "board", "r", "body"]) (sc := defScope (topS 30)) (by decide +kernel)) (fun _ _ _ _ _ => pg_name (i := 3) sc_least_pull.nd rfl (Or.inl rfl)) (fun _ _ _ _ _ => pts_nil) (fun _ _ _ _ _ => (pe_tup (pa_cons (pe_xInt T.b_int (pe_xEq hr (pv 3) (pv 1))) (pa_cons pe_int pa_nil))))) (pe_lc (own := [("body", 4)]) (g := gName 4) rfl sc_least_pull.nd (pi_range1 rfl T.b_range (pa_cons (pe_fld (pv 2) rfl) pa_nil)) (blkOk_by (N := ["hoist", "rope", "board", "r", "body"]) (sc := defScope (topS 30)) (by decide +kernel)) (fun _ _ _ _ _ => pg_name (i := 4) sc_least_pull.nd rfl (Or.inl rfl)) (fun _ _ _ _ _ => pts_nil) (fun _ _ _ _ _ => (pe_glob rfl gNOUGHT rfl)))) pa_nil)))
    (pss_cons (ps_expr (pe_methO0 O_Board_go (hr.mono (by decide)) BT.cl (pv 2)))
    (pss_one (ps_ret (pe_tup (pa_cons (pe_methO0 O_Board_pulls (hr.mono (by decide)) BT.cl (pv 2)) (pa_cons (pe_callO O_turned_about (hr.mono (by decide)) (pa_cons (pe_methO O_Board_worths (hr.mono (by decide)) BT.cl (pv 2) (pa_cons (pe_glob rfl gNOUGHT rfl) pa_nil)) pa_nil)) pa_nil)))))))))))) (p_least_pull_k08 BT hN hO HT)
theorem ok_law_tried (T : Bt mg) (e_HoistError : ErrC K mg "HoistError" cHoistError) (e_NoHoist : ErrC K mg "NoHoist" cNoHoist) (e_NoRope : ErrC K mg "NoRope" cNoRope) (e_NoBody : ErrC K mg "NoBody" cNoBody) (e_Sinks : ErrC K mg "Sinks" cSinks) (e_TooMany : ErrC K mg "TooMany" cTooMany) (e_BadText : ErrC K mg "BadText" cBadText) (R_Sinks : Raised K cHoistError cNoHoist cNoRope cNoBody cSinks cTooMany cBadText cSinks false false false true false false) (O_least_pull : Okf P w K mg base "least_pull" ["hoist", "rope"] 8 (sp_least_pull_k08 K C cSinks)) (F : FnAt K mg "_law_tried" "_law_tried" (topS 44) ["hoist", "rope"]) : Okf P w K mg base "_law_tried" ["hoist", "rope"] 9 (sp_law_tried_k08 K C) :=
  Okf.mk F sc_law_tried (lenTN (lenT fun ds fs h => by (repeat (obtain ⟨_, h⟩ := h)); subst_vars; rfl) (lenN fun ds fs ks h => by (repeat (obtain ⟨_, h⟩ := h)); subst_vars; rfl)) (fun E => t_law_tried_k08 K C cHoistError cNoHoist cNoRope cNoBody cSinks cTooMany cBadText) (fun f cdv A outer s H E hr => (pss_cons (ps_set (i := 2) sc_law_tried.nd rfl (Or.inl rfl) pe_non)
    (pss_cons (ps_set (i := 3) sc_law_tried.nd rfl (Or.inl rfl) (pe_lst pa_nil))
    (pss_cons (ps_tryAs (i := 4) rfl rfl sc_law_tried.nd rfl rfl e_HoistError (fun W pn xe tk hpx => (pss_one (ps_set (i := 2) sc_law_tried.nd rfl (Or.inl rfl) (pe_callOS tk O_least_pull (hr.mono (by decide)) (pa_cons (pv 0) (pa_cons (pv 1) pa_nil)))))) (fun a oe cls d pn hz hf => pss_exc hz fun D hC hzD => (pss_cons (ps_set (i := 3) sc_law_tried.nd rfl (Or.inl rfl) (pe_lst (pa_cons (pe_x_isE hC hzD hf T.b_isinstance (pv 4) (pe_glob rfl e_Sinks.g rfl)) (pa_cons (pe_x_isE hC hzD hf T.b_isinstance (pv 4) (pe_glob rfl e_NoRope.g rfl)) (pa_cons (pe_x_isE hC hzD hf T.b_isinstance (pv 4) (pe_glob rfl e_NoBody.g rfl)) (pa_cons (pe_x_isE hC hzD hf T.b_isinstance (pv 4) (pe_glob rfl e_NoHoist.g rfl)) pa_nil))))))
    (pss_one (ps_set (i := 3) sc_law_tried.nd rfl (Or.inl rfl) (pe_xCat (pv 3) (pe_lst (pa_cons (pe_x_isE hC hzD hf T.b_isinstance (pv 4) (pe_glob rfl e_TooMany.g rfl)) (pa_cons (pe_x_isE hC hzD hf T.b_isinstance (pv 4) (pe_glob rfl e_BadText.g rfl)) (pa_cons (pe_x_isE hC hzD hf T.b_isinstance (pv 4) (pe_VE T.b_ValueError)) pa_nil))))))))))
    (pss_one (ps_ret (pe_tup (pa_cons (pv 2) (pa_cons (pv 3) pa_nil))))))))) (p_law_tried_k08 R_Sinks)
theorem ok_law (T : Bt mg) (gHoist : mg "Hoist" = some (.ref C)) (O_law_drawn : Okf P w K mg base "_law_drawn" ["script"] 3 (sp_law_drawn K C)) (O_Hoist_init : OkI P w K mg base C ["self", "weights", "ropes"] 2 (sp_Hoist_init K C)) (O_law_tried : Okf P w K mg base "_law_tried" ["hoist", "rope"] 9 (sp_law_tried_k08 K C)) (O_least_pull : Okf P w K mg base "least_pull" ["hoist", "rope"] 8 (sp_least_pull_k08 K C cSinks)) (O_law_ropes : Okf P w K mg base "_law_ropes" ["table", "cell"] 1 (sp_law_ropes K C)) (O_law_cell_at : Okf P w K mg base "_law_cell_at" ["script", "k"] 1 (sp_law_cell_at K C)) (O_law_shown : Okf P w K mg base "_law_shown" ["weights", "table", "rope", "found"] 5 (sp_law_shown_k08 K C)) (O_judged : Okf P w K mg base "judged" ["hoist"] 8 (sp_judged K C)) {fa : Addr} {fd : FuncData} (F : LawAt K fa (topS 46) fd) : FnOk P w K mg base (L2.CX P w) 10 fa fd ["script"] (sp_law K C) :=
  F.ok sc_law (lenD fun ds d h => by (repeat (obtain ⟨_, h⟩ := h)); subst_vars; rfl) (fun E => t_law_k08 K C cSinks) (fun f cdv A outer s H E hr => (pss_cons (ps_set (i := 1) sc_law.nd rfl (Or.inl rfl) (pe_callO O_law_drawn (hr.mono (by decide)) (pa_cons (pv 0) pa_nil)))
    (pss_cons (ps_set (i := 2) sc_law.nd rfl (Or.inl rfl) (pe_xIdx (pv 1) pe_int))
    (pss_cons (ps_set (i := 3) sc_law.nd rfl (Or.inl rfl) (pe_xIdx (pv 1) pe_int))
    (pss_cons (ps_if (pt_xEq hr (pv 3) (pe_lst pa_nil)) (pss_one (ps_ret pe_bl)) pss_nil)
    (pss_cons (ps_set (i := 4) sc_law.nd rfl (Or.inl rfl) (pe_makeO O_Hoist_init (hr.mono (by decide)) gHoist (pa_cons (pv 2) (pa_cons (pe_callO O_law_ropes (hr.mono (by decide)) (pa_cons (pv 3) (pa_cons (pe_callO O_law_cell_at (hr.mono (by decide)) (pa_cons (pv 0) (pa_cons pe_int pa_nil))) pa_nil))) pa_nil))))
    (pss_cons (ps_set (i := 5) sc_law.nd rfl (Or.inl rfl) (pe_xMod (pe_callO O_law_cell_at (hr.mono (by decide)) (pa_cons (pv 0) (pa_cons pe_int pa_nil))) (pe_xLen T.b_len (pv 3))))
    (pss_cons (ps_set (i := 6) sc_law.nd rfl (Or.inl rfl) (pe_callO O_law_tried (hr.mono (by decide)) (pa_cons (pv 4) (pa_cons (pv 5) pa_nil))))
    (pss_cons (ps_if (pt_xEq hr (pe_xIdx (pe_callO O_judged (hr.mono (by decide)) (pa_cons (pv 4) pa_nil)) pe_int) pe_str) (pss_one (ps_ret (pe_xEq hr (pv 6) (pe_tup (pa_cons pe_non (pa_cons (pe_lst (pa_cons pe_bl (pa_cons pe_bl (pa_cons pe_bl (pa_cons pe_bl (pa_cons pe_bl (pa_cons pe_bl (pa_cons pe_bl pa_nil)))))))) pa_nil)))))) pss_nil)
    (pss_cons (ps_if (PW.pt (pw_or (pt_xNe hr (pe_xIdx (pv 6) pe_int) (pe_lst pa_nil)) (pw_or1 (pt_not (pt_val (pe_callO O_law_shown (hr.mono (by decide)) (pa_cons (pv 2) (pa_cons (pv 3) (pa_cons (pv 5) (pa_cons (pe_xIdx (pv 6) pe_int) pa_nil)))))))))) (pss_one (ps_ret pe_bl)) pss_nil)
    (pss_cons (ps_set (i := 7) sc_law.nd rfl (Or.inl rfl) (pe_xIdx (pe_xIdx (pe_xIdx (pv 6) pe_int) pe_int) (pv 5)))
    (pss_cons (ps_expr (pe_bm0 PySem.F.plainAttrs_list PySem.F.slot_list_clear PySem.F.type_list_clear mt_clear (pe_xIdx (pe_xIdx (pv 6) pe_int) pe_int)))
    (pss_cons (ps_expr (pe_bm0 PySem.F.plainAttrs_list PySem.F.slot_list_clear PySem.F.type_list_clear mt_clear (pe_xIdx (pe_xIdx (pv 6) pe_int) pe_int)))
    (pss_cons (ps_set (i := 8) sc_law.nd rfl (Or.inl rfl) (pe_callO O_least_pull (hr.mono (by decide)) (pa_cons (pv 4) (pa_cons (pv 5) pa_nil))))
    (pss_one (ps_ret (pe_and (pe_callO O_law_shown (hr.mono (by decide)) (pa_cons (pv 2) (pa_cons (pv 3) (pa_cons (pv 5) (pa_cons (pv 8) pa_nil))))) (pe_one (pe_xEq hr (pe_xIdx (pe_xIdx (pv 8) pe_int) (pv 5)) (pv 7)))))))))))))))))))) p_law_k08
end
end Hw
open PySem PySem.W PyProof.Rows in
set_option maxRecDepth 100000 in
set_option maxHeartbeats 0 in
theorem PySem.Challenge.cw_hoistworks_k08_whole_the_least_pull_holds : PySem.Challenge.rw_hoistworks_k08_whole_the_least_pull.Holds := by
  w_on; o_law; k_head; (case hw => w_witness2)
  k_fill
  refine Hw.law_end (l := PySem.Challenge.rw_hoistworks_k08_whole_the_least_pull) (k := 10) (by decide) rfl rfl (fun w h Y => PySem.W.kIn_of Y) ?F
  case F =>
    intro w mg fa h KX G hmg
    have T := by
      refine' (⟨PySem.W.mg_none_of KX G ?z0, PySem.W.mg_none_of KX G ?z1, PySem.W.mg_none_of KX G ?z2, PySem.W.mg_none_of KX G ?z3, PySem.W.mg_none_of KX G ?z4, PySem.W.mg_none_of KX G ?z5, PySem.W.mg_none_of KX G ?z6, PySem.W.mg_none_of KX G ?z7, PySem.W.mg_none_of KX G ?z8, PySem.W.mg_none_of KX G ?z9, PySem.W.mg_none_of KX G ?z10, PySem.W.mg_none_of KX G ?z11, PySem.W.mg_none_of KX G ?z12, PySem.W.mg_none_of KX G ?z13, PySem.W.mg_none_of KX G ?z14⟩ : Hw.Bt mg)
      (case z0 => k_is)
      (case z1 => k_is)
      (case z2 => k_is)
      (case z3 => k_is)
      (case z4 => k_is)
      (case z5 => k_is)
      (case z6 => k_is)
      (case z7 => k_is)
      (case z8 => k_is)
      (case z9 => k_is)
      (case z10 => k_is)
      (case z11 => k_is)
      (case z12 => k_is)
      (case z13 => k_is)
      (case z14 => k_is)
    refine' Hw.withAt (x := "NOUGHT") KX G ?uNOUGHT fun gNOUGHT => ?rNOUGHT
    (case uNOUGHT => k_is)
    have hN := by
      refine' Hw.pair_of (a := 0) (b := 1) KX gNOUGHT ?vNOUGHT
      (case vNOUGHT => k_is)
    refine' Hw.withAt (x := "ONE") KX G ?uONE fun gONE => ?rONE
    (case uONE => k_is)
    have hO := by
      refine' Hw.pair_of (a := 1) (b := 1) KX gONE ?vONE
      (case vONE => k_is)
    refine' Hw.withAt (x := "Hoist") KX G ?uHoist fun gHoist => ?rHoist
    (case uHoist => k_is)
    have HT := by
      refine' Hw.HoT.of KX gHoist ?pg ?hd ?po ?sa ?n1 ?n2
      (case pg => k_is)
      (case hd => k_is)
      (case po => k_is)
      (case sa => k_is)
      (case n1 => k_is)
      (case n2 => k_is)
    refine' Hw.withAt (x := "HoistError") KX G ?uHoistError fun gHoistError => ?rHoistError
    (case uHoistError => k_is)
    have e_HoistError := by
      refine' Hw.ErrC.of KX gHoistError ?f1 ?f2 ?f3 ?f4 ?f5 ?f6 ?f7 ?f8 ?f9 ?f10 ?f11 ?f12 ?f13 ?f14
      (case f1 => k_exc)
      (case f2 => k_is)
      (case f3 => k_is)
      (case f4 => k_is)
      (case f5 => k_is)
      (case f6 => k_is)
      (case f7 => k_is)
      (case f8 => k_is)
      (case f9 => k_is)
      (case f10 => k_is)
      (case f11 => k_is)
      (case f12 => k_is)
      (case f13 => k_is)
      (case f14 => k_is)
    refine' Hw.withAt (x := "NoHoist") KX G ?uNoHoist fun gNoHoist => ?rNoHoist
    (case uNoHoist => k_is)
    have e_NoHoist := by
      refine' Hw.ErrC.of KX gNoHoist ?f1 ?f2 ?f3 ?f4 ?f5 ?f6 ?f7 ?f8 ?f9 ?f10 ?f11 ?f12 ?f13 ?f14
      (case f1 => k_exc)
      (case f2 => k_is)
      (case f3 => k_is)
      (case f4 => k_is)
      (case f5 => k_is)
      (case f6 => k_is)
      (case f7 => k_is)
      (case f8 => k_is)
      (case f9 => k_is)
      (case f10 => k_is)
      (case f11 => k_is)
      (case f12 => k_is)
      (case f13 => k_is)
      (case f14 => k_is)
    refine' Hw.withAt (x := "NoRope") KX G ?uNoRope fun gNoRope => ?rNoRope
    (case uNoRope => k_is)
    have e_NoRope := by
      refine' Hw.ErrC.of KX gNoRope ?f1 ?f2 ?f3 ?f4 ?f5 ?f6 ?f7 ?f8 ?f9 ?f10 ?f11 ?f12 ?f13 ?f14
      (case f1 => k_exc)
      (case f2 => k_is)
      (case f3 => k_is)
      (case f4 => k_is)
      (case f5 => k_is)
      (case f6 => k_is)
      (case f7 => k_is)
      (case f8 => k_is)
      (case f9 => k_is)
      (case f10 => k_is)
      (case f11 => k_is)
      (case f12 => k_is)
      (case f13 => k_is)
      (case f14 => k_is)
    refine' Hw.withAt (x := "NoBody") KX G ?uNoBody fun gNoBody => ?rNoBody
    (case uNoBody => k_is)
    have e_NoBody := by
      refine' Hw.ErrC.of KX gNoBody ?f1 ?f2 ?f3 ?f4 ?f5 ?f6 ?f7 ?f8 ?f9 ?f10 ?f11 ?f12 ?f13 ?f14
      (case f1 => k_exc)
      (case f2 => k_is)
      (case f3 => k_is)
      (case f4 => k_is)
      (case f5 => k_is)
      (case f6 => k_is)
      (case f7 => k_is)
      (case f8 => k_is)
      (case f9 => k_is)
      (case f10 => k_is)
      (case f11 => k_is)
      (case f12 => k_is)
      (case f13 => k_is)
      (case f14 => k_is)
    refine' Hw.withAt (x := "Sinks") KX G ?uSinks fun gSinks => ?rSinks
    (case uSinks => k_is)
    have e_Sinks := by
      refine' Hw.ErrC.of KX gSinks ?f1 ?f2 ?f3 ?f4 ?f5 ?f6 ?f7 ?f8 ?f9 ?f10 ?f11 ?f12 ?f13 ?f14
      (case f1 => k_exc)
      (case f2 => k_is)
      (case f3 => k_is)
      (case f4 => k_is)
      (case f5 => k_is)
      (case f6 => k_is)
      (case f7 => k_is)
      (case f8 => k_is)
      (case f9 => k_is)
      (case f10 => k_is)
      (case f11 => k_is)
      (case f12 => k_is)
      (case f13 => k_is)
      (case f14 => k_is)
    refine' Hw.withAt (x := "TooMany") KX G ?uTooMany fun gTooMany => ?rTooMany
    (case uTooMany => k_is)
    have e_TooMany := by
      refine' Hw.ErrC.of KX gTooMany ?f1 ?f2 ?f3 ?f4 ?f5 ?f6 ?f7 ?f8 ?f9 ?f10 ?f11 ?f12 ?f13 ?f14
      (case f1 => k_exc)
      (case f2 => k_is)
      (case f3 => k_is)
      (case f4 => k_is)
      (case f5 => k_is)
      (case f6 => k_is)
      (case f7 => k_is)
      (case f8 => k_is)
      (case f9 => k_is)
      (case f10 => k_is)
      (case f11 => k_is)
      (case f12 => k_is)
      (case f13 => k_is)
      (case f14 => k_is)
    refine' Hw.withAt (x := "BadText") KX G ?uBadText fun gBadText => ?rBadText
    (case uBadText => k_is)
    have e_BadText := by
      refine' Hw.ErrC.of KX gBadText ?f1 ?f2 ?f3 ?f4 ?f5 ?f6 ?f7 ?f8 ?f9 ?f10 ?f11 ?f12 ?f13 ?f14
      (case f1 => k_exc)
      (case f2 => k_is)
      (case f3 => k_is)
      (case f4 => k_is)
      (case f5 => k_is)
      (case f6 => k_is)
      (case f7 => k_is)
      (case f8 => k_is)
      (case f9 => k_is)
      (case f10 => k_is)
      (case f11 => k_is)
      (case f12 => k_is)
      (case f13 => k_is)
      (case f14 => k_is)
    have s_Sinks_HoistError := by
      refine' Hw.subOf (b := true) KX gSinks gHoistError ?s
      (case s => k_is)
    have s_Sinks_NoHoist := by
      refine' Hw.subOf (b := false) KX gSinks gNoHoist ?s
      (case s => k_is)
    have s_Sinks_NoRope := by
      refine' Hw.subOf (b := false) KX gSinks gNoRope ?s
      (case s => k_is)
    have s_Sinks_NoBody := by
      refine' Hw.subOf (b := false) KX gSinks gNoBody ?s
      (case s => k_is)
    have s_Sinks_TooMany := by
      refine' Hw.subOf (b := false) KX gSinks gTooMany ?s
      (case s => k_is)
    have s_Sinks_BadText := by
      refine' Hw.subOf (b := false) KX gSinks gBadText ?s
      (case s => k_is)
    have R_Sinks := Hw.Raised.of e_HoistError e_Sinks s_Sinks_HoistError (e_NoHoist.kitF s_Sinks_NoHoist) (e_NoRope.kitF s_Sinks_NoRope) (e_NoBody.kitF s_Sinks_NoBody) (e_Sinks.kitT) (e_TooMany.kitF s_Sinks_TooMany) (e_BadText.kitF s_Sinks_BadText)
    refine' Hw.withAt (x := "Board") KX G ?uBoard fun gBoard => ?rBoard
    (case uBoard => k_is)
    have BT := by
      refine' Hw.BoT.of KX gBoard ?pg ?hd ?po ?sa ?n1 ?n2 ?n3 ?n4 ?n5
      (case pg => k_is)
      (case hd => k_is)
      (case po => k_is)
      (case sa => k_is)
      (case n1 => k_is)
      (case n2 => k_is)
      (case n3 => k_is)
      (case n4 => k_is)
      (case n5 => k_is)
    have F_see_pairs := by
      refine' Hw.FnAt.of (x := "see_pairs") (name := "see_pairs") (st := (Hw.topS 10)) (ps := ["pairs", "bodies"]) KX G ?a ?l ?c ?k (fun _ _ _ _ _ _ us hl => match us, hl with | [_, _], _ => rfl)
      (case a => k_is)
      (case l => k_is)
      (case c => k_is)
      (case k => k_is)
    have F_summed := by
      refine' Hw.FnAt.of (x := "summed") (name := "summed") (st := (Hw.topS 11)) (ps := ["pairs", "body"]) KX G ?a ?l ?c ?k (fun _ _ _ _ _ _ us hl => match us, hl with | [_, _], _ => rfl)
      (case a => k_is)
      (case l => k_is)
      (case c => k_is)
      (case k => k_is)
    have F_Hoist_see_rope := by
      refine' Hw.MethAt.of' KX gHoist (m := "see_rope") (qual := "Hoist.see_rope") (st := (Hw.inClass (Hw.topS 12) 3)) (ps := ["self", "rope"]) ?a ?i ?l ?c ?k (fun _ _ _ _ _ _ us hl => match us, hl with | [_, _], _ => rfl)
      (case a => k_is)
      (case i => k_is)
      (case l => k_is)
      (case c => k_is)
      (case k => k_is)
    have F_common := by
      refine' Hw.FnAt.of (x := "common") (name := "common") (st := (Hw.topS 16)) (ps := ["one", "other"]) KX G ?a ?l ?c ?k (fun _ _ _ _ _ _ us hl => match us, hl with | [_, _], _ => rfl)
      (case a => k_is)
      (case l => k_is)
      (case c => k_is)
      (case k => k_is)
    have F_less := by
      refine' Hw.FnAt.of (x := "less") (name := "less") (st := (Hw.topS 21)) (ps := ["one", "other"]) KX G ?a ?l ?c ?k (fun _ _ _ _ _ _ us hl => match us, hl with | [_, _], _ => rfl)
      (case a => k_is)
      (case l => k_is)
      (case c => k_is)
      (case k => k_is)
    have F_Board_init := by
      refine' Hw.InitAt.of' KX gBoard (qual := "Board.__init__") (st := (Hw.inClass (Hw.topS 23) 0)) (ps := ["self", "hoist"]) ?mk ?a ?i ?l ?c ?k ?kC (fun _ _ _ _ _ _ us hl => match us, hl with | [_, _], _ => rfl)
      (case mk => k_is)
      (case a => k_is)
      (case i => k_is)
      (case l => k_is)
      (case c => k_is)
      (case k => k_is)
      (case kC => k_is)
    have F_Board_pulls := by
      refine' Hw.MethAt.of' KX gBoard (m := "pulls") (qual := "Board.pulls") (st := (Hw.inClass (Hw.topS 23) 6)) (ps := ["self"]) ?a ?i ?l ?c ?k (fun _ _ _ _ _ _ us hl => match us, hl with | [_], _ => rfl)
      (case a => k_is)
      (case i => k_is)
      (case l => k_is)
      (case c => k_is)
      (case k => k_is)
    have F_other_than_nought := by
      refine' Hw.FnAt.of (x := "other_than_nought") (name := "other_than_nought") (st := (Hw.topS 25)) (ps := ["row"]) KX G ?a ?l ?c ?k (fun _ _ _ _ _ _ us hl => match us, hl with | [_], _ => rfl)
      (case a => k_is)
      (case l => k_is)
      (case c => k_is)
      (case k => k_is)
    have F_law_cell_at := by
      refine' Hw.FnAt.of (x := "_law_cell_at") (name := "_law_cell_at") (st := (Hw.topS 32)) (ps := ["script", "k"]) KX G ?a ?l ?c ?k (fun _ _ _ _ _ _ us hl => match us, hl with | [_, _], _ => rfl)
      (case a => k_is)
      (case l => k_is)
      (case c => k_is)
      (case k => k_is)
    have F_law_whole := by
      refine' Hw.FnAt.of (x := "_law_whole") (name := "_law_whole") (st := (Hw.topS 33)) (ps := ["found"]) KX G ?a ?l ?c ?k (fun _ _ _ _ _ _ us hl => match us, hl with | [_], _ => rfl)
      (case a => k_is)
      (case l => k_is)
      (case c => k_is)
      (case k => k_is)
    have F_law_low := by
      refine' Hw.FnAt.of (x := "_law_low") (name := "_law_low") (st := (Hw.topS 34)) (ps := ["top", "bottom"]) KX G ?a ?l ?c ?k (fun _ _ _ _ _ _ us hl => match us, hl with | [_, _], _ => rfl)
      (case a => k_is)
      (case l => k_is)
      (case c => k_is)
      (case k => k_is)
    have F_law_ropes := by
      refine' Hw.FnAt.of (x := "_law_ropes") (name := "_law_ropes") (st := (Hw.topS 38)) (ps := ["table", "cell"]) KX G ?a ?l ?c ?k (fun _ _ _ _ _ _ us hl => match us, hl with | [_, _], _ => rfl)
      (case a => k_is)
      (case l => k_is)
      (case c => k_is)
      (case k => k_is)
    have F_Hoist_init := by
      refine' Hw.InitAt.of' KX gHoist (qual := "Hoist.__init__") (st := (Hw.inClass (Hw.topS 12) 0)) (ps := ["self", "weights", "ropes"]) ?mk ?a ?i ?l ?c ?k ?kC (fun _ _ _ _ _ _ us hl => match us, hl with | [_, _, _], _ => rfl)
      (case mk => k_is)
      (case a => k_is)
      (case i => k_is)
      (case l => k_is)
      (case c => k_is)
      (case k => k_is)
      (case kC => k_is)
    have F_fraction := by
      refine' Hw.FnAt.of (x := "fraction") (name := "fraction") (st := (Hw.topS 17)) (ps := ["top", "bottom"]) KX G ?a ?l ?c ?k (fun _ _ _ _ _ _ us hl => match us, hl with | [_, _], _ => rfl)
      (case a => k_is)
      (case l => k_is)
      (case c => k_is)
      (case k => k_is)
    have F_below := by
      refine' Hw.FnAt.of (x := "below") (name := "below") (st := (Hw.topS 24)) (ps := ["row"]) KX G ?a ?l ?c ?k (fun _ _ _ _ _ _ us hl => match us, hl with | [_], _ => rfl)
      (case a => k_is)
      (case l => k_is)
      (case c => k_is)
      (case k => k_is)
    have F_law_plus := by
      refine' Hw.FnAt.of (x := "_law_plus") (name := "_law_plus") (st := (Hw.topS 35)) (ps := ["one", "other"]) KX G ?a ?l ?c ?k (fun _ _ _ _ _ _ us hl => match us, hl with | [_, _], _ => rfl)
      (case a => k_is)
      (case l => k_is)
      (case c => k_is)
      (case k => k_is)
    have F_law_part := by
      refine' Hw.FnAt.of (x := "_law_part") (name := "_law_part") (st := (Hw.topS 36)) (ps := ["found"]) KX G ?a ?l ?c ?k (fun _ _ _ _ _ _ us hl => match us, hl with | [_], _ => rfl)
      (case a => k_is)
      (case l => k_is)
      (case c => k_is)
      (case k => k_is)
    have F_law_table := by
      refine' Hw.FnAt.of (x := "_law_table") (name := "_law_table") (st := (Hw.topS 37)) (ps := ["script", "first", "ropes", "bodies"]) KX G ?a ?l ?c ?k (fun _ _ _ _ _ _ us hl => match us, hl with | [_, _, _, _], _ => rfl)
      (case a => k_is)
      (case l => k_is)
      (case c => k_is)
      (case k => k_is)
    have F_minus := by
      refine' Hw.FnAt.of (x := "minus") (name := "minus") (st := (Hw.topS 18)) (ps := ["one", "other"]) KX G ?a ?l ?c ?k (fun _ _ _ _ _ _ us hl => match us, hl with | [_, _], _ => rfl)
      (case a => k_is)
      (case l => k_is)
      (case c => k_is)
      (case k => k_is)
    have F_times := by
      refine' Hw.FnAt.of (x := "times") (name := "times") (st := (Hw.topS 19)) (ps := ["one", "other"]) KX G ?a ?l ?c ?k (fun _ _ _ _ _ _ us hl => match us, hl with | [_, _], _ => rfl)
      (case a => k_is)
      (case l => k_is)
      (case c => k_is)
      (case k => k_is)
    have F_over := by
      refine' Hw.FnAt.of (x := "over") (name := "over") (st := (Hw.topS 20)) (ps := ["one", "other"]) KX G ?a ?l ?c ?k (fun _ _ _ _ _ _ us hl => match us, hl with | [_, _], _ => rfl)
      (case a => k_is)
      (case l => k_is)
      (case c => k_is)
      (case k => k_is)
    have F_law_sum := by
      refine' Hw.FnAt.of (x := "_law_sum") (name := "_law_sum") (st := (Hw.topS 39)) (ps := ["table", "pulls", "body"]) KX G ?a ?l ?c ?k (fun _ _ _ _ _ _ us hl => match us, hl with | [_, _, _], _ => rfl)
      (case a => k_is)
      (case l => k_is)
      (case c => k_is)
      (case k => k_is)
    have F_law_spare := by
      refine' Hw.FnAt.of (x := "_law_spare") (name := "_law_spare") (st := (Hw.topS 40)) (ps := ["row", "motion"]) KX G ?a ?l ?c ?k (fun _ _ _ _ _ _ us hl => match us, hl with | [_, _], _ => rfl)
      (case a => k_is)
      (case l => k_is)
      (case c => k_is)
      (case k => k_is)
    have F_law_parts := by
      refine' Hw.FnAt.of (x := "_law_parts") (name := "_law_parts") (st := (Hw.topS 42)) (ps := ["found", "many"]) KX G ?a ?l ?c ?k (fun _ _ _ _ _ _ us hl => match us, hl with | [_, _], _ => rfl)
      (case a => k_is)
      (case l => k_is)
      (case c => k_is)
      (case k => k_is)
    have F_law_drawn := by
      refine' Hw.FnAt.of (x := "_law_drawn") (name := "_law_drawn") (st := (Hw.topS 43)) (ps := ["script"]) KX G ?a ?l ?c ?k (fun _ _ _ _ _ _ us hl => match us, hl with | [_], _ => rfl)
      (case a => k_is)
      (case l => k_is)
      (case c => k_is)
      (case k => k_is)
    have F_Board_leaving := by
      refine' Hw.MethAt.of' KX gBoard (m := "leaving") (qual := "Board.leaving") (st := (Hw.inClass (Hw.topS 23) 3)) (ps := ["self", "column"]) ?a ?i ?l ?c ?k (fun _ _ _ _ _ _ us hl => match us, hl with | [_, _], _ => rfl)
      (case a => k_is)
      (case i => k_is)
      (case l => k_is)
      (case c => k_is)
      (case k => k_is)
    have F_Board_worths := by
      refine' Hw.MethAt.of' KX gBoard (m := "worths") (qual := "Board.worths") (st := (Hw.inClass (Hw.topS 23) 7)) (ps := ["self", "cost"]) ?a ?i ?l ?c ?k (fun _ _ _ _ _ _ us hl => match us, hl with | [_, _], _ => rfl)
      (case a => k_is)
      (case i => k_is)
      (case l => k_is)
      (case c => k_is)
      (case k => k_is)
    have F_taken := by
      refine' Hw.FnAt.of (x := "taken") (name := "taken") (st := (Hw.topS 26)) (ps := ["row", "base", "factor"]) KX G ?a ?l ?c ?k (fun _ _ _ _ _ _ us hl => match us, hl with | [_, _, _], _ => rfl)
      (case a => k_is)
      (case l => k_is)
      (case c => k_is)
      (case k => k_is)
    have F_turned_about := by
      refine' Hw.FnAt.of (x := "turned_about") (name := "turned_about") (st := (Hw.topS 27)) (ps := ["row"]) KX G ?a ?l ?c ?k (fun _ _ _ _ _ _ us hl => match us, hl with | [_], _ => rfl)
      (case a => k_is)
      (case l => k_is)
      (case c => k_is)
      (case k => k_is)
    have F_law_held := by
      refine' Hw.FnAt.of (x := "_law_held") (name := "_law_held") (st := (Hw.topS 41)) (ps := ["weights", "table", "pulls"]) KX G ?a ?l ?c ?k (fun _ _ _ _ _ _ us hl => match us, hl with | [_, _, _], _ => rfl)
      (case a => k_is)
      (case l => k_is)
      (case c => k_is)
      (case k => k_is)
    have F_Board_price := by
      refine' Hw.MethAt.of' KX gBoard (m := "price") (qual := "Board.price") (st := (Hw.inClass (Hw.topS 23) 1)) (ps := ["self", "costs"]) ?a ?i ?l ?c ?k (fun _ _ _ _ _ _ us hl => match us, hl with | [_, _], _ => rfl)
      (case a => k_is)
      (case i => k_is)
      (case l => k_is)
      (case c => k_is)
      (case k => k_is)
    have F_Board_turn := by
      refine' Hw.MethAt.of' KX gBoard (m := "turn") (qual := "Board.turn") (st := (Hw.inClass (Hw.topS 23) 2)) (ps := ["self", "r", "column"]) ?a ?i ?l ?c ?k (fun _ _ _ _ _ _ us hl => match us, hl with | [_, _, _], _ => rfl)
      (case a => k_is)
      (case i => k_is)
      (case l => k_is)
      (case c => k_is)
      (case k => k_is)
    have F_law_shown := by
      refine' Hw.FnAt.of (x := "_law_shown") (name := "_law_shown") (st := (Hw.topS 45)) (ps := ["weights", "table", "rope", "found"]) KX G ?a ?l ?c ?k (fun _ _ _ _ _ _ us hl => match us, hl with | [_, _, _, _], _ => rfl)
      (case a => k_is)
      (case l => k_is)
      (case c => k_is)
      (case k => k_is)
    have F_Board_go := by
      refine' Hw.MethAt.of' KX gBoard (m := "go") (qual := "Board.go") (st := (Hw.inClass (Hw.topS 23) 4)) (ps := ["self"]) ?a ?i ?l ?c ?k (fun _ _ _ _ _ _ us hl => match us, hl with | [_], _ => rfl)
      (case a => k_is)
      (case i => k_is)
      (case l => k_is)
      (case c => k_is)
      (case k => k_is)
    have F_Board_clear_helps := by
      refine' Hw.MethAt.of' KX gBoard (m := "clear_helps") (qual := "Board.clear_helps") (st := (Hw.inClass (Hw.topS 23) 5)) (ps := ["self"]) ?a ?i ?l ?c ?k (fun _ _ _ _ _ _ us hl => match us, hl with | [_], _ => rfl)
      (case a => k_is)
      (case i => k_is)
      (case l => k_is)
      (case c => k_is)
      (case k => k_is)
    have F_first_board := by
      refine' Hw.FnAt.of (x := "first_board") (name := "first_board") (st := (Hw.topS 28)) (ps := ["hoist"]) KX G ?a ?l ?c ?k (fun _ _ _ _ _ _ us hl => match us, hl with | [_], _ => rfl)
      (case a => k_is)
      (case l => k_is)
      (case c => k_is)
      (case k => k_is)
    have F_judged := by
      refine' Hw.FnAt.of (x := "judged") (name := "judged") (st := (Hw.topS 29)) (ps := ["hoist"]) KX G ?a ?l ?c ?k (fun _ _ _ _ _ _ us hl => match us, hl with | [_], _ => rfl)
      (case a => k_is)
      (case l => k_is)
      (case c => k_is)
      (case k => k_is)
    have F_least_pull := by
      refine' Hw.FnAt.of (x := "least_pull") (name := "least_pull") (st := (Hw.topS 30)) (ps := ["hoist", "rope"]) KX G ?a ?l ?c ?k (fun _ _ _ _ _ _ us hl => match us, hl with | [_, _], _ => rfl)
      (case a => k_is)
      (case l => k_is)
      (case c => k_is)
      (case k => k_is)
    have F_law_tried := by
      refine' Hw.FnAt.of (x := "_law_tried") (name := "_law_tried") (st := (Hw.topS 44)) (ps := ["hoist", "rope"]) KX G ?a ?l ?c ?k (fun _ _ _ _ _ _ us hl => match us, hl with | [_, _], _ => rfl)
      (case a => k_is)
      (case l => k_is)
      (case c => k_is)
      (case k => k_is)
    have L := by
      refine' Hw.LawAt.of (st := (Hw.topS 46)) KX G hmg ?a ?l ?c ?k (fun _ _ _ _ _ _ _ => rfl)
      (case a => k_is)
      (case l => k_is)
      (case c => k_is)
      (case k => k_is)
    obtain ⟨fd, L⟩ := L
    refine ⟨Hw.adrOf gHoist, _, fd, L, fun base => ?_⟩
    have O_see_pairs := Hw.ok_see_pairs (P := PySem.Challenge.rw_hoistworks_k08_whole_the_least_pull.prog) (w := w) (base := base) (C := Hw.adrOf gHoist) T F_see_pairs
    have O_summed := Hw.ok_summed (P := PySem.Challenge.rw_hoistworks_k08_whole_the_least_pull.prog) (w := w) (base := base) (C := Hw.adrOf gHoist) T F_summed
    have O_Hoist_see_rope := Hw.ok_Hoist_see_rope (P := PySem.Challenge.rw_hoistworks_k08_whole_the_least_pull.prog) (w := w) (base := base) T HT F_Hoist_see_rope
    have O_common := Hw.ok_common (P := PySem.Challenge.rw_hoistworks_k08_whole_the_least_pull.prog) (w := w) (base := base) (C := Hw.adrOf gHoist) T F_common
    have O_less := Hw.ok_less (P := PySem.Challenge.rw_hoistworks_k08_whole_the_least_pull.prog) (w := w) (base := base) (C := Hw.adrOf gHoist) T F_less
    have O_Board_init := Hw.ok_Board_init (P := PySem.Challenge.rw_hoistworks_k08_whole_the_least_pull.prog) (w := w) (base := base) T HT BT F_Board_init
    have O_Board_pulls := Hw.ok_Board_pulls (P := PySem.Challenge.rw_hoistworks_k08_whole_the_least_pull.prog) (w := w) (base := base) (C := Hw.adrOf gHoist) T gNOUGHT BT hN F_Board_pulls
    have O_other_than_nought := Hw.ok_other_than_nought (P := PySem.Challenge.rw_hoistworks_k08_whole_the_least_pull.prog) (w := w) (base := base) (C := Hw.adrOf gHoist) T gNOUGHT hN F_other_than_nought
    have O_law_cell_at := Hw.ok_law_cell_at (P := PySem.Challenge.rw_hoistworks_k08_whole_the_least_pull.prog) (w := w) (base := base) (C := Hw.adrOf gHoist) T F_law_cell_at
    have O_law_whole := Hw.ok_law_whole (P := PySem.Challenge.rw_hoistworks_k08_whole_the_least_pull.prog) (w := w) (base := base) (C := Hw.adrOf gHoist) T F_law_whole
    have O_law_low := Hw.ok_law_low (P := PySem.Challenge.rw_hoistworks_k08_whole_the_least_pull.prog) (w := w) (base := base) (C := Hw.adrOf gHoist) T F_law_low
    have O_law_ropes := Hw.ok_law_ropes (P := PySem.Challenge.rw_hoistworks_k08_whole_the_least_pull.prog) (w := w) (base := base) (C := Hw.adrOf gHoist) T F_law_ropes
    have O_Hoist_init := Hw.ok_Hoist_init (P := PySem.Challenge.rw_hoistworks_k08_whole_the_least_pull.prog) (w := w) (base := base) T HT O_see_pairs O_summed F_Hoist_init
    have O_fraction := Hw.ok_fraction (P := PySem.Challenge.rw_hoistworks_k08_whole_the_least_pull.prog) (w := w) (base := base) (C := Hw.adrOf gHoist) T O_common F_fraction
    have O_below := Hw.ok_below (P := PySem.Challenge.rw_hoistworks_k08_whole_the_least_pull.prog) (w := w) (base := base) (C := Hw.adrOf gHoist) T gNOUGHT hN O_less F_below
    have O_law_plus := Hw.ok_law_plus (P := PySem.Challenge.rw_hoistworks_k08_whole_the_least_pull.prog) (w := w) (base := base) (C := Hw.adrOf gHoist) T O_law_low F_law_plus
    have O_law_part := Hw.ok_law_part (P := PySem.Challenge.rw_hoistworks_k08_whole_the_least_pull.prog) (w := w) (base := base) (C := Hw.adrOf gHoist) T O_law_whole O_law_low F_law_part
    have O_law_table := Hw.ok_law_table (P := PySem.Challenge.rw_hoistworks_k08_whole_the_least_pull.prog) (w := w) (base := base) (C := Hw.adrOf gHoist) T O_law_cell_at F_law_table
    have O_minus := Hw.ok_minus (P := PySem.Challenge.rw_hoistworks_k08_whole_the_least_pull.prog) (w := w) (base := base) (C := Hw.adrOf gHoist) T O_fraction F_minus
    have O_times := Hw.ok_times (P := PySem.Challenge.rw_hoistworks_k08_whole_the_least_pull.prog) (w := w) (base := base) (C := Hw.adrOf gHoist) T O_fraction F_times
    have O_over := Hw.ok_over (P := PySem.Challenge.rw_hoistworks_k08_whole_the_least_pull.prog) (w := w) (base := base) (C := Hw.adrOf gHoist) T O_fraction F_over
    have O_law_sum := Hw.ok_law_sum (P := PySem.Challenge.rw_hoistworks_k08_whole_the_least_pull.prog) (w := w) (base := base) (C := Hw.adrOf gHoist) T O_law_plus F_law_sum
    have O_law_spare := Hw.ok_law_spare (P := PySem.Challenge.rw_hoistworks_k08_whole_the_least_pull.prog) (w := w) (base := base) (C := Hw.adrOf gHoist) T O_law_plus F_law_spare
    have O_law_parts := Hw.ok_law_parts (P := PySem.Challenge.rw_hoistworks_k08_whole_the_least_pull.prog) (w := w) (base := base) (C := Hw.adrOf gHoist) T O_law_part F_law_parts
    have O_law_drawn := Hw.ok_law_drawn (P := PySem.Challenge.rw_hoistworks_k08_whole_the_least_pull.prog) (w := w) (base := base) (C := Hw.adrOf gHoist) T O_law_table O_law_cell_at F_law_drawn
    have O_Board_leaving := Hw.ok_Board_leaving (P := PySem.Challenge.rw_hoistworks_k08_whole_the_least_pull.prog) (w := w) (base := base) (C := Hw.adrOf gHoist) T gNOUGHT BT hN O_less O_over F_Board_leaving
    have O_Board_worths := Hw.ok_Board_worths (P := PySem.Challenge.rw_hoistworks_k08_whole_the_least_pull.prog) (w := w) (base := base) (C := Hw.adrOf gHoist) T BT O_minus F_Board_worths
    have O_taken := Hw.ok_taken (P := PySem.Challenge.rw_hoistworks_k08_whole_the_least_pull.prog) (w := w) (base := base) (C := Hw.adrOf gHoist) T O_minus O_times F_taken
    have O_turned_about := Hw.ok_turned_about (P := PySem.Challenge.rw_hoistworks_k08_whole_the_least_pull.prog) (w := w) (base := base) (C := Hw.adrOf gHoist) T gNOUGHT hN O_minus F_turned_about
    have O_law_held := Hw.ok_law_held (P := PySem.Challenge.rw_hoistworks_k08_whole_the_least_pull.prog) (w := w) (base := base) (C := Hw.adrOf gHoist) T O_law_sum F_law_held
    have O_Board_price := Hw.ok_Board_price (P := PySem.Challenge.rw_hoistworks_k08_whole_the_least_pull.prog) (w := w) (base := base) (C := Hw.adrOf gHoist) T gNOUGHT BT hN O_taken F_Board_price
    have O_Board_turn := Hw.ok_Board_turn (P := PySem.Challenge.rw_hoistworks_k08_whole_the_least_pull.prog) (w := w) (base := base) (C := Hw.adrOf gHoist) T BT O_over O_taken F_Board_turn
    have O_law_shown := Hw.ok_law_shown (P := PySem.Challenge.rw_hoistworks_k08_whole_the_least_pull.prog) (w := w) (base := base) (C := Hw.adrOf gHoist) T O_law_spare O_law_parts O_law_held F_law_shown
    have O_Board_go := Hw.ok_Board_go (P := PySem.Challenge.rw_hoistworks_k08_whole_the_least_pull.prog) (w := w) (base := base) (C := Hw.adrOf gHoist) T BT O_below O_Board_turn O_Board_leaving F_Board_go
    have O_Board_clear_helps := Hw.ok_Board_clear_helps (P := PySem.Challenge.rw_hoistworks_k08_whole_the_least_pull.prog) (w := w) (base := base) (C := Hw.adrOf gHoist) T BT O_other_than_nought O_Board_turn F_Board_clear_helps
    have O_first_board := Hw.ok_first_board (P := PySem.Challenge.rw_hoistworks_k08_whole_the_least_pull.prog) (w := w) (base := base) (C := Hw.adrOf gHoist) T gNOUGHT gONE gBoard BT hN hO O_Board_init O_Board_price O_Board_go F_first_board
    have O_judged := Hw.ok_judged (P := PySem.Challenge.rw_hoistworks_k08_whole_the_least_pull.prog) (w := w) (base := base) (C := Hw.adrOf gHoist) T gNOUGHT gONE BT hN hO O_first_board O_Board_pulls O_turned_about O_Board_worths F_judged
    have O_least_pull := Hw.ok_least_pull (P := PySem.Challenge.rw_hoistworks_k08_whole_the_least_pull.prog) (w := w) (base := base) T gNOUGHT e_Sinks HT BT hN hO O_Hoist_see_rope O_first_board O_Board_clear_helps O_Board_price O_Board_go O_Board_pulls O_turned_about O_Board_worths F_least_pull
    have O_law_tried := Hw.ok_law_tried (P := PySem.Challenge.rw_hoistworks_k08_whole_the_least_pull.prog) (w := w) (base := base) (C := Hw.adrOf gHoist) T e_HoistError e_NoHoist e_NoRope e_NoBody e_Sinks e_TooMany e_BadText R_Sinks O_least_pull F_law_tried
    exact Hw.ok_law T gHoist O_law_drawn O_Hoist_init O_law_tried O_least_pull O_law_ropes O_law_cell_at O_law_shown O_judged L
