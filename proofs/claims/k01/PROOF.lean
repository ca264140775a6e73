import PyProof.Rows.All
import Wide.All
import OpenK.AllK
import Wide.FinOn
import HandS.ForMost
import HandS.ForExc
import HandS.Wide
import HandS.IsInst
import PyProof.StrBlock2
import PySem.Challenge.RW_hoistworks_k01_fractions
set_option Elab.async false
set_option linter.all false
set_option maxRecDepth 100000
set_option maxHeartbeats 1000000
namespace Hw
open PySem L2

/-! data as the program's values stand for it -/
inductive Mark where
  | x | f | o
  deriving DecidableEq
inductive D where
  | non
  | bl (b : Bool)
  | int (i : Int)
  | str (s : Str)
  | scr (ns : List Int)
  | ho (m : Mark) (ws : List Int) (tb : List (List Int))
  | lst (m : Mark) (xs : List D)
  | tup (xs : List D)

def Ex (H H' : Hp) : Prop := ∀ a o, H a = some o → H' a = some o
theorem Ex.refl (H : Hp) : Ex H H := fun _ _ h => h
theorem Ex.trans {H H1 H2 : Hp} (a : Ex H H1) (b : Ex H1 H2) : Ex H H2 := fun x o h => b x o (a x o h)
theorem Ex.free {H H' : Hp} (e : Ex H H') {a : Addr} (h : H' a = none) : H a = none := by
  cases q : H a with
  | none => rfl
  | some o => rw [e a o q] at h; cases h
theorem Ex.new {H : Hp} {p : Addr} {o : HO} (h : H p = none) : Ex H (upd H p o) := fun a u e => by
  rw [upd_ne (ne_of_none e h)]; exact e
theorem Ex.mut {H H' : Hp} {p : Addr} {o : HO} (e : Ex H H') (h : H p = none) : Ex H (upd H' p o) := fun a u q => by
  rw [upd_ne (ne_of_none q h)]; exact e a u q

def mkOk (Hf : Hp) (a : Addr) : Mark → Prop
  | .x => True
  | .f => Hf a = none
  | .o => Hf a ≠ none

def hoF (l t : Addr) : List (Str × V) := [("heavy", .ref l), ("table", .ref t)]
/-- a tuple as it stands: tracked, or one of the module's own -/
def TupAt (K : PySem.W.Frag) (H : Hp) (a : Addr) (xs : List V) : Prop := H a = some (.tup xs) ∨ SqT K (fun _ => none) a xs
theorem TupAt.sq {K : PySem.W.Frag} {H : Hp} {a : Addr} {xs : List V} (h : TupAt K H a xs) : SqT K H a xs := by
  rcases h with h | h
  · exact SqT.of h
  · rcases h with (h | ⟨o, h⟩) | h
    · cases h
    · cases h
    · exact .inr h

mutual
def Rp (K : PySem.W.Frag) (C : Addr) (Hf H : Hp) : D → V → Prop
  | .non, v => v = .non
  | .bl b, v => v = .bl b
  | .int i, v => v = .int i
  | .str s, v => v = .str s
  | .scr ns, v => ∃ a, v = .ref a ∧ SqL K H a (ns.map V.int)
  | .ho m ws tb, v => ∃ a dx l t ts, v = .ref a ∧ mkOk Hf a m ∧ mkOk Hf l m ∧ mkOk Hf t m ∧ (∀ b ∈ ts, mkOk Hf b m) ∧ H a = some (.ins C dx (hoF l t)) ∧
      H l = some (.lst (ws.map V.int)) ∧ H t = some (.lst (ts.map V.ref)) ∧ Paired (fun (b : Addr) (r : List Int) => H b = some (.lst (r.map V.int))) ts tb
  | .lst m ds, v => ∃ a xs, v = .ref a ∧ mkOk Hf a m ∧ H a = some (.lst xs) ∧ RpAll K C Hf H ds xs
  | .tup ds, v => ∃ a xs, v = .ref a ∧ TupAt K H a xs ∧ RpAll K C Hf H ds xs
def RpAll (K : PySem.W.Frag) (C : Addr) (Hf H : Hp) : List D → List V → Prop
  | [], vs => vs = []
  | d :: ds, vs => ∃ v r, vs = v :: r ∧ Rp K C Hf H d v ∧ RpAll K C Hf H ds r
end

mutual
/-- the marks forgotten -/
def D.era : D → D
  | .ho _ ws tb => .ho .x ws tb
  | .lst _ ds => .lst .x (eraAll ds)
  | .tup ds => .tup (eraAll ds)
  | .non => .non
  | .bl b => .bl b
  | .int i => .int i
  | .str s => .str s
  | .scr ns => .scr ns
def eraAll : List D → List D
  | [] => []
  | d :: ds => d.era :: eraAll ds
end
mutual
/-- all marks are of new things -/
def D.fr : D → Bool
  | .ho m _ _ => decide (m = .f)
  | .lst m ds => decide (m = .f) && frAll ds
  | .tup ds => frAll ds
  | .scr _ => false
  | _ => true
def frAll : List D → Bool
  | [] => true
  | d :: ds => d.fr && frAll ds
end

section
variable {K : PySem.W.Frag} {C : Addr} {Hf Hf' H H' : Hp}
theorem TupAt.mono {a : Addr} {xs : List V} (e : ∀ a xs, H a = some (.tup xs) → H' a = some (.tup xs)) (h : TupAt K H a xs) : TupAt K H' a xs := h.imp (e a xs) id
theorem paired_imp {α β : Type} {F G : α → β → Prop} (h : ∀ a b, F a b → G a b) : ∀ {l : List α} {m : List β}, Paired F l m → Paired G l m
  | _, _, .nil => .nil
  | _, _, .cons a b => .cons (h _ _ a) (paired_imp h b)
mutual
theorem Rp.mono (e : Ex H H') : ∀ (d : D) (v : V), Rp K C Hf H d v → Rp K C Hf H' d v
  | .non, v, h => h
  | .bl b, v, h => h
  | .int i, v, h => h
  | .str s, v, h => h
  | .scr ns, v, h => by
    obtain ⟨a, q, ho⟩ := h
    refine ⟨a, q, ?_⟩
    rcases ho with (ho | ⟨o, ho⟩) | ho
    · exact .inl (.inl (e _ _ ho))
    · exact .inl (.inr ⟨o, e _ _ ho⟩)
    · exact .inr ho
  | .ho m ws tb, v, h => by
    obtain ⟨a, dx, l, t, ts, q, m1, m2, m3, m4, h1, h2, h3, h4⟩ := h
    exact ⟨a, dx, l, t, ts, q, m1, m2, m3, m4, e _ _ h1, e _ _ h2, e _ _ h3, paired_imp (fun b r q => e _ _ q) h4⟩
  | .lst m ds, v, h => by
    obtain ⟨a, xs, q, mk, h1, h2⟩ := h
    exact ⟨a, xs, q, mk, e _ _ h1, RpAll.mono e ds xs h2⟩
  | .tup ds, v, h => by
    obtain ⟨a, xs, q, h1, h2⟩ := h
    exact ⟨a, xs, q, h1.mono (fun a xs q => e _ _ q), RpAll.mono e ds xs h2⟩
theorem RpAll.mono (e : Ex H H') : ∀ (ds : List D) (vs : List V), RpAll K C Hf H ds vs → RpAll K C Hf H' ds vs
  | [], vs, h => h
  | d :: ds, vs, h => by
    obtain ⟨v, r, q, h1, h2⟩ := h
    exact ⟨v, r, q, Rp.mono e d v h1, RpAll.mono e ds r h2⟩
end
mutual
theorem Rp.era : ∀ (d : D) (v : V), Rp K C Hf H d v → Rp K C Hf' H d.era v
  | .non, v, h => h
  | .bl b, v, h => h
  | .int i, v, h => h
  | .str s, v, h => h
  | .scr ns, v, h => h
  | .ho m ws tb, v, h => by
    obtain ⟨a, dx, l, t, ts, q, m1, m2, m3, m4, h1⟩ := h
    exact ⟨a, dx, l, t, ts, q, trivial, trivial, trivial, fun _ _ => trivial, h1⟩
  | .lst m ds, v, h => by
    obtain ⟨a, xs, q, mk, h1, h2⟩ := h
    exact ⟨a, xs, q, trivial, h1, RpAll.era ds xs h2⟩
  | .tup ds, v, h => by
    obtain ⟨a, xs, q, h1, h2⟩ := h
    exact ⟨a, xs, q, h1, RpAll.era ds xs h2⟩
theorem RpAll.era : ∀ (ds : List D) (vs : List V), RpAll K C Hf H ds vs → RpAll K C Hf' H (eraAll ds) vs
  | [], vs, h => h
  | d :: ds, vs, h => by
    obtain ⟨v, r, q, h1, h2⟩ := h
    exact ⟨v, r, q, Rp.era d v h1, RpAll.era ds r h2⟩
end
/-- what is new stands in the base that the new things join -/
structure Into (H Hf' Hb' H' : Hp) : Prop where
  fr : ∀ a, H a = none → Hf' a = none
  nw : ∀ a o, H a = none → H' a = some o → Hb' a = some o
  tu : ∀ a xs, H' a = some (.tup xs) → Hb' a = some (.tup xs)
theorem mkf {m : Mark} (h : decide (m = .f) = true) {Hf : Hp} {a : Addr} (k : mkOk Hf a m) : Hf a = none := by
  have e : m = .f := of_decide_eq_true h
  subst e
  exact k
mutual
theorem Rp.into {Hb' : Hp} (I : Into H Hf' Hb' H') : ∀ (d : D) (v : V), d.fr = true → Rp K C H H' d v → Rp K C Hf' Hb' d v
  | .non, v, _, h => h
  | .bl b, v, _, h => h
  | .int i, v, _, h => h
  | .str s, v, _, h => h
  | .scr ns, v, f, h => by cases f
  | .ho m ws tb, v, f, h => by
    obtain ⟨a, dx, l, t, ts, q, m1, m2, m3, m4, h1, h2, h3, h4⟩ := h
    have e : m = .f := of_decide_eq_true f
    subst e
    refine ⟨a, dx, l, t, ts, q, I.fr _ m1, I.fr _ m2, I.fr _ m3, fun b hb => I.fr _ (m4 b hb), I.nw _ _ m1 h1, I.nw _ _ m2 h2, I.nw _ _ m3 h3, ?_⟩
    clear h3 f
    induction h4 with
    | nil => exact .nil
    | cons r _ ih => exact .cons (I.nw _ _ (m4 _ List.mem_cons_self) r) (ih fun b hb => m4 b (List.mem_cons_of_mem _ hb))
  | .lst m ds, v, f, h => by
    obtain ⟨a, xs, q, mk, h1, h2⟩ := h
    have f' : (decide (m = .f) && frAll ds) = true := f
    rw [Bool.and_eq_true] at f'
    have e : m = .f := of_decide_eq_true f'.1
    subst e
    exact ⟨a, xs, q, I.fr _ mk, I.nw _ _ mk h1, RpAll.into I ds xs f'.2 h2⟩
  | .tup ds, v, f, h => by
    obtain ⟨a, xs, q, h1, h2⟩ := h
    exact ⟨a, xs, q, h1.mono I.tu, RpAll.into I ds xs f h2⟩
theorem RpAll.into {Hb' : Hp} (I : Into H Hf' Hb' H') : ∀ (ds : List D) (vs : List V), frAll ds = true → RpAll K C H H' ds vs → RpAll K C Hf' Hb' ds vs
  | [], vs, _, h => h
  | d :: ds, vs, f, h => by
    obtain ⟨v, r, q, h1, h2⟩ := h
    have f' : (d.fr && frAll ds) = true := f
    rw [Bool.and_eq_true] at f'
    exact ⟨v, r, q, Rp.into I d v f'.1 h1, RpAll.into I ds r f'.2 h2⟩
end

/-! lists of data -/
theorem RpAll.length : ∀ {ds : List D} {vs : List V}, RpAll K C Hf H ds vs → vs.length = ds.length
  | [], vs, h => by cases h; rfl
  | d :: ds, vs, h => by
    obtain ⟨v, r, rfl, _, h2⟩ := h
    simp [RpAll.length h2]
theorem RpAll.nil : RpAll K C Hf H [] [] := rfl
theorem RpAll.cons {d : D} {ds : List D} {v : V} {vs : List V} (h : Rp K C Hf H d v) (t : RpAll K C Hf H ds vs) : RpAll K C Hf H (d :: ds) (v :: vs) := ⟨v, vs, rfl, h, t⟩
theorem RpAll.one {d : D} {v : V} (h : Rp K C Hf H d v) : RpAll K C Hf H [d] [v] := .cons h .nil
theorem RpAll.get : ∀ {ds : List D} {vs : List V} {i : Nat} {d : D}, RpAll K C Hf H ds vs → ds[i]? = some d → ∃ v, vs[i]? = some v ∧ Rp K C Hf H d v
  | [], _, _, _, _, e => by simp at e
  | d :: ds, vs, 0, d', h, e => by
    obtain ⟨v, r, rfl, h1, _⟩ := h
    simp at e; subst e
    exact ⟨v, rfl, h1⟩
  | d :: ds, vs, i + 1, d', h, e => by
    obtain ⟨v, r, rfl, _, h2⟩ := h
    obtain ⟨u, q, hu⟩ := RpAll.get (i := i) h2 (by simpa using e)
    exact ⟨u, by simpa using q, hu⟩
theorem RpAll.append : ∀ {ds es : List D} {vs us : List V}, RpAll K C Hf H ds vs → RpAll K C Hf H es us → RpAll K C Hf H (ds ++ es) (vs ++ us)
  | [], es, vs, us, h, t => by cases h; exact t
  | d :: ds, es, vs, us, h, t => by
    obtain ⟨v, r, rfl, h1, h2⟩ := h
    exact ⟨v, r ++ us, rfl, h1, RpAll.append h2 t⟩
theorem RpAll.take : ∀ {ds : List D} {vs : List V} (n : Nat), RpAll K C Hf H ds vs → RpAll K C Hf H (ds.take n) (vs.take n)
  | ds, vs, 0, _ => by simp only [List.take_zero]; exact .nil
  | [], vs, n + 1, h => by cases h; exact .nil
  | d :: ds, vs, n + 1, h => by
    obtain ⟨v, r, rfl, h1, h2⟩ := h
    exact ⟨v, r.take n, rfl, h1, RpAll.take n h2⟩
theorem RpAll.drop : ∀ {ds : List D} {vs : List V} (n : Nat), RpAll K C Hf H ds vs → RpAll K C Hf H (ds.drop n) (vs.drop n)
  | ds, vs, 0, h => h
  | [], vs, n + 1, h => by cases h; exact .nil
  | d :: ds, vs, n + 1, h => by
    obtain ⟨v, r, rfl, h1, h2⟩ := h
    exact RpAll.drop n h2
theorem RpAll.set : ∀ {ds : List D} {vs : List V} (n : Nat) {d : D} {v : V}, RpAll K C Hf H ds vs → Rp K C Hf H d v → RpAll K C Hf H (ds.set n d) (vs.set n v)
  | [], vs, n, d, v, h, _ => by cases h; exact .nil
  | _ :: ds, vs, 0, d, v, h, q => by
    obtain ⟨_, r, rfl, _, h2⟩ := h
    exact ⟨v, r, rfl, q, h2⟩
  | _ :: ds, vs, n + 1, d, v, h, q => by
    obtain ⟨u, r, rfl, h1, h2⟩ := h
    exact ⟨u, r.set n v, rfl, h1, RpAll.set n h2 q⟩
theorem RpAll.reverse {ds : List D} {vs : List V} (h : RpAll K C Hf H ds vs) : RpAll K C Hf H ds.reverse vs.reverse := by
  induction ds generalizing vs with
  | nil => cases h; exact .nil
  | cons d ds ih =>
    obtain ⟨v, r, rfl, h1, h2⟩ := h
    rw [List.reverse_cons, List.reverse_cons]
    exact (ih h2).append (.one h1)
theorem RpAll.ints : ∀ {ns : List Int} {vs : List V}, RpAll K C Hf H (ns.map D.int) vs → vs = ns.map V.int
  | [], vs, h => h
  | n :: ns, vs, h => by
    obtain ⟨v, r, rfl, h1, h2⟩ := h
    have e : v = V.int n := h1
    rw [e, RpAll.ints h2]; rfl
theorem RpAll.of_ints : ∀ (ns : List Int), RpAll K C Hf H (ns.map D.int) (ns.map V.int)
  | [] => .nil
  | n :: ns => .cons rfl (RpAll.of_ints ns)
theorem RpAll.strs : ∀ {ns : List Str} {vs : List V}, RpAll K C Hf H (ns.map D.str) vs → vs = ns.map V.str
  | [], vs, h => h
  | n :: ns, vs, h => by
    obtain ⟨v, r, rfl, h1, h2⟩ := h
    have e : v = V.str n := h1
    rw [e, RpAll.strs h2]; rfl
theorem RpAll.of_strs : ∀ (ns : List Str), RpAll K C Hf H (ns.map D.str) (ns.map V.str)
  | [] => .nil
  | n :: ns => .cons rfl (RpAll.of_strs ns)
theorem eraAll_map {α : Type} (f g : α → D) (h : ∀ a, (f a).era = g a) : ∀ l : List α, eraAll (l.map f) = l.map g
  | [] => rfl
  | a :: l => by
    show (f a).era :: eraAll (l.map f) = g a :: l.map g
    rw [h a, eraAll_map f g h l]
theorem frAll_map {α : Type} (f : α → D) (h : ∀ a, (f a).fr = true) : ∀ l : List α, frAll (l.map f) = true
  | [] => rfl
  | a :: l => by
    show ((f a).fr && frAll (l.map f)) = true
    rw [h a, frAll_map f h l]; rfl
end

/-! the frame's names, as data -/
inductive Fld where
  | dat (d : D)
  | own (xs : List D)
inductive Cell where
  | un
  | any
  | dat (d : D)
  | own (xs : List D)
  | ob (C : Addr) (fs : List (Str × Fld))

def FldsOk (K : PySem.W.Frag) (C : Addr) (Hf Hb H : Hp) : List Addr → List (Str × Fld) → List (Str × V) → Prop
  | l, [], vs => l = [] ∧ vs = []
  | l, (n, .dat d) :: fs, vs => ∃ v r, vs = (n, v) :: r ∧ Rp K C Hf Hb d v ∧ FldsOk K C Hf Hb H l fs r
  | l, (n, .own xs) :: fs, vs => ∃ p us r l', vs = (n, .ref p) :: r ∧ l = p :: l' ∧ H p = some (.lst us) ∧ RpAll K C Hf Hb xs us ∧ FldsOk K C Hf Hb H l' fs r
def CellOk (K : PySem.W.Frag) (C : Addr) (Hf Hb H : Hp) (l : List Addr) (s : Option V) : Cell → Prop
  | .un => l = [] ∧ s = none
  | .any => l = []
  | .dat d => l = [] ∧ ∃ v, s = some v ∧ Rp K C Hf Hb d v
  | .own xs => ∃ p us, l = [p] ∧ s = some (.ref p) ∧ H p = some (.lst us) ∧ RpAll K C Hf Hb xs us
  | .ob C' fs => ∃ a dx vs l', l = a :: l' ∧ s = some (.ref a) ∧ H a = some (.ins C' dx vs) ∧ FldsOk K C Hf Hb H l' fs vs

structure EnvB (K : PySem.W.Frag) (C : Addr) (Hf H0 Hb H : Hp) (L : List (List Addr)) (σ : St) (ρ : List Cell) : Prop where
  e0 : Ex H0 Hb
  e1 : Ex Hb H
  ef : Ex Hf H
  nw : ∀ a o, Hb a = some o → H0 a = some o ∨ Hf a = none
  tu : ∀ a xs, H a = some (.tup xs) → Hb a = some (.tup xs)
  len : σ.length = ρ.length
  lel : L.length = ρ.length
  cell : ∀ (i : Nat) (c : Cell), ρ[i]? = some c → ∃ s l, σ[i]? = some s ∧ L[i]? = some l ∧ CellOk K C Hf Hb H l s c
  dis : ∀ (i j : Nat) (li lj : List Addr) (a : Addr), L[i]? = some li → L[j]? = some lj → a ∈ li → a ∈ lj → i = j
  nd : ∀ (i : Nat) (l : List Addr), L[i]? = some l → l.Nodup
  fr : ∀ (i : Nat) (l : List Addr) (a : Addr), L[i]? = some l → a ∈ l → Hb a = none ∧ Hf a = none ∧ H a ≠ none
structure Step (Hb H Hb' H' : Hp) : Prop where
  hb : Ex Hb Hb'
  h : Ex H H'
  bh : Ex Hb' H'
  nw : ∀ a o, Hb' a = some o → Hb a = some o ∨ H a = none
  tu : ∀ a xs, H' a = some (.tup xs) → Hb' a = some (.tup xs)
section
variable {K : PySem.W.Frag} {C : Addr} {Hf H0 Hb H Hb' H' Hb'' H'' : Hp} {L : List (List Addr)} {σ : St} {ρ : List Cell}
theorem EnvB.step0 (E : EnvB K C Hf H0 Hb H L σ ρ) : Step Hb H Hb H := ⟨.refl _, .refl _, E.e1, fun _ _ h => .inl h, E.tu⟩
theorem Step.trans (a : Step Hb H Hb' H') (b : Step Hb' H' Hb'' H'') : Step Hb H Hb'' H'' :=
  ⟨a.hb.trans b.hb, a.h.trans b.h, b.bh, fun x o q => by
    rcases b.nw x o q with z | z
    · exact a.nw x o z
    · exact .inr (a.h.free z), b.tu⟩
theorem FldsOk.mono (eb : Ex Hb Hb') (e : Ex H H') : ∀ {fs : List (Str × Fld)} {l : List Addr} {vs : List (Str × V)}, FldsOk K C Hf Hb H l fs vs → FldsOk K C Hf Hb' H' l fs vs
  | [], l, vs, h => h
  | (n, .dat d) :: fs, l, vs, h => by
    obtain ⟨v, r, q, h1, h2⟩ := h
    exact ⟨v, r, q, Rp.mono eb d v h1, FldsOk.mono eb e h2⟩
  | (n, .own xs) :: fs, l, vs, h => by
    obtain ⟨p, us, r, l', q, q2, h0, h1, h2⟩ := h
    exact ⟨p, us, r, l', q, q2, e _ _ h0, RpAll.mono eb xs us h1, FldsOk.mono eb e h2⟩
theorem CellOk.mono (eb : Ex Hb Hb') (e : Ex H H') {l : List Addr} {s : Option V} : ∀ {c : Cell}, CellOk K C Hf Hb H l s c → CellOk K C Hf Hb' H' l s c
  | .un, h => h
  | .any, h => h
  | .dat d, h => by
    obtain ⟨q, v, q2, h1⟩ := h
    exact ⟨q, v, q2, Rp.mono eb d v h1⟩
  | .own xs, h => by
    obtain ⟨p, us, q, q2, h0, h1⟩ := h
    exact ⟨p, us, q, q2, e _ _ h0, RpAll.mono eb xs us h1⟩
  | .ob C' fs, h => by
    obtain ⟨a, dx, vs, l', q, q2, h0, h1⟩ := h
    exact ⟨a, dx, vs, l', q, q2, e _ _ h0, FldsOk.mono eb e h1⟩
theorem EnvB.step (E : EnvB K C Hf H0 Hb H L σ ρ) (S : Step Hb H Hb' H') : EnvB K C Hf H0 Hb' H' L σ ρ where
  e0 := E.e0.trans S.hb
  e1 := S.bh
  ef := E.ef.trans S.h
  nw := fun a o q => by
    rcases S.nw a o q with z | z
    · exact E.nw a o z
    · exact .inr (E.ef.free z)
  tu := S.tu
  len := E.len
  lel := E.lel
  cell := fun i c q => by
    obtain ⟨s, l, h1, h2, h3⟩ := E.cell i c q
    exact ⟨s, l, h1, h2, h3.mono S.hb S.h⟩
  dis := E.dis
  nd := E.nd
  fr := fun i l a q m => by
    obtain ⟨h1, h2, h3⟩ := E.fr i l a q m
    refine ⟨?_, h2, fun z => h3 (S.h.free z)⟩
    cases q : Hb' a with
    | none => rfl
    | some o =>
      rcases S.nw a o q with z | z
      · rw [h1] at z; cases z
      · exact absurd z h3
/-- a call that changed nothing that stood: the base takes what is new -/
def joinH (H Hb H' : Hp) : Hp := fun a => if (H a).isNone then H' a else Hb a
theorem EnvB.join (E : EnvB K C Hf H0 Hb H L σ ρ) (e : Ex H H') : Step Hb H (joinH H Hb H') H' where
  hb := fun a o q => by
    unfold joinH
    rw [E.e1 a o q]
    exact q
  h := e
  bh := fun a o q => by
    unfold joinH at q
    by_cases z : H a = none
    · rw [z] at q; exact q
    · cases w : H a with
      | none => exact absurd w z
      | some u =>
        rw [w] at q
        have q' : Hb a = some o := q
        exact e _ _ (E.e1 _ _ q')
  nw := fun a o q => by
    unfold joinH at q
    cases w : H a with
    | none => exact .inr rfl
    | some u => rw [w] at q; exact .inl q
  tu := fun a xs q => by
    unfold joinH
    cases w : H a with
    | none => exact q
    | some u =>
      have z := e _ _ w
      rw [q] at z
      have z' : u = .tup xs := (Option.some.inj z).symm
      rw [z'] at w
      exact E.tu a xs w
theorem EnvB.joinInto (E : EnvB K C Hf H0 Hb H L σ ρ) (e : Ex H H') : Into H Hf (joinH H Hb H') H' where
  fr := fun a q => E.ef.free q
  nw := fun a o q z => by
    unfold joinH
    rw [q]; exact z
  tu := (E.join e).tu
end

/-! what readings evaluate to -/
section
variable (K : PySem.W.Frag) (C : Addr)
/-- the value stands for d; nothing that is owned is part of it -/
def EvD (te : TE) (ρ : List Cell) (d : D) : Prop := ∀ Hf H0 Hb H L σ, EnvB K C Hf H0 Hb H L σ ρ → ∀ Q : VK, (∀ v Hb' H', Step Hb H Hb' H' → Rp K C Hf Hb' d v → Q v H') → te σ H Q
/-- the value stands for d as the heap is now -/
def EvR (te : TE) (ρ : List Cell) (d : D) : Prop := ∀ Hf H0 Hb H L σ, EnvB K C Hf H0 Hb H L σ ρ → ∀ Q : VK, (∀ v Hb' H', Step Hb H Hb' H' → Rp K C Hf H' d v → Q v H') → te σ H Q
/-- a list, its items not owned -/
def EvS (te : TE) (ρ : List Cell) (xs : List D) : Prop := ∀ Hf H0 Hb H L σ, EnvB K C Hf H0 Hb H L σ ρ → ∀ Q : VK, (∀ p us Hb' H', Step Hb H Hb' H' → H' p = some (.lst us) → RpAll K C Hf Hb' xs us → Q (.ref p) H') → te σ H Q
/-- a new list -/
def EvL (te : TE) (ρ : List Cell) (xs : List D) : Prop := ∀ Hf H0 Hb H L σ, EnvB K C Hf H0 Hb H L σ ρ → ∀ Q : VK, (∀ p us Hb' H', Step Hb H Hb' H' → H p = none → Hb' p = none → H' p = some (.lst us) → RpAll K C Hf Hb' xs us → Q (.ref p) H') → te σ H Q
/-- a test -/
def EvB (t : TT) (ρ : List Cell) (b : Bool) : Prop := ∀ Hf H0 Hb H L σ, EnvB K C Hf H0 Hb H L σ ρ → ∀ Q : Bool → Hp → Prop, (∀ Hb' H', Step Hb H Hb' H' → Q b H') → t σ H Q
/-- arguments: as the heap is now -/
def EvA (ta : TA) (ρ : List Cell) (ds : List D) : Prop := ∀ Hf H0 Hb H L σ, EnvB K C Hf H0 Hb H L σ ρ → ∀ Q : List V → Hp → Prop, (∀ vs Hb' H', Step Hb H Hb' H' → RpAll K C Hf H' ds vs → Q vs H') → ta σ H Q
/-- arguments, none owned -/
def EvAD (ta : TA) (ρ : List Cell) (ds : List D) : Prop := ∀ Hf H0 Hb H L σ, EnvB K C Hf H0 Hb H L σ ρ → ∀ Q : List V → Hp → Prop, (∀ vs Hb' H', Step Hb H Hb' H' → RpAll K C Hf Hb' ds vs → Q vs H') → ta σ H Q
/-- a block, from names that stand so -/
def Go (Hf H0 : Hp) (t : TS) (Dn : Ends) (ρ : List Cell) : Prop := ∀ Hb H L σ, EnvB K C Hf H0 Hb H L σ ρ → t Dn σ H
end
end Hw
namespace Hw
open PySem L2

/-! operators by kind -/
def xAdd : TE → TE → TE := tOp (rI0 fun i j => .int (i + j))
def xSub : TE → TE → TE := tOp (rI0 fun i j => .int (i - j))
def xMul : TE → TE → TE := tOp (rI CMulW fun i j => .int (i * j))
def xDiv : TE → TE → TE := tOp (rI CDivW fun i j => .int (i / j))
def xMod : TE → TE → TE := tOp (rI (fun _ j => 0 < j) fun i j => .int (i % j))
def xPow : TE → TE → TE := tOp (rI CPow fun i j => .int (i ^ j.toNat))
def xNeg : TE → TE := tUn (rU fun i => .int (-i))
def xLt : TE → TE → TE := tOp (rI0 fun i j => .bl (decide (i < j)))
def xLe : TE → TE → TE := tOp (rI0 fun i j => .bl (decide (i ≤ j)))
def xGt : TE → TE → TE := tOp (rI0 fun i j => .bl (decide (j < i)))
def xGe : TE → TE → TE := tOp (rI0 fun i j => .bl (decide (j ≤ i)))
def xEq (K : PySem.W.Frag) : TE → TE → TE := tOp (rEqD K)
def xNe (K : PySem.W.Frag) : TE → TE → TE := tOp (rNeD K)
def rIsNn : R2 := fun x y H Q => y = .non ∧ Q (.bl (decide (x = .non))) H
def rNotNn : R2 := fun x y H Q => y = .non ∧ Q (.bl (!decide (x = .non))) H
def xIsN (a : TE) : TE := tOp rIsNn a (tC .non)
def xNotN (a : TE) : TE := tOp rNotNn a (tC .non)
def rLe0 : R2 := rI0 fun i j => .bl (decide (i ≤ j))
def rLt0 : R2 := rI0 fun i j => .bl (decide (i < j))
/-- a <= b < c, a <= b <= c -/
def xLeLt : TE → TE → TE → TE := tChain rLe0 rLt0
def xLeLe : TE → TE → TE → TE := tChain rLe0 rLe0
def xLtLt : TE → TE → TE → TE := tChain rLt0 rLt0
def xIdx (K : PySem.W.Frag) : TE → TE → TE := tOp (rIx K)
def xCat : TE → TE → TE := tOp rCat
def xRep : TE → TE → TE := tOp rRep
def rCatS : R2 := fun x y H Q => ∃ i j, x = .str i ∧ y = .str j ∧ i.length + j.length ≤ sizeLine ∧ Q (.str (i ++ j)) H
def xCatS : TE → TE → TE := tOp rCatS
def rLenU (K : PySem.W.Frag) : List V → Hp → VK → Prop := fun xs H Q => ∃ x n, xs = [x] ∧ LenV K x H n ∧ Q (.int n) H
def xLen (K : PySem.W.Frag) (a : TE) : TE := tCB (rLenU K) (tCons a tNil)
def rAbs : List V → Hp → VK → Prop := fun xs H Q => ∃ i, xs = [.int i] ∧ Q (.int (if i < 0 then -i else i)) H
def xAbs (a : TE) : TE := tCB rAbs (tCons a tNil)
def rInt1 : List V → Hp → VK → Prop := fun xs H Q => (∃ i, xs = [.int i] ∧ Q (.int i) H) ∨ ∃ k, xs = [.bl k] ∧ Q (.int (if k then 1 else 0)) H
def rIntS : List V → Hp → VK → Prop := fun xs H Q => ∃ a n, xs = [.str a] ∧ PySem.intText? a = some n ∧ a.length ≤ 640 ∧ Q (.int n) H
def xInt (a : TE) : TE := tCB (fun xs H Q => rInt1 xs H Q ∨ rIntS xs H Q) (tCons a tNil)
/-- isinstance(x, T), T a built-in type's name -/
def xIsi (K : PySem.W.Frag) (n : String) (a : TE) : TE := tCB (rIsi K) (tCons a (tCons (tC (.ty n)) tNil))
section
variable {X : Cx} {a b c : Expr} {ta tb tc : TE} {pos : Pos}
theorem pe_xAdd (ha : PE X a ta) (hb : PE X b tb) : PE X (.BinOp a .Add b pos) (xAdd ta tb) := pe_op op_add ha hb
theorem pe_xSub (ha : PE X a ta) (hb : PE X b tb) : PE X (.BinOp a .Sub b pos) (xSub ta tb) := pe_op op_sub ha hb
theorem pe_xMul (ha : PE X a ta) (hb : PE X b tb) : PE X (.BinOp a .Mult b pos) (xMul ta tb) := pe_op op_mulW ha hb
theorem pe_xDiv (ha : PE X a ta) (hb : PE X b tb) : PE X (.BinOp a .FloorDiv b pos) (xDiv ta tb) := pe_op op_fdivW ha hb
theorem pe_xMod (ha : PE X a ta) (hb : PE X b tb) : PE X (.BinOp a .Mod b pos) (xMod ta tb) := pe_op op_mod ha hb
theorem pe_xPow (ha : PE X a ta) (hb : PE X b tb) : PE X (.BinOp a .Pow b pos) (xPow ta tb) := pe_op op_pow ha hb
theorem pe_xNeg (ha : PE X a ta) : PE X (.UnaryOp .USub a pos) (xNeg ta) := pe_un un_neg ha
theorem pe_xCat (ha : PE X a ta) (hb : PE X b tb) : PE X (.BinOp a .Add b pos) (xCat ta tb) := pe_op op_cat ha hb
theorem pe_xRep (ha : PE X a ta) (hb : PE X b tb) : PE X (.BinOp a .Mult b pos) (xRep ta tb) := pe_op op_rep ha hb
theorem pe_xCatS (ha : PE X a ta) (hb : PE X b tb) : PE X (.BinOp a .Add b pos) (xCatS ta tb) := pe_op op_add_str ha hb
theorem pe_xLt (ha : PE X a ta) (hb : PE X b tb) : PE X (.Compare a [.Lt] [b] pos) (xLt ta tb) := pe_cmpR op_lt ha hb (nomark _)
theorem pe_xLe (ha : PE X a ta) (hb : PE X b tb) : PE X (.Compare a [.LtE] [b] pos) (xLe ta tb) := pe_cmpR op_le ha hb (nomark _)
theorem pe_xGt (ha : PE X a ta) (hb : PE X b tb) : PE X (.Compare a [.Gt] [b] pos) (xGt ta tb) := pe_cmpR op_gt ha hb (nomark _)
theorem pe_xGe (ha : PE X a ta) (hb : PE X b tb) : PE X (.Compare a [.GtE] [b] pos) (xGe ta tb) := pe_cmpR op_ge ha hb (nomark _)
theorem pe_xEq {k : Nat} (hr : Room k X.A) (ha : PE X a ta) (hb : PE X b tb) : PE X (.Compare a [.Eq] [b] pos) (xEq X.K ta tb) := pe_cmpR (op_eqD hr.units) ha hb (nomark _)
theorem pe_xNe {k : Nat} (hr : Room k X.A) (ha : PE X a ta) (hb : PE X b tb) : PE X (.Compare a [.NotEq] [b] pos) (xNe X.K ta tb) := pe_cmpR (op_neD hr.units) ha hb (nomark _)
theorem pe_xIsN {j p} (ha : PE X a ta) : PE X (.Compare a [.Is] [.Constant .none j p] pos) (xIsN ta) := pe_cmpR op_isN ha pe_non (nomark _)
theorem pe_xNotN {j p} (ha : PE X a ta) : PE X (.Compare a [.IsNot] [.Constant .none j p] pos) (xNotN ta) := pe_cmpR op_notN ha pe_non (nomark _)
theorem pt_xLt (ha : PE X a ta) (hb : PE X b tb) : PT X (.Compare a [.Lt] [b] pos) (tB (xLt ta tb)) := pt_cmpR op_lt ha hb (nomark _)
theorem pt_xLe (ha : PE X a ta) (hb : PE X b tb) : PT X (.Compare a [.LtE] [b] pos) (tB (xLe ta tb)) := pt_cmpR op_le ha hb (nomark _)
theorem pt_xGt (ha : PE X a ta) (hb : PE X b tb) : PT X (.Compare a [.Gt] [b] pos) (tB (xGt ta tb)) := pt_cmpR op_gt ha hb (nomark _)
theorem pt_xGe (ha : PE X a ta) (hb : PE X b tb) : PT X (.Compare a [.GtE] [b] pos) (tB (xGe ta tb)) := pt_cmpR op_ge ha hb (nomark _)
theorem pt_xEq {k : Nat} (hr : Room k X.A) (ha : PE X a ta) (hb : PE X b tb) : PT X (.Compare a [.Eq] [b] pos) (tB (xEq X.K ta tb)) := pt_cmpR (op_eqD hr.units) ha hb (nomark _)
theorem pt_xNe {k : Nat} (hr : Room k X.A) (ha : PE X a ta) (hb : PE X b tb) : PT X (.Compare a [.NotEq] [b] pos) (tB (xNe X.K ta tb)) := pt_cmpR (op_neD hr.units) ha hb (nomark _)
theorem pt_xIsN {j p} (ha : PE X a ta) : PT X (.Compare a [.Is] [.Constant .none j p] pos) (tB (xIsN ta)) := pt_cmpR op_isN ha pe_non (nomark _)
theorem pt_xNotN {j p} (ha : PE X a ta) : PT X (.Compare a [.IsNot] [.Constant .none j p] pos) (tB (xNotN ta)) := pt_cmpR op_notN ha pe_non (nomark _)
theorem pe_xLeLt (ha : PE X a ta) (hb : PE X b tb) (hc : PE X c tc) (hm : lastMarks [.LtE, .Lt] [b, c] = false := by with_unfolding_all rfl) : PE X (.Compare a [.LtE, .Lt] [b, c] pos) (xLeLt ta tb tc) := pe_chain op_le op_lt ha hb hc hm
theorem pe_xLeLe (ha : PE X a ta) (hb : PE X b tb) (hc : PE X c tc) (hm : lastMarks [.LtE, .LtE] [b, c] = false := by with_unfolding_all rfl) : PE X (.Compare a [.LtE, .LtE] [b, c] pos) (xLeLe ta tb tc) := pe_chain op_le op_le ha hb hc hm
theorem pe_xLtLt (ha : PE X a ta) (hb : PE X b tb) (hc : PE X c tc) (hm : lastMarks [.Lt, .Lt] [b, c] = false := by with_unfolding_all rfl) : PE X (.Compare a [.Lt, .Lt] [b, c] pos) (xLtLt ta tb tc) := pe_chain op_lt op_lt ha hb hc hm
theorem pt_xLeLt (ha : PE X a ta) (hb : PE X b tb) (hc : PE X c tc) (hm : lastMarks [.LtE, .Lt] [b, c] = false := by with_unfolding_all rfl) : PT X (.Compare a [.LtE, .Lt] [b, c] pos) (tB (xLeLt ta tb tc)) := pt_chain op_le op_lt ha hb hc hm
theorem pt_xLeLe (ha : PE X a ta) (hb : PE X b tb) (hc : PE X c tc) (hm : lastMarks [.LtE, .LtE] [b, c] = false := by with_unfolding_all rfl) : PT X (.Compare a [.LtE, .LtE] [b, c] pos) (tB (xLeLe ta tb tc)) := pt_chain op_le op_le ha hb hc hm
theorem pt_xLtLt (ha : PE X a ta) (hb : PE X b tb) (hc : PE X c tc) (hm : lastMarks [.Lt, .Lt] [b, c] = false := by with_unfolding_all rfl) : PT X (.Compare a [.Lt, .Lt] [b, c] pos) (tB (xLtLt ta tb tc)) := pt_chain op_lt op_lt ha hb hc hm
theorem pe_xIdx (ha : PE X a ta) (hb : PE X b tb) (hs : PlainIx b := by exact fun _ _ => rfl) : PE X (.Subscript a b pos) (xIdx X.K ta tb) := pe_ix ix_seq ha hb hs
theorem pe_xLen {p} (hm : X.mg "len" = none) (ha : PE X a ta) (hg : Gl X "len" := by rfl) (he : starEach (a :: []) X.env = (false, eval a X.env) :: starEach [] X.env := by rfl) : PE X (.Call (.Name "len" p) [a] [] pos) (xLen X.K ta) :=
  pe_callB call_len hg hm boot_len (pa_cons ha pa_nil he) (he := he)
theorem pe_xAbs {p} (hm : X.mg "abs" = none) (ha : PE X a ta) (hg : Gl X "abs" := by rfl) (he : starEach (a :: []) X.env = (false, eval a X.env) :: starEach [] X.env := by rfl) : PE X (.Call (.Name "abs" p) [a] [] pos) (xAbs ta) :=
  pe_callB call_abs hg hm (by decide +kernel) (pa_cons ha pa_nil he) (he := he)
theorem pe_xInt {p} (hm : X.mg "int" = none) (ha : PE X a ta) (hg : Gl X "int" := by rfl) (he : starEach (a :: []) X.env = (false, eval a X.env) :: starEach [] X.env := by rfl) : PE X (.Call (.Name "int" p) [a] [] pos) (xInt ta) :=
  pe_callTy (CallR.or call_int1 call_int_str) hg hm (by decide +kernel) (pa_cons ha pa_nil he) (he := he)
theorem pe_xIsi {p p2} {n : String} {x : Str} (hm : X.mg "isinstance" = none) (hn : X.mg x = none) (hv : bootBuiltins x = some (.type n)) (ha : PE X a ta) (hg : Gl X "isinstance" := by rfl) (hx : Gl X x := by rfl) (hxn : x ≠ "__name__" := by decide)
    (hdb : (x == ("__debug__" : Str)) = false := by decide)
    (he : starEach (a :: [.Name x p2]) X.env = (false, eval a X.env) :: starEach [.Name x p2] X.env := by rfl) (he2 : starEach [.Name x p2] X.env = (false, eval (.Name x p2) X.env) :: starEach [] X.env := by rfl) (hpl : (backTo pos (starEach [.Name x p2] X.env)).any (·.1) = false := by rfl) :
    PE X (.Call (.Name "isinstance" p) [a, .Name x p2] [] pos) (xIsi X.K n ta) :=
  pe_callB call_isi hg hm (by decide +kernel) (pa_cons ha (pa_cons (pe_bltn hx hn hv rfl hxn hdb) pa_nil he2) he) (he := he) (hpl := hpl)
end
end Hw
namespace Hw
open PySem L2

section
variable {K : PySem.W.Frag} {C : Addr} {ρ : List Cell} {te ta tb tc : TE} {t u : TT} {d d' : D} {xs ys : List D} {m n k : Int}
/-! from one kind of knowing to another -/
theorem EvD.r (h : EvD K C te ρ d) : EvR K C te ρ d := fun Hf H0 Hb H L σ E Q q => h Hf H0 Hb H L σ E Q fun v Hb' H' S r => q v Hb' H' S (Rp.mono S.bh d v r)
theorem EvD.s {mk : Mark} (h : EvD K C te ρ (.lst mk xs)) : EvS K C te ρ xs := fun Hf H0 Hb H L σ E Q q => h Hf H0 Hb H L σ E Q fun v Hb' H' S r => by
  obtain ⟨a, us, rfl, _, h1, h2⟩ := r
  exact q a us Hb' H' S (S.bh _ _ h1) h2
theorem EvL.s (h : EvL K C te ρ xs) : EvS K C te ρ xs := fun Hf H0 Hb H L σ E Q q => h Hf H0 Hb H L σ E Q fun p us Hb' H' S _ _ h1 h2 => q p us Hb' H' S h1 h2
theorem EvL.dat (h : EvL K C te ρ xs) : EvD K C te ρ (.lst .f xs) := fun Hf H0 Hb H L σ E Q q => h Hf H0 Hb H L σ E Q fun p us Hb' H' S n1 n2 h1 h2 => by
  refine q (.ref p) (upd Hb' p (.lst us)) H' ⟨S.hb.mut (E.e1.free n1), S.h, fun a o w => ?_, fun a o w => ?_, fun a ys w => ?_⟩ ⟨p, us, rfl, E.ef.free n1, upd_same, RpAll.mono (Ex.new n2) xs us h2⟩
  · by_cases z : a = p
    · subst z; rw [upd_same] at w; cases w; exact h1
    · rw [upd_ne z] at w; exact S.bh _ _ w
  · by_cases z : a = p
    · subst z; exact .inr n1
    · rw [upd_ne z] at w; exact S.nw _ _ w
  · rw [upd_ne (fun z => by subst z; rw [h1] at w; cases w)]
    exact S.tu _ _ w
theorem EvS.r (h : EvS K C te ρ xs) : EvR K C te ρ (.lst .x xs) := fun Hf H0 Hb H L σ E Q q => h Hf H0 Hb H L σ E Q fun p us Hb' H' S h1 h2 => q _ Hb' H' S ⟨p, us, rfl, trivial, h1, RpAll.mono S.bh xs us h2⟩
theorem EvR.era (h : EvR K C te ρ d) : EvR K C te ρ d.era := fun Hf H0 Hb H L σ E Q q => h Hf H0 Hb H L σ E Q fun v Hb' H' S r => q v Hb' H' S (Rp.era d v r)
theorem EvD.era (h : EvD K C te ρ d) : EvD K C te ρ d.era := fun Hf H0 Hb H L σ E Q q => h Hf H0 Hb H L σ E Q fun v Hb' H' S r => q v Hb' H' S (Rp.era d v r)
theorem EvR.to (h : EvR K C te ρ d) (e : d = d') : EvR K C te ρ d' := e ▸ h
theorem EvD.to (h : EvD K C te ρ d) (e : d = d') : EvD K C te ρ d' := e ▸ h
theorem EvS.to (h : EvS K C te ρ xs) (e : xs = ys) : EvS K C te ρ ys := e ▸ h
theorem EvL.to (h : EvL K C te ρ xs) (e : xs = ys) : EvL K C te ρ ys := e ▸ h
theorem EvB.to {b b' : Bool} (h : EvB K C t ρ b) (e : b = b') : EvB K C t ρ b' := e ▸ h
/-! names, constants -/
theorem ed_var {i : Nat} (h : ρ[i]? = some (.dat d)) : EvD K C (tVar i) ρ d := fun Hf H0 Hb H L σ E Q q => by
  obtain ⟨s, l, h1, _, _, v, rfl, h2⟩ := E.cell i _ h
  exact ⟨v, h1, q v Hb H E.step0 h2⟩
theorem es_own {i : Nat} (h : ρ[i]? = some (.own xs)) : EvS K C (tVar i) ρ xs := fun Hf H0 Hb H L σ E Q q => by
  obtain ⟨s, l, h1, _, p, us, _, rfl, h2, h3⟩ := E.cell i _ h
  exact ⟨_, h1, q p us Hb H E.step0 h2 h3⟩
theorem es_var {i : Nat} {mk : Mark} (h : ρ[i]? = some (.dat (.lst mk xs))) : EvS K C (tVar i) ρ xs := (ed_var h).s
theorem ed_int : EvD K C (tC (.int m)) ρ (.int m) := fun Hf H0 Hb H L σ E Q q => q _ Hb H E.step0 rfl
theorem ed_bl {b : Bool} : EvD K C (tC (.bl b)) ρ (.bl b) := fun Hf H0 Hb H L σ E Q q => q _ Hb H E.step0 rfl
theorem ed_non : EvD K C (tC .non) ρ .non := fun Hf H0 Hb H L σ E Q q => q _ Hb H E.step0 rfl
theorem ed_str {s : Str} : EvD K C (tC (.str s)) ρ (.str s) := fun Hf H0 Hb H L σ E Q q => q _ Hb H E.step0 rfl
/-- a tuple of the module's own -/
theorem ed_con {p : Addr} {vs : List V} (h : SqT K (fun _ => none) p vs) (hr : ∀ Hf H, RpAll K C Hf H xs vs) : EvD K C (tC (.ref p)) ρ (.tup xs) := fun Hf H0 Hb H L σ E Q q =>
  q _ Hb H E.step0 ⟨p, vs, rfl, .inr h, hr Hf Hb⟩
/-! two places -/
/-- two values at once -/
theorem two (ha : EvR K C ta ρ d) (hb : EvR K C tb ρ d') {Hf H0 Hb H : Hp} {L : List (List Addr)} {σ : St} (E : EnvB K C Hf H0 Hb H L σ ρ) {R : V → V → Hp → Prop}
    (q : ∀ x y Hb' H', Step Hb H Hb' H' → Rp K C Hf H' d x → Rp K C Hf H' d' y → R x y H') : ta σ H fun x H1 => tb σ H1 fun y H2 => R x y H2 :=
  ha Hf H0 Hb H L σ E _ fun x Hb1 H1 S1 r1 => hb Hf H0 Hb1 H1 L σ (E.step S1) _ fun y Hb2 H2 S2 r2 => q x y Hb2 H2 (S1.trans S2) (Rp.mono S2.h d x r1) r2
theorem ed_opI {g : Int → Int → Int} (ha : EvR K C ta ρ (.int m)) (hb : EvR K C tb ρ (.int n)) : EvD K C (tOp (rI0 fun i j => .int (g i j)) ta tb) ρ (.int (g m n)) := fun Hf H0 Hb H L σ E Q q =>
  two ha hb E fun x y Hb' H' S r1 r2 => ⟨m, n, r1, r2, q _ Hb' H' S rfl⟩
theorem ed_opIc {P : Int → Int → Prop} {g : Int → Int → Int} (ha : EvR K C ta ρ (.int m)) (hb : EvR K C tb ρ (.int n)) (hc : P m n) : EvD K C (tOp (rI P fun i j => .int (g i j)) ta tb) ρ (.int (g m n)) := fun Hf H0 Hb H L σ E Q q =>
  two ha hb E fun x y Hb' H' S r1 r2 => ⟨m, n, r1, r2, hc, q _ Hb' H' S rfl⟩
theorem ed_opB {g : Int → Int → Bool} (ha : EvR K C ta ρ (.int m)) (hb : EvR K C tb ρ (.int n)) : EvD K C (tOp (rI0 fun i j => .bl (g i j)) ta tb) ρ (.bl (g m n)) := fun Hf H0 Hb H L σ E Q q =>
  two ha hb E fun x y Hb' H' S r1 r2 => ⟨m, n, r1, r2, q _ Hb' H' S rfl⟩
theorem ed_add (ha : EvR K C ta ρ (.int m)) (hb : EvR K C tb ρ (.int n)) : EvD K C (xAdd ta tb) ρ (.int (m + n)) := ed_opI ha hb
theorem ed_sub (ha : EvR K C ta ρ (.int m)) (hb : EvR K C tb ρ (.int n)) : EvD K C (xSub ta tb) ρ (.int (m - n)) := ed_opI ha hb
theorem ed_mul (ha : EvR K C ta ρ (.int m)) (hb : EvR K C tb ρ (.int n)) (hc : CMulW m n) : EvD K C (xMul ta tb) ρ (.int (m * n)) := ed_opIc ha hb hc
theorem ed_div (ha : EvR K C ta ρ (.int m)) (hb : EvR K C tb ρ (.int n)) (hc : CDivW m n) : EvD K C (xDiv ta tb) ρ (.int (m / n)) := ed_opIc ha hb hc
theorem ed_mod (ha : EvR K C ta ρ (.int m)) (hb : EvR K C tb ρ (.int n)) (hc : 0 < n) : EvD K C (xMod ta tb) ρ (.int (m % n)) := ed_opIc ha hb hc
theorem ed_pow (ha : EvR K C ta ρ (.int m)) (hb : EvR K C tb ρ (.int n)) (hc : CPow m n) : EvD K C (xPow ta tb) ρ (.int (m ^ n.toNat)) := ed_opIc ha hb hc
theorem ed_neg (ha : EvR K C ta ρ (.int m)) : EvD K C (xNeg ta) ρ (.int (-m)) := fun Hf H0 Hb H L σ E Q q => ha Hf H0 Hb H L σ E _ fun x Hb1 H1 S r => ⟨m, r, q _ Hb1 H1 S rfl⟩
theorem ed_lt (ha : EvR K C ta ρ (.int m)) (hb : EvR K C tb ρ (.int n)) : EvD K C (xLt ta tb) ρ (.bl (decide (m < n))) := ed_opB ha hb
theorem ed_le (ha : EvR K C ta ρ (.int m)) (hb : EvR K C tb ρ (.int n)) : EvD K C (xLe ta tb) ρ (.bl (decide (m ≤ n))) := ed_opB ha hb
theorem ed_gt (ha : EvR K C ta ρ (.int m)) (hb : EvR K C tb ρ (.int n)) : EvD K C (xGt ta tb) ρ (.bl (decide (n < m))) := ed_opB ha hb
theorem ed_ge (ha : EvR K C ta ρ (.int m)) (hb : EvR K C tb ρ (.int n)) : EvD K C (xGe ta tb) ρ (.bl (decide (n ≤ m))) := ed_opB ha hb
theorem ed_chain {f g : Int → Int → Bool} (ha : EvR K C ta ρ (.int m)) (hb : EvR K C tb ρ (.int n)) (hc : EvR K C tc ρ (.int k)) :
    EvD K C (tChain (rI0 fun i j => .bl (f i j)) (rI0 fun i j => .bl (g i j)) ta tb tc) ρ (.bl (f m n && g n k)) := fun Hf H0 Hb H L σ E Q q =>
  two ha hb E fun x y Hb1 H1 S1 r1 r2 => by
    refine ⟨m, n, r1, r2, f m n, rfl, ?_⟩
    cases e : f m n with
    | true =>
      refine iteT ?_
      refine hc Hf H0 Hb1 H1 L σ (E.step S1) _ fun z Hb2 H2 S2 r3 => ⟨n, k, r2, r3, ?_⟩
      refine q _ Hb2 H2 (S1.trans S2) ?_
      show V.bl (g n k) = V.bl (f m n && g n k)
      rw [e]; rfl
    | false =>
      refine iteF ?_
      refine q _ Hb1 H1 S1 ?_
      show V.bl false = V.bl (f m n && g n k)
      rw [e]; rfl
theorem ed_leLt (ha : EvR K C ta ρ (.int m)) (hb : EvR K C tb ρ (.int n)) (hc : EvR K C tc ρ (.int k)) : EvD K C (xLeLt ta tb tc) ρ (.bl (decide (m ≤ n) && decide (n < k))) := ed_chain ha hb hc
theorem ed_leLe (ha : EvR K C ta ρ (.int m)) (hb : EvR K C tb ρ (.int n)) (hc : EvR K C tc ρ (.int k)) : EvD K C (xLeLe ta tb tc) ρ (.bl (decide (m ≤ n) && decide (n ≤ k))) := ed_chain ha hb hc
theorem ed_ltLt (ha : EvR K C ta ρ (.int m)) (hb : EvR K C tb ρ (.int n)) (hc : EvR K C tc ρ (.int k)) : EvD K C (xLtLt ta tb tc) ρ (.bl (decide (m < n) && decide (n < k))) := ed_chain ha hb hc
theorem ed_isN (ha : EvR K C ta ρ d) {b : Bool} (hb : ∀ Hf H v, Rp K C Hf H d v → decide (v = .non) = b) : EvD K C (xIsN ta) ρ (.bl b) := fun Hf H0 Hb H L σ E Q q => ha Hf H0 Hb H L σ E _ fun x Hb1 H1 S r => by
  refine ⟨rfl, q _ Hb1 H1 S ?_⟩
  show V.bl (decide (x = .non)) = V.bl b
  rw [hb _ _ _ r]
theorem ed_notN (ha : EvR K C ta ρ d) {b : Bool} (hb : ∀ Hf H v, Rp K C Hf H d v → (!decide (v = .non)) = b) : EvD K C (xNotN ta) ρ (.bl b) := fun Hf H0 Hb H L σ E Q q => ha Hf H0 Hb H L σ E _ fun x Hb1 H1 S r => by
  refine ⟨rfl, q _ Hb1 H1 S ?_⟩
  show V.bl (!decide (x = .non)) = V.bl b
  rw [hb _ _ _ r]
/-! and, or, not: as values, as tests -/
theorem ed_andV {a b : Bool} (ha : EvD K C ta ρ (.bl a)) (hb : a = true → EvD K C tb ρ (.bl b)) : EvD K C (tAndV ta tb) ρ (.bl (a && b)) := fun Hf H0 Hb H L σ E Q q => ha Hf H0 Hb H L σ E _ fun x Hb1 H1 S r => by
  refine ⟨a, r, ?_⟩
  cases a with
  | true => exact iteT (hb rfl Hf H0 Hb1 H1 L σ (E.step S) _ fun y Hb2 H2 S2 r2 => q y Hb2 H2 (S.trans S2) r2)
  | false => exact iteF (q _ Hb1 H1 S rfl)
theorem ed_orV {a b : Bool} (ha : EvD K C ta ρ (.bl a)) (hb : a = false → EvD K C tb ρ (.bl b)) : EvD K C (tOrV ta tb) ρ (.bl (a || b)) := fun Hf H0 Hb H L σ E Q q => ha Hf H0 Hb H L σ E _ fun x Hb1 H1 S r => by
  refine ⟨a, r, ?_⟩
  cases a with
  | true => exact iteT (q _ Hb1 H1 S rfl)
  | false => exact iteF (hb rfl Hf H0 Hb1 H1 L σ (E.step S) _ fun y Hb2 H2 S2 r2 => q y Hb2 H2 (S.trans S2) r2)
theorem ed_notV {a : Bool} (ha : EvD K C ta ρ (.bl a)) : EvD K C (tNotV ta) ρ (.bl (!a)) := fun Hf H0 Hb H L σ E Q q => ha Hf H0 Hb H L σ E _ fun x Hb1 H1 S r => ⟨a, r, q _ Hb1 H1 S rfl⟩
theorem eb_val {b : Bool} (h : EvD K C te ρ (.bl b)) : EvB K C (tB te) ρ b := fun Hf H0 Hb H L σ E Q q => h Hf H0 Hb H L σ E _ fun x Hb1 H1 S r => ⟨b, r, q Hb1 H1 S⟩
theorem eb_and {a b : Bool} (ha : EvB K C t ρ a) (hb : a = true → EvB K C u ρ b) : EvB K C (tAnd t u) ρ (a && b) := fun Hf H0 Hb H L σ E Q q => ha Hf H0 Hb H L σ E _ fun Hb1 H1 S => by
  cases a with
  | true => exact iteT (hb rfl Hf H0 Hb1 H1 L σ (E.step S) _ fun Hb2 H2 S2 => q Hb2 H2 (S.trans S2))
  | false => exact iteF (q Hb1 H1 S)
theorem eb_or {a b : Bool} (ha : EvB K C t ρ a) (hb : a = false → EvB K C u ρ b) : EvB K C (tOr t u) ρ (a || b) := fun Hf H0 Hb H L σ E Q q => ha Hf H0 Hb H L σ E _ fun Hb1 H1 S => by
  cases a with
  | true => exact iteT (q Hb1 H1 S)
  | false => exact iteF (hb rfl Hf H0 Hb1 H1 L σ (E.step S) _ fun Hb2 H2 S2 => q Hb2 H2 (S.trans S2))
theorem eb_not {a : Bool} (ha : EvB K C t ρ a) : EvB K C (tNot t) ρ (!a) := fun Hf H0 Hb H L σ E Q q => ha Hf H0 Hb H L σ E _ fun Hb1 H1 S => q Hb1 H1 S
theorem eb_yes : EvB K C tYes ρ true := fun Hf H0 Hb H L σ E Q q => q Hb H E.step0
theorem ed_if {b : Bool} (h : EvB K C t ρ b) (h1 : b = true → EvD K C ta ρ d) (h2 : b = false → EvD K C tb ρ d) : EvD K C (tIf t ta tb) ρ d := fun Hf H0 Hb H L σ E Q q => h Hf H0 Hb H L σ E _ fun Hb1 H1 S => by
  cases b with
  | true => exact iteT (h1 rfl Hf H0 Hb1 H1 L σ (E.step S) _ fun y Hb2 H2 S2 r2 => q y Hb2 H2 (S.trans S2) r2)
  | false => exact iteF (h2 rfl Hf H0 Hb1 H1 L σ (E.step S) _ fun y Hb2 H2 S2 r2 => q y Hb2 H2 (S.trans S2) r2)
/-! arguments, displays -/
theorem ea_nil : EvA K C tNil ρ [] := fun Hf H0 Hb H L σ E Q q => q [] Hb H E.step0 .nil
theorem ea_cons {tr : TA} (h : EvR K C te ρ d) (hr : EvA K C tr ρ xs) : EvA K C (tCons te tr) ρ (d :: xs) := fun Hf H0 Hb H L σ E Q q => h Hf H0 Hb H L σ E _ fun x Hb1 H1 S r =>
  hr Hf H0 Hb1 H1 L σ (E.step S) _ fun vs Hb2 H2 S2 r2 => q (x :: vs) Hb2 H2 (S.trans S2) (.cons (Rp.mono S2.h d x r) r2)
theorem eq_nil : EvAD K C tNil ρ [] := fun Hf H0 Hb H L σ E Q q => q [] Hb H E.step0 .nil
theorem eq_cons {tr : TA} (h : EvD K C te ρ d) (hr : EvAD K C tr ρ xs) : EvAD K C (tCons te tr) ρ (d :: xs) := fun Hf H0 Hb H L σ E Q q => h Hf H0 Hb H L σ E _ fun x Hb1 H1 S r =>
  hr Hf H0 Hb1 H1 L σ (E.step S) _ fun vs Hb2 H2 S2 r2 => q (x :: vs) Hb2 H2 (S.trans S2) (.cons (Rp.mono S2.hb d x r) r2)
theorem line_of {n : Nat} (h : n ≤ 100000) : n ≤ sizeLine := Nat.le_trans h (by decide)
theorem lineT {n : Nat} (h : n < 100000) : n < sizeLine := Nat.lt_of_lt_of_le h (by decide)
theorem ed_tup {t : TA} (h : EvAD K C t ρ xs) (hl : xs.length ≤ 100000) : EvD K C (tTup t) ρ (.tup xs) := fun Hf H0 Hb H L σ E Q q => h Hf H0 Hb H L σ E _ fun vs Hb1 H1 S r => by
  refine ⟨line_of (by rw [r.length]; exact hl), fun p hp => ?_⟩
  have hb : Hb1 p = none := S.bh.free hp
  refine q _ (upd Hb1 p (.tup vs)) (upd H1 p (.tup vs)) ⟨S.hb.trans (Ex.new hb), S.h.trans (Ex.new hp), fun a o w => ?_, fun a o w => ?_, fun a ys w => ?_⟩ ⟨p, vs, rfl, .inl upd_same, RpAll.mono (Ex.new hb) xs vs r⟩
  · by_cases z : a = p
    · subst z; rw [upd_same] at w; cases w; exact upd_same
    · rw [upd_ne z] at w ⊢; exact S.bh _ _ w
  · by_cases z : a = p
    · subst z; exact .inr (S.h.free hp)
    · rw [upd_ne z] at w; exact S.nw _ _ w
  · by_cases z : a = p
    · subst z; rw [upd_same] at w; cases w; exact upd_same
    · rw [upd_ne z] at w ⊢; exact S.tu _ _ w
/-- a new list at p: told as one of the owner's -/
theorem newList {Hb H Hb1 H1 : Hp} (S : Step Hb H Hb1 H1) {p : Addr} {vs : List V} (hp : H1 p = none) : Step Hb H Hb1 (upd H1 p (.lst vs)) where
  hb := S.hb
  h := S.h.trans (Ex.new hp)
  bh := fun a o w => by rw [upd_ne (ne_of_none (S.bh _ _ w) hp)]; exact S.bh _ _ w
  nw := S.nw
  tu := fun a ys w => by
    by_cases z : a = p
    · subst z; rw [upd_same] at w; cases w
    · rw [upd_ne z] at w; exact S.tu _ _ w
theorem el_lst {t : TA} (h : EvAD K C t ρ xs) (hl : xs.length ≤ 100000) : EvL K C (tLst t) ρ xs := fun Hf H0 Hb H L σ E Q q => h Hf H0 Hb H L σ E _ fun vs Hb1 H1 S r =>
  ⟨line_of (by rw [r.length]; exact hl), fun p hp => q p vs Hb1 _ (newList S hp) (S.h.free hp) (S.bh.free hp) upd_same r⟩
/-! items, lengths -/
theorem atI_of {α : Type} {l : List α} {i : Int} {x : α} (h0 : 0 ≤ i) (h : l[i.toNat]? = some x) : atI l i = some x := by
  have e : i = ((i.toNat : Nat) : Int) := by omega
  rw [e]; exact atI_nat h
theorem RpAll.atI {Hf H : Hp} {vs : List V} {i : Int} (r : RpAll K C Hf H xs vs) (h : atI xs i = some d) : ∃ v, atI vs i = some v ∧ Rp K C Hf H d v := by
  unfold L2.atI at h ⊢
  rw [r.length]
  cases e : ixN xs.length i with
  | none => rw [e] at h; cases h
  | some j =>
    rw [e] at h
    exact r.get h
theorem ed_idxS {i : Int} (ha : EvS K C ta ρ xs) (hb : EvR K C tb ρ (.int i)) (h : atI xs i = some d) : EvD K C (xIdx K ta tb) ρ d := fun Hf H0 Hb H L σ E Q q => ha Hf H0 Hb H L σ E _ fun p us Hb1 H1 S1 h1 h2 =>
  hb Hf H0 Hb1 H1 L σ (E.step S1) _ fun y Hb2 H2 S2 r2 => by
    obtain ⟨v, h3, h4⟩ := h2.atI h
    exact .inl ⟨p, us, i, v, rfl, r2, .of (S2.h _ _ h1), h3, q v Hb2 H2 (S1.trans S2) (Rp.mono S2.hb d v h4)⟩
theorem ed_idxT {i : Int} (ha : EvD K C ta ρ (.tup xs)) (hb : EvR K C tb ρ (.int i)) (h : atI xs i = some d) : EvD K C (xIdx K ta tb) ρ d := fun Hf H0 Hb H L σ E Q q => ha Hf H0 Hb H L σ E _ fun x Hb1 H1 S1 r1 =>
  hb Hf H0 Hb1 H1 L σ (E.step S1) _ fun y Hb2 H2 S2 r2 => by
    obtain ⟨p, us, rfl, h1, h2⟩ := r1
    obtain ⟨v, h3, h4⟩ := h2.atI h
    have h5 : TupAt K H2 p us := h1.mono fun a zs w => S2.h _ _ (S1.bh _ _ w)
    exact .inr (.inl ⟨p, us, i, v, rfl, r2, h5.sq, h3, q v Hb2 H2 (S1.trans S2) (Rp.mono S2.hb d v h4)⟩)
theorem ed_idxStr {s : Str} {i : Int} {c : Nat} (ha : EvR K C ta ρ (.str s)) (hb : EvR K C tb ρ (.int i)) (hz : s.length ≤ 100000) (h : atI s.cps.toList i = some c) : EvD K C (xIdx K ta tb) ρ (.str ⟨#[c]⟩) := fun Hf H0 Hb H L σ E Q q =>
  two ha hb E fun x y Hb' H' S r1 r2 => .inr (.inr ⟨s, i, c, r1, r2, line_of hz, h, q _ Hb' H' S rfl⟩)
theorem sq_mono {H H' : Hp} {a : Addr} {vs : List V} (e : Ex H H') (h : SqL K H a vs) : SqL K H' a vs := by
  rcases h with (h | ⟨o, h⟩) | h
  · exact .inl (.inl (e _ _ h))
  · exact .inl (.inr ⟨o, e _ _ h⟩)
  · exact .inr h
/-- the script's items -/
theorem ed_idxScr {ns : List Int} {i : Int} {z : Int} (ha : EvD K C ta ρ (.scr ns)) (hb : EvR K C tb ρ (.int i)) (h : atI ns i = some z) : EvD K C (xIdx K ta tb) ρ (.int z) := fun Hf H0 Hb H L σ E Q q => ha Hf H0 Hb H L σ E _ fun x Hb1 H1 S1 r1 =>
  hb Hf H0 Hb1 H1 L σ (E.step S1) _ fun y Hb2 H2 S2 r2 => by
    obtain ⟨p, rfl, h1⟩ := Rp.mono S1.bh _ _ r1
    have h3 : atI (ns.map V.int) i = some (V.int z) := by
      unfold L2.atI at h ⊢
      rw [List.length_map]
      cases e : ixN ns.length i with
      | none => rw [e] at h; cases h
      | some j =>
        rw [e] at h
        have h' : ns[j]? = some z := h
        show (ns.map V.int)[j]? = some (V.int z)
        rw [List.getElem?_map, h']; rfl
    exact .inl ⟨p, _, i, V.int z, rfl, r2, sq_mono S2.h h1, h3, q _ Hb2 H2 (S1.trans S2) rfl⟩
theorem ed_lenS (ha : EvS K C ta ρ xs) : EvD K C (xLen K ta) ρ (.int xs.length) := fun Hf H0 Hb H L σ E Q q => ha Hf H0 Hb H L σ E _ fun p us Hb1 H1 S1 h1 h2 =>
  ⟨.ref p, us.length, rfl, .inl ⟨us, .of h1, rfl⟩, q _ Hb1 H1 S1 (by show V.int (us.length : Int) = V.int (xs.length : Int); rw [h2.length])⟩
theorem ed_lenT (ha : EvD K C ta ρ (.tup xs)) : EvD K C (xLen K ta) ρ (.int xs.length) := fun Hf H0 Hb H L σ E Q q => ha Hf H0 Hb H L σ E _ fun x Hb1 H1 S1 r1 => by
  obtain ⟨p, us, rfl, h1, h2⟩ := r1
  refine ⟨.ref p, us.length, rfl, .inr ⟨us, ?_, rfl⟩, q _ Hb1 H1 S1 (by show V.int (us.length : Int) = V.int (xs.length : Int); rw [h2.length])⟩
  exact (h1.mono fun a zs w => S1.bh _ _ w).sq
theorem ed_lenStr {s : Str} (ha : EvR K C ta ρ (.str s)) (hz : s.length ≤ 100000) : EvD K C (xLen K ta) ρ (.int s.length) := fun Hf H0 Hb H L σ E Q q => ha Hf H0 Hb H L σ E _ fun x Hb1 H1 S1 r1 =>
  ⟨x, s.length, rfl, by rw [show x = V.str s from r1]; exact ⟨line_of hz, rfl⟩, q _ Hb1 H1 S1 rfl⟩
theorem ed_lenScr {ns : List Int} (ha : EvD K C ta ρ (.scr ns)) : EvD K C (xLen K ta) ρ (.int ns.length) := fun Hf H0 Hb H L σ E Q q => ha Hf H0 Hb H L σ E _ fun x Hb1 H1 S1 r1 => by
  obtain ⟨p, rfl, h1⟩ := Rp.mono S1.bh _ _ r1
  exact ⟨.ref p, (ns.map V.int).length, rfl, .inl ⟨_, h1, rfl⟩, q _ Hb1 H1 S1 (by show V.int _ = V.int _; rw [List.length_map])⟩
theorem ed_abs (ha : EvR K C ta ρ (.int m)) : EvD K C (xAbs ta) ρ (.int (m.natAbs : Int)) := fun Hf H0 Hb H L σ E Q q => ha Hf H0 Hb H L σ E _ fun x Hb1 H1 S1 r1 =>
  ⟨m, by rw [show x = V.int m from r1], q _ Hb1 H1 S1 (by show V.int _ = V.int _; congr 1; split <;> omega)⟩
theorem ed_intI (ha : EvR K C ta ρ (.int m)) : EvD K C (xInt ta) ρ (.int m) := fun Hf H0 Hb H L σ E Q q => ha Hf H0 Hb H L σ E _ fun x Hb1 H1 S1 r1 =>
  .inl (.inl ⟨m, by rw [show x = V.int m from r1], q _ Hb1 H1 S1 rfl⟩)
theorem ed_intB {b : Bool} (ha : EvR K C ta ρ (.bl b)) : EvD K C (xInt ta) ρ (.int (if b then 1 else 0)) := fun Hf H0 Hb H L σ E Q q => ha Hf H0 Hb H L σ E _ fun x Hb1 H1 S1 r1 =>
  .inl (.inr ⟨b, by rw [show x = V.bl b from r1], q _ Hb1 H1 S1 rfl⟩)
theorem ed_intS {s : Str} (ha : EvR K C ta ρ (.str s)) (h : PySem.intText? s = some n) (hz : s.length ≤ 640) : EvD K C (xInt ta) ρ (.int n) := fun Hf H0 Hb H L σ E Q q => ha Hf H0 Hb H L σ E _ fun x Hb1 H1 S1 r1 =>
  .inr ⟨s, n, by rw [show x = V.str s from r1], h, hz, q _ Hb1 H1 S1 rfl⟩
end
/-! equal data -/
mutual
/-- data as the library compares it: no instances, no script -/
def D.py : D → Option PyData
  | .non => some .none
  | .bl b => some (.bool b)
  | .int i => some (.int i)
  | .str s => some (.str s)
  | .lst _ ds => (pyAll ds).map .list
  | .tup ds => (pyAll ds).map .tuple
  | _ => none
def pyAll : List D → Option (List PyData)
  | [] => some []
  | d :: ds => match d.py, pyAll ds with
    | some p, some ps => some (p :: ps)
    | _, _ => none
end
section
variable {K : PySem.W.Frag} {C : Addr} {Hf H : Hp}
mutual
theorem Rp.py : ∀ (d : D) (v : V) (p : PyData), d.py = some p → Rp K C Hf H d v → Dp K H v p
  | .non, v, p, e, h => by cases e; cases h; exact .non
  | .bl b, v, p, e, h => by cases e; cases h; exact .bl b
  | .int i, v, p, e, h => by cases e; cases h; exact .int i
  | .str s, v, p, e, h => by cases e; cases h; exact .str s
  | .scr ns, v, p, e, h => by cases e
  | .ho m ws tb, v, p, e, h => by cases e
  | .lst m ds, v, p, e, h => by
    obtain ⟨a, xs, rfl, mk, h1, h2⟩ := h
    have e' : (pyAll ds).map .list = some p := e
    cases q : pyAll ds with
    | none => rw [q] at e'; cases e'
    | some ps =>
      rw [q] at e'; cases e'
      exact .lst (.of h1) (RpAll.py ds xs ps q h2)
  | .tup ds, v, p, e, h => by
    obtain ⟨a, xs, rfl, h1, h2⟩ := h
    have e' : (pyAll ds).map .tuple = some p := e
    cases q : pyAll ds with
    | none => rw [q] at e'; cases e'
    | some ps =>
      rw [q] at e'; cases e'
      exact .tup h1.sq (RpAll.py ds xs ps q h2)
theorem RpAll.py : ∀ (ds : List D) (vs : List V) (ps : List PyData), pyAll ds = some ps → RpAll K C Hf H ds vs → DpAll K H vs ps
  | [], vs, ps, e, h => by cases e; cases h; exact .nil
  | d :: ds, vs, ps, e, h => by
    obtain ⟨v, r, rfl, h1, h2⟩ := h
    unfold pyAll at e
    cases q : d.py with
    | none => rw [q] at e; cases e
    | some p =>
      cases q2 : pyAll ds with
      | none => rw [q, q2] at e; cases e
      | some qs =>
        rw [q, q2] at e; cases e
        exact .cons (Rp.py d v p q h1) (RpAll.py ds r qs q2 h2)
end
/-- the two are compared, with this answer -/
structure EqD (d e : D) (b : Bool) : Prop where
  ex : ∃ p q, d.py = some p ∧ e.py = some q ∧ SeqAt.shaped p = true ∧ SeqAt.shaped q = true ∧ PyData.eqv p q = b
variable {ρ : List Cell} {ta tb : TE} {d e : D} {b : Bool}
theorem ed_eq (ha : EvR K C ta ρ d) (hb : EvR K C tb ρ e) (h : EqD d e b) : EvD K C (xEq K ta tb) ρ (.bl b) := fun Hf H0 Hb H L σ E Q q => two ha hb E fun x y Hb' H' S r1 r2 => by
  obtain ⟨p1, p2, e1, e2, s1, s2, e3⟩ := h.ex
  refine ⟨p1, p2, Rp.py d x p1 e1 r1, Rp.py e y p2 e2 r2, s1, s2, ?_⟩
  rw [e3]
  exact q _ Hb' H' S rfl
theorem ed_ne (ha : EvR K C ta ρ d) (hb : EvR K C tb ρ e) (h : EqD d e b) : EvD K C (xNe K ta tb) ρ (.bl (!b)) := fun Hf H0 Hb H L σ E Q q => two ha hb E fun x y Hb' H' S r1 r2 => by
  obtain ⟨p1, p2, e1, e2, s1, s2, e3⟩ := h.ex
  refine ⟨p1, p2, Rp.py d x p1 e1 r1, Rp.py e y p2 e2 r2, s1, s2, ?_⟩
  rw [e3]
  exact q _ Hb' H' S rfl
theorem EqD.int {m n : Int} : EqD (.int m) (.int n) (decide (m = n)) := ⟨⟨_, _, rfl, rfl, rfl, rfl, by show (m == n) = _; by_cases h : m = n <;> simp [h]⟩⟩
theorem EqD.bl {m n : Bool} : EqD (.bl m) (.bl n) (m == n) := ⟨⟨_, _, rfl, rfl, rfl, rfl, rfl⟩⟩
theorem EqD.pair {m n k l : Int} : EqD (.tup [.int m, .int n]) (.tup [.int k, .int l]) (decide (m = k) && decide (n = l)) := ⟨⟨_, _, rfl, rfl, rfl, rfl, by
  show ((m == k) && ((n == l) && true)) = _
  by_cases h : m = k <;> by_cases h2 : n = l <;> simp [h, h2]⟩⟩
end
end Hw
namespace Hw
open PySem L2

/-- from names that stand so, N is reached -/
def At (K : PySem.W.Frag) (C : Addr) (Hf H0 : Hp) (N : St → Hp → Prop) (ρ : List Cell) : Prop := ∀ Hb H L σ, EnvB K C Hf H0 Hb H L σ ρ → N σ H
/-- some names stand so -/
def Gx (K : PySem.W.Frag) (C : Addr) (Hf H0 : Hp) (I : List Cell → Prop) : St → Hp → Prop := fun σ H => ∃ ρ Hb L, I ρ ∧ EnvB K C Hf H0 Hb H L σ ρ

section
variable {K : PySem.W.Frag} {C : Addr} {Hf H0 H1 Hb H Hb' H' : Hp} {L : List (List Addr)} {σ : St} {ρ ρ' : List Cell} {te ta tb : TE} {t u : TT} {d : D} {xs : List D} {D0 : Ends} {N : St → Hp → Prop} {s1 s2 : TS}
/-! the names change -/
theorem getElem?_set_cases {α : Type} {l : List α} {i j : Nat} {x y : α} (h : (l.set i x)[j]? = some y) : (j = i ∧ x = y ∧ i < l.length) ∨ (j ≠ i ∧ l[j]? = some y) := by
  by_cases e : j = i
  · subst e
    have hl : j < l.length := by
      have := (List.getElem?_eq_some_iff.mp h).1
      simpa using this
    rw [List.getElem?_set_self hl] at h
    exact .inl ⟨rfl, Option.some.inj h, hl⟩
  · rw [List.getElem?_set_ne (Ne.symm e)] at h
    exact .inr ⟨e, h⟩
/-- one name gets another cell, with footprint l -/
theorem EnvB.set (E : EnvB K C Hf H0 Hb H L σ ρ) {i : Nat} (hi : i < ρ.length) {c : Cell} {s : Option V} {l : List Addr} (hc : CellOk K C Hf Hb H l s c) (hn : l.Nodup)
    (hf : ∀ a ∈ l, Hb a = none ∧ Hf a = none ∧ H a ≠ none) (hd : ∀ (j : Nat) (lj : List Addr) (a : Addr), j ≠ i → L[j]? = some lj → a ∈ lj → a ∉ l) : EnvB K C Hf H0 Hb H (L.set i l) (σ.set i s) (ρ.set i c) where
  e0 := E.e0
  e1 := E.e1
  ef := E.ef
  nw := E.nw
  tu := E.tu
  len := by simp [E.len]
  lel := by simp [E.lel]
  cell := fun j c' q => by
    rcases getElem?_set_cases q with ⟨rfl, rfl, _⟩ | ⟨e, q⟩
    · exact ⟨s, l, List.getElem?_set_self (by rw [E.len]; exact hi), List.getElem?_set_self (by rw [E.lel]; exact hi), hc⟩
    · obtain ⟨s', l', h1, h2, h3⟩ := E.cell j c' q
      exact ⟨s', l', by rw [List.getElem?_set_ne (Ne.symm e)]; exact h1, by rw [List.getElem?_set_ne (Ne.symm e)]; exact h2, h3⟩
  dis := fun j k lj lk a q1 q2 m1 m2 => by
    rcases getElem?_set_cases q1 with ⟨e, e', _⟩ | ⟨e, w1⟩
    · rcases getElem?_set_cases q2 with ⟨e2, _, _⟩ | ⟨e2, w2⟩
      · exact e.trans e2.symm
      · exact absurd m1 (by rw [← e']; exact hd k lk a e2 w2 m2)
    · rcases getElem?_set_cases q2 with ⟨e2, e2', _⟩ | ⟨e2, w2⟩
      · exact absurd m2 (by rw [← e2']; exact hd j lj a e w1 m1)
      · exact E.dis j k lj lk a w1 w2 m1 m2
  nd := fun j lj q => by
    rcases getElem?_set_cases q with ⟨rfl, rfl, _⟩ | ⟨e, q⟩
    · exact hn
    · exact E.nd j lj q
  fr := fun j lj a q m => by
    rcases getElem?_set_cases q with ⟨rfl, rfl, _⟩ | ⟨e, q⟩
    · exact hf a m
    · exact E.fr j lj a q m
theorem EnvB.setDat (E : EnvB K C Hf H0 Hb H L σ ρ) {i : Nat} (hi : i < ρ.length) {v : V} (h : Rp K C Hf Hb d v) : EnvB K C Hf H0 Hb H (L.set i []) (σ.set i (some v)) (ρ.set i (.dat d)) :=
  E.set hi ⟨rfl, v, rfl, h⟩ List.nodup_nil (fun a m => nomatch m) fun _ _ _ _ _ _ m => nomatch m
theorem EnvB.setAny (E : EnvB K C Hf H0 Hb H L σ ρ) {i : Nat} (hi : i < ρ.length) (s : Option V) : EnvB K C Hf H0 Hb H (L.set i []) (σ.set i s) (ρ.set i .any) :=
  E.set hi rfl List.nodup_nil (fun a m => nomatch m) fun _ _ _ _ _ _ m => nomatch m
/-- H p = none ahead: nobody owns p -/
theorem EnvB.notOwned (E : EnvB K C Hf H0 Hb H L σ ρ) {p : Addr} (hp : H p = none) {j : Nat} {lj : List Addr} (q : L[j]? = some lj) : p ∉ lj := fun m => (E.fr j lj p q m).2.2 hp
theorem EnvB.setOwn (E : EnvB K C Hf H0 Hb H L σ ρ) (S : Step Hb H Hb' H') {i : Nat} (hi : i < ρ.length) {p : Addr} {us : List V} (hp : H p = none) (hb : Hb' p = none) (h1 : H' p = some (.lst us)) (h2 : RpAll K C Hf Hb' xs us) :
    EnvB K C Hf H0 Hb' H' (L.set i [p]) (σ.set i (some (.ref p))) (ρ.set i (.own xs)) := by
  refine (E.step S).set hi ⟨p, us, rfl, rfl, h1, h2⟩ (by simp) (fun a m => ?_) fun j lj a e q m z => ?_
  · have e : a = p := by simpa using m
    subst e
    exact ⟨hb, E.ef.free hp, by rw [h1]; exact fun z => nomatch z⟩
  · have e : a = p := by simpa using z
    subst e
    exact E.notOwned hp q m
theorem FldsOk.keep {p : Addr} (keep : ∀ a o, a ≠ p → H a = some o → H' a = some o) : ∀ {fs : List (Str × Fld)} {l : List Addr} {vs : List (Str × V)}, FldsOk K C Hf Hb H l fs vs → p ∉ l → FldsOk K C Hf Hb H' l fs vs
  | [], l, vs, h, _ => h
  | (n, .dat d) :: fs, l, vs, h, np => by
    obtain ⟨v, r, q1, q2, q3⟩ := h
    exact ⟨v, r, q1, q2, FldsOk.keep keep q3 np⟩
  | (n, .own zs) :: fs, l, vs, h, np => by
    obtain ⟨p3, us3, r, l3, q1, rfl, q2, q3, q4⟩ := h
    exact ⟨p3, us3, r, l3, q1, rfl, keep _ _ (fun z => np (by simp [z])) q2, q3, FldsOk.keep keep q4 (fun m => np (List.mem_cons_of_mem _ m))⟩
/-- an owned list's items change -/
theorem EnvB.mut (E : EnvB K C Hf H0 Hb H L σ ρ) {i : Nat} {xs ys : List D} (hi : ρ[i]? = some (.own xs)) {p : Addr} {us : List V} (hs : σ[i]? = some (some (.ref p))) (h2 : RpAll K C Hf Hb ys us) :
    EnvB K C Hf H0 Hb (upd H p (.lst us)) L σ (ρ.set i (.own ys)) := by
  obtain ⟨s, l, g1, g2, p', us', rfl, rfl, g3, g4⟩ := E.cell i _ hi
  rw [hs] at g1
  cases g1
  have hb : Hb p = none := (E.fr i _ p g2 (by simp)).1
  have hf : Hf p = none := (E.fr i _ p g2 (by simp)).2.1
  have keep : ∀ a o, a ≠ p → H a = some o → upd H p (.lst us) a = some o := fun a o ne q => by rw [upd_ne ne]; exact q
  refine ⟨E.e0, E.e1.mut hb, E.ef.mut hf, E.nw, fun a zs w => ?_, by simp [E.len], by simp [E.lel], fun j c q => ?_, E.dis, E.nd, fun j lj a q m => ?_⟩
  · by_cases z : a = p
    · subst z; rw [upd_same] at w; cases w
    · rw [upd_ne z] at w; exact E.tu a zs w
  · rcases getElem?_set_cases q with ⟨rfl, rfl, _⟩ | ⟨e, q⟩
    · exact ⟨_, _, hs, g2, p, us, rfl, rfl, upd_same, h2⟩
    · obtain ⟨s', l', k1, k2, k3⟩ := E.cell j c q
      refine ⟨s', l', k1, k2, ?_⟩
      have np : p ∉ l' := fun m => e (E.dis j i l' [p] p k2 g2 m (by simp))
      cases c with
      | un => exact k3
      | any => exact k3
      | dat d => exact k3
      | own zs =>
        obtain ⟨p2, us2, rfl, e2, k4, k5⟩ := k3
        exact ⟨p2, us2, rfl, e2, keep _ _ (fun z => np (by simp [z])) k4, k5⟩
      | ob C' fs =>
        obtain ⟨a, dx, vs, l2, rfl, e2, k4, k5⟩ := k3
        refine ⟨a, dx, vs, l2, rfl, e2, keep _ _ (fun z => np (by simp [z])) k4, ?_⟩
        exact FldsOk.keep keep k5 fun m => np (List.mem_cons_of_mem _ m)
  · obtain ⟨k1, k2, k3⟩ := E.fr j lj a q m
    refine ⟨k1, k2, ?_⟩
    by_cases z : a = p
    · subst z; rw [upd_same]; exact fun w => nomatch w
    · rw [upd_ne z]; exact k3
/-- an owned list is given up: it is data from now on -/
theorem EnvB.freeze (E : EnvB K C Hf H0 Hb H L σ ρ) {i : Nat} {xs : List D} (hi : ρ[i]? = some (.own xs)) : ∃ Hb', EnvB K C Hf H0 Hb' H (L.set i []) σ (ρ.set i (.dat (.lst .f xs))) := by
  obtain ⟨s, l, g1, g2, p, us, rfl, rfl, g3, g4⟩ := E.cell i _ hi
  obtain ⟨hb, hf, hn⟩ := E.fr i _ p g2 (by simp)
  have ee : Ex Hb (upd Hb p (.lst us)) := Ex.new hb
  have hil : i < ρ.length := (List.getElem?_eq_some_iff.mp hi).1
  have mo : ∀ {l s c}, CellOk K C Hf Hb H l s c → CellOk K C Hf (upd Hb p (.lst us)) H l s c := fun h => h.mono ee (Ex.refl H)
  refine ⟨upd Hb p (.lst us), E.e0.trans ee, fun a o q => ?_, E.ef, fun a o q => ?_, fun a zs w => ?_, by simp [E.len], by simp [E.lel], fun j c q => ?_, fun j k lj lk a q1 q2 m1 m2 => ?_, fun j lj q => ?_, fun j lj a q m => ?_⟩
  · by_cases z : a = p
    · subst z; rw [upd_same] at q; cases q; exact g3
    · rw [upd_ne z] at q; exact E.e1 _ _ q
  · by_cases z : a = p
    · subst z; exact .inr hf
    · rw [upd_ne z] at q; exact E.nw _ _ q
  · exact ee _ _ (E.tu a zs w)
  · rcases getElem?_set_cases q with ⟨rfl, rfl, _⟩ | ⟨e, q⟩
    · exact ⟨_, [], g1, List.getElem?_set_self (by rw [E.lel]; exact hil), rfl, _, rfl, p, us, rfl, hf, upd_same, RpAll.mono ee _ _ g4⟩
    · obtain ⟨s', l', k1, k2, k3⟩ := E.cell j c q
      exact ⟨s', l', k1, by rw [List.getElem?_set_ne (Ne.symm e)]; exact k2, mo k3⟩
  · rcases getElem?_set_cases q1 with ⟨rfl, rfl, _⟩ | ⟨e, q1⟩
    · exact nomatch m1
    · rcases getElem?_set_cases q2 with ⟨rfl, rfl, _⟩ | ⟨e2, q2⟩
      · exact nomatch m2
      · exact E.dis j k lj lk a q1 q2 m1 m2
  · rcases getElem?_set_cases q with ⟨rfl, rfl, _⟩ | ⟨e, q⟩
    · exact List.nodup_nil
    · exact E.nd j lj q
  · rcases getElem?_set_cases q with ⟨rfl, rfl, _⟩ | ⟨e, q⟩
    · exact nomatch m
    · obtain ⟨k1, k2, k3⟩ := E.fr j lj a q m
      refine ⟨?_, k2, k3⟩
      rw [upd_ne (fun z => ?_)]
      · exact k1
      · subst z; exact e (E.dis j i lj _ a q g2 m (by simp))
/-- a name's cell forgotten -/
theorem EnvB.forget (E : EnvB K C Hf H0 Hb H L σ ρ) {i : Nat} (hi : i < ρ.length) : EnvB K C Hf H0 Hb H (L.set i []) σ (ρ.set i .any) := by
  have hs : i < σ.length := by rw [E.len]; exact hi
  have e := E.setAny hi (σ[i]'hs)
  have q : σ.set i (σ[i]'hs) = σ := List.set_getElem_self hs
  rw [q] at e
  exact e
/-- the base moved up -/
theorem EnvB.rebase (E : EnvB K C Hf H0 Hb H L σ ρ) : EnvB K C Hf Hb Hb H L σ ρ :=
  { E with e0 := .refl _, nw := fun a o q => .inl q }
theorem EnvB.unbase (h01 : Ex H0 H1) (hn : ∀ a o, H1 a = some o → H0 a = some o ∨ Hf a = none) (E : EnvB K C Hf H1 Hb H L σ ρ) : EnvB K C Hf H0 Hb H L σ ρ :=
  { E with e0 := h01.trans E.e0, nw := fun a o q => (E.nw a o q).elim (hn a o) .inr }

/-! statements -/
theorem at_gx {I : List Cell → Prop} (h : I ρ) : At K C Hf H0 (Gx K C Hf H0 I) ρ := fun Hb H L σ E => ⟨ρ, Hb, L, h, E⟩
theorem At.of_gx {I : List Cell → Prop} (h : ∀ ρ, I ρ → At K C Hf H0 N ρ) : ∀ σ H, Gx K C Hf H0 I σ H → N σ H := fun σ H ⟨ρ, Hb, L, i, E⟩ => h ρ i Hb H L σ E
theorem At.freeze {i : Nat} (hi : ρ[i]? = some (.own xs)) (h : At K C Hf H0 N (ρ.set i (.dat (.lst .f xs)))) : At K C Hf H0 N ρ := fun Hb H L σ E =>
  let ⟨Hb', E'⟩ := E.freeze hi
  h Hb' H _ σ E'
theorem At.forget (i : Nat) (hi : i < ρ.length) (h : At K C Hf H0 N (ρ.set i .any)) : At K C Hf H0 N ρ := fun Hb H L σ E => h Hb H _ σ (E.forget hi)
theorem at_seq (h : At K C Hf H0 (s1 { D0 with nx := s2 D0 }) ρ) : At K C Hf H0 (tSeq s1 s2 D0) ρ := h
theorem at_next (h : At K C Hf H0 D0.nx ρ) : At K C Hf H0 (tNext D0) ρ := h
theorem at_asg {i : Nat} (h : EvD K C te ρ d) (hi : i < ρ.length) (k : At K C Hf H0 D0.nx (ρ.set i (.dat d))) : At K C Hf H0 (tAsg te (gName i) D0) ρ := fun Hb H L σ E =>
  h Hf H0 Hb H L σ E _ fun v Hb' H' S r => k Hb' H' _ _ ((E.step S).setDat hi r)
theorem at_asgL {i : Nat} (h : EvL K C te ρ xs) (hi : i < ρ.length) (k : At K C Hf H0 D0.nx (ρ.set i (.own xs))) : At K C Hf H0 (tAsg te (gName i) D0) ρ := fun Hb H L σ E =>
  h Hf H0 Hb H L σ E _ fun p us Hb' H' S n1 n2 h1 h2 => k Hb' H' _ _ (E.setOwn S hi n1 n2 h1 h2)
theorem at_drop (h : EvR K C te ρ d) (k : At K C Hf H0 D0.nx ρ) : At K C Hf H0 (tDrop te D0) ρ := fun Hb H L σ E =>
  h Hf H0 Hb H L σ E _ fun v Hb' H' S r => k Hb' H' _ _ (E.step S)
theorem at_if {b : Bool} (h : EvB K C t ρ b) (h1 : b = true → At K C Hf H0 (s1 D0) ρ) (h2 : b = false → At K C Hf H0 (s2 D0) ρ) : At K C Hf H0 (tIfS t s1 s2 D0) ρ := fun Hb H L σ E =>
  h Hf H0 Hb H L σ E _ fun Hb' H' S => by
    cases b with
    | true => exact iteT (h1 rfl Hb' H' _ _ (E.step S))
    | false => exact iteF (h2 rfl Hb' H' _ _ (E.step S))
/-- what a def hands back: data, all of its lists new -/
def RetD (K : PySem.W.Frag) (C : Addr) (Hf : Hp) (d : D) (Q : VK) : Prop := ∀ v H', Ex Hf H' → Rp K C Hf H' d v → Q v H'
/-- .. a new list, the caller's own -/
def RetL (K : PySem.W.Frag) (C : Addr) (Hf : Hp) (xs : List D) (Q : VK) : Prop := ∀ p us Hm H', Ex Hf Hm → Ex Hm H' → Hm p = none → H' p = some (.lst us) → (∀ a zs, H' a = some (.tup zs) → Hm a = some (.tup zs)) → RpAll K C Hf Hm xs us → Q (.ref p) H'
theorem at_ret (h : EvD K C te ρ d) (k : RetD K C Hf d D0.rt) : At K C Hf H0 (tRet te D0) ρ := fun Hb H L σ E =>
  h Hf H0 Hb H L σ E _ fun v Hb' H' S r => k v H' (E.ef.trans S.h) (Rp.mono S.bh d v r)
theorem at_retN (k : RetD K C Hf .non D0.rt) : At K C Hf H0 (tRetN D0) ρ := fun Hb H L σ E => k .non H E.ef rfl
/-- the end without return -/
theorem at_end {Q : VK} (k : RetD K C Hf .non Q) : At K C Hf H0 (fun _ H' => Q .non H') ρ := fun Hb H L σ E => k .non H E.ef rfl
theorem at_retL (hf : ∀ a, Hf a = H0 a) (h : EvL K C te ρ xs) (k : RetL K C Hf xs D0.rt) : At K C Hf H0 (tRet te D0) ρ := fun Hb H L σ E =>
  h Hf H0 Hb H L σ E _ fun p us Hb' H' S n1 n2 h1 h2 => k p us Hb' H' (fun a o q => S.hb _ _ (E.e0 _ _ (by rw [← hf]; exact q))) S.bh n2 h1 S.tu h2
theorem at_retOwn (hf : ∀ a, Hf a = H0 a) {i : Nat} (hi : ρ[i]? = some (.own xs)) (k : RetL K C Hf xs D0.rt) : At K C Hf H0 (tRet (tVar i) D0) ρ := fun Hb H L σ E => by
  obtain ⟨s, l, g1, g2, p, us, rfl, rfl, g3, g4⟩ := E.cell i _ hi
  exact ⟨_, g1, k p us Hb H (fun a o q => E.e0 _ _ (by rw [← hf]; exact q)) E.e1 (E.fr i _ p g2 (by simp)).1 g3 E.tu g4⟩
/-- x.append(e), x an owned list -/
theorem at_append {i : Nat} (hi : ρ[i]? = some (.own xs)) (h : EvD K C te ρ d) (hz : xs.length < 100000) (k : At K C Hf H0 D0.nx (ρ.set i (.own (xs ++ [d])))) : At K C Hf H0 (tDrop (tBM K "list" rAppend (tVar i) (tCons te tNil)) D0) ρ := fun Hb H L σ E => by
  obtain ⟨s, l, g1, g2, p, us, rfl, rfl, g3, g4⟩ := E.cell i _ hi
  refine ⟨_, g1, Or.inl ⟨rfl, _, .of g3⟩, h Hf H0 Hb H L σ E _ fun v Hb' H' S r => ?_⟩
  refine ⟨p, us, v, rfl, rfl, S.h _ _ g3, lineT (by rw [g4.length]; exact hz), ?_⟩
  have E' := E.step S
  exact k _ _ _ _ (E'.mut hi g1 ((RpAll.mono S.hb _ _ g4).append (.one r)))
/-- x[k] = e, x an owned list -/
theorem at_setItem {i : Nat} {j : Int} {n : Nat} (hi : ρ[i]? = some (.own xs)) (h : EvD K C te ρ d) (hb : EvR K C tb ρ (.int j)) (hj : ixN xs.length j = some n) (k : At K C Hf H0 D0.nx (ρ.set i (.own (xs.set n d)))) :
    At K C Hf H0 (tAsg te (gSub (tVar i) tb rSetL) D0) ρ := fun Hb H L σ E => by
  obtain ⟨s, l, g1, g2, p, us, rfl, rfl, g3, g4⟩ := E.cell i _ hi
  refine h Hf H0 Hb H L σ E _ fun v Hb' H' S r => ⟨_, g1, hb Hf H0 Hb' H' L σ (E.step S) _ fun y Hb2 H2 S2 r2 => ?_⟩
  refine ⟨p, us, j, n, rfl, r2, S2.h _ _ (S.h _ _ g3), by rw [g4.length]; exact hj, ?_⟩
  have E' := (E.step S).step S2
  exact k _ _ _ _ (E'.mut hi g1 (RpAll.set n (RpAll.mono S2.hb _ _ (RpAll.mono S.hb _ _ g4)) (Rp.mono S2.hb _ _ r)))
/-- x.reverse() -/
theorem at_reverse {i : Nat} (hi : ρ[i]? = some (.own xs)) (k : At K C Hf H0 D0.nx (ρ.set i (.own xs.reverse))) : At K C Hf H0 (tDrop (tBM0 K "list" rReverse (tVar i)) D0) ρ := fun Hb H L σ E => by
  obtain ⟨s, l, g1, g2, p, us, rfl, rfl, g3, g4⟩ := E.cell i _ hi
  exact ⟨_, g1, Or.inl ⟨rfl, _, .of g3⟩, p, us, rfl, rfl, g3, k _ _ _ _ (E.mut hi g1 g4.reverse)⟩

/-! loops -/
theorem at_forL {j : Nat} {m : Mark} {tl : TE} {body : TS} (h : EvD K C tl ρ (.lst m xs)) (I : Nat → List Cell → Prop) (h0 : I 0 ρ) (hlen : ∀ i ρ', I i ρ' → j < ρ'.length)
    (hs : ∀ (H1 : Hp) (i : Nat) (x : D) (ρ' : List Cell), xs[i]? = some x → I i ρ' → At K C Hf H1 (body { D0 with nx := Gx K C Hf H1 (I (i + 1)), ct := Gx K C Hf H1 (I (i + 1)), bk := D0.nx }) (ρ'.set j (.dat x)))
    (hd : ∀ ρ', I xs.length ρ' → At K C Hf H0 D0.nx ρ') : At K C Hf H0 (tFor (iList K tl) (gName j) body D0) ρ := fun Hb H L σ E => by
  refine h Hf H0 Hb H L σ E _ fun v Hb1 H1 S r => ?_
  obtain ⟨a, us, rfl, _, h1, h2⟩ := r
  have E1 := E.step S
  refine ⟨a, rfl, ⟨us, .of (S.bh _ _ h1)⟩, for_list (K := K) (a := a) (xs := us) (fun i σ' H' => Gx K C Hf Hb1 (I i) σ' H') ⟨ρ, Hb1, L, h0, E1.rebase⟩ (fun i σ' H' _ ⟨ρ', Hb', L', _, E'⟩ => .of (E'.e1 _ _ (E'.e0 _ _ h1))) ?_ ?_⟩
  · rintro i x σ' H' hx ⟨ρ', Hb', L', hI, E'⟩
    have hd' : ∃ y, xs[i]? = some y ∧ Rp K C Hf Hb1 y x := by
      have hl := h2.length
      have hi := (List.getElem?_eq_some_iff.mp hx).1
      obtain ⟨y, hy⟩ : ∃ y, xs[i]? = some y := ⟨xs[i]'(by omega), List.getElem?_eq_getElem _⟩
      obtain ⟨u, hu, ru⟩ := h2.get hy
      rw [hx] at hu; cases hu
      exact ⟨y, hy, ru⟩
    obtain ⟨y, hy, ry⟩ := hd'
    exact hs Hb1 i y ρ' hy hI Hb' H' _ _ (E'.setDat (hlen i ρ' hI) (Rp.mono E'.e0 _ _ ry))
  · rintro σ' H' ⟨ρ', Hb', L', hI, E'⟩
    rw [h2.length] at hI
    exact hd ρ' hI Hb' H' L' σ' (E'.unbase (E.e0.trans S.hb) E1.nw)
theorem at_forR {j : Nat} {n : Int} {ta : TA} {body : TS} (h : EvA K C ta ρ [.int n]) (hn : -1000000 ≤ n ∧ n ≤ 1000000) (I : Nat → List Cell → Prop) (h0 : I 0 ρ) (hlen : ∀ i ρ', I i ρ' → j < ρ'.length)
    (hs : ∀ (i : Nat) (ρ' : List Cell), (i : Int) < n → I i ρ' → At K C Hf H0 (body { D0 with nx := Gx K C Hf H0 (I (i + 1)), ct := Gx K C Hf H0 (I (i + 1)), bk := D0.nx }) (ρ'.set j (.dat (.int i))))
    (hd : ∀ ρ', I n.toNat ρ' → At K C Hf H0 D0.nx ρ') : At K C Hf H0 (tFor (iRng1 ta) (gName j) body D0) ρ := fun Hb H L σ E => by
  refine h Hf H0 Hb H L σ E _ fun vs Hb1 H1 S r => ?_
  obtain ⟨v, r', rfl, e1, e2⟩ := r
  have e2' : r' = [] := e2
  subst e2'
  have e1' : v = .int n := e1
  subst e1'
  refine ⟨n, rfl, by omega, by omega, for_range (lo := 0) (n := n.toNat) (fun i σ' H' => Gx K C Hf H0 (I i) σ' H') ⟨ρ, Hb1, L, h0, E.step S⟩ ?_ ?_⟩
  · rintro i σ' H' hi ⟨ρ', Hb', L', hI, E'⟩
    have e : (0 : Int) + (i : Int) = (i : Int) := Int.zero_add _
    rw [e]
    exact hs i ρ' (by omega) hI Hb' H' _ _ (E'.setDat (hlen i ρ' hI) rfl)
  · rintro σ' H' ⟨ρ', Hb', L', hI, E'⟩
    exact hd ρ' hI Hb' H' L' σ' E'
/-- for a, b in a list of pairs -/
theorem at_forP {j k : Nat} {m : Mark} {tl : TE} {body : TS} (h : EvD K C tl ρ (.lst m xs)) (I : Nat → List Cell → Prop) (h0 : I 0 ρ) (hlen : ∀ i ρ', I i ρ' → j < ρ'.length ∧ k < ρ'.length)
    (hs : ∀ (H1 : Hp) (i : Nat) (x : D) (ρ' : List Cell), xs[i]? = some x → I i ρ' → ∃ y z, x = .tup [y, z] ∧ At K C Hf H1 (body { D0 with nx := Gx K C Hf H1 (I (i + 1)), ct := Gx K C Hf H1 (I (i + 1)), bk := D0.nx }) ((ρ'.set j (.dat y)).set k (.dat z)))
    (hd : ∀ ρ', I xs.length ρ' → At K C Hf H0 D0.nx ρ') : At K C Hf H0 (tFor (iList K tl) (gTup K 2 (gCons (gName j) (gCons (gName k) gNil))) body D0) ρ := fun Hb H L σ E => by
  refine h Hf H0 Hb H L σ E _ fun v Hb1 H1 S r => ?_
  obtain ⟨a, us, rfl, _, h1, h2⟩ := r
  have E1 := E.step S
  refine ⟨a, rfl, ⟨us, .of (S.bh _ _ h1)⟩, for_list (K := K) (a := a) (xs := us) (fun i σ' H' => Gx K C Hf Hb1 (I i) σ' H') ⟨ρ, Hb1, L, h0, E1.rebase⟩ (fun i σ' H' _ ⟨ρ', Hb', L', _, E'⟩ => .of (E'.e1 _ _ (E'.e0 _ _ h1))) ?_ ?_⟩
  · rintro i x σ' H' hx ⟨ρ', Hb', L', hI, E'⟩
    have hd' : ∃ y, xs[i]? = some y ∧ Rp K C Hf Hb1 y x := by
      have hl := h2.length
      have hi := (List.getElem?_eq_some_iff.mp hx).1
      obtain ⟨y, hy⟩ : ∃ y, xs[i]? = some y := ⟨xs[i]'(by omega), List.getElem?_eq_getElem _⟩
      obtain ⟨u, hu, ru⟩ := h2.get hy
      rw [hx] at hu; cases hu
      exact ⟨y, hy, ru⟩
    obtain ⟨w, hy, ry⟩ := hd'
    obtain ⟨y, z, rfl, go⟩ := hs Hb1 i w ρ' hy hI
    obtain ⟨b, ws, rfl, h3, v1, r1, rfl, q1, v2, r2, rfl, q2, q3⟩ := ry
    have q3' : r2 = [] := q3
    subst q3'
    have l1 := (hlen i ρ' hI).1
    have l2 := (hlen i ρ' hI).2
    refine ⟨b, _, rfl, (h3.mono fun a zs w => E'.e1 _ _ (E'.e0 _ _ w)).sq, rfl, v1, _, rfl, v2, _, rfl, rfl, ?_⟩
    exact go Hb' H' _ _ ((E'.setDat l1 (Rp.mono E'.e0 _ _ q1)).setDat (by simpa using l2) (Rp.mono E'.e0 _ _ q2))
  · rintro σ' H' ⟨ρ', Hb', L', hI, E'⟩
    rw [h2.length] at hI
    exact hd ρ' hI Hb' H' L' σ' (E'.unbase (E.e0.trans S.hb) E1.nw)
/-- while: I with a measure; the test's answer by the names -/
theorem at_while {tc : TT} {body : TS} (I : Nat → List Cell → Prop) (m0 : Nat) (h0 : I m0 ρ)
    (hs : ∀ (m : Nat) (ρ' : List Cell), I m ρ' → ∃ b, EvB K C tc ρ' b ∧ (b = true → At K C Hf H0 (body { D0 with nx := Gx K C Hf H0 (fun r => ∃ m', m' < m ∧ I m' r), ct := Gx K C Hf H0 (fun r => ∃ m', m' < m ∧ I m' r), bk := D0.nx }) ρ') ∧
      (b = false → At K C Hf H0 D0.nx ρ')) : At K C Hf H0 (tWhile tc body D0) ρ := fun Hb H L σ E => by
  refine ⟨fun m σ' H' => Gx K C Hf H0 (I m) σ' H', ⟨m0, ρ, Hb, L, h0, E⟩, ?_⟩
  rintro m σ' H' ⟨ρ', Hb', L', hI, E'⟩
  obtain ⟨b, hb, h1, h2⟩ := hs m ρ' hI
  refine hb Hf H0 Hb' H' L' σ' E' _ fun Hb2 H2 S2 => ?_
  cases b with
  | true =>
    refine iteT ⟨Gx K C Hf H0 (fun r => ∃ m', m' < m ∧ I m' r), ?_, h1 rfl Hb2 H2 _ _ (E'.step S2)⟩
    rintro σ3 H3 ⟨ρ3, Hb3, L3, ⟨m', hm, hI3⟩, E3⟩
    exact ⟨m', hm, ρ3, Hb3, L3, hI3, E3⟩
  | false => exact iteF (h2 rfl Hb2 H2 _ _ (E'.step S2))

/-! the same, something behind -/
theorem sq_asg {i : Nat} (h : EvD K C te ρ d) (hi : i < ρ.length) (k : At K C Hf H0 (s2 D0) (ρ.set i (.dat d))) : At K C Hf H0 (tSeq (tAsg te (gName i)) s2 D0) ρ := at_seq (at_asg h hi k)
theorem sq_asgL {i : Nat} (h : EvL K C te ρ xs) (hi : i < ρ.length) (k : At K C Hf H0 (s2 D0) (ρ.set i (.own xs))) : At K C Hf H0 (tSeq (tAsg te (gName i)) s2 D0) ρ := at_seq (at_asgL h hi k)
theorem sq_drop (h : EvR K C te ρ d) (k : At K C Hf H0 (s2 D0) ρ) : At K C Hf H0 (tSeq (tDrop te) s2 D0) ρ := at_seq (at_drop h k)
theorem sq_if {s3 s4 : TS} {b : Bool} (h : EvB K C t ρ b) (h1 : b = true → At K C Hf H0 (s3 { D0 with nx := s2 D0 }) ρ) (h2 : b = false → At K C Hf H0 (s4 { D0 with nx := s2 D0 }) ρ) : At K C Hf H0 (tSeq (tIfS t s3 s4) s2 D0) ρ := at_seq (at_if h h1 h2)
/-- an if without else -/
theorem sq_when {s3 : TS} {b : Bool} (h : EvB K C t ρ b) (h1 : b = true → At K C Hf H0 (s3 { D0 with nx := s2 D0 }) ρ) (h2 : b = false → At K C Hf H0 (s2 D0) ρ) : At K C Hf H0 (tSeq (tIfS t s3 tNext) s2 D0) ρ := at_seq (at_if h h1 h2)
theorem at_when {s3 : TS} {b : Bool} (h : EvB K C t ρ b) (h1 : b = true → At K C Hf H0 (s3 D0) ρ) (h2 : b = false → At K C Hf H0 D0.nx ρ) : At K C Hf H0 (tIfS t s3 tNext D0) ρ := at_if h h1 h2
theorem sq_append {i : Nat} (hi : ρ[i]? = some (.own xs)) (h : EvD K C te ρ d) (hz : xs.length < 100000) (k : At K C Hf H0 (s2 D0) (ρ.set i (.own (xs ++ [d])))) : At K C Hf H0 (tSeq (tDrop (tBM K "list" rAppend (tVar i) (tCons te tNil))) s2 D0) ρ := at_seq (at_append hi h hz k)
theorem sq_setItem {i : Nat} {j : Int} {n : Nat} (hi : ρ[i]? = some (.own xs)) (h : EvD K C te ρ d) (hb : EvR K C tb ρ (.int j)) (hj : ixN xs.length j = some n) (k : At K C Hf H0 (s2 D0) (ρ.set i (.own (xs.set n d)))) :
    At K C Hf H0 (tSeq (tAsg te (gSub (tVar i) tb rSetL)) s2 D0) ρ := at_seq (at_setItem hi h hb hj k)
theorem sq_reverse {i : Nat} (hi : ρ[i]? = some (.own xs)) (k : At K C Hf H0 (s2 D0) (ρ.set i (.own xs.reverse))) : At K C Hf H0 (tSeq (tDrop (tBM0 K "list" rReverse (tVar i))) s2 D0) ρ := at_seq (at_reverse hi k)
theorem sq_forL {j : Nat} {m : Mark} {tl : TE} {body : TS} (h : EvD K C tl ρ (.lst m xs)) (I : Nat → List Cell → Prop) (h0 : I 0 ρ) (hlen : ∀ i ρ', I i ρ' → j < ρ'.length)
    (hs : ∀ (H1 : Hp) (i : Nat) (x : D) (ρ' : List Cell), xs[i]? = some x → I i ρ' → At K C Hf H1 (body { D0 with nx := Gx K C Hf H1 (I (i + 1)), ct := Gx K C Hf H1 (I (i + 1)), bk := s2 D0 }) (ρ'.set j (.dat x)))
    (hd : ∀ ρ', I xs.length ρ' → At K C Hf H0 (s2 D0) ρ') : At K C Hf H0 (tSeq (tFor (iList K tl) (gName j) body) s2 D0) ρ := at_seq (at_forL h I h0 hlen hs hd)
theorem sq_forR {j : Nat} {n : Int} {ta : TA} {body : TS} (h : EvA K C ta ρ [.int n]) (hn : -1000000 ≤ n ∧ n ≤ 1000000) (I : Nat → List Cell → Prop) (h0 : I 0 ρ) (hlen : ∀ i ρ', I i ρ' → j < ρ'.length)
    (hs : ∀ (i : Nat) (ρ' : List Cell), (i : Int) < n → I i ρ' → At K C Hf H0 (body { D0 with nx := Gx K C Hf H0 (I (i + 1)), ct := Gx K C Hf H0 (I (i + 1)), bk := s2 D0 }) (ρ'.set j (.dat (.int i))))
    (hd : ∀ ρ', I n.toNat ρ' → At K C Hf H0 (s2 D0) ρ') : At K C Hf H0 (tSeq (tFor (iRng1 ta) (gName j) body) s2 D0) ρ := at_seq (at_forR h hn I h0 hlen hs hd)
theorem sq_forP {j k : Nat} {m : Mark} {tl : TE} {body : TS} (h : EvD K C tl ρ (.lst m xs)) (I : Nat → List Cell → Prop) (h0 : I 0 ρ) (hlen : ∀ i ρ', I i ρ' → j < ρ'.length ∧ k < ρ'.length)
    (hs : ∀ (H1 : Hp) (i : Nat) (x : D) (ρ' : List Cell), xs[i]? = some x → I i ρ' → ∃ y z, x = .tup [y, z] ∧ At K C Hf H1 (body { D0 with nx := Gx K C Hf H1 (I (i + 1)), ct := Gx K C Hf H1 (I (i + 1)), bk := s2 D0 }) ((ρ'.set j (.dat y)).set k (.dat z)))
    (hd : ∀ ρ', I xs.length ρ' → At K C Hf H0 (s2 D0) ρ') : At K C Hf H0 (tSeq (tFor (iList K tl) (gTup K 2 (gCons (gName j) (gCons (gName k) gNil))) body) s2 D0) ρ := at_seq (at_forP h I h0 hlen hs hd)
theorem sq_while {tc : TT} {body : TS} (I : Nat → List Cell → Prop) (m0 : Nat) (h0 : I m0 ρ)
    (hs : ∀ (m : Nat) (ρ' : List Cell), I m ρ' → ∃ b, EvB K C tc ρ' b ∧ (b = true → At K C Hf H0 (body { D0 with nx := Gx K C Hf H0 (fun r => ∃ m', m' < m ∧ I m' r), ct := Gx K C Hf H0 (fun r => ∃ m', m' < m ∧ I m' r), bk := s2 D0 }) ρ') ∧
      (b = false → At K C Hf H0 (s2 D0) ρ')) : At K C Hf H0 (tSeq (tWhile tc body) s2 D0) ρ := at_seq (at_while I m0 h0 hs)

/-! defs -/
/-- a def that reads its arguments and hands back data -/
def spD (K : PySem.W.Frag) (C : Addr) (R : List D → D → Prop) : Sp := fun vs H Q _ => ∃ ds d, RpAll K C H H ds vs ∧ R ds d ∧ RetD K C H d Q
def spL (K : PySem.W.Frag) (C : Addr) (R : List D → List D → Prop) : Sp := fun vs H Q _ => ∃ ds xs, RpAll K C H H ds vs ∧ R ds xs ∧ RetL K C H xs Q
/-- at a def's entry -/
def uns : Nat → List Cell
  | 0 => []
  | n + 1 => .un :: uns n
theorem EnvB.start : ∀ (ds : List D) (vs : List V) (n : Nat), RpAll K C H H ds vs → EnvB K C H H H H (List.replicate (ds.length + n) []) (vs.map some ++ List.replicate n none) (ds.map .dat ++ uns n) := fun ds vs n r => by
  have hu : ∀ n, (uns n).length = n := fun n => by induction n with | zero => rfl | succ n ih => show (uns n).length + 1 = n + 1; rw [ih]
  have hug : ∀ (n i : Nat) (c : Cell), (uns n)[i]? = some c → c = .un ∧ i < n := fun n => by
    induction n with
    | zero => intro i c q; cases q
    | succ n ih =>
      intro i c q
      cases i with
      | zero => exact ⟨(Option.some.inj q).symm, Nat.succ_pos _⟩
      | succ i => obtain ⟨h1, h2⟩ := ih i c q; exact ⟨h1, Nat.succ_lt_succ h2⟩
  have hl := r.length
  refine ⟨.refl _, .refl _, .refl _, fun a o q => .inl q, fun a xs q => q, by simp [hu, hl], by simp [hu], fun i c q => ?_, fun i j li lj a q1 q2 m1 m2 => ?_, fun i l q => ?_, fun i l a q m => ?_⟩
  · have hi : i < ds.length + n := by
      have := (List.getElem?_eq_some_iff.mp q).1
      simpa [hu] using this
    have g2 : (List.replicate (ds.length + n) ([] : List Addr))[i]? = some [] := by rw [List.getElem?_replicate, if_pos hi]
    by_cases z : i < ds.length
    · rw [List.getElem?_append_left (by simpa using z), List.getElem?_map] at q
      cases e : ds[i]? with
      | none => rw [e] at q; cases q
      | some d =>
        rw [e] at q; cases q
        obtain ⟨v, hv, rv⟩ := r.get e
        refine ⟨some v, [], ?_, g2, rfl, v, rfl, rv⟩
        rw [List.getElem?_append_left (by simp [hl, z]), List.getElem?_map, hv]; rfl
    · rw [List.getElem?_append_right (by simpa using z)] at q
      obtain ⟨rfl, h2⟩ := hug _ _ _ q
      refine ⟨none, [], ?_, g2, rfl, rfl⟩
      rw [List.getElem?_append_right (by simp [hl]; omega), List.getElem?_replicate, if_pos (by simp [hl] at h2 ⊢; omega)]
  · rw [List.getElem?_replicate] at q1; split at q1 <;> cases q1; exact nomatch m1
  · rw [List.getElem?_replicate] at q; split at q <;> cases q; exact List.nodup_nil
  · rw [List.getElem?_replicate] at q; split at q <;> cases q; exact nomatch m
theorem start_at {ds : List D} {vs : List V} {N : List Str} {n : Nat} {G : St → Hp → Prop} (r : RpAll K C H H ds vs) (hn : N.length - vs.length = n) (h : At K C H H G (ds.map .dat ++ uns n)) : G (start N vs) H := by
  subst hn
  exact h H H _ _ (EnvB.start ds vs _ r)

/-! calls -/
theorem ev_call {R : List D → D → Prop} {E : XK} {t : TA} {ds : List D} (h : EvA K C t ρ ds) (he : eraAll ds = ds) (hR : R ds d) (hf : d.fr = true) : EvD K C (tCall (spD K C R) [] E t) ρ d := fun Hf H0 Hb H L σ E0 Q q =>
  h Hf H0 Hb H L σ E0 _ fun vs Hb1 H1 S r => by
    refine ⟨ds, d, ?_, hR, fun v H' e r2 => ?_⟩
    · rw [List.append_nil]
      have r' := RpAll.era (Hf' := H1) _ _ r
      rw [he] at r'
      exact r'
    · have E1 := E0.step S
      exact q v (joinH H1 Hb1 H') H' (S.trans (E1.join e)) (Rp.into (E1.joinInto e) d v hf r2)
theorem ev_callL {R : List D → List D → Prop} {E : XK} {t : TA} {ds : List D} (h : EvA K C t ρ ds) (he : eraAll ds = ds) (hR : R ds xs) (hf : frAll xs = true) : EvL K C (tCall (spL K C R) [] E t) ρ xs := fun Hf H0 Hb H L σ E0 Q q =>
  h Hf H0 Hb H L σ E0 _ fun vs Hb1 H1 S r => by
    refine ⟨ds, xs, ?_, hR, fun p us Hm H' e em n1 h1 tu r2 => ?_⟩
    · rw [List.append_nil]
      have r' := RpAll.era (Hf' := H1) _ _ r
      rw [he] at r'
      exact r'
    · have E1 := E0.step S
      have J := E1.join e
      have p1 : H1 p = none := e.free n1
      have jp : joinH H1 Hb1 Hm p = none := by
        unfold joinH
        rw [p1]; exact n1
      refine q p us (joinH H1 Hb1 Hm) H' (S.trans ⟨J.hb, e.trans em, J.bh.trans em, J.nw, fun a zs w => J.tu a zs (tu a zs w)⟩) (S.h.free p1) jp h1 (RpAll.into (E1.joinInto e) xs us hf r2)
end
end Hw
namespace Hw
open PySem L2
abbrev St := L2.St
abbrev envOfC := @PyProof.Rows.envOfC

section
variable {K : PySem.W.Frag} {C : Addr} {ρ : List Cell} {te : TE} {tt : TT} {d : D}
/-! comprehensions: one name, at place j -/
theorem wipe1 (σ : St) (j : Nat) (x : Option V) : wipe ((wipe σ [j]).set j x) [j] = wipe σ [j] := by
  show ((σ.set j none).set j x).set j none = σ.set j none
  simp
theorem wipeSet (σ : St) (j : Nat) (x : Option V) : (wipe σ [j]).set j x = σ.set j x := by
  show (σ.set j none).set j x = σ.set j x
  simp
/-- what stands between the turns: the new list at p holds ys -/
def Acc (K : PySem.W.Frag) (C : Addr) (Hf Hb H : Hp) (p : Addr) (ys : List D) (H' : Hp) : Prop := ∃ Hb' us, Step Hb H Hb' H' ∧ Hb' p = none ∧ H' p = some (.lst us) ∧ RpAll K C Hf Hb' ys us
theorem Acc.start {Hf H0 Hb H : Hp} {L : List (List Addr)} {σ : St} (E : EnvB K C Hf H0 Hb H L σ ρ) {p : Addr} (hp : H p = none) : Acc K C Hf Hb H p [] (upd H p (.lst [])) :=
  ⟨Hb, [], newList E.step0 hp, E.e1.free hp, upd_same, .nil⟩
theorem Acc.turn {Hf H0 Hb H H' : Hp} {L : List (List Addr)} {σ : St} {p : Addr} {ys : List D} {j : Nat} {b : Bool} {v : V} {y : D} {x : D} (E : EnvB K C Hf H0 Hb H L σ ρ) (hp : H p = none) (hj : j < ρ.length) (A : Acc K C Hf Hb H p ys H') (hz : ys.length < 100000)
    (hx : Rp K C Hf Hb x v) (ht : EvB K C tt (ρ.set j (.dat x)) b) (he : b = true → EvD K C te (ρ.set j (.dat x)) y) {ys' : List D} (hy : (match b with | true => ys ++ [y] | false => ys) = ys') :
    wipe ((wipe σ [j]).set j (some v)) [j] = wipe σ [j] ∧ tt ((wipe σ [j]).set j (some v)) H' fun b H3 => if b = true then te ((wipe σ [j]).set j (some v)) H3 fun z H4 => ∃ acc, H4 p = some (.lst acc) ∧ acc.length < sizeLine ∧ Acc K C Hf Hb H p ys' (upd H4 p (.lst (acc ++ [z])))
      else Acc K C Hf Hb H p ys' H3 := by
  subst hy
  refine ⟨wipe1 _ _ _, ?_⟩
  rw [wipeSet]
  obtain ⟨Hb', us, S, n1, h1, h2⟩ := A
  have Ex' : EnvB K C Hf H0 Hb' H' (L.set j []) (σ.set j (some v)) (ρ.set j (.dat x)) := (E.step S).setDat hj (Rp.mono S.hb _ _ hx)
  refine ht Hf H0 Hb' H' _ _ Ex' _ fun Hb2 H2 S2 => ?_
  have n2 : Hb2 p = none := by
    cases q : Hb2 p with
    | none => rfl
    | some o =>
      rcases S2.nw p o q with z | z
      · rw [n1] at z; cases z
      · rw [h1] at z; cases z
  cases b with
  | false => exact iteF ⟨Hb2, us, S.trans S2, n2, S2.h _ _ h1, RpAll.mono S2.hb _ _ h2⟩
  | true =>
    refine iteT (he rfl Hf H0 Hb2 H2 _ _ (Ex'.step S2) _ fun z Hb3 H3 S3 r3 => ?_)
    have S13 := (S.trans S2).trans S3
    have n3 : Hb3 p = none := by
      cases q : Hb3 p with
      | none => rfl
      | some o =>
        rcases S3.nw p o q with z | z
        · rw [n2] at z; cases z
        · rw [S2.h _ _ h1] at z; cases z
    refine ⟨us, S3.h _ _ (S2.h _ _ h1), lineT (by rw [h2.length]; exact hz), Hb3, us ++ [z], ⟨S13.hb, S13.h.mut hp, S13.bh.mut n3, S13.nw, fun a zs w => ?_⟩, n3, upd_same, (RpAll.mono S3.hb _ _ (RpAll.mono S2.hb _ _ h2)).append (.one r3)⟩
    by_cases q : a = p
    · subst q; rw [upd_same] at w; cases w
    · rw [upd_ne q] at w; exact S13.tu _ _ w
theorem filterMap_take {α β : Type} {g : α → Option β} {l : List α} {i : Nat} {x : α} (h : l[i]? = some x) : (l.take (i + 1)).filterMap g = (l.take i).filterMap g ++ (match g x with | some y => [y] | none => []) := by
  rw [List.take_add_one, h, List.filterMap_append]
  congr 1
  show List.filterMap g [x] = _
  cases e : g x <;> simp [List.filterMap, e]
theorem len_filterMap_take {α β : Type} (g : α → Option β) (l : List α) (i : Nat) : ((l.take i).filterMap g).length ≤ l.length := by
  have h1 := List.length_filterMap_le g (l.take i)
  have h2 := List.length_take_le' i l
  omega
/-- [e for x in l if t]: over data told by as -/
theorem el_lc {α : Type} {as : List α} {f : α → D} {g : α → Option D} {m : Mark} {tl : TE} {j : Nat} (hl : EvD K C tl ρ (.lst m (as.map f))) (hz : as.length < 100000) (hj : j < ρ.length)
    (h : ∀ a ∈ as, match g a with
      | some y => EvB K C tt (ρ.set j (.dat (f a))) true ∧ EvD K C te (ρ.set j (.dat (f a))) y
      | none => EvB K C tt (ρ.set j (.dat (f a))) false) : EvL K C (tLc (iList K tl) (gName j) tt te [j]) ρ (as.filterMap g) := fun Hf H0 Hb H L σ E Q q =>
  hl Hf H0 Hb H L σ E _ fun v Hb1 H1 S r => by
    obtain ⟨a, us, rfl, _, h1, h2⟩ := r
    have E1 := E.step S
    refine ⟨a, rfl, ⟨us, .of (S.bh _ _ h1)⟩, fun p hp => lc_list (K := K) (a := a) (xs := us) (fun i H' => Acc K C Hf Hb1 H1 p ((as.take i).filterMap g) H') (Acc.start E1 hp) (fun i H' _ A => ?_) (fun i x H' hx A => ?_) fun H' A => ?_⟩
    · obtain ⟨Hb', _, S', _⟩ := A
      exact .of (S'.bh _ _ (S'.hb _ _ h1))
    · have hl' : us.length = as.length := by simpa using h2.length
      have hi : i < as.length := by have := (List.getElem?_eq_some_iff.mp hx).1; omega
      have ha : as[i]? = some as[i] := List.getElem?_eq_getElem hi
      obtain ⟨u, hu, ru⟩ := h2.get (i := i) (d := f as[i]) (by rw [List.getElem?_map, ha]; rfl)
      rw [hx] at hu; cases hu
      have hh := h as[i] (List.getElem_mem hi)
      have lz : ((as.take i).filterMap g).length < 100000 := by have := len_filterMap_take g as i; omega
      have tk := filterMap_take (g := g) ha
      show wipe ((wipe σ [j]).set j (some x)) [j] = wipe σ [j] ∧ _
      rw [tk]
      cases e : g as[i] with
      | some y =>
        rw [e] at hh
        exact Acc.turn E1 hp hj A lz ru hh.1 (fun _ => hh.2) rfl
      | none =>
        rw [e] at hh
        exact Acc.turn (te := te) (y := .non) E1 hp hj A lz ru hh (fun z => nomatch z) (List.append_nil _).symm
    · have hl' : us.length = as.length := by simpa using h2.length
      rw [hl', List.take_length] at A
      obtain ⟨Hb', us', S', n1, g1, g2⟩ := A
      exact q p us' Hb' H' (S.trans S') (S.h.free hp) n1 g1 g2
theorem filterMap_some {α β : Type} (g : α → β) (l : List α) : l.filterMap (fun a => some (g a)) = l.map g := by
  induction l with
  | nil => rfl
  | cons a l ih => simp [ih]
theorem el_lcMap {α : Type} {as : List α} {f g : α → D} {m : Mark} {tl : TE} {j : Nat} (hl : EvD K C tl ρ (.lst m (as.map f))) (hz : as.length < 100000) (hj : j < ρ.length)
    (h : ∀ a ∈ as, EvD K C te (ρ.set j (.dat (f a))) (g a)) : EvL K C (tLc (iList K tl) (gName j) tYes te [j]) ρ (as.map g) := by
  rw [← filterMap_some]
  exact el_lc hl hz hj fun a ha => ⟨eb_yes, h a ha⟩
/-- over range(n) -/
theorem el_lcR {n : Int} {g : Nat → Option D} {ta : TA} {j : Nat} (hl : EvA K C ta ρ [.int n]) (hz : -100000 < n ∧ n < 100000) (hj : j < ρ.length)
    (h : ∀ i : Nat, (i : Int) < n → match g i with
      | some y => EvB K C tt (ρ.set j (.dat (.int i))) true ∧ EvD K C te (ρ.set j (.dat (.int i))) y
      | none => EvB K C tt (ρ.set j (.dat (.int i))) false) : EvL K C (tLc (iRng1 ta) (gName j) tt te [j]) ρ ((List.range n.toNat).filterMap g) := fun Hf H0 Hb H L σ E Q q =>
  hl Hf H0 Hb H L σ E _ fun vs Hb1 H1 S r => by
    obtain ⟨v, r', rfl, e1, e2⟩ := r
    have e2' : r' = [] := e2
    subst e2'
    have e1' : v = .int n := e1
    subst e1'
    have E1 := E.step S
    refine ⟨n, rfl, by omega, by omega, fun p hp => lc_range (lo := 0) (n := n.toNat) (fun i H' => Acc K C Hf Hb1 H1 p (((List.range n.toNat).take i).filterMap g) H') (Acc.start E1 hp) (fun i H' hi A => ?_) fun H' A => ?_⟩
    · have e : (0 : Int) + (i : Int) = (i : Int) := Int.zero_add _
      have ha : (List.range n.toNat)[i]? = some i := by rw [List.getElem?_range hi]
      have hh := h i (by omega)
      have lz : (((List.range n.toNat).take i).filterMap g).length < 100000 := by
        have := len_filterMap_take g (List.range n.toNat) i
        rw [List.length_range] at this
        omega
      have tk := filterMap_take (g := g) ha
      show wipe ((wipe σ [j]).set j (some (V.int (0 + (i : Int))))) [j] = wipe σ [j] ∧ _
      rw [tk]
      simp only [e]
      have ru : Rp K C Hf Hb1 (.int i) (V.int (i : Int)) := rfl
      cases e : g i with
      | some y =>
        rw [e] at hh
        exact Acc.turn E1 hp hj A lz ru hh.1 (fun _ => hh.2) rfl
      | none =>
        rw [e] at hh
        exact Acc.turn (te := te) (y := .non) E1 hp hj A lz ru hh (fun z => nomatch z) (List.append_nil _).symm
    · have e : (List.range n.toNat).take n.toNat = List.range n.toNat := List.take_of_length_le (by simp)
      rw [e] at A
      obtain ⟨Hb', us', S', n1, g1, g2⟩ := A
      exact q p us' Hb' H' (S.trans S') (S.h.free hp) n1 g1 g2
theorem el_lcRMap {n : Int} {g : Nat → D} {ta : TA} {j : Nat} (hl : EvA K C ta ρ [.int n]) (hz : -100000 < n ∧ n < 100000) (hj : j < ρ.length)
    (h : ∀ i : Nat, (i : Int) < n → EvD K C te (ρ.set j (.dat (.int i))) (g i)) : EvL K C (tLc (iRng1 ta) (gName j) tYes te [j]) ρ ((List.range n.toNat).map g) := by
  rw [← filterMap_some]
  exact el_lcR hl hz hj fun i hi => ⟨eb_yes, h i hi⟩
end

/-! a def of the text, called by its name -/
def Okf (P : Program) (w : World) (K : PySem.W.Frag) (mg : Str → Option Value) (base : Heap) (x : Str) (ps : List Str) (k : Nat) (sp : Sp) : Prop :=
  ∃ f fd, mg x = some (.ref f) ∧ PySem.W.keepIn K (.ref f) = true ∧ Binds K fd ps [] ∧ FnOk P w K mg base (L2.CX P w) k f fd ps sp
def FnAt (K : PySem.W.Frag) (mg : Str → Option Value) (x name : Str) (st : Stmt) (ps : List Str) : Prop :=
  ∃ f fd, mg x = some (.ref f) ∧ Fun K name name st f fd ∧ Binds K fd ps []
section
variable {P : Program} {w : World} {K : PySem.W.Frag} {mg : Str → Option Value} {base : Heap}
theorem Okf.mk {x name : Str} {st : Stmt} {ps N : List Str} {k : Nat} {sp : Sp} (F : FnAt K mg x name st ps) (S : FnScope N ps (defScope st)) (len : ∀ vs H Q E, sp vs H Q E → vs.length = ps.length) (t : XK → TS)
    (hd : ∀ (f : Addr) (cdv : Value) (A : Around) (outer : List Env) (s : Shared) (H : Hp) (E : XK), Room k (A.deeper (envOfC name (defScope st) s.heap.objs.size f cdv)) → PSs (cxOf (L2.CX P w) P w K mg base N name (defScope st) f cdv A outer s H E) (defBody st) (t E))
    (hp : ∀ vs H Q E, sp vs H Q E → t E { nx := fun _ H' => Q .non H', rt := Q } (start N vs) H) : Okf P w K mg base x ps (k + 1) sp := by
  obtain ⟨f, fd, hm, F, b⟩ := F
  exact ⟨f, fd, hm, F.kp, b, F.okX S len fun cdv A outer s H vs Q E hr h => ⟨t E, hd f cdv A outer s H E hr, hp vs H Q E h⟩⟩
theorem Okf.lvl {x : Str} {ps : List Str} {j k : Nat} {sp : Sp} (O : Okf P w K mg base x ps j sp) (h : j ≤ k) : Okf P w K mg base x ps k sp := by
  obtain ⟨f, fd, hm, kp, b, F⟩ := O
  exact ⟨f, fd, hm, kp, b, F.mono h⟩
end
section
variable {X : Cx} {x : Str} {p pos : Pos} {e : Expr} {es : List Expr} {t : TA} {ps : List Str} {k : Nat} {sp : Sp}
theorem pe_callO (O : Okf X.prog X.w X.K X.mg X.base x ps k sp) (hr : Room k X.A) (ha : PA X (e :: es) t) (hg : Gl X x := by rfl) (hdb : (x == ("__debug__" : Str)) = false := by decide)
    (he : starEach (e :: es) X.env = (false, eval e X.env) :: starEach es X.env := by rfl) (hpl : (backTo pos (starEach es X.env)).any (·.1) = false := by rfl) : PE X (.Call (.Name x p) (e :: es) [] pos) (tCall sp [] E0 t) := by
  obtain ⟨f, fd, hm, kp, b, F⟩ := O
  exact pe_call F hr hg hm kp b .nil passL ha hdb he hpl
end
end Hw
namespace Hw
open PySem L2
def rRepS : R2 := fun x y H Q => ∃ a n, x = .str a ∧ y = .int n ∧ MulOk a n ∧ Q (.str (Txt.mul a n)) H
theorem op_repS {X : Cx} : OpR X (binaryOp .Mult) rRepS := by
  intro pins s σ H x y v u Q I rx ry h
  obtain ⟨a, n, rfl, rfl, hc, q⟩ := h
  obtain ⟨t, rfl⟩ := rx
  obtain ⟨t', rfl⟩ := ry
  exact SB.mul hc fun t' k => ⟨.str _, H, I.tok _, ⟨_, rfl⟩, q⟩
def xRepS : TE → TE → TE := tOp rRepS
theorem pe_xRepS {X : Cx} {a b : Expr} {ta tb : TE} {pos : Pos} (ha : PE X a ta) (hb : PE X b tb) : PE X (.BinOp a .Mult b pos) (xRepS ta tb) := pe_op op_repS ha hb
def D.tn : D → Option String
  | .non => some "NoneType"
  | .bl _ => some "bool"
  | .int _ => some "int"
  | .str _ => some "str"
  | .lst _ _ => some "list"
  | .tup _ => some "tuple"
  | _ => none
section
variable {K : PySem.W.Frag} {C : Addr} {ρ : List Cell} {te ta tb tc : TE} {t u : TT} {d d' : D} {xs ys : List D} {m n k : Int} {Hf H : Hp}
theorem Rp.ty {v : V} {T : String} (h : d.tn = some T) (r : Rp K C Hf H d v) : TyX K H v (.type T) := by
  cases d with
  | non => cases h; cases r; exact .base .non
  | bl b => cases h; cases r; exact .base (.bl b)
  | int b => cases h; cases r; exact .base (.int b)
  | str b => cases h; cases r; exact .base (.str b)
  | scr ns => cases h
  | ho m ws tb => cases h
  | lst m ds =>
    cases h
    obtain ⟨a, us, rfl, _, h1, _⟩ := r
    exact .base (.lst h1)
  | tup ds =>
    cases h
    obtain ⟨a, us, rfl, h1, _⟩ := r
    rcases h1 with h1 | h1
    · exact .base (.tup h1)
    · rcases h1 with (h1 | ⟨o, h1⟩) | ⟨o, its, n, h1, h2, _⟩
      · cases h1
      · cases h1
      · exact .kTuple h1 h2
theorem ed_isi {T n : String} {b : Bool} (ha : EvR K C ta ρ d) (h : d.tn = some T) (hk : kitB T n = some b) : EvD K C (xIsi K n ta) ρ (.bl b) := fun Hf H0 Hb H L σ E Q q => ha Hf H0 Hb H L σ E _ fun x Hb1 H1 S r =>
  ⟨x, .ty n, .type T, .type n, b, rfl, .ty n, r.ty h, kit_ty hk, q _ Hb1 H1 S rfl⟩
theorem ed_catS {a b : Str} (ha : EvR K C ta ρ (.str a)) (hb : EvR K C tb ρ (.str b)) (hz : a.length + b.length ≤ 100000) : EvD K C (xCatS ta tb) ρ (.str (a ++ b)) := fun Hf H0 Hb H L σ E Q q =>
  two ha hb E fun x y Hb' H' S r1 r2 => ⟨a, b, r1, r2, line_of hz, q _ Hb' H' S rfl⟩
theorem ed_repS {a : Str} (ha : EvR K C ta ρ (.str a)) (hb : EvR K C tb ρ (.int n)) (hz : MulOk a n) : EvD K C (xRepS ta tb) ρ (.str (Txt.mul a n)) := fun Hf H0 Hb H L σ E Q q =>
  two ha hb E fun x y Hb' H' S r1 r2 => ⟨a, n, r1, r2, hz, q _ Hb' H' S rfl⟩
/-! the same things said of one another -/
theorem EqD.frac {x y : Rat} : EqD (.tup [.int x.num, .int (x.den : Int)]) (.tup [.int y.num, .int (y.den : Int)]) (decide (x = y)) := by
  obtain ⟨p, q, e1, e2, s1, s2, e3⟩ := (EqD.pair (m := x.num) (n := x.den) (k := y.num) (l := y.den)).ex
  refine ⟨⟨p, q, e1, e2, s1, s2, ?_⟩⟩
  rw [e3, ← Bool.decide_and]
  apply decide_eq_decide.mpr
  constructor
  · rintro ⟨h1, h2⟩
    exact Rat.ext h1 (Int.ofNat_inj.mp h2)
  · rintro rfl; exact ⟨rfl, rfl⟩
end
end Hw
namespace Hw
open PySem L2

/-! fractions -/
def dF (q : Rat) : D := .tup [.int q.num, .int (q.den : Int)]
def Sz (n : Nat) (q : Rat) : Prop := q.num.natAbs < 2 ^ n ∧ q.den < 2 ^ n
theorem dF_era (q : Rat) : (dF q).era = dF q := rfl
theorem dF_fr (q : Rat) : (dF q).fr = true := rfl
theorem gcd_pos_of {a b : Int} (h : b ≠ 0) : 0 < Int.gcd a b := Int.gcd_pos_of_ne_zero_right a h
/-- the fraction as the loop reckons it -/
theorem divInt_num {a b : Int} (h : 0 < b) : (Rat.divInt a b).num = a / (Int.gcd a.natAbs b : Int) := by
  rw [Rat.num_divInt, Int.sign_eq_one_of_pos h, Int.one_mul]
  congr 2
  rw [Int.gcd_comm]
  simp [Int.gcd]
theorem divInt_den {a b : Int} (h : 0 < b) : ((Rat.divInt a b).den : Int) = b / (Int.gcd a.natAbs b : Int) := by
  rw [Rat.den_divInt, if_neg (by omega)]
  have e : b.gcd a = Int.gcd (a.natAbs : Int) b := by rw [Int.gcd_comm]; simp [Int.gcd]
  rw [e]
  have hb : b = (b.natAbs : Int) := by omega
  have : ((b.natAbs / Int.gcd (a.natAbs : Int) b : Nat) : Int) = (b.natAbs : Int) / (Int.gcd (a.natAbs : Int) b : Int) := by simp
  rw [this, ← hb]
theorem dF_div {a b : Int} (h : 0 < b) : dF (Rat.divInt a b) = .tup [.int (a / (Int.gcd a.natAbs b : Int)), .int (b / (Int.gcd a.natAbs b : Int))] := by
  unfold dF
  rw [divInt_num h, divInt_den h]
theorem divInt_neg2 (a b : Int) : Rat.divInt (0 - a) (0 - b) = Rat.divInt a b := by
  rw [Int.zero_sub, Int.zero_sub]
  exact Rat.neg_divInt_neg a b
theorem Sz.mono {m n : Nat} {q : Rat} (h : Sz m q) (l : m ≤ n) : Sz n q :=
  ⟨Nat.lt_of_lt_of_le h.1 (Nat.pow_le_pow_right (by decide) l), Nat.lt_of_lt_of_le h.2 (Nat.pow_le_pow_right (by decide) l)⟩
theorem sz_div {n : Nat} {a b : Int} (hb : b ≠ 0) (h1 : a.natAbs < 2 ^ n) (h2 : b.natAbs < 2 ^ n) : Sz n (Rat.divInt a b) := by
  have key : ∀ a b : Int, 0 < b → a.natAbs < 2 ^ n → b.natAbs < 2 ^ n → Sz n (Rat.divInt a b) := fun a b hb h1 h2 => by
    constructor
    · rw [divInt_num hb]
      refine Nat.lt_of_le_of_lt ?_ h1
      rw [Int.natAbs_ediv_of_dvd (by
        have := Int.gcd_dvd_left (a.natAbs : Int) b
        exact Int.dvd_natAbs.mp this)]
      exact Nat.div_le_self _ _
    · rw [Rat.den_divInt, if_neg (by omega)]
      exact Nat.lt_of_le_of_lt (Nat.div_le_self _ _) h2
  by_cases h : 0 < b
  · exact key a b h h1 h2
  · rw [← divInt_neg2]
    exact key _ _ (by omega) (by omega) (by omega)
theorem rat_eq (q : Rat) : q = Rat.divInt q.num q.den := (Rat.num_divInt_den q).symm
theorem den_pos (q : Rat) : (0 : Int) < q.den := by have := q.den_pos; omega
theorem den_ne (q : Rat) : (q.den : Int) ≠ 0 := by have := den_pos q; omega
theorem add_eq (x y : Rat) : x + y = Rat.divInt (x.num * y.den + y.num * x.den) (x.den * y.den) := by
  conv => lhs; rw [rat_eq x, rat_eq y]
  exact Rat.divInt_add_divInt _ _ (den_ne x) (den_ne y)
theorem sub_eq (x y : Rat) : x - y = Rat.divInt (x.num * y.den - y.num * x.den) (x.den * y.den) := by
  conv => lhs; rw [rat_eq x, rat_eq y]
  exact Rat.divInt_sub_divInt _ _ (den_ne x) (den_ne y)
theorem mul_eq (x y : Rat) : x * y = Rat.divInt (x.num * y.num) (x.den * y.den) := by
  conv => lhs; rw [rat_eq x, rat_eq y]
  exact Rat.divInt_mul_divInt _ _
theorem div_eq (x y : Rat) : x / y = Rat.divInt (x.num * y.den) (x.den * y.num) := by
  conv => lhs; rw [rat_eq x, rat_eq y]
  rw [Rat.div_def, Rat.inv_divInt, Rat.divInt_mul_divInt]
theorem den_prod_ne (x y : Rat) : (x.den : Int) * y.den ≠ 0 := Int.mul_ne_zero (den_ne x) (den_ne y)
theorem num_ne {y : Rat} (h : y ≠ 0) : y.num ≠ 0 := fun e => h (Rat.num_eq_zero.mp e)
theorem lt_add {a b : Int} {m n : Nat} (h1 : a.natAbs < 2 ^ m) (h2 : b.natAbs < 2 ^ n) : (a + b).natAbs < 2 ^ (m + n + 1) ∧ (a - b).natAbs < 2 ^ (m + n + 1) := by
  have h3 : (2 : Nat) ^ m ≤ 2 ^ (m + n) := Nat.pow_le_pow_right (by decide) (by omega)
  have h4 : (2 : Nat) ^ n ≤ 2 ^ (m + n) := Nat.pow_le_pow_right (by decide) (by omega)
  have h5 : (2 : Nat) ^ (m + n + 1) = 2 ^ (m + n) * 2 := Nat.pow_succ ..
  omega
theorem natAbs_den (q : Rat) : (q.den : Int).natAbs = q.den := by simp
section
variable {m n : Nat} {x y : Rat}
theorem Sz.den (h : Sz n x) : ((x.den : Nat) : Int).natAbs < 2 ^ n := by rw [natAbs_den]; exact h.2
theorem Sz.cross (h : Sz m x) (k : Sz n y) : (x.num * y.den).natAbs < 2 ^ (m + n) := wide_lt h.1 k.den
theorem Sz.dens (h : Sz m x) (k : Sz n y) : ((x.den : Int) * y.den).natAbs < 2 ^ (m + n) := wide_lt h.den k.den
theorem Sz.up {a : Int} {m n : Nat} (h : a.natAbs < 2 ^ m) (l : m ≤ n) : a.natAbs < 2 ^ n := Nat.lt_of_lt_of_le h (Nat.pow_le_pow_right (by decide) l)
theorem Sz.add (h : Sz m x) (k : Sz n y) : Sz (2 * m + 2 * n + 1) (x + y) := by
  rw [add_eq]
  refine sz_div (den_prod_ne x y) (Sz.up (lt_add (h.cross k) (k.cross h)).1 (by omega)) (Sz.up (h.dens k) (by omega))
theorem Sz.sub (h : Sz m x) (k : Sz n y) : Sz (2 * m + 2 * n + 1) (x - y) := by
  rw [sub_eq]
  refine sz_div (den_prod_ne x y) (Sz.up (lt_add (h.cross k) (k.cross h)).2 (by omega)) (Sz.up (h.dens k) (by omega))
theorem Sz.mul (h : Sz m x) (k : Sz n y) : Sz (m + n) (x * y) := by
  rw [mul_eq]
  exact sz_div (den_prod_ne x y) (wide_lt h.1 k.1) (h.dens k)
theorem Sz.div (h : Sz m x) (k : Sz n y) (hy : y ≠ 0) : Sz (m + n) (x / y) := by
  rw [div_eq]
  exact sz_div (Int.mul_ne_zero (den_ne x) (num_ne hy)) (h.cross k) (wide_lt h.den k.1)
theorem Sz.mulw (ha : m + n ≤ 1000000) (h0 : 0 < m) (h1 : 0 < n) {a b : Int} (h : a.natAbs < 2 ^ m) (k : b.natAbs < 2 ^ n) : CMulW a b := wide_mul h k h0 h1 ha
end
end Hw
namespace Hw
open PySem L2
/-! what the defs promise: fractions, the law's own reckoning -/
def R_common (ds : List D) (d : D) : Prop := ∃ a b : Int, 0 ≤ a ∧ 0 ≤ b ∧ ds = [.int a, .int b] ∧ d = .int (Int.gcd a b)
def R_fraction (ds : List D) (d : D) : Prop := ∃ a b : Int, b ≠ 0 ∧ b.natAbs < 2 ^ 8500 ∧ ds = [.int a, .int b] ∧ d = dF (Rat.divInt a b)
def R_plus (ds : List D) (d : D) : Prop := ∃ x y : Rat, Sz 4000 x ∧ Sz 4000 y ∧ ds = [dF x, dF y] ∧ d = dF (x + y)
def R_minus (ds : List D) (d : D) : Prop := ∃ x y : Rat, Sz 4000 x ∧ Sz 4000 y ∧ ds = [dF x, dF y] ∧ d = dF (x - y)
def R_times (ds : List D) (d : D) : Prop := ∃ x y : Rat, Sz 4000 x ∧ Sz 4000 y ∧ ds = [dF x, dF y] ∧ d = dF (x * y)
def R_over (ds : List D) (d : D) : Prop := ∃ x y : Rat, Sz 4000 x ∧ Sz 4000 y ∧ y ≠ 0 ∧ ds = [dF x, dF y] ∧ d = dF (x / y)
def R_less (ds : List D) (d : D) : Prop := ∃ x y : Rat, Sz 4000 x ∧ Sz 4000 y ∧ ds = [dF x, dF y] ∧ d = .bl (decide (x < y))
def R_cell (ds : List D) (d : D) : Prop := ∃ (ns : List Int) (k : Nat), ds = [.scr ns, .int k] ∧ d = .int (ns.getD k 0)
def R_whole (ds : List D) (d : D) : Prop := ∃ i : Int, ds = [.int i] ∧ d = .bl true
def R_low (ds : List D) (d : D) : Prop := ∃ a b : Int, 0 < b ∧ b.natAbs < 2 ^ 8500 ∧ ds = [.int a, .int b] ∧ d = dF (Rat.divInt a b)
def R_part (ds : List D) (d : D) : Prop := ∃ x : Rat, Sz 8500 x ∧ ds = [dF x] ∧ d = .bl true
def bots : List Int := [1, 1, 2, 3, 7, 1000003]
def mosts : List Int := [9, 99, 10 ^ 12]
def fracOf (c : Int) : Rat := Rat.divInt (c / 18 % (2 * mosts.getD (c / 6 % 3).toNat 0 + 1) - mosts.getD (c / 6 % 3).toNat 0) (bots.getD (c % 6).toNat 1)
def R_lfraction (ds : List D) (d : D) : Prop := ∃ c : Int, ds = [.int c] ∧ d = dF (fracOf c)
/-- k01: the told fraction is the one of top and bottom -/
def R_same (ds : List D) (d : D) : Prop := ∃ (x : Rat) (a b : Int), Sz 8500 x ∧ b ≠ 0 ∧ b.natAbs < 2 ^ 8500 ∧ x = Rat.divInt a b ∧ ds = [dF x, .int a, .int b] ∧ d = .bl true
section
variable (K : PySem.W.Frag) (C : Addr)
abbrev sp_common : Sp := spD K C R_common
abbrev sp_fraction : Sp := spD K C R_fraction
abbrev sp_plus : Sp := spD K C R_plus
abbrev sp_minus : Sp := spD K C R_minus
abbrev sp_times : Sp := spD K C R_times
abbrev sp_over : Sp := spD K C R_over
abbrev sp_less : Sp := spD K C R_less
abbrev sp_law_cell_at : Sp := spD K C R_cell
abbrev sp_law_whole : Sp := spD K C R_whole
abbrev sp_law_low : Sp := spD K C R_low
abbrev sp_law_plus : Sp := spD K C R_plus
abbrev sp_law_part : Sp := spD K C R_part
abbrev sp_law_fraction : Sp := spD K C R_lfraction
abbrev sp_law_same : Sp := spD K C R_same
end
section
variable {a b c : Int} {x y : Rat} {ns : List Int} {k : Nat}
theorem rc_common (ha : 0 ≤ a) (hb : 0 ≤ b) : R_common [.int a, .int b] (.int (Int.gcd a b)) := ⟨a, b, ha, hb, rfl, rfl⟩
theorem rc_fraction (hb : b ≠ 0) (hz : b.natAbs < 2 ^ 8500) : R_fraction [.int a, .int b] (dF (Rat.divInt a b)) := ⟨a, b, hb, hz, rfl, rfl⟩
theorem rc_plus (h1 : Sz 4000 x) (h2 : Sz 4000 y) : R_plus [dF x, dF y] (dF (x + y)) := ⟨x, y, h1, h2, rfl, rfl⟩
theorem rc_minus (h1 : Sz 4000 x) (h2 : Sz 4000 y) : R_minus [dF x, dF y] (dF (x - y)) := ⟨x, y, h1, h2, rfl, rfl⟩
theorem rc_times (h1 : Sz 4000 x) (h2 : Sz 4000 y) : R_times [dF x, dF y] (dF (x * y)) := ⟨x, y, h1, h2, rfl, rfl⟩
theorem rc_over (h1 : Sz 4000 x) (h2 : Sz 4000 y) (h : y ≠ 0) : R_over [dF x, dF y] (dF (x / y)) := ⟨x, y, h1, h2, h, rfl, rfl⟩
theorem rc_less (h1 : Sz 4000 x) (h2 : Sz 4000 y) : R_less [dF x, dF y] (.bl (decide (x < y))) := ⟨x, y, h1, h2, rfl, rfl⟩
theorem rc_cell (h : c = (k : Int)) : R_cell [.scr ns, .int c] (.int (ns.getD k 0)) := ⟨ns, k, by rw [h], rfl⟩
theorem rc_whole : R_whole [.int a] (.bl true) := ⟨a, rfl, rfl⟩
theorem rc_low (hb : 0 < b) (hz : b.natAbs < 2 ^ 8500) : R_low [.int a, .int b] (dF (Rat.divInt a b)) := ⟨a, b, hb, hz, rfl, rfl⟩
theorem rc_part (h : Sz 8500 x) : R_part [dF x] (.bl true) := ⟨x, h, rfl, rfl⟩
theorem rc_lfraction : R_lfraction [.int c] (dF (fracOf c)) := ⟨c, rfl, rfl⟩
end
theorem fracOf_sz (c : Int) : Sz 50 (fracOf c) := by
  unfold fracOf
  have h1 : (c % 6).toNat = 0 ∨ (c % 6).toNat = 1 ∨ (c % 6).toNat = 2 ∨ (c % 6).toNat = 3 ∨ (c % 6).toNat = 4 ∨ (c % 6).toNat = 5 := by omega
  have h2 : (c / 6 % 3).toNat = 0 ∨ (c / 6 % 3).toNat = 1 ∨ (c / 6 % 3).toNat = 2 := by omega
  have hb : bots.getD (c % 6).toNat 1 ≠ 0 ∧ (bots.getD (c % 6).toNat 1).natAbs < 2 ^ 50 := by
    rcases h1 with h | h | h | h | h | h <;> rw [h] <;> decide
  refine sz_div hb.1 ?_ hb.2
  rcases h2 with h | h | h <;> rw [h] <;> simp [mosts] <;> omega
end Hw
namespace Hw
open PySem L2
/-- common: one other rest -/
def t_common (K : PySem.W.Frag) (C : Addr) : TS := (tSeq (tWhile (tB (xGt (tVar 1) (tC (.int 0)))) (tSeq (tAsg (xMod (tVar 0) (tVar 1)) (gName 2)) (tSeq (tAsg (tVar 1) (gName 0)) (tAsg (tVar 2) (gName 1))))) (tRet (tVar 0)))
abbrev n_common : List Str := ["one", "other", "rest"]
/-- fraction: top bottom far -/
def t_fraction (K : PySem.W.Frag) (C : Addr) : TS := (tSeq (tIfS (tB (xLt (tVar 1) (tC (.int 0)))) (tSeq (tAsg (xSub (tC (.int 0)) (tVar 0)) (gName 0)) (tAsg (xSub (tC (.int 0)) (tVar 1)) (gName 1))) tNext) (tSeq (tAsg (tCall (sp_common K C) [] E0 (tCons (xAbs (tVar 0)) (tCons (tVar 1) tNil))) (gName 2)) (tRet (tTup (tCons (xDiv (tVar 0) (tVar 2)) (tCons (xDiv (tVar 1) (tVar 2)) tNil))))))
abbrev n_fraction : List Str := ["top", "bottom", "far"]
/-- plus: one other -/
def t_plus (K : PySem.W.Frag) (C : Addr) : TS := (tRet (tCall (sp_fraction K C) [] E0 (tCons (xAdd (xMul (xIdx K (tVar 0) (tC (.int 0))) (xIdx K (tVar 1) (tC (.int 1)))) (xMul (xIdx K (tVar 1) (tC (.int 0))) (xIdx K (tVar 0) (tC (.int 1))))) (tCons (xMul (xIdx K (tVar 0) (tC (.int 1))) (xIdx K (tVar 1) (tC (.int 1)))) tNil))))
abbrev n_plus : List Str := ["one", "other"]
/-- minus: one other -/
def t_minus (K : PySem.W.Frag) (C : Addr) : TS := (tRet (tCall (sp_fraction K C) [] E0 (tCons (xSub (xMul (xIdx K (tVar 0) (tC (.int 0))) (xIdx K (tVar 1) (tC (.int 1)))) (xMul (xIdx K (tVar 1) (tC (.int 0))) (xIdx K (tVar 0) (tC (.int 1))))) (tCons (xMul (xIdx K (tVar 0) (tC (.int 1))) (xIdx K (tVar 1) (tC (.int 1)))) tNil))))
abbrev n_minus : List Str := ["one", "other"]
/-- times: one other -/
def t_times (K : PySem.W.Frag) (C : Addr) : TS := (tRet (tCall (sp_fraction K C) [] E0 (tCons (xMul (xIdx K (tVar 0) (tC (.int 0))) (xIdx K (tVar 1) (tC (.int 0)))) (tCons (xMul (xIdx K (tVar 0) (tC (.int 1))) (xIdx K (tVar 1) (tC (.int 1)))) tNil))))
abbrev n_times : List Str := ["one", "other"]
/-- over: one other -/
def t_over (K : PySem.W.Frag) (C : Addr) : TS := (tRet (tCall (sp_fraction K C) [] E0 (tCons (xMul (xIdx K (tVar 0) (tC (.int 0))) (xIdx K (tVar 1) (tC (.int 1)))) (tCons (xMul (xIdx K (tVar 0) (tC (.int 1))) (xIdx K (tVar 1) (tC (.int 0)))) tNil))))
abbrev n_over : List Str := ["one", "other"]
/-- less: one other -/
def t_less (K : PySem.W.Frag) (C : Addr) : TS := (tRet (xLt (xMul (xIdx K (tVar 0) (tC (.int 0))) (xIdx K (tVar 1) (tC (.int 1)))) (xMul (xIdx K (tVar 1) (tC (.int 0))) (xIdx K (tVar 0) (tC (.int 1))))))
abbrev n_less : List Str := ["one", "other"]
/-- _law_cell_at: script k -/
def t_law_cell_at (K : PySem.W.Frag) (C : Addr) : TS := (tSeq (tIfS (tB (xLt (tVar 1) (xLen K (tVar 0)))) (tRet (xIdx K (tVar 0) (tVar 1))) tNext) (tRet (tC (.int 0))))
abbrev n_law_cell_at : List Str := ["script", "k"]
/-- _law_whole: found -/
def t_law_whole (K : PySem.W.Frag) (C : Addr) : TS := (tRet (tAndV (xIsi K "int" (tVar 0)) (tNotV (xIsi K "bool" (tVar 0)))))
abbrev n_law_whole : List Str := ["found"]
/-- _law_low: top bottom one other rest -/
def t_law_low (K : PySem.W.Frag) (C : Addr) : TS := (tSeq (tAsg (xAbs (tVar 0)) (gName 2)) (tSeq (tAsg (tVar 1) (gName 3)) (tSeq (tWhile (tB (xGt (tVar 3) (tC (.int 0)))) (tSeq (tAsg (xMod (tVar 2) (tVar 3)) (gName 4)) (tSeq (tAsg (tVar 3) (gName 2)) (tAsg (tVar 4) (gName 3))))) (tRet (tTup (tCons (xDiv (tVar 0) (tVar 2)) (tCons (xDiv (tVar 1) (tVar 2)) tNil)))))))
abbrev n_law_low : List Str := ["top", "bottom", "one", "other", "rest"]
/-- _law_plus: one other -/
def t_law_plus (K : PySem.W.Frag) (C : Addr) : TS := (tRet (tCall (sp_law_low K C) [] E0 (tCons (xAdd (xMul (xIdx K (tVar 0) (tC (.int 0))) (xIdx K (tVar 1) (tC (.int 1)))) (xMul (xIdx K (tVar 1) (tC (.int 0))) (xIdx K (tVar 0) (tC (.int 1))))) (tCons (xMul (xIdx K (tVar 0) (tC (.int 1))) (xIdx K (tVar 1) (tC (.int 1)))) tNil))))
abbrev n_law_plus : List Str := ["one", "other"]
/-- _law_part: found -/
def t_law_part (K : PySem.W.Frag) (C : Addr) : TS := (tSeq (tIfS (tOr (tNot (tB (xIsi K "tuple" (tVar 0)))) (tOr (tB (xNe K (xLen K (tVar 0)) (tC (.int 2)))) (tOr (tNot (tB (tCall (sp_law_whole K C) [] E0 (tCons (xIdx K (tVar 0) (tC (.int 0))) tNil)))) (tNot (tB (tCall (sp_law_whole K C) [] E0 (tCons (xIdx K (tVar 0) (tC (.int 1))) tNil))))))) (tRet (tC (.bl false))) tNext) (tRet (tAndV (xGt (xIdx K (tVar 0) (tC (.int 1))) (tC (.int 0))) (xEq K (tCall (sp_law_low K C) [] E0 (tCons (xIdx K (tVar 0) (tC (.int 0))) (tCons (xIdx K (tVar 0) (tC (.int 1))) tNil))) (tVar 0)))))
abbrev n_law_part : List Str := ["found"]
/-- _law_fraction: cell bottom most -/
def t_law_fraction (K : PySem.W.Frag) (C : Addr) : TS := (tSeq (tAsg (xIdx K (tLst (tCons (tC (.int 1)) (tCons (tC (.int 1)) (tCons (tC (.int 2)) (tCons (tC (.int 3)) (tCons (tC (.int 7)) (tCons (tC (.int 1000003)) tNil))))))) (xMod (tVar 0) (tC (.int 6)))) (gName 1)) (tSeq (tAsg (xIdx K (tLst (tCons (tC (.int 9)) (tCons (tC (.int 99)) (tCons (xPow (tC (.int 10)) (tC (.int 12))) tNil)))) (xMod (xDiv (tVar 0) (tC (.int 6))) (tC (.int 3)))) (gName 2)) (tRet (tCall (sp_law_low K C) [] E0 (tCons (xSub (xMod (xDiv (tVar 0) (tC (.int 18))) (xAdd (xMul (tC (.int 2)) (tVar 2)) (tC (.int 1)))) (tVar 2)) (tCons (tVar 1) tNil))))))
abbrev n_law_fraction : List Str := ["cell", "bottom", "most"]
/-- _law_same: found top bottom -/
def t_law_same (K : PySem.W.Frag) (C : Addr) : TS := (tSeq (tIfS (tB (xLt (tVar 2) (tC (.int 0)))) (tSeq (tAsg (xSub (tC (.int 0)) (tVar 1)) (gName 1)) (tAsg (xSub (tC (.int 0)) (tVar 2)) (gName 2))) tNext) (tRet (tAndV (tCall (sp_law_part K C) [] E0 (tCons (tVar 0) tNil)) (xEq K (tVar 0) (tCall (sp_law_low K C) [] E0 (tCons (tVar 1) (tCons (tVar 2) tNil)))))))
abbrev n_law_same : List Str := ["found", "top", "bottom"]
/-- law: script one other great a b c d found -/
def t_law_k01 (K : PySem.W.Frag) (C : Addr) : TS := (tSeq (tAsg (tCall (sp_law_fraction K C) [] E0 (tCons (tCall (sp_law_cell_at K C) [] E0 (tCons (tVar 0) (tCons (tC (.int 0)) tNil))) tNil)) (gName 1)) (tSeq (tAsg (tCall (sp_law_fraction K C) [] E0 (tCons (tCall (sp_law_cell_at K C) [] E0 (tCons (tVar 0) (tCons (tC (.int 1)) tNil))) tNil)) (gName 2)) (tSeq (tIfS (tB (xEq K (xMod (tCall (sp_law_cell_at K C) [] E0 (tCons (tVar 0) (tCons (tC (.int 2)) tNil))) (tC (.int 5))) (tC (.int 1)))) (tSeq (tAsg (xInt (xCatS (tC (.str "1")) (xRepS (tC (.str "0")) (tC (.int 50))))) (gName 3)) (tAsg (tCall (sp_law_low K C) [] E0 (tCons (xSub (xMod (tCall (sp_law_cell_at K C) [] E0 (tCons (tVar 0) (tCons (tC (.int 0)) tNil))) (tVar 3)) (xDiv (tVar 3) (tC (.int 2)))) (tCons (xAdd (tC (.int 1)) (xMod (tCall (sp_law_cell_at K C) [] E0 (tCons (tVar 0) (tCons (tC (.int 1)) tNil))) (tVar 3))) tNil))) (gName 1))) tNext) (tSeq (tAsg (xIdx K (tVar 1) (tC (.int 0))) (gName 4)) (tSeq (tAsg (xIdx K (tVar 1) (tC (.int 1))) (gName 5)) (tSeq (tAsg (xIdx K (tVar 2) (tC (.int 0))) (gName 6)) (tSeq (tAsg (xIdx K (tVar 2) (tC (.int 1))) (gName 7)) (tSeq (tIfS (tOr (tNot (tB (tCall (sp_law_same K C) [] E0 (tCons (tCall (sp_plus K C) [] E0 (tCons (tVar 1) (tCons (tVar 2) tNil))) (tCons (xAdd (xMul (tVar 4) (tVar 7)) (xMul (tVar 6) (tVar 5))) (tCons (xMul (tVar 5) (tVar 7)) tNil)))))) (tNot (tB (tCall (sp_law_same K C) [] E0 (tCons (tCall (sp_minus K C) [] E0 (tCons (tVar 1) (tCons (tVar 2) tNil))) (tCons (xSub (xMul (tVar 4) (tVar 7)) (xMul (tVar 6) (tVar 5))) (tCons (xMul (tVar 5) (tVar 7)) tNil))))))) (tRet (tC (.bl false))) tNext) (tSeq (tIfS (tNot (tB (tCall (sp_law_same K C) [] E0 (tCons (tCall (sp_times K C) [] E0 (tCons (tVar 1) (tCons (tVar 2) tNil))) (tCons (xMul (tVar 4) (tVar 6)) (tCons (xMul (tVar 5) (tVar 7)) tNil)))))) (tRet (tC (.bl false))) tNext) (tSeq (tIfS (tAnd (tB (xNe K (tVar 6) (tC (.int 0)))) (tNot (tB (tCall (sp_law_same K C) [] E0 (tCons (tCall (sp_over K C) [] E0 (tCons (tVar 1) (tCons (tVar 2) tNil))) (tCons (xMul (tVar 4) (tVar 7)) (tCons (xMul (tVar 5) (tVar 6)) tNil))))))) (tRet (tC (.bl false))) tNext) (tSeq (tAsg (tCall (sp_less K C) [] E0 (tCons (tVar 1) (tCons (tVar 2) tNil))) (gName 8)) (tRet (tAndV (xIsi K "bool" (tVar 8)) (xEq K (tVar 8) (xLt (xMul (tVar 4) (tVar 7)) (xMul (tVar 6) (tVar 5)))))))))))))))))
abbrev n_law_k01 : List Str := ["script", "one", "other", "great", "a", "b", "c", "d", "found"]
end Hw
namespace Hw
open PySem L2
local macro_rules | `(tactic| walk_at "sd") => `(tactic| first
  | exact rfl
  | decide +kernel
  | (exact Nat.le_of_ble_eq_true rfl)
  | assumption
  | (exact Sz.mono (by assumption) (by decide))
  | decide
  | omega
  | (exact eraAll_map _ _ (fun _ => rfl) _)
  | (exact frAll_map _ (fun _ => rfl) _)
  | exact EqD.frac
  | exact EqD.int
  | exact EqD.bl
  | exact EqD.pair
  | skip)
local macro_rules | `(tactic| walk_at "R") => `(tactic| first
  | (with_reducible apply rc_common) <;> walk_at "sd"
  | (with_reducible apply rc_fraction) <;> walk_at "sd"
  | (with_reducible apply rc_plus) <;> walk_at "sd"
  | (with_reducible apply rc_minus) <;> walk_at "sd"
  | (with_reducible apply rc_times) <;> walk_at "sd"
  | (with_reducible apply rc_over) <;> walk_at "sd"
  | (with_reducible apply rc_less) <;> walk_at "sd"
  | (with_reducible apply rc_cell) <;> walk_at "sd"
  | (with_reducible apply rc_whole) <;> walk_at "sd"
  | (with_reducible apply rc_low) <;> walk_at "sd"
  | (with_reducible apply rc_part) <;> walk_at "sd"
  | (with_reducible apply rc_lfraction) <;> walk_at "sd")
local macro_rules | `(tactic| walk_at "evD") => `(tactic| first
  | with_reducible exact ed_int
  | with_reducible exact ed_bl
  | with_reducible exact ed_non
  | with_reducible exact ed_str
  | (with_reducible apply ed_var) <;> walk_at "go"
  | (with_reducible apply ed_add) <;> walk_at "go"
  | (with_reducible apply ed_sub) <;> walk_at "go"
  | (with_reducible apply ed_mul) <;> walk_at "go"
  | (with_reducible apply ed_div) <;> walk_at "go"
  | (with_reducible apply ed_mod) <;> walk_at "go"
  | (with_reducible apply ed_pow) <;> walk_at "go"
  | (with_reducible apply ed_neg) <;> walk_at "go"
  | (with_reducible apply ed_lt) <;> walk_at "go"
  | (with_reducible apply ed_le) <;> walk_at "go"
  | (with_reducible apply ed_gt) <;> walk_at "go"
  | (with_reducible apply ed_ge) <;> walk_at "go"
  | (with_reducible apply ed_leLt) <;> walk_at "go"
  | (with_reducible apply ed_leLe) <;> walk_at "go"
  | (with_reducible apply ed_ltLt) <;> walk_at "go"
  | (with_reducible apply ed_eq) <;> walk_at "go"
  | (with_reducible apply ed_ne) <;> walk_at "go"
  | (with_reducible apply ed_idxT) <;> walk_at "go"
  | (with_reducible apply ed_idxS) <;> walk_at "go"
  | (with_reducible apply ed_idxScr) <;> walk_at "go"
  | (with_reducible apply ed_lenS) <;> walk_at "go"
  | (with_reducible apply ed_lenT) <;> walk_at "go"
  | (with_reducible apply ed_lenScr) <;> walk_at "go"
  | (with_reducible apply ed_abs) <;> walk_at "go"
  | (with_reducible apply ed_intI) <;> walk_at "go"
  | (with_reducible apply ed_intB) <;> walk_at "go"
  | (with_reducible apply ed_intS) <;> walk_at "go"
  | (with_reducible apply ed_andV) <;> walk_at "go"
  | (with_reducible apply ed_orV) <;> walk_at "go"
  | (with_reducible apply ed_notV) <;> walk_at "go"
  | (with_reducible apply ed_tup) <;> walk_at "go"
  | (with_reducible apply ev_call) <;> walk_at "go"
  | (with_reducible apply ed_isi) <;> walk_at "go"
  | (with_reducible apply ed_catS) <;> walk_at "go"
  | (with_reducible apply ed_repS) <;> walk_at "go"
  | (with_reducible apply EvL.dat) <;> walk_at "go")
local macro_rules | `(tactic| walk_at "evR") => `(tactic| first
  | (with_reducible apply EvD.r) <;> walk_at "go"
  | (with_reducible apply EvS.r) <;> walk_at "go")
local macro_rules | `(tactic| walk_at "evS") => `(tactic| first
  | (with_reducible apply es_own) <;> walk_at "go"
  | (with_reducible apply EvD.s) <;> walk_at "go"
  | (with_reducible apply EvL.s) <;> walk_at "go")
local macro_rules | `(tactic| walk_at "evL") => `(tactic| first
  | (with_reducible apply el_lst) <;> walk_at "go"
  | (with_reducible apply ev_callL) <;> walk_at "go")
local macro_rules | `(tactic| walk_at "evA") => `(tactic| first
  | with_reducible exact ea_nil
  | (with_reducible apply ea_cons) <;> walk_at "go")
local macro_rules | `(tactic| walk_at "evQ") => `(tactic| first
  | with_reducible exact eq_nil
  | (with_reducible apply eq_cons) <;> walk_at "go")
local macro_rules | `(tactic| walk_at "evB") => `(tactic| first
  | (with_reducible apply eb_and) <;> walk_at "go"
  | (with_reducible apply eb_or) <;> walk_at "go"
  | (with_reducible apply eb_not) <;> walk_at "go"
  | (with_reducible apply eb_val) <;> walk_at "go")
local macro_rules | `(tactic| walk_at "go") => `(tactic| first
  | ((with_reducible show _ = some (Cell.dat _)); exact rfl)
  | ((with_reducible show _ = some (Cell.own _)); exact rfl)
  | ((with_reducible show D.tn _ = some _); exact rfl)
  | ((with_reducible show atI _ _ = some _); first | exact rfl | assumption)
  | ((with_reducible show EvD _ _ _ _ _); walk_at "evD")
  | ((with_reducible show EvR _ _ _ _ _); walk_at "evR")
  | ((with_reducible show EvS _ _ _ _ _); walk_at "evS")
  | ((with_reducible show EvL _ _ _ _ _); walk_at "evL")
  | ((with_reducible show EvA _ _ _ _ _); walk_at "evA")
  | ((with_reducible show EvAD _ _ _ _ _); walk_at "evQ")
  | ((with_reducible show EvB _ _ _ _ _); walk_at "evB")
  | ((with_reducible show _ = _ → _); intro hv; walk_at "go")
  | ((fail_if_success (with_reducible show EvD _ _ _ _ _)); (fail_if_success (with_reducible show EvR _ _ _ _ _)); (fail_if_success (with_reducible show EvS _ _ _ _ _)); (fail_if_success (with_reducible show EvL _ _ _ _ _)); (fail_if_success (with_reducible show EvA _ _ _ _ _)); (fail_if_success (with_reducible show EvAD _ _ _ _ _)); (fail_if_success (with_reducible show EvB _ _ _ _ _)); (fail_if_success (with_reducible show _ = some (Cell.dat _))); (fail_if_success (with_reducible show _ = some (Cell.own _))); (fail_if_success (with_reducible show atI _ _ = some _)); (fail_if_success (with_reducible show D.tn _ = some _)); first | walk_at "R" | walk_at "sd"))
local macro_rules | `(tactic| walk_at "len") => `(tactic| first
  | exact (by decide)
  | (simp; done)
  | omega)
local macro_rules | `(tactic| walk_at "st") => `(tactic| first
  | ((with_reducible show At _ _ _ _ _ _); try dsimp only [List.set])
  | ((with_reducible show _ = _ → At _ _ _ _ _ _); intro hb)
  | ((with_reducible show _ < _); walk_at "len")
  | walk_at "go")
local macro_rules | `(tactic| walk_at "asg") => `(tactic| first
  | (with_reducible apply sq_asg) <;> walk_at "st"
  | (with_reducible apply at_asg) <;> walk_at "st")
local macro_rules | `(tactic| walk_at "asgL") => `(tactic| first
  | (with_reducible apply sq_asgL) <;> walk_at "st"
  | (with_reducible apply at_asgL) <;> walk_at "st")
local macro_rules | `(tactic| walk_at "app") => `(tactic| first
  | (with_reducible apply sq_append) <;> walk_at "st"
  | (with_reducible apply at_append) <;> walk_at "st")
local macro_rules | `(tactic| walk_at "ret") => `(tactic| first
  | (with_reducible apply at_ret) <;> walk_at "st")
local macro_rules | `(tactic| walk_at "when") => `(tactic| first
  | (with_reducible apply sq_when) <;> walk_at "st"
  | (with_reducible apply at_when) <;> walk_at "st")
local macro_rules | `(tactic| walk_at "if") => `(tactic| first
  | (with_reducible apply sq_if) <;> walk_at "st"
  | (with_reducible apply at_if) <;> walk_at "st")
section
variable {K : PySem.W.Frag} {C : Addr}
theorem gcd_step {x y : Int} (hx : 0 ≤ x) (hy : 0 < y) : Int.gcd y (x % y) = Int.gcd x y := by
  have e1 : (x.natAbs % y.natAbs) = (x % y).natAbs := by
    obtain ⟨a, rfl⟩ := Int.eq_ofNat_of_zero_le hx
    obtain ⟨b, rfl⟩ := Int.eq_ofNat_of_zero_le (Int.le_of_lt hy)
    simp; rfl
  show Nat.gcd y.natAbs (x % y).natAbs = Nat.gcd x.natAbs y.natAbs
  rw [← e1, Nat.gcd_comm x.natAbs, Nat.gcd_rec y.natAbs x.natAbs, Nat.gcd_comm]
/-- a promise's arguments and its way out, at a def's entry -/
abbrev Body (t : TS) (N : List Str) (sp : Sp) : Prop := ∀ vs H Q E, sp vs H Q E → t { nx := fun _ H' => Q .non H', rt := Q } (start N vs) H
theorem p_common : Body (t_common K C) n_common (sp_common K C) := by
  rintro vs H Q E ⟨ds, d, r, ⟨a, b, ha, hb, rfl, rfl⟩, k⟩
  refine start_at r (n := 1) (by rw [r.length]; rfl) (sq_while (fun m ρ' => ∃ (x y : Int) (c : Cell), ρ' = [.dat (.int x), .dat (.int y), c] ∧ 0 ≤ x ∧ 0 ≤ y ∧ m = y.toNat ∧ Int.gcd x y = Int.gcd a b) b.toNat ⟨a, b, .un, rfl, ha, hb, rfl, rfl⟩ ?_)
  rintro m ρ' ⟨x, y, c, rfl, hx, hy, rfl, hg⟩
  refine ⟨_, by walk_at "evB", fun hb => ?_, fun hb => ?_⟩
  · have hy0 : 0 < y := of_decide_eq_true hb
    walk_at "asg"
    walk_at "asg"
    walk_at "asg"
    refine at_gx ⟨(x % y).toNat, ?_, y, x % y, _, rfl, hy, Int.emod_nonneg _ (by omega), rfl, ?_⟩
    · have := Int.emod_lt_of_pos x hy0; have := Int.emod_nonneg x (show y ≠ 0 by omega); omega
    · rw [← hg]
      exact gcd_step hx hy0
  · have hy0 : y = 0 := by have : ¬ 0 < y := of_decide_eq_false hb; omega
    subst hy0
    walk_at "ret"
    rw [show (Int.gcd a b : Int) = x by rw [← hg]; simp; omega] at k
    exact k
theorem gcdw {a b : Int} (hb : 0 < b) (h : b.natAbs < 2 ^ 8500) : CDivW a (Int.gcd (a.natAbs : Int) b : Int) := by
  have h1 : 0 < Int.gcd (a.natAbs : Int) b := Int.gcd_pos_of_ne_zero_right _ (by omega)
  refine wide_div (b := 8500) (by omega) ?_ (by decide) (by decide)
  have h2 : Int.gcd (a.natAbs : Int) b ≤ b.natAbs := Nat.le_of_dvd (by omega) (Nat.gcd_dvd_right _ _)
  have h3 : ((Int.gcd (a.natAbs : Int) b : Nat) : Int).natAbs = Int.gcd (a.natAbs : Int) b := by simp
  omega
theorem gcdw2 {a b : Int} (hb : 0 < b) (h : b.natAbs < 2 ^ 8500) : CDivW b (Int.gcd (a.natAbs : Int) b : Int) := ⟨(gcdw (a := a) hb h).1, (gcdw (a := a) hb h).2⟩
theorem p_fraction : Body (t_fraction K C) n_fraction (sp_fraction K C) := by
  rintro vs H Q E ⟨ds, d, r, ⟨a, b, hb, hz, rfl, rfl⟩, k⟩
  have fin : ∀ (x y : Int) (c : Cell), 0 < y → y.natAbs < 2 ^ 8500 → Rat.divInt x y = Rat.divInt a b → ∀ D0 : Ends, D0.rt = Q → At K C H H (tSeq (tAsg (tCall (sp_common K C) [] E0 (tCons (xAbs (tVar 0)) (tCons (tVar 1) tNil))) (gName 2)) (tRet (tTup (tCons (xDiv (tVar 0) (tVar 2)) (tCons (xDiv (tVar 1) (tVar 2)) tNil)))) D0) [.dat (.int x), .dat (.int y), c] := by
    intro x y c hy hz e D0 hD
    have g1 := gcdw (a := x) hy hz
    have g2 := gcdw2 (a := x) hy hz
    walk_at "asg"
    walk_at "ret"
    rw [hD, ← dF_div hy, e]
    exact k
  refine start_at r (n := 1) (by rw [r.length]; rfl) ?_
  unfold t_fraction
  walk_at "when"
  · have h0 : b < 0 := of_decide_eq_true (by assumption)
    walk_at "asg"
    walk_at "asg"
    exact fin _ _ _ (by omega) (by omega) (divInt_neg2 a b) _ rfl
  · have h0 : ¬ b < 0 := of_decide_eq_false (by assumption)
    exact fin _ _ _ (by omega) hz rfl _ rfl
theorem sz_cross {x y : Rat} (h : Sz 4000 x) (k : Sz 4000 y) : CMulW x.num y.den := wide_mul h.1 k.den (by decide) (by decide) (by decide)
theorem sz_nums {x y : Rat} (h : Sz 4000 x) (k : Sz 4000 y) : CMulW x.num y.num := wide_mul h.1 k.1 (by decide) (by decide) (by decide)
theorem sz_dens {x y : Rat} (h : Sz 4000 x) (k : Sz 4000 y) : CMulW x.den y.den := wide_mul h.den k.den (by decide) (by decide) (by decide)
theorem sz_crosd {x y : Rat} (h : Sz 4000 x) (k : Sz 4000 y) : CMulW x.den y.num := wide_mul h.den k.1 (by decide) (by decide) (by decide)
theorem sz_den2 {x y : Rat} (h : Sz 4000 x) (k : Sz 4000 y) : ((x.den : Int) * y.den).natAbs < 2 ^ 8500 := Sz.up (h.dens k) (by decide)
theorem sz_den3 {x y : Rat} (h : Sz 4000 x) (k : Sz 4000 y) : ((x.den : Int) * y.num).natAbs < 2 ^ 8500 := Sz.up (wide_lt h.den k.1) (by decide)
theorem p_plus : Body (t_plus K C) n_plus (sp_plus K C) := by
  rintro vs H Q E ⟨ds, d, r, ⟨x, y, hx, hy, rfl, rfl⟩, k⟩
  refine start_at r (n := 0) (by rw [r.length]; rfl) ?_
  have a1 := sz_cross hx hy; have a2 := sz_cross hy hx; have a3 := sz_dens hx hy; have a4 := den_prod_ne x y; have a5 := sz_den2 hx hy
  unfold t_plus
  walk_at "ret"
  rw [← add_eq]; exact k
theorem p_minus : Body (t_minus K C) n_minus (sp_minus K C) := by
  rintro vs H Q E ⟨ds, d, r, ⟨x, y, hx, hy, rfl, rfl⟩, k⟩
  refine start_at r (n := 0) (by rw [r.length]; rfl) ?_
  have a1 := sz_cross hx hy; have a2 := sz_cross hy hx; have a3 := sz_dens hx hy; have a4 := den_prod_ne x y; have a5 := sz_den2 hx hy
  unfold t_minus
  walk_at "ret"
  rw [← sub_eq]; exact k
theorem p_times : Body (t_times K C) n_times (sp_times K C) := by
  rintro vs H Q E ⟨ds, d, r, ⟨x, y, hx, hy, rfl, rfl⟩, k⟩
  refine start_at r (n := 0) (by rw [r.length]; rfl) ?_
  have a1 := sz_nums hx hy; have a3 := sz_dens hx hy; have a4 := den_prod_ne x y; have a5 := sz_den2 hx hy
  unfold t_times
  walk_at "ret"
  rw [← mul_eq]; exact k
theorem p_over : Body (t_over K C) n_over (sp_over K C) := by
  rintro vs H Q E ⟨ds, d, r, ⟨x, y, hx, hy, h0, rfl, rfl⟩, k⟩
  refine start_at r (n := 0) (by rw [r.length]; rfl) ?_
  have a1 := sz_cross hx hy; have a3 := sz_crosd hx hy; have a4 := Int.mul_ne_zero (den_ne x) (num_ne h0); have a5 := sz_den3 hx hy
  unfold t_over
  walk_at "ret"
  rw [← div_eq]; exact k
theorem p_less : Body (t_less K C) n_less (sp_less K C) := by
  rintro vs H Q E ⟨ds, d, r, ⟨x, y, hx, hy, rfl, rfl⟩, k⟩
  refine start_at r (n := 0) (by rw [r.length]; rfl) ?_
  have a1 := sz_cross hx hy; have a2 := sz_cross hy hx
  unfold t_less
  walk_at "ret"
  rw [show decide (x.num * y.den < y.num * x.den) = decide (x < y) from decide_eq_decide.mpr (Rat.lt_iff x y).symm]
  exact k
theorem p_law_cell_at : Body (t_law_cell_at K C) n_law_cell_at (sp_law_cell_at K C) := by
  rintro vs H Q E ⟨ds, d, r, ⟨ns, j, rfl, rfl⟩, k⟩
  refine start_at r (n := 0) (by rw [r.length]; rfl) ?_
  unfold t_law_cell_at
  by_cases hj : j < ns.length
  · have h1 : atI ns (j : Int) = some (ns.getD j 0) := by
      rw [List.getD_eq_getElem?_getD, List.getElem?_eq_getElem hj]
      exact atI_nat (List.getElem?_eq_getElem hj)
    walk_at "when"
    · walk_at "ret"
    · have : ¬ (j : Int) < ns.length := of_decide_eq_false (by assumption)
      omega
  · have h0 : ns.getD j 0 = 0 := by rw [List.getD_eq_getElem?_getD, List.getElem?_eq_none (by omega)]; rfl
    rw [h0] at k
    walk_at "when"
    · have : (j : Int) < ns.length := of_decide_eq_true (by assumption)
      omega
    · walk_at "ret"
theorem p_law_whole : Body (t_law_whole K C) n_law_whole (sp_law_whole K C) := by
  rintro vs H Q E ⟨ds, d, r, ⟨i, rfl, rfl⟩, k⟩
  refine start_at r (n := 0) (by rw [r.length]; rfl) ?_
  unfold t_law_whole
  walk_at "ret"
theorem p_law_low : Body (t_law_low K C) n_law_low (sp_law_low K C) := by
  rintro vs H Q E ⟨ds, d, r, ⟨a, b, hb, hz, rfl, rfl⟩, k⟩
  have g1 := gcdw (a := a) hb hz
  have g2 := gcdw2 (a := a) hb hz
  refine start_at r (n := 3) (by rw [r.length]; rfl) ?_
  unfold t_law_low
  walk_at "asg"
  walk_at "asg"
  refine sq_while (fun m ρ' => ∃ (x y : Int) (c : Cell), ρ' = [.dat (.int a), .dat (.int b), .dat (.int x), .dat (.int y), c] ∧ 0 ≤ x ∧ 0 ≤ y ∧ m = y.toNat ∧ Int.gcd x y = Int.gcd (a.natAbs : Int) b) b.toNat ⟨(a.natAbs : Int), b, .un, rfl, by omega, by omega, rfl, rfl⟩ ?_
  rintro m ρ' ⟨x, y, c, rfl, hx, hy, rfl, hg⟩
  refine ⟨_, by walk_at "evB", fun hb => ?_, fun hb => ?_⟩
  · have hy0 : 0 < y := of_decide_eq_true hb
    walk_at "asg"
    walk_at "asg"
    walk_at "asg"
    refine at_gx ⟨(x % y).toNat, ?_, y, x % y, _, rfl, hy, Int.emod_nonneg _ (by omega), rfl, ?_⟩
    · have := Int.emod_lt_of_pos x hy0; have := Int.emod_nonneg x (show y ≠ 0 by omega); omega
    · rw [← hg]
      exact gcd_step hx hy0
  · have hy0 : y = 0 := by have : ¬ 0 < y := of_decide_eq_false hb; omega
    subst hy0
    have e : (Int.gcd (a.natAbs : Int) b : Int) = x := by rw [← hg]; simp; omega
    rw [e] at g1 g2
    walk_at "ret"
    rw [dF_div (by assumption), e] at k
    exact k
theorem p_law_plus : Body (t_law_plus K C) n_law_plus (sp_law_plus K C) := by
  rintro vs H Q E ⟨ds, d, r, ⟨x, y, hx, hy, rfl, rfl⟩, k⟩
  refine start_at r (n := 0) (by rw [r.length]; rfl) ?_
  have a1 := sz_cross hx hy; have a2 := sz_cross hy hx; have a3 := sz_dens hx hy; have a5 := sz_den2 hx hy
  have a4 : (0 : Int) < x.den * y.den := Int.mul_pos (den_pos x) (den_pos y)
  unfold t_law_plus
  walk_at "ret"
  rw [← add_eq]; exact k
theorem p_law_part : Body (t_law_part K C) n_law_part (sp_law_part K C) := by
  rintro vs H Q E ⟨ds, d, r, ⟨x, hx, rfl, rfl⟩, k⟩
  refine start_at r (n := 0) (by rw [r.length]; rfl) ?_
  have a1 := den_pos x; have a2 : (x.den : Int).natAbs < 2 ^ 8500 := hx.den
  unfold t_law_part
  walk_at "when"
  · rename_i hb; exact absurd hb (by simp)
  · walk_at "ret"
    rw [← rat_eq]
    have e : (decide (0 < (x.den : Int)) && decide (x = x)) = true := by rw [decide_eq_true a1]; simp
    rw [e]
    exact k
end
end Hw
namespace Hw
open PySem L2
local macro_rules | `(tactic| walk_at "sd") => `(tactic| first
  | exact rfl
  | decide +kernel
  | (exact Nat.le_of_ble_eq_true rfl)
  | assumption
  | (exact Sz.mono (by assumption) (by decide))
  | decide
  | omega
  | (exact eraAll_map _ _ (fun _ => rfl) _)
  | (exact frAll_map _ (fun _ => rfl) _)
  | exact EqD.frac
  | exact EqD.int
  | exact EqD.bl
  | exact EqD.pair
  | skip)
local macro_rules | `(tactic| walk_at "R") => `(tactic| first
  | (with_reducible apply rc_common) <;> walk_at "sd"
  | (with_reducible apply rc_fraction) <;> walk_at "sd"
  | (with_reducible apply rc_plus) <;> walk_at "sd"
  | (with_reducible apply rc_minus) <;> walk_at "sd"
  | (with_reducible apply rc_times) <;> walk_at "sd"
  | (with_reducible apply rc_over) <;> walk_at "sd"
  | (with_reducible apply rc_less) <;> walk_at "sd"
  | (with_reducible apply rc_cell) <;> walk_at "sd"
  | (with_reducible apply rc_whole) <;> walk_at "sd"
  | (with_reducible apply rc_low) <;> walk_at "sd"
  | (with_reducible apply rc_part) <;> walk_at "sd"
  | (with_reducible apply rc_lfraction) <;> walk_at "sd")
local macro_rules | `(tactic| walk_at "evD") => `(tactic| first
  | with_reducible exact ed_int
  | with_reducible exact ed_bl
  | with_reducible exact ed_non
  | with_reducible exact ed_str
  | (with_reducible apply ed_var) <;> walk_at "go"
  | (with_reducible apply ed_add) <;> walk_at "go"
  | (with_reducible apply ed_sub) <;> walk_at "go"
  | (with_reducible apply ed_mul) <;> walk_at "go"
  | (with_reducible apply ed_div) <;> walk_at "go"
  | (with_reducible apply ed_mod) <;> walk_at "go"
  | (with_reducible apply ed_pow) <;> walk_at "go"
  | (with_reducible apply ed_neg) <;> walk_at "go"
  | (with_reducible apply ed_lt) <;> walk_at "go"
  | (with_reducible apply ed_le) <;> walk_at "go"
  | (with_reducible apply ed_gt) <;> walk_at "go"
  | (with_reducible apply ed_ge) <;> walk_at "go"
  | (with_reducible apply ed_leLt) <;> walk_at "go"
  | (with_reducible apply ed_leLe) <;> walk_at "go"
  | (with_reducible apply ed_ltLt) <;> walk_at "go"
  | (with_reducible apply ed_eq) <;> walk_at "go"
  | (with_reducible apply ed_ne) <;> walk_at "go"
  | (with_reducible apply ed_idxT) <;> walk_at "go"
  | (with_reducible apply ed_idxS) <;> walk_at "go"
  | (with_reducible apply ed_idxScr) <;> walk_at "go"
  | (with_reducible apply ed_lenS) <;> walk_at "go"
  | (with_reducible apply ed_lenT) <;> walk_at "go"
  | (with_reducible apply ed_lenScr) <;> walk_at "go"
  | (with_reducible apply ed_abs) <;> walk_at "go"
  | (with_reducible apply ed_intI) <;> walk_at "go"
  | (with_reducible apply ed_intB) <;> walk_at "go"
  | (with_reducible apply ed_intS) <;> walk_at "go"
  | (with_reducible apply ed_andV) <;> walk_at "go"
  | (with_reducible apply ed_orV) <;> walk_at "go"
  | (with_reducible apply ed_notV) <;> walk_at "go"
  | (with_reducible apply ed_tup) <;> walk_at "go"
  | (with_reducible apply ev_call) <;> walk_at "go"
  | (with_reducible apply ed_isi) <;> walk_at "go"
  | (with_reducible apply ed_catS) <;> walk_at "go"
  | (with_reducible apply ed_repS) <;> walk_at "go"
  | (with_reducible apply EvL.dat) <;> walk_at "go")
local macro_rules | `(tactic| walk_at "evR") => `(tactic| first
  | (with_reducible apply EvD.r) <;> walk_at "go"
  | (with_reducible apply EvS.r) <;> walk_at "go")
local macro_rules | `(tactic| walk_at "evS") => `(tactic| first
  | (with_reducible apply es_own) <;> walk_at "go"
  | (with_reducible apply EvD.s) <;> walk_at "go"
  | (with_reducible apply EvL.s) <;> walk_at "go")
local macro_rules | `(tactic| walk_at "evL") => `(tactic| first
  | (with_reducible apply el_lst) <;> walk_at "go"
  | (with_reducible apply ev_callL) <;> walk_at "go")
local macro_rules | `(tactic| walk_at "evA") => `(tactic| first
  | with_reducible exact ea_nil
  | (with_reducible apply ea_cons) <;> walk_at "go")
local macro_rules | `(tactic| walk_at "evQ") => `(tactic| first
  | with_reducible exact eq_nil
  | (with_reducible apply eq_cons) <;> walk_at "go")
local macro_rules | `(tactic| walk_at "evB") => `(tactic| first
  | (with_reducible apply eb_and) <;> walk_at "go"
  | (with_reducible apply eb_or) <;> walk_at "go"
  | (with_reducible apply eb_not) <;> walk_at "go"
  | (with_reducible apply eb_val) <;> walk_at "go")
local macro_rules | `(tactic| walk_at "go") => `(tactic| first
  | ((with_reducible show _ = some (Cell.dat _)); exact rfl)
  | ((with_reducible show _ = some (Cell.own _)); exact rfl)
  | ((with_reducible show D.tn _ = some _); exact rfl)
  | ((with_reducible show atI _ _ = some _); first | exact rfl | assumption)
  | ((with_reducible show EvD _ _ _ _ _); walk_at "evD")
  | ((with_reducible show EvR _ _ _ _ _); walk_at "evR")
  | ((with_reducible show EvS _ _ _ _ _); walk_at "evS")
  | ((with_reducible show EvL _ _ _ _ _); walk_at "evL")
  | ((with_reducible show EvA _ _ _ _ _); walk_at "evA")
  | ((with_reducible show EvAD _ _ _ _ _); walk_at "evQ")
  | ((with_reducible show EvB _ _ _ _ _); walk_at "evB")
  | ((with_reducible show _ = _ → _); intro hv; walk_at "go")
  | ((fail_if_success (with_reducible show EvD _ _ _ _ _)); (fail_if_success (with_reducible show EvR _ _ _ _ _)); (fail_if_success (with_reducible show EvS _ _ _ _ _)); (fail_if_success (with_reducible show EvL _ _ _ _ _)); (fail_if_success (with_reducible show EvA _ _ _ _ _)); (fail_if_success (with_reducible show EvAD _ _ _ _ _)); (fail_if_success (with_reducible show EvB _ _ _ _ _)); (fail_if_success (with_reducible show _ = some (Cell.dat _))); (fail_if_success (with_reducible show _ = some (Cell.own _))); (fail_if_success (with_reducible show atI _ _ = some _)); (fail_if_success (with_reducible show D.tn _ = some _)); first | walk_at "R" | walk_at "sd"))
local macro_rules | `(tactic| walk_at "len") => `(tactic| first
  | exact (by decide)
  | (simp; done)
  | omega)
local macro_rules | `(tactic| walk_at "st") => `(tactic| first
  | ((with_reducible show At _ _ _ _ _ _); try dsimp only [List.set])
  | ((with_reducible show _ = _ → At _ _ _ _ _ _); intro hb)
  | ((with_reducible show _ < _); walk_at "len")
  | walk_at "go")
local macro_rules | `(tactic| walk_at "asg") => `(tactic| first
  | (with_reducible apply sq_asg) <;> walk_at "st"
  | (with_reducible apply at_asg) <;> walk_at "st")
local macro_rules | `(tactic| walk_at "asgL") => `(tactic| first
  | (with_reducible apply sq_asgL) <;> walk_at "st"
  | (with_reducible apply at_asgL) <;> walk_at "st")
local macro_rules | `(tactic| walk_at "app") => `(tactic| first
  | (with_reducible apply sq_append) <;> walk_at "st"
  | (with_reducible apply at_append) <;> walk_at "st")
local macro_rules | `(tactic| walk_at "ret") => `(tactic| first
  | (with_reducible apply at_ret) <;> walk_at "st")
local macro_rules | `(tactic| walk_at "when") => `(tactic| first
  | (with_reducible apply sq_when) <;> walk_at "st"
  | (with_reducible apply at_when) <;> walk_at "st")
local macro_rules | `(tactic| walk_at "if") => `(tactic| first
  | (with_reducible apply sq_if) <;> walk_at "st"
  | (with_reducible apply at_if) <;> walk_at "st")
section
variable {K : PySem.W.Frag} {C : Addr}
theorem atI_menu {α : Type} {l : List α} {i : Int} (d : α) (h0 : 0 ≤ i) (h1 : i < l.length) : atI l i = some (l.getD i.toNat d) := by
  refine atI_of h0 ?_
  rw [List.getD_eq_getElem?_getD, List.getElem?_eq_getElem (by omega)]; rfl
theorem getD_map {α β : Type} (f : α → β) (l : List α) (i : Nat) (a : α) : (l.map f).getD i (f a) = f (l.getD i a) := by
  rw [List.getD_eq_getElem?_getD, List.getD_eq_getElem?_getD, List.getElem?_map]
  cases l[i]? <;> rfl
theorem atI_ints {l : List Int} {i : Int} (a : Int) (h0 : 0 ≤ i) (h1 : i < l.length) : atI (l.map D.int) i = some (.int (l.getD i.toNat a)) := by
  rw [atI_menu (.int a) h0 (by simpa using h1), getD_map]
theorem p_law_fraction : Body (t_law_fraction K C) n_law_fraction (sp_law_fraction K C) := by
  rintro vs H Q E ⟨ds, d, r, ⟨c, rfl, rfl⟩, k⟩
  refine start_at r (n := 2) (by rw [r.length]; rfl) ?_
  have a1 : atI [D.int 1, .int 1, .int 2, .int 3, .int 7, .int 1000003] (c % 6) = some (.int (bots.getD (c % 6).toNat 1)) := atI_ints (l := bots) 1 (by omega) (by show c % 6 < 6; omega)
  have a2 : atI [D.int 9, .int 99, .int (10 ^ (12 : Int).toNat)] (c / 6 % 3) = some (.int (mosts.getD (c / 6 % 3).toNat 0)) := atI_ints (l := mosts) 0 (by omega) (by show c / 6 % 3 < 3; omega)
  have a3 : CPow 10 12 := by refine ⟨by decide, by decide, by decide⟩
  have a4 : CDivW c 6 := ⟨by decide, by decide +kernel⟩
  have a5 : CDivW c 18 := ⟨by decide, by decide +kernel⟩
  have hm : mosts.getD (c / 6 % 3).toNat 0 = 9 ∨ mosts.getD (c / 6 % 3).toNat 0 = 99 ∨ mosts.getD (c / 6 % 3).toNat 0 = 10 ^ 12 := by
    have h2 : (c / 6 % 3).toNat = 0 ∨ (c / 6 % 3).toNat = 1 ∨ (c / 6 % 3).toNat = 2 := by omega
    rcases h2 with h | h | h <;> rw [h] <;> decide
  have hb : 0 < bots.getD (c % 6).toNat 1 ∧ (bots.getD (c % 6).toNat 1).natAbs < 2 ^ 8500 := by
    have h1 : (c % 6).toNat = 0 ∨ (c % 6).toNat = 1 ∨ (c % 6).toNat = 2 ∨ (c % 6).toNat = 3 ∨ (c % 6).toNat = 4 ∨ (c % 6).toNat = 5 := by omega
    have key : ∀ j, j < 6 → 0 < bots.getD j 1 ∧ (bots.getD j 1).natAbs < 2 ^ 30 := by decide
    have h3 := key (c % 6).toNat (by omega)
    exact ⟨h3.1, Sz.up h3.2 (by decide)⟩
  have b1 := hb.1
  have b2 := hb.2
  unfold fracOf at k
  generalize mosts.getD (c / 6 % 3).toNat 0 = mm at *
  generalize bots.getD (c % 6).toNat 1 = bb at *
  have a6 : CMulW 2 mm := by refine wide_mul (a := 2) (b := 60) (by decide) (by omega) (by decide) (by decide) (by decide)
  have a7 : 0 < 2 * mm + 1 := by omega
  unfold t_law_fraction
  walk_at "asg"
  walk_at "asg"
  walk_at "ret"
theorem p_law_same : Body (t_law_same K C) n_law_same (sp_law_same K C) := by
  rintro vs H Q E ⟨ds, d, r, ⟨x, a, b, hx, hb, hz, e, rfl, rfl⟩, k⟩
  have fin : ∀ (a b : Int), 0 < b → b.natAbs < 2 ^ 8500 → x = Rat.divInt a b → ∀ D0 : Ends, D0.rt = Q →
      At K C H H (tRet (tAndV (tCall (sp_law_part K C) [] E0 (tCons (tVar 0) tNil)) (xEq K (tVar 0) (tCall (sp_law_low K C) [] E0 (tCons (tVar 1) (tCons (tVar 2) tNil))))) D0) [.dat (dF x), .dat (.int a), .dat (.int b)] := by
    intro a b hb hz e D0 hD
    walk_at "ret"
    rw [hD, ← e]
    simpa using k
  refine start_at r (n := 0) (by rw [r.length]; rfl) ?_
  unfold t_law_same
  walk_at "when"
  · walk_at "asg"
    walk_at "asg"
    have h0 : b < 0 := of_decide_eq_true (by assumption)
    exact fin _ _ (by omega) (by omega) (by rw [divInt_neg2]; exact e) _ rfl
  · have h0 : ¬ b < 0 := of_decide_eq_false (by assumption)
    exact fin _ _ (by omega) hz e _ rfl
end
end Hw
namespace Hw
open PySem L2
/-- the built-ins that the text calls are still the built-ins -/
structure Bt (mg : Str → Option Value) : Prop where
  b_len : mg "len" = none
  b_abs : mg "abs" = none
  b_int : mg "int" = none
  b_isinstance : mg "isinstance" = none
  b_bool : mg "bool" = none
  b_tuple : mg "tuple" = none
  b_list : mg "list" = none
  b_str : mg "str" = none
  b_sum : mg "sum" = none
  b_min : mg "min" = none
  b_max : mg "max" = none
  b_range : mg "range" = none
  b_sorted : mg "sorted" = none
  b_set : mg "set" = none
section
variable {P : Program} {w : World} {K : PySem.W.Frag} {mg : Str → Option Value} {h : Heap}
theorem FnAt.of {x name : Str} {st : Stmt} {ps : List Str} {f : Addr} {oc : Value} {od an : Option Addr} {osl : Array (Option Value)} {kV doc pm cdv ct : Value} (X : K.In h) (G : h.Ns mainGlobals mg) (a : PySem.W.nsIn K mainGlobals x = some (some (.ref f)))
    (l : K.lookup f = some ⟨oc, od, .func (PySem.W.fnOf name name (defArgs st) (defBody st) (defScope st) .none kV doc pm an cdv ct), osl⟩) (c : PySem.W.codeIn K cdv name = true) (k : PySem.W.keepIn K (.ref f) = true)
    (b : ∀ (kV doc pm : Value) (an : Option Addr) (cdv ct : Value) (us : List Value), us.length = ps.length → bindArgs (PySem.W.fnOf name name (defArgs st) (defBody st) (defScope st) .none kV doc pm an cdv ct) ⟨us, []⟩ = pure (ps.zip us)) : FnAt K mg x name st ps :=
  ⟨f, _, PySem.W.mg_of X G a, fun_mk l c k, (fun_mk (st := st) l c k).binds b⟩
/-- the law itself -/
def LawAt (K : PySem.W.Frag) (fa : Addr) (st : Stmt) (fd : FuncData) : Prop := Fun K "law" "law" st fa fd ∧ ∀ (s : Shared) (u : Value), BindsTo s fd ⟨[u], []⟩ [("script", u)]
theorem LawAt.of {st : Stmt} {f fa : Addr} {oc : Value} {od an : Option Addr} {osl : Array (Option Value)} {kV doc pm cdv ct : Value} (X : K.In h) (G : h.Ns mainGlobals mg) (hfa : mg "law" = some (.ref fa)) (a : PySem.W.nsIn K mainGlobals "law" = some (some (.ref f)))
    (l : K.lookup f = some ⟨oc, od, .func (PySem.W.fnOf "law" "law" (defArgs st) (defBody st) (defScope st) .none kV doc pm an cdv ct), osl⟩) (c : PySem.W.codeIn K cdv "law" = true) (k : PySem.W.keepIn K (.ref f) = true)
    (b : ∀ (kV doc pm : Value) (an : Option Addr) (cdv ct : Value) (u : Value), bindArgs (PySem.W.fnOf "law" "law" (defArgs st) (defBody st) (defScope st) .none kV doc pm an cdv ct) ⟨[u], []⟩ = pure ([("script", u)] : List (Str × Value))) : ∃ fd, LawAt K fa st fd := by
  have e := hfa.symm.trans (PySem.W.mg_of X G a)
  cases e
  exact ⟨_, fun_mk l c k, fun s u => .of_eq (b _ _ _ _ _ _ u)⟩
theorem LawAt.ok {base : Heap} {fa : Addr} {st : Stmt} {fd : FuncData} {N : List Str} {k : Nat} {sp : Sp} (F : LawAt K fa st fd) (S : FnScope N ["script"] (defScope st)) (len : ∀ vs H Q E, sp vs H Q E → vs.length = 1) (t : XK → TS)
    (hd : ∀ (f : Addr) (cdv : Value) (A : Around) (outer : List Env) (s : Shared) (H : Hp) (E : XK), Room k (A.deeper (envOfC "law" (defScope st) s.heap.objs.size f cdv)) → PSs (cxOf (L2.CX P w) P w K mg base N "law" (defScope st) f cdv A outer s H E) (defBody st) (t E))
    (hp : ∀ vs H Q E, sp vs H Q E → t E { nx := fun _ H' => Q .non H', rt := Q } (start N vs) H) : FnOk P w K mg base (L2.CX P w) (k + 1) fa fd ["script"] sp :=
  F.1.okX S len fun cdv A outer s H vs Q E hr h => ⟨t E, hd fa cdv A outer s H E hr, hp vs H Q E h⟩
theorem noCX (w : World) (H : Hp) (s : Shared) (e : Value) (s' : Shared) (h : L2.CX P w [] H s (fun _ _ _ => False) e s') : False := by
  obtain ⟨_, _, _, _, _, _, _, _, _, _, _, _, z⟩ := h
  exact z
end
/-- how long the arguments are, by what the promise knows -/
theorem lenD {K : PySem.W.Frag} {C : Addr} {R : List D → D → Prop} {n : Nat} (hR : ∀ ds d, R ds d → ds.length = n) : ∀ vs H Q E, spD K C R vs H Q E → vs.length = n := fun vs H Q E ⟨ds, d, r, q, _⟩ => by rw [r.length, hR _ _ q]
theorem lenL {K : PySem.W.Frag} {C : Addr} {R : List D → List D → Prop} {n : Nat} (hR : ∀ ds d, R ds d → ds.length = n) : ∀ vs H Q E, spL K C R vs H Q E → vs.length = n := fun vs H Q E ⟨ds, d, r, q, _⟩ => by rw [r.length, hR _ _ q]
def R_law (ds : List D) (d : D) : Prop := ∃ ns : List Int, ns.length ≤ 63 ∧ ds = [.scr ns] ∧ d = .bl true
abbrev sp_law (K : PySem.W.Frag) (C : Addr) : Sp := spD K C R_law
def spRaw (K : PySem.W.Frag) : Sp := fun vs H Q _ => ∃ (a : Addr) (ns : List Int), vs = [.ref a] ∧ ns.length ≤ 63 ∧ SqL K H a (ns.map V.int) ∧ ∀ H', Q (.bl true) H'
theorem law_end {l : PySem.W.OpenLaw} {q : Program} {loose : List Str} {XP : (Str → Option Value) → Heap → Prop} {YP : World → Heap → Prop} {d : DefRec} {K : Params → PySem.W.Frag} {k : Nat} (hk : k ≤ 60) (hn : l.most = some 63) (hdf : d.params.defaults = [])
    (hY : ∀ (w : World) (h : Heap), YP w h → (K w.params).In h)
    (F : ∀ (w : World) (mg : Str → Option Value) (fa : Addr) (h : Heap), (K w.params).In h → h.Ns mainGlobals mg → mg d.name = some (.ref fa) →
      ∃ (C : Addr) (st : Stmt) (fd : FuncData), LawAt (K w.params) fa st fd ∧ ∀ base : Heap, FnOk l.prog w (K w.params) mg base (L2.CX l.prog w) k fa fd ["script"] (sp_law (K w.params) C)) :
    PySem.W.WalkO q loose XP YP l.row.toRowW d [] (fun f vs => PySem.call f vs) :=
  L2.walk_of (n := 63) (k := k) (x := "script") (CX := fun w => L2.CX l.prog w) (sp := fun w => spRaw (K w.params)) hn (by decide) hdf ((show Room 60 callerA from ⟨rfl, by decide, by decide⟩).mono hk) hY
    (fun w mg fa h KX G hfa => by
      obtain ⟨C, st, fd, L, ok⟩ := F w mg fa h KX G hfa
      refine ⟨fd, L.2, fun base _ _ => (ok base).imp fun vs H Q E h => ?_⟩
      obtain ⟨a, ns, rfl, hl, hS, k⟩ := h
      refine ⟨[.scr ns], .bl true, .one ⟨a, rfl, hS⟩, ⟨ns, hl, rfl, rfl⟩, fun v H' _ r => ?_⟩
      rw [show v = .bl true from r]
      exact k H')
    (fun w H a ns hl _ hS => ⟨a, ns, rfl, hl, hS, fun _ => rfl⟩) fun w H s e s' h => noCX w H s e s' h
end Hw
namespace Hw
open PySem L2
local macro_rules | `(tactic| walk_at "sd") => `(tactic| first
  | exact rfl
  | decide +kernel
  | (exact Nat.le_of_ble_eq_true rfl)
  | assumption
  | (exact Sz.mono (by assumption) (by decide))
  | decide
  | omega
  | (exact eraAll_map _ _ (fun _ => rfl) _)
  | (exact frAll_map _ (fun _ => rfl) _)
  | exact EqD.frac
  | exact EqD.int
  | exact EqD.bl
  | exact EqD.pair
  | skip)
local macro_rules | `(tactic| walk_at "R") => `(tactic| first
  | (with_reducible apply rc_common) <;> walk_at "sd"
  | (with_reducible apply rc_fraction) <;> walk_at "sd"
  | (with_reducible apply rc_plus) <;> walk_at "sd"
  | (with_reducible apply rc_minus) <;> walk_at "sd"
  | (with_reducible apply rc_times) <;> walk_at "sd"
  | (with_reducible apply rc_over) <;> walk_at "sd"
  | (with_reducible apply rc_less) <;> walk_at "sd"
  | (with_reducible apply rc_cell) <;> walk_at "sd"
  | (with_reducible apply rc_whole) <;> walk_at "sd"
  | (with_reducible apply rc_low) <;> walk_at "sd"
  | (with_reducible apply rc_part) <;> walk_at "sd"
  | (with_reducible apply rc_lfraction) <;> walk_at "sd")
local macro_rules | `(tactic| walk_at "evD") => `(tactic| first
  | with_reducible exact ed_int
  | with_reducible exact ed_bl
  | with_reducible exact ed_non
  | with_reducible exact ed_str
  | (with_reducible apply ed_var) <;> walk_at "go"
  | (with_reducible apply ed_add) <;> walk_at "go"
  | (with_reducible apply ed_sub) <;> walk_at "go"
  | (with_reducible apply ed_mul) <;> walk_at "go"
  | (with_reducible apply ed_div) <;> walk_at "go"
  | (with_reducible apply ed_mod) <;> walk_at "go"
  | (with_reducible apply ed_pow) <;> walk_at "go"
  | (with_reducible apply ed_neg) <;> walk_at "go"
  | (with_reducible apply ed_lt) <;> walk_at "go"
  | (with_reducible apply ed_le) <;> walk_at "go"
  | (with_reducible apply ed_gt) <;> walk_at "go"
  | (with_reducible apply ed_ge) <;> walk_at "go"
  | (with_reducible apply ed_leLt) <;> walk_at "go"
  | (with_reducible apply ed_leLe) <;> walk_at "go"
  | (with_reducible apply ed_ltLt) <;> walk_at "go"
  | (with_reducible apply ed_eq) <;> walk_at "go"
  | (with_reducible apply ed_ne) <;> walk_at "go"
  | (with_reducible apply ed_idxT) <;> walk_at "go"
  | (with_reducible apply ed_idxS) <;> walk_at "go"
  | (with_reducible apply ed_idxScr) <;> walk_at "go"
  | (with_reducible apply ed_lenS) <;> walk_at "go"
  | (with_reducible apply ed_lenT) <;> walk_at "go"
  | (with_reducible apply ed_lenScr) <;> walk_at "go"
  | (with_reducible apply ed_abs) <;> walk_at "go"
  | (with_reducible apply ed_intI) <;> walk_at "go"
  | (with_reducible apply ed_intB) <;> walk_at "go"
  | (with_reducible apply ed_intS) <;> walk_at "go"
  | (with_reducible apply ed_andV) <;> walk_at "go"
  | (with_reducible apply ed_orV) <;> walk_at "go"
  | (with_reducible apply ed_notV) <;> walk_at "go"
  | (with_reducible apply ed_tup) <;> walk_at "go"
  | (with_reducible apply ev_call) <;> walk_at "go"
  | (with_reducible apply ed_isi) <;> walk_at "go"
  | (with_reducible apply ed_catS) <;> walk_at "go"
  | (with_reducible apply ed_repS) <;> walk_at "go"
  | (with_reducible apply EvL.dat) <;> walk_at "go")
local macro_rules | `(tactic| walk_at "evR") => `(tactic| first
  | (with_reducible apply EvD.r) <;> walk_at "go"
  | (with_reducible apply EvS.r) <;> walk_at "go")
local macro_rules | `(tactic| walk_at "evS") => `(tactic| first
  | (with_reducible apply es_own) <;> walk_at "go"
  | (with_reducible apply EvD.s) <;> walk_at "go"
  | (with_reducible apply EvL.s) <;> walk_at "go")
local macro_rules | `(tactic| walk_at "evL") => `(tactic| first
  | (with_reducible apply el_lst) <;> walk_at "go"
  | (with_reducible apply ev_callL) <;> walk_at "go")
local macro_rules | `(tactic| walk_at "evA") => `(tactic| first
  | with_reducible exact ea_nil
  | (with_reducible apply ea_cons) <;> walk_at "go")
local macro_rules | `(tactic| walk_at "evQ") => `(tactic| first
  | with_reducible exact eq_nil
  | (with_reducible apply eq_cons) <;> walk_at "go")
local macro_rules | `(tactic| walk_at "evB") => `(tactic| first
  | (with_reducible apply eb_and) <;> walk_at "go"
  | (with_reducible apply eb_or) <;> walk_at "go"
  | (with_reducible apply eb_not) <;> walk_at "go"
  | (with_reducible apply eb_val) <;> walk_at "go")
local macro_rules | `(tactic| walk_at "go") => `(tactic| first
  | ((with_reducible show _ = some (Cell.dat _)); exact rfl)
  | ((with_reducible show _ = some (Cell.own _)); exact rfl)
  | ((with_reducible show D.tn _ = some _); exact rfl)
  | ((with_reducible show atI _ _ = some _); first | exact rfl | assumption)
  | ((with_reducible show EvD _ _ _ _ _); walk_at "evD")
  | ((with_reducible show EvR _ _ _ _ _); walk_at "evR")
  | ((with_reducible show EvS _ _ _ _ _); walk_at "evS")
  | ((with_reducible show EvL _ _ _ _ _); walk_at "evL")
  | ((with_reducible show EvA _ _ _ _ _); walk_at "evA")
  | ((with_reducible show EvAD _ _ _ _ _); walk_at "evQ")
  | ((with_reducible show EvB _ _ _ _ _); walk_at "evB")
  | ((with_reducible show _ = _ → _); intro hv; walk_at "go")
  | ((fail_if_success (with_reducible show EvD _ _ _ _ _)); (fail_if_success (with_reducible show EvR _ _ _ _ _)); (fail_if_success (with_reducible show EvS _ _ _ _ _)); (fail_if_success (with_reducible show EvL _ _ _ _ _)); (fail_if_success (with_reducible show EvA _ _ _ _ _)); (fail_if_success (with_reducible show EvAD _ _ _ _ _)); (fail_if_success (with_reducible show EvB _ _ _ _ _)); (fail_if_success (with_reducible show _ = some (Cell.dat _))); (fail_if_success (with_reducible show _ = some (Cell.own _))); (fail_if_success (with_reducible show atI _ _ = some _)); (fail_if_success (with_reducible show D.tn _ = some _)); first | walk_at "R" | walk_at "sd"))
local macro_rules | `(tactic| walk_at "len") => `(tactic| first
  | exact (by decide)
  | (simp; done)
  | omega)
local macro_rules | `(tactic| walk_at "st") => `(tactic| first
  | ((with_reducible show At _ _ _ _ _ _); try dsimp only [List.set])
  | ((with_reducible show _ = _ → At _ _ _ _ _ _); intro hb)
  | ((with_reducible show _ < _); walk_at "len")
  | walk_at "go")
local macro_rules | `(tactic| walk_at "asg") => `(tactic| first
  | (with_reducible apply sq_asg) <;> walk_at "st"
  | (with_reducible apply at_asg) <;> walk_at "st")
local macro_rules | `(tactic| walk_at "asgL") => `(tactic| first
  | (with_reducible apply sq_asgL) <;> walk_at "st"
  | (with_reducible apply at_asgL) <;> walk_at "st")
local macro_rules | `(tactic| walk_at "app") => `(tactic| first
  | (with_reducible apply sq_append) <;> walk_at "st"
  | (with_reducible apply at_append) <;> walk_at "st")
local macro_rules | `(tactic| walk_at "ret") => `(tactic| first
  | (with_reducible apply at_ret) <;> walk_at "st")
local macro_rules | `(tactic| walk_at "when") => `(tactic| first
  | (with_reducible apply sq_when) <;> walk_at "st"
  | (with_reducible apply at_when) <;> walk_at "st")
local macro_rules | `(tactic| walk_at "if") => `(tactic| first
  | (with_reducible apply sq_if) <;> walk_at "st"
  | (with_reducible apply at_if) <;> walk_at "st")
section
variable {K : PySem.W.Frag} {C : Addr}
theorem rc_same {x : Rat} {a b : Int} (hx : Sz 8500 x) (hb : b ≠ 0) (hz : b.natAbs < 2 ^ 8500) (e : x = Rat.divInt a b) : R_same [dF x, .int a, .int b] (.bl true) := ⟨x, a, b, hx, hb, hz, e, rfl, rfl⟩
local macro_rules | `(tactic| walk_at "R") => `(tactic| (with_reducible apply rc_same) <;> walk_at "sd")
theorem p_law_k01 : Body (t_law_k01 K C) n_law_k01 (sp_law K C) := by
  rintro vs H Q E ⟨ds, d, r, ⟨ns, hn, rfl, rfl⟩, k⟩
  refine start_at r (n := 8) (by rw [r.length]; rfl) ?_
  have q0 : (0 : Int) = ((0 : Nat) : Int) := rfl
  have q1 : (1 : Int) = ((1 : Nat) : Int) := rfl
  have q2 : (2 : Int) = ((2 : Nat) : Int) := rfl
  have fin : ∀ (x y : Rat) (c : Cell), Sz 400 x → Sz 400 y → ∀ D0 : Ends, D0.rt = Q → At K C H H
      (tSeq (tAsg (xIdx K (tVar 1) (tC (.int 0))) (gName 4)) (tSeq (tAsg (xIdx K (tVar 1) (tC (.int 1))) (gName 5)) (tSeq (tAsg (xIdx K (tVar 2) (tC (.int 0))) (gName 6)) (tSeq (tAsg (xIdx K (tVar 2) (tC (.int 1))) (gName 7)) (tSeq (tIfS (tOr (tNot (tB (tCall (sp_law_same K C) [] E0 (tCons (tCall (sp_plus K C) [] E0 (tCons (tVar 1) (tCons (tVar 2) tNil))) (tCons (xAdd (xMul (tVar 4) (tVar 7)) (xMul (tVar 6) (tVar 5))) (tCons (xMul (tVar 5) (tVar 7)) tNil)))))) (tNot (tB (tCall (sp_law_same K C) [] E0 (tCons (tCall (sp_minus K C) [] E0 (tCons (tVar 1) (tCons (tVar 2) tNil))) (tCons (xSub (xMul (tVar 4) (tVar 7)) (xMul (tVar 6) (tVar 5))) (tCons (xMul (tVar 5) (tVar 7)) tNil))))))) (tRet (tC (.bl false))) tNext) (tSeq (tIfS (tNot (tB (tCall (sp_law_same K C) [] E0 (tCons (tCall (sp_times K C) [] E0 (tCons (tVar 1) (tCons (tVar 2) tNil))) (tCons (xMul (tVar 4) (tVar 6)) (tCons (xMul (tVar 5) (tVar 7)) tNil)))))) (tRet (tC (.bl false))) tNext) (tSeq (tIfS (tAnd (tB (xNe K (tVar 6) (tC (.int 0)))) (tNot (tB (tCall (sp_law_same K C) [] E0 (tCons (tCall (sp_over K C) [] E0 (tCons (tVar 1) (tCons (tVar 2) tNil))) (tCons (xMul (tVar 4) (tVar 7)) (tCons (xMul (tVar 5) (tVar 6)) tNil))))))) (tRet (tC (.bl false))) tNext) (tSeq (tAsg (tCall (sp_less K C) [] E0 (tCons (tVar 1) (tCons (tVar 2) tNil))) (gName 8)) (tRet (tAndV (xIsi K "bool" (tVar 8)) (xEq K (tVar 8) (xLt (xMul (tVar 4) (tVar 7)) (xMul (tVar 6) (tVar 5))))))))))))) D0)
      [.dat (.scr ns), .dat (dF x), .dat (dF y), c, .un, .un, .un, .un, .un] := by
    intro x y c hx hy D0 hD
    have hx4 : Sz 4000 x := hx.mono (by decide)
    have hy4 : Sz 4000 y := hy.mono (by decide)
    have a1 := sz_cross hx4 hy4; have a2 := sz_cross hy4 hx4; have a3 := sz_dens hx4 hy4; have a4 := den_prod_ne x y; have a5 := sz_den2 hx4 hy4; have a6 := sz_nums hx4 hy4
    have a7 := sz_crosd hx4 hy4; have a8 := sz_den3 hx4 hy4
    have b1 : Sz 8500 (x + y) := (hx.add hy).mono (by decide)
    have b2 : Sz 8500 (x - y) := (hx.sub hy).mono (by decide)
    have b3 : Sz 8500 (x * y) := (hx.mul hy).mono (by decide)
    have e1 := add_eq x y; have e2 := sub_eq x y; have e3 := mul_eq x y; have e4 := div_eq x y
    walk_at "asg"
    walk_at "asg"
    walk_at "asg"
    walk_at "asg"
    walk_at "when"
    · rename_i hb; exact absurd hb (by simp)
    walk_at "when"
    · rename_i hb; exact absurd hb (by simp)
    have nx : At K C H H (tSeq (tAsg (tCall (sp_less K C) [] E0 (tCons (tVar 1) (tCons (tVar 2) tNil))) (gName 8)) (tRet (tAndV (xIsi K "bool" (tVar 8)) (xEq K (tVar 8) (xLt (xMul (tVar 4) (tVar 7)) (xMul (tVar 6) (tVar 5)))))) D0)
        [.dat (.scr ns), .dat (dF x), .dat (dF y), c, .dat (.int x.num), .dat (.int x.den), .dat (.int y.num), .dat (.int y.den), .un] := by
      walk_at "asg"
      walk_at "ret"
      rw [show decide (x.num * y.den < y.num * x.den) = decide (x < y) from decide_eq_decide.mpr (Rat.lt_iff x y).symm, hD]
      simpa using k
    by_cases h0 : y = 0
    · subst h0
      refine sq_when (b := false) ?_ (fun z => nomatch z) fun _ => nx
      refine EvB.to (eb_and (b := false) (by walk_at "evB") fun z => ?_) (by simp)
      exact absurd z (by simp)
    · have b4 : Sz 8500 (x / y) := (hx.div hy h0).mono (by decide)
      have a9 := Int.mul_ne_zero (den_ne x) (num_ne h0)
      walk_at "when"
      · rename_i hb; exact absurd hb (by simp)
      · exact nx
  have d1 : MulOk "0" 50 := ⟨by decide, fun _ _ => by decide +kernel, fun _ _ => by decide +kernel⟩
  have d2 : ("1" : Str).length + (Txt.mul "0" 50).length ≤ 100000 := by decide +kernel
  have d3 : PySem.intText? (("1" : Str) ++ Txt.mul "0" 50) = some (10 ^ 50) := by decide +kernel
  have d4 : (("1" : Str) ++ Txt.mul "0" 50).length ≤ 640 := by decide +kernel
  have d5 : CDivW (10 ^ 50) 2 := ⟨by decide, by decide +kernel⟩
  have d6 : (0 : Int) < 10 ^ 50 := by decide
  have e0 : (1 + ns.getD 1 0 % 10 ^ 50 : Int).natAbs < 2 ^ 200 ∧ (0 : Int) < 1 + ns.getD 1 0 % 10 ^ 50 := by
    have := Int.emod_nonneg (ns.getD 1 0) (show (10 ^ 50 : Int) ≠ 0 by decide); have := Int.emod_lt_of_pos (ns.getD 1 0) d6
    omega
  have e1 : (ns.getD 0 0 % 10 ^ 50 - 10 ^ 50 / 2 : Int).natAbs < 2 ^ 200 := by
    have := Int.emod_nonneg (ns.getD 0 0) (show (10 ^ 50 : Int) ≠ 0 by decide); have := Int.emod_lt_of_pos (ns.getD 0 0) d6
    omega
  have e2 := e0.2
  have e3 : (1 + ns.getD 1 0 % 10 ^ 50 : Int).natAbs < 2 ^ 8500 := Sz.up e0.1 (by decide)
  unfold t_law_k01
  walk_at "asg"
  walk_at "asg"
  walk_at "when"
  · walk_at "asg"
    walk_at "asg"
    exact fin _ _ _ ((sz_div (n := 200) (by omega) e1 e0.1).mono (by decide)) ((fracOf_sz _).mono (by decide)) _ rfl
  · exact fin _ _ _ ((fracOf_sz _).mono (by decide)) ((fracOf_sz _).mono (by decide)) _ rfl
end
end Hw
namespace Hw
open PySem L2
local macro_rules | `(tactic| walk_at "lenR") => `(tactic| ((repeat (obtain ⟨_, h⟩ := h)); subst_vars; rfl))
/-! ## the text of this law by its places -/
def topS (i : Nat) : Stmt := PySem.Challenge.pw_hoistworks_k01_fractions.main.body.getD i (.Pass ⟨0, 0, 0, 0⟩)
theorem sc_common : FnScope ["one", "other", "rest"] ["one", "other"] (defScope (topS 1)) := ⟨rfl, rfl, rfl, by decide +kernel, rfl, by decide +kernel, by decide +kernel⟩
theorem sc_fraction : FnScope ["top", "bottom", "far"] ["top", "bottom"] (defScope (topS 2)) := ⟨rfl, rfl, rfl, by decide +kernel, rfl, by decide +kernel, by decide +kernel⟩
theorem sc_plus : FnScope ["one", "other"] ["one", "other"] (defScope (topS 3)) := ⟨rfl, rfl, rfl, by decide +kernel, rfl, by decide +kernel, by decide +kernel⟩
theorem sc_minus : FnScope ["one", "other"] ["one", "other"] (defScope (topS 4)) := ⟨rfl, rfl, rfl, by decide +kernel, rfl, by decide +kernel, by decide +kernel⟩
theorem sc_times : FnScope ["one", "other"] ["one", "other"] (defScope (topS 5)) := ⟨rfl, rfl, rfl, by decide +kernel, rfl, by decide +kernel, by decide +kernel⟩
theorem sc_over : FnScope ["one", "other"] ["one", "other"] (defScope (topS 6)) := ⟨rfl, rfl, rfl, by decide +kernel, rfl, by decide +kernel, by decide +kernel⟩
theorem sc_less : FnScope ["one", "other"] ["one", "other"] (defScope (topS 7)) := ⟨rfl, rfl, rfl, by decide +kernel, rfl, by decide +kernel, by decide +kernel⟩
theorem sc_law_cell_at : FnScope ["script", "k"] ["script", "k"] (defScope (topS 9)) := ⟨rfl, rfl, rfl, by decide +kernel, rfl, by decide +kernel, by decide +kernel⟩
theorem sc_law_whole : FnScope ["found"] ["found"] (defScope (topS 10)) := ⟨rfl, rfl, rfl, by decide +kernel, rfl, by decide +kernel, by decide +kernel⟩
theorem sc_law_low : FnScope ["top", "bottom", "one", "other", "rest"] ["top", "bottom"] (defScope (topS 11)) := ⟨rfl, rfl, rfl, by decide +kernel, rfl, by decide +kernel, by decide +kernel⟩
theorem sc_law_part : FnScope ["found"] ["found"] (defScope (topS 13)) := ⟨rfl, rfl, rfl, by decide +kernel, rfl, by decide +kernel, by decide +kernel⟩
theorem sc_law_fraction : FnScope ["cell", "bottom", "most"] ["cell"] (defScope (topS 14)) := ⟨rfl, rfl, rfl, by decide +kernel, rfl, by decide +kernel, by decide +kernel⟩
theorem sc_law_same : FnScope ["found", "top", "bottom"] ["found", "top", "bottom"] (defScope (topS 16)) := ⟨rfl, rfl, rfl, by decide +kernel, rfl, by decide +kernel, by decide +kernel⟩
theorem sc_law : FnScope ["script", "one", "other", "great", "a", "b", "c", "d", "found"] ["script"] (defScope (topS 17)) := ⟨rfl, rfl, rfl, by decide +kernel, rfl, by decide +kernel, by decide +kernel⟩
section
variable {P : Program} {w : World} {K : PySem.W.Frag} {mg : Str → Option Value} {base : Heap} {C : Addr}
theorem ok_common (T : Bt mg) (F : FnAt K mg "common" "common" (topS 1) ["one", "other"]) : Okf P w K mg base "common" ["one", "other"] 1 (sp_common K C) :=
  Okf.mk F sc_common (lenD fun ds d h => by (repeat (obtain ⟨_, h⟩ := h)); subst_vars; rfl) (fun _ => t_common K C) (fun f cdv A outer s H E hr => (pss_cons (ps_while (passes_of rfl) (pt_xGt (pv 1) pe_int) (pss_cons (ps_set (i := 2) sc_common.nd rfl (Or.inl rfl) (pe_xMod (pv 0) (pv 1)))
    (pss_cons (ps_set (i := 0) sc_common.nd rfl (Or.inl rfl) (pv 1))
    (pss_one (ps_set (i := 1) sc_common.nd rfl (Or.inl rfl) (pv 2))))))
    (pss_one (ps_ret (pv 0))))) p_common
theorem ok_fraction (T : Bt mg) (O_common : Okf P w K mg base "common" ["one", "other"] 1 (sp_common K C)) (F : FnAt K mg "fraction" "fraction" (topS 2) ["top", "bottom"]) : Okf P w K mg base "fraction" ["top", "bottom"] 2 (sp_fraction K C) :=
  Okf.mk F sc_fraction (lenD fun ds d h => by (repeat (obtain ⟨_, h⟩ := h)); subst_vars; rfl) (fun _ => t_fraction K C) (fun f cdv A outer s H E hr => (pss_cons (ps_if (pt_xLt (pv 1) pe_int) (pss_cons (ps_set (i := 0) sc_fraction.nd rfl (Or.inl rfl) (pe_xSub pe_int (pv 0)))
    (pss_one (ps_set (i := 1) sc_fraction.nd rfl (Or.inl rfl) (pe_xSub pe_int (pv 1))))) pss_nil)
    (pss_cons (ps_set (i := 2) sc_fraction.nd rfl (Or.inl rfl) (pe_callO O_common (hr.mono (by decide)) (pa_cons (pe_xAbs T.b_abs (pv 0)) (pa_cons (pv 1) pa_nil))))
    (pss_one (ps_ret (pe_tup (pa_cons (pe_xDiv (pv 0) (pv 2)) (pa_cons (pe_xDiv (pv 1) (pv 2)) pa_nil)))))))) p_fraction
theorem ok_plus (T : Bt mg) (O_fraction : Okf P w K mg base "fraction" ["top", "bottom"] 2 (sp_fraction K C)) (F : FnAt K mg "plus" "plus" (topS 3) ["one", "other"]) : Okf P w K mg base "plus" ["one", "other"] 3 (sp_plus K C) :=
  Okf.mk F sc_plus (lenD fun ds d h => by (repeat (obtain ⟨_, h⟩ := h)); subst_vars; rfl) (fun _ => t_plus K C) (fun f cdv A outer s H E hr => (pss_one (ps_ret (pe_callO O_fraction (hr.mono (by decide)) (pa_cons (pe_xAdd (pe_xMul (pe_xIdx (pv 0) pe_int) (pe_xIdx (pv 1) pe_int)) (pe_xMul (pe_xIdx (pv 1) pe_int) (pe_xIdx (pv 0) pe_int))) (pa_cons (pe_xMul (pe_xIdx (pv 0) pe_int) (pe_xIdx (pv 1) pe_int)) pa_nil)))))) p_plus
theorem ok_minus (T : Bt mg) (O_fraction : Okf P w K mg base "fraction" ["top", "bottom"] 2 (sp_fraction K C)) (F : FnAt K mg "minus" "minus" (topS 4) ["one", "other"]) : Okf P w K mg base "minus" ["one", "other"] 3 (sp_minus K C) :=
  Okf.mk F sc_minus (lenD fun ds d h => by (repeat (obtain ⟨_, h⟩ := h)); subst_vars; rfl) (fun _ => t_minus K C) (fun f cdv A outer s H E hr => (pss_one (ps_ret (pe_callO O_fraction (hr.mono (by decide)) (pa_cons (pe_xSub (pe_xMul (pe_xIdx (pv 0) pe_int) (pe_xIdx (pv 1) pe_int)) (pe_xMul (pe_xIdx (pv 1) pe_int) (pe_xIdx (pv 0) pe_int))) (pa_cons (pe_xMul (pe_xIdx (pv 0) pe_int) (pe_xIdx (pv 1) pe_int)) pa_nil)))))) p_minus
theorem ok_times (T : Bt mg) (O_fraction : Okf P w K mg base "fraction" ["top", "bottom"] 2 (sp_fraction K C)) (F : FnAt K mg "times" "times" (topS 5) ["one", "other"]) : Okf P w K mg base "times" ["one", "other"] 3 (sp_times K C) :=
  Okf.mk F sc_times (lenD fun ds d h => by (repeat (obtain ⟨_, h⟩ := h)); subst_vars; rfl) (fun _ => t_times K C) (fun f cdv A outer s H E hr => (pss_one (ps_ret (pe_callO O_fraction (hr.mono (by decide)) (pa_cons (pe_xMul (pe_xIdx (pv 0) pe_int) (pe_xIdx (pv 1) pe_int)) (pa_cons (pe_xMul (pe_xIdx (pv 0) pe_int) (pe_xIdx (pv 1) pe_int)) pa_nil)))))) p_times
theorem ok_over (T : Bt mg) (O_fraction : Okf P w K mg base "fraction" ["top", "bottom"] 2 (sp_fraction K C)) (F : FnAt K mg "over" "over" (topS 6) ["one", "other"]) : Okf P w K mg base "over" ["one", "other"] 3 (sp_over K C) :=
  Okf.mk F sc_over (lenD fun ds d h => by (repeat (obtain ⟨_, h⟩ := h)); subst_vars; rfl) (fun _ => t_over K C) (fun f cdv A outer s H E hr => (pss_one (ps_ret (pe_callO O_fraction (hr.mono (by decide)) (pa_cons (pe_xMul (pe_xIdx (pv 0) pe_int) (pe_xIdx (pv 1) pe_int)) (pa_cons (pe_xMul (pe_xIdx (pv 0) pe_int) (pe_xIdx (pv 1) pe_int)) pa_nil)))))) p_over
theorem ok_less (T : Bt mg) (F : FnAt K mg "less" "less" (topS 7) ["one", "other"]) : Okf P w K mg base "less" ["one", "other"] 1 (sp_less K C) :=
  Okf.mk F sc_less (lenD fun ds d h => by (repeat (obtain ⟨_, h⟩ := h)); subst_vars; rfl) (fun _ => t_less K C) (fun f cdv A outer s H E hr => (pss_one (ps_ret (pe_xLt (pe_xMul (pe_xIdx (pv 0) pe_int) (pe_xIdx (pv 1) pe_int)) (pe_xMul (pe_xIdx (pv 1) pe_int) (pe_xIdx (pv 0) pe_int)))))) p_less
theorem ok_law_cell_at (T : Bt mg) (F : FnAt K mg "_law_cell_at" "_law_cell_at" (topS 9) ["script", "k"]) : Okf P w K mg base "_law_cell_at" ["script", "k"] 1 (sp_law_cell_at K C) :=
  Okf.mk F sc_law_cell_at (lenD fun ds d h => by (repeat (obtain ⟨_, h⟩ := h)); subst_vars; rfl) (fun _ => t_law_cell_at K C) (fun f cdv A outer s H E hr => (pss_cons (ps_if (pt_xLt (pv 1) (pe_xLen T.b_len (pv 0))) (pss_one (ps_ret (pe_xIdx (pv 0) (pv 1)))) pss_nil)
    (pss_one (ps_ret pe_int)))) p_law_cell_at
theorem ok_law_whole (T : Bt mg) (F : FnAt K mg "_law_whole" "_law_whole" (topS 10) ["found"]) : Okf P w K mg base "_law_whole" ["found"] 1 (sp_law_whole K C) :=
  Okf.mk F sc_law_whole (lenD fun ds d h => by (repeat (obtain ⟨_, h⟩ := h)); subst_vars; rfl) (fun _ => t_law_whole K C) (fun f cdv A outer s H E hr => (pss_one (ps_ret (pe_and (pe_xIsi T.b_isinstance T.b_int (by decide +kernel) (pv 0)) (pe_one (pe_not (pe_xIsi T.b_isinstance T.b_bool (by decide +kernel) (pv 0)))))))) p_law_whole
theorem ok_law_low (T : Bt mg) (F : FnAt K mg "_law_low" "_law_low" (topS 11) ["top", "bottom"]) : Okf P w K mg base "_law_low" ["top", "bottom"] 1 (sp_law_low K C) :=
  Okf.mk F sc_law_low (lenD fun ds d h => by (repeat (obtain ⟨_, h⟩ := h)); subst_vars; rfl) (fun _ => t_law_low K C) (fun f cdv A outer s H E hr => (pss_cons (ps_set (i := 2) sc_law_low.nd rfl (Or.inl rfl) (pe_xAbs T.b_abs (pv 0)))
    (pss_cons (ps_set (i := 3) sc_law_low.nd rfl (Or.inl rfl) (pv 1))
    (pss_cons (ps_while (passes_of rfl) (pt_xGt (pv 3) pe_int) (pss_cons (ps_set (i := 4) sc_law_low.nd rfl (Or.inl rfl) (pe_xMod (pv 2) (pv 3)))
    (pss_cons (ps_set (i := 2) sc_law_low.nd rfl (Or.inl rfl) (pv 3))
    (pss_one (ps_set (i := 3) sc_law_low.nd rfl (Or.inl rfl) (pv 4))))))
    (pss_one (ps_ret (pe_tup (pa_cons (pe_xDiv (pv 0) (pv 2)) (pa_cons (pe_xDiv (pv 1) (pv 2)) pa_nil))))))))) p_law_low
theorem ok_law_part (T : Bt mg) (O_law_whole : Okf P w K mg base "_law_whole" ["found"] 1 (sp_law_whole K C)) (O_law_low : Okf P w K mg base "_law_low" ["top", "bottom"] 1 (sp_law_low K C)) (F : FnAt K mg "_law_part" "_law_part" (topS 13) ["found"]) : Okf P w K mg base "_law_part" ["found"] 2 (sp_law_part K C) :=
  Okf.mk F sc_law_part (lenD fun ds d h => by (repeat (obtain ⟨_, h⟩ := h)); subst_vars; rfl) (fun _ => t_law_part K C) (fun f cdv A outer s H E hr => (pss_cons (ps_if (PW.pt (pw_or (pt_not (pt_val (pe_xIsi T.b_isinstance T.b_tuple (by decide +kernel) (pv 0)))) (pw_or (pt_xNe hr (pe_xLen T.b_len (pv 0)) pe_int) (pw_or (pt_not (pt_val (pe_callO O_law_whole (hr.mono (by decide)) (pa_cons (pe_xIdx (pv 0) pe_int) pa_nil)))) (pw_or1 (pt_not (pt_val (pe_callO O_law_whole (hr.mono (by decide)) (pa_cons (pe_xIdx (pv 0) pe_int) pa_nil))))))))) (pss_one (ps_ret pe_bl)) pss_nil)
    (pss_one (ps_ret (pe_and (pe_xGt (pe_xIdx (pv 0) pe_int) pe_int) (pe_one (pe_xEq hr (pe_callO O_law_low (hr.mono (by decide)) (pa_cons (pe_xIdx (pv 0) pe_int) (pa_cons (pe_xIdx (pv 0) pe_int) pa_nil))) (pv 0)))))))) p_law_part
theorem ok_law_fraction (T : Bt mg) (O_law_low : Okf P w K mg base "_law_low" ["top", "bottom"] 1 (sp_law_low K C)) (F : FnAt K mg "_law_fraction" "_law_fraction" (topS 14) ["cell"]) : Okf P w K mg base "_law_fraction" ["cell"] 2 (sp_law_fraction K C) :=
  Okf.mk F sc_law_fraction (lenD fun ds d h => by (repeat (obtain ⟨_, h⟩ := h)); subst_vars; rfl) (fun _ => t_law_fraction K C) (fun f cdv A outer s H E hr => (pss_cons (ps_set (i := 1) sc_law_fraction.nd rfl (Or.inl rfl) (pe_xIdx (pe_lst (pa_cons pe_int (pa_cons pe_int (pa_cons pe_int (pa_cons pe_int (pa_cons pe_int (pa_cons pe_int pa_nil))))))) (pe_xMod (pv 0) pe_int)))
    (pss_cons (ps_set (i := 2) sc_law_fraction.nd rfl (Or.inl rfl) (pe_xIdx (pe_lst (pa_cons pe_int (pa_cons pe_int (pa_cons (pe_xPow pe_int pe_int) pa_nil)))) (pe_xMod (pe_xDiv (pv 0) pe_int) pe_int)))
    (pss_one (ps_ret (pe_callO O_law_low (hr.mono (by decide)) (pa_cons (pe_xSub (pe_xMod (pe_xDiv (pv 0) pe_int) (pe_xAdd (pe_xMul pe_int (pv 2)) pe_int)) (pv 2)) (pa_cons (pv 1) pa_nil)))))))) p_law_fraction
theorem ok_law_same (T : Bt mg) (O_law_part : Okf P w K mg base "_law_part" ["found"] 2 (sp_law_part K C)) (O_law_low : Okf P w K mg base "_law_low" ["top", "bottom"] 1 (sp_law_low K C)) (F : FnAt K mg "_law_same" "_law_same" (topS 16) ["found", "top", "bottom"]) : Okf P w K mg base "_law_same" ["found", "top", "bottom"] 3 (sp_law_same K C) :=
  Okf.mk F sc_law_same (lenD fun ds d h => by (repeat (obtain ⟨_, h⟩ := h)); subst_vars; rfl) (fun _ => t_law_same K C) (fun f cdv A outer s H E hr => (pss_cons (ps_if (pt_xLt (pv 2) pe_int) (pss_cons (ps_set (i := 1) sc_law_same.nd rfl (Or.inl rfl) (pe_xSub pe_int (pv 1)))
    (pss_one (ps_set (i := 2) sc_law_same.nd rfl (Or.inl rfl) (pe_xSub pe_int (pv 2))))) pss_nil)
    (pss_one (ps_ret (pe_and (pe_callO O_law_part (hr.mono (by decide)) (pa_cons (pv 0) pa_nil)) (pe_one (pe_xEq hr (pv 0) (pe_callO O_law_low (hr.mono (by decide)) (pa_cons (pv 1) (pa_cons (pv 2) pa_nil)))))))))) p_law_same
theorem ok_law (T : Bt mg) (O_law_fraction : Okf P w K mg base "_law_fraction" ["cell"] 2 (sp_law_fraction K C)) (O_less : Okf P w K mg base "less" ["one", "other"] 1 (sp_less K C)) (O_law_cell_at : Okf P w K mg base "_law_cell_at" ["script", "k"] 1 (sp_law_cell_at K C)) (O_law_low : Okf P w K mg base "_law_low" ["top", "bottom"] 1 (sp_law_low K C)) (O_law_same : Okf P w K mg base "_law_same" ["found", "top", "bottom"] 3 (sp_law_same K C)) (O_times : Okf P w K mg base "times" ["one", "other"] 3 (sp_times K C)) (O_plus : Okf P w K mg base "plus" ["one", "other"] 3 (sp_plus K C)) (O_minus : Okf P w K mg base "minus" ["one", "other"] 3 (sp_minus K C)) (O_over : Okf P w K mg base "over" ["one", "other"] 3 (sp_over K C)) {fa : Addr} {fd : FuncData} (F : LawAt K fa (topS 17) fd) : FnOk P w K mg base (L2.CX P w) 4 fa fd ["script"] (sp_law K C) :=
  F.ok sc_law (lenD fun ds d h => by (repeat (obtain ⟨_, h⟩ := h)); subst_vars; rfl) (fun _ => t_law_k01 K C) (fun f cdv A outer s H E hr => (pss_cons (ps_set (i := 1) sc_law.nd rfl (Or.inl rfl) (pe_callO O_law_fraction (hr.mono (by decide)) (pa_cons (pe_callO O_law_cell_at (hr.mono (by decide)) (pa_cons (pv 0) (pa_cons pe_int pa_nil))) pa_nil)))
    (pss_cons (ps_set (i := 2) sc_law.nd rfl (Or.inl rfl) (pe_callO O_law_fraction (hr.mono (by decide)) (pa_cons (pe_callO O_law_cell_at (hr.mono (by decide)) (pa_cons (pv 0) (pa_cons pe_int pa_nil))) pa_nil)))
    (pss_cons (ps_if (pt_xEq hr (pe_xMod (pe_callO O_law_cell_at (hr.mono (by decide)) (pa_cons (pv 0) (pa_cons pe_int pa_nil))) pe_int) pe_int) (pss_cons (ps_set (i := 3) sc_law.nd rfl (Or.inl rfl) (pe_xInt T.b_int (pe_xCatS pe_str (pe_xRepS pe_str pe_int))))
    (pss_one (ps_set (i := 1) sc_law.nd rfl (Or.inl rfl) (pe_callO O_law_low (hr.mono (by decide)) (pa_cons (pe_xSub (pe_xMod (pe_callO O_law_cell_at (hr.mono (by decide)) (pa_cons (pv 0) (pa_cons pe_int pa_nil))) (pv 3)) (pe_xDiv (pv 3) pe_int)) (pa_cons (pe_xAdd pe_int (pe_xMod (pe_callO O_law_cell_at (hr.mono (by decide)) (pa_cons (pv 0) (pa_cons pe_int pa_nil))) (pv 3))) pa_nil)))))) pss_nil)
    (pss_cons (ps_set (i := 4) sc_law.nd rfl (Or.inl rfl) (pe_xIdx (pv 1) pe_int))
    (pss_cons (ps_set (i := 5) sc_law.nd rfl (Or.inl rfl) (pe_xIdx (pv 1) pe_int))
    (pss_cons (ps_set (i := 6) sc_law.nd rfl (Or.inl rfl) (pe_xIdx (pv 2) pe_int))
    (pss_cons (ps_set (i := 7) sc_law.nd rfl (Or.inl rfl) (pe_xIdx (pv 2) pe_int))
    (pss_cons (ps_if (PW.pt (pw_or (pt_not (pt_val (pe_callO O_law_same (hr.mono (by decide)) (pa_cons (pe_callO O_plus (hr.mono (by decide)) (pa_cons (pv 1) (pa_cons (pv 2) pa_nil))) (pa_cons (pe_xAdd (pe_xMul (pv 4) (pv 7)) (pe_xMul (pv 6) (pv 5))) (pa_cons (pe_xMul (pv 5) (pv 7)) pa_nil)))))) (pw_or1 (pt_not (pt_val (pe_callO O_law_same (hr.mono (by decide)) (pa_cons (pe_callO O_minus (hr.mono (by decide)) (pa_cons (pv 1) (pa_cons (pv 2) pa_nil))) (pa_cons (pe_xSub (pe_xMul (pv 4) (pv 7)) (pe_xMul (pv 6) (pv 5))) (pa_cons (pe_xMul (pv 5) (pv 7)) pa_nil))))))))) (pss_one (ps_ret pe_bl)) pss_nil)
    (pss_cons (ps_if (pt_not (pt_val (pe_callO O_law_same (hr.mono (by decide)) (pa_cons (pe_callO O_times (hr.mono (by decide)) (pa_cons (pv 1) (pa_cons (pv 2) pa_nil))) (pa_cons (pe_xMul (pv 4) (pv 6)) (pa_cons (pe_xMul (pv 5) (pv 7)) pa_nil)))))) (pss_one (ps_ret pe_bl)) pss_nil)
    (pss_cons (ps_if (PW.pt (pw_and (pt_xNe hr (pv 6) pe_int) (pw_and1 (pt_not (pt_val (pe_callO O_law_same (hr.mono (by decide)) (pa_cons (pe_callO O_over (hr.mono (by decide)) (pa_cons (pv 1) (pa_cons (pv 2) pa_nil))) (pa_cons (pe_xMul (pv 4) (pv 7)) (pa_cons (pe_xMul (pv 5) (pv 6)) pa_nil))))))))) (pss_one (ps_ret pe_bl)) pss_nil)
    (pss_cons (ps_set (i := 8) sc_law.nd rfl (Or.inl rfl) (pe_callO O_less (hr.mono (by decide)) (pa_cons (pv 1) (pa_cons (pv 2) pa_nil))))
    (pss_one (ps_ret (pe_and (pe_xIsi T.b_isinstance T.b_bool (by decide +kernel) (pv 8)) (pe_one (pe_xEq hr (pv 8) (pe_xLt (pe_xMul (pv 4) (pv 7)) (pe_xMul (pv 6) (pv 5)))))))))))))))))))) p_law_k01
end
end Hw
open PySem PySem.W PyProof.Rows in
set_option maxRecDepth 100000 in
set_option maxHeartbeats 0 in
theorem PySem.Challenge.cw_hoistworks_k01_fractions_holds : PySem.Challenge.rw_hoistworks_k01_fractions.Holds := by
  w_on; o_law; k_head; (case hw => w_witness2)
  k_fill
  refine Hw.law_end (l := PySem.Challenge.rw_hoistworks_k01_fractions) (k := 4) (by decide) rfl rfl (fun w h Y => PySem.W.kIn_of Y) ?F
  case F =>
    intro w mg fa h KX G hmg
    have T : Hw.Bt mg := by
      refine' ⟨PySem.W.mg_none_of KX G ?z0, PySem.W.mg_none_of KX G ?z1, PySem.W.mg_none_of KX G ?z2, PySem.W.mg_none_of KX G ?z3, PySem.W.mg_none_of KX G ?z4, PySem.W.mg_none_of KX G ?z5, PySem.W.mg_none_of KX G ?z6, PySem.W.mg_none_of KX G ?z7, PySem.W.mg_none_of KX G ?z8, PySem.W.mg_none_of KX G ?z9, PySem.W.mg_none_of KX G ?z10, PySem.W.mg_none_of KX G ?z11, PySem.W.mg_none_of KX G ?z12, PySem.W.mg_none_of KX G ?z13⟩
      (case z0 => k_is)
      (case z1 => k_is)
      (case z2 => k_is)
      (case z3 => k_is)
      (case z4 => k_is)
      (case z5 => k_is)
      (case z6 => k_is)
      (case z7 => k_is)
      (case z8 => k_is)
      (case z9 => k_is)
      (case z10 => k_is)
      (case z11 => k_is)
      (case z12 => k_is)
      (case z13 => k_is)
    have F_common := by
      refine' Hw.FnAt.of (x := "common") (name := "common") (st := Hw.topS 1) (ps := ["one", "other"]) KX G ?a ?l ?c ?k (fun _ _ _ _ _ _ us hl => match us, hl with | [_, _], _ => rfl)
      (case a => k_is)
      (case l => k_is)
      (case c => k_is)
      (case k => k_is)
    have F_fraction := by
      refine' Hw.FnAt.of (x := "fraction") (name := "fraction") (st := Hw.topS 2) (ps := ["top", "bottom"]) KX G ?a ?l ?c ?k (fun _ _ _ _ _ _ us hl => match us, hl with | [_, _], _ => rfl)
      (case a => k_is)
      (case l => k_is)
      (case c => k_is)
      (case k => k_is)
    have F_plus := by
      refine' Hw.FnAt.of (x := "plus") (name := "plus") (st := Hw.topS 3) (ps := ["one", "other"]) KX G ?a ?l ?c ?k (fun _ _ _ _ _ _ us hl => match us, hl with | [_, _], _ => rfl)
      (case a => k_is)
      (case l => k_is)
      (case c => k_is)
      (case k => k_is)
    have F_minus := by
      refine' Hw.FnAt.of (x := "minus") (name := "minus") (st := Hw.topS 4) (ps := ["one", "other"]) KX G ?a ?l ?c ?k (fun _ _ _ _ _ _ us hl => match us, hl with | [_, _], _ => rfl)
      (case a => k_is)
      (case l => k_is)
      (case c => k_is)
      (case k => k_is)
    have F_times := by
      refine' Hw.FnAt.of (x := "times") (name := "times") (st := Hw.topS 5) (ps := ["one", "other"]) KX G ?a ?l ?c ?k (fun _ _ _ _ _ _ us hl => match us, hl with | [_, _], _ => rfl)
      (case a => k_is)
      (case l => k_is)
      (case c => k_is)
      (case k => k_is)
    have F_over := by
      refine' Hw.FnAt.of (x := "over") (name := "over") (st := Hw.topS 6) (ps := ["one", "other"]) KX G ?a ?l ?c ?k (fun _ _ _ _ _ _ us hl => match us, hl with | [_, _], _ => rfl)
      (case a => k_is)
      (case l => k_is)
      (case c => k_is)
      (case k => k_is)
    have F_less := by
      refine' Hw.FnAt.of (x := "less") (name := "less") (st := Hw.topS 7) (ps := ["one", "other"]) KX G ?a ?l ?c ?k (fun _ _ _ _ _ _ us hl => match us, hl with | [_, _], _ => rfl)
      (case a => k_is)
      (case l => k_is)
      (case c => k_is)
      (case k => k_is)
    have F_law_cell_at := by
      refine' Hw.FnAt.of (x := "_law_cell_at") (name := "_law_cell_at") (st := Hw.topS 9) (ps := ["script", "k"]) KX G ?a ?l ?c ?k (fun _ _ _ _ _ _ us hl => match us, hl with | [_, _], _ => rfl)
      (case a => k_is)
      (case l => k_is)
      (case c => k_is)
      (case k => k_is)
    have F_law_whole := by
      refine' Hw.FnAt.of (x := "_law_whole") (name := "_law_whole") (st := Hw.topS 10) (ps := ["found"]) KX G ?a ?l ?c ?k (fun _ _ _ _ _ _ us hl => match us, hl with | [_], _ => rfl)
      (case a => k_is)
      (case l => k_is)
      (case c => k_is)
      (case k => k_is)
    have F_law_low := by
      refine' Hw.FnAt.of (x := "_law_low") (name := "_law_low") (st := Hw.topS 11) (ps := ["top", "bottom"]) KX G ?a ?l ?c ?k (fun _ _ _ _ _ _ us hl => match us, hl with | [_, _], _ => rfl)
      (case a => k_is)
      (case l => k_is)
      (case c => k_is)
      (case k => k_is)
    have F_law_part := by
      refine' Hw.FnAt.of (x := "_law_part") (name := "_law_part") (st := Hw.topS 13) (ps := ["found"]) KX G ?a ?l ?c ?k (fun _ _ _ _ _ _ us hl => match us, hl with | [_], _ => rfl)
      (case a => k_is)
      (case l => k_is)
      (case c => k_is)
      (case k => k_is)
    have F_law_fraction := by
      refine' Hw.FnAt.of (x := "_law_fraction") (name := "_law_fraction") (st := Hw.topS 14) (ps := ["cell"]) KX G ?a ?l ?c ?k (fun _ _ _ _ _ _ us hl => match us, hl with | [_], _ => rfl)
      (case a => k_is)
      (case l => k_is)
      (case c => k_is)
      (case k => k_is)
    have F_law_same := by
      refine' Hw.FnAt.of (x := "_law_same") (name := "_law_same") (st := Hw.topS 16) (ps := ["found", "top", "bottom"]) KX G ?a ?l ?c ?k (fun _ _ _ _ _ _ us hl => match us, hl with | [_, _, _], _ => rfl)
      (case a => k_is)
      (case l => k_is)
      (case c => k_is)
      (case k => k_is)
    have L := by
      refine' Hw.LawAt.of (st := Hw.topS 17) KX G hmg ?a ?l ?c ?k (fun _ _ _ _ _ _ _ => rfl)
      (case a => k_is)
      (case l => k_is)
      (case c => k_is)
      (case k => k_is)
    obtain ⟨fd, L⟩ := L
    refine ⟨0, _, fd, L, fun base => ?_⟩
    have O_common := Hw.ok_common (P := PySem.Challenge.rw_hoistworks_k01_fractions.prog) (w := w) (base := base) (C := 0) T  F_common
    have O_fraction := Hw.ok_fraction (P := PySem.Challenge.rw_hoistworks_k01_fractions.prog) (w := w) (base := base) (C := 0) T O_common F_fraction
    have O_plus := Hw.ok_plus (P := PySem.Challenge.rw_hoistworks_k01_fractions.prog) (w := w) (base := base) (C := 0) T O_fraction F_plus
    have O_minus := Hw.ok_minus (P := PySem.Challenge.rw_hoistworks_k01_fractions.prog) (w := w) (base := base) (C := 0) T O_fraction F_minus
    have O_times := Hw.ok_times (P := PySem.Challenge.rw_hoistworks_k01_fractions.prog) (w := w) (base := base) (C := 0) T O_fraction F_times
    have O_over := Hw.ok_over (P := PySem.Challenge.rw_hoistworks_k01_fractions.prog) (w := w) (base := base) (C := 0) T O_fraction F_over
    have O_less := Hw.ok_less (P := PySem.Challenge.rw_hoistworks_k01_fractions.prog) (w := w) (base := base) (C := 0) T  F_less
    have O_law_cell_at := Hw.ok_law_cell_at (P := PySem.Challenge.rw_hoistworks_k01_fractions.prog) (w := w) (base := base) (C := 0) T  F_law_cell_at
    have O_law_whole := Hw.ok_law_whole (P := PySem.Challenge.rw_hoistworks_k01_fractions.prog) (w := w) (base := base) (C := 0) T  F_law_whole
    have O_law_low := Hw.ok_law_low (P := PySem.Challenge.rw_hoistworks_k01_fractions.prog) (w := w) (base := base) (C := 0) T  F_law_low
    have O_law_part := Hw.ok_law_part (P := PySem.Challenge.rw_hoistworks_k01_fractions.prog) (w := w) (base := base) (C := 0) T O_law_whole O_law_low F_law_part
    have O_law_fraction := Hw.ok_law_fraction (P := PySem.Challenge.rw_hoistworks_k01_fractions.prog) (w := w) (base := base) (C := 0) T O_law_low F_law_fraction
    have O_law_same := Hw.ok_law_same (P := PySem.Challenge.rw_hoistworks_k01_fractions.prog) (w := w) (base := base) (C := 0) T O_law_part O_law_low F_law_same
    exact Hw.ok_law T O_law_fraction O_less O_law_cell_at O_law_low O_law_same O_times O_plus O_minus O_over L
