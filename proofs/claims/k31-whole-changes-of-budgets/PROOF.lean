import PyProof.Rows.All
import Wide.All
import OpenK.AllK
import Wide.FinOn
import HandS.ForMost
import HandS.Exc
import HandS.TryOnly
import HandS.ExcOwn
import HandS.WordsExc
import HandS.TryMany
import HandS.Walk
import HandS.IsInst
import HandS.Wide
import HandS.Lambda
import HandS.Star
import HandS.Style
import HandS.TupAny
import HandS.Deep
import HandS.Conv
import KE.GoesNew
import KE.KTupSum
import HandS.Zip
import HandS.Flt
import HandS.TupMul
import KE.KExcSuper
import KE.SortData
import PyProof.ReprRoads
import KE.SortKeyHeap
import KE.KSortKey
import PySem.Challenge.RW_bothplans_k31_whole_changes_of_budgets
import HandS.EndBits
import KE.KNestM
set_option Elab.async false
set_option autoImplicit false
set_option linter.all false
set_option maxRecDepth 100000
set_option maxHeartbeats 2000000
/-! Bothplans: a program logic over data. D: the data that the law's defs handle; R: how a value reads as data in a heap; the judgements JE, JT, JA, JI, JG, JS speak of data alone. -/
namespace B
open PySem PySem.Spec PyProof.Rows L2

/-! ### data -/
structure LamRec where
  params : Arguments
  body : Expr
  scope : Scope
  clo : List (Str × Addr)
  qual : Str

inductive D where
  | non | bl (b : Bool) | int (i : Int) | str (x : Str) | list (xs : List D) | tup (xs : List D)
  | bud (caps : List Int) (lo hi : Int) | deal | edict | lam (r : LamRec) | ty (n : String) | scr (ns : List Int) | self (p : Addr)

/-- the law's own exception classes -/
inductive EC | store | state | refused

structure Th where
  K : PySem.W.Frag
  C : Addr
  T : List (Addr × Str)
  cls : EC → Addr
structure Dl where
  d : Addr
  d0 : Addr
  /-- what was known, and what stood, as the def was entered -/
  g : Hp
  b : Hp

/-- a lambda's own object at f -/
def LamO (f c' : Addr) (r : LamRec) : HO := .ext fun h => ∃ pm ctv, h.get? f = some (PySem.W.kla_obj "<lambda>" r.qual r.params r.body r.scope r.clo pm c' ctv)

mutual
inductive R (θ : Th) (δ : Dl) (G : Hp) : V → D → Prop
  | non : R θ δ G .non .non
  | bl (b : Bool) : R θ δ G (.bl b) (.bl b)
  | int (i : Int) : R θ δ G (.int i) (.int i)
  | str (x : Str) : R θ δ G (.str x) (.str x)
  | ty (n : String) : R θ δ G (.ty n) (.ty n)
  | self (p : Addr) : R θ δ G (.ref p) (.self p)
  | scr {a : Addr} {ns : List Int} : SqL θ.K G a (ns.map V.int) → R θ δ G (.ref a) (.scr ns)
  | lst {a : Addr} {xs : List V} {ds : List D} : G a = some (.lst xs) → RA θ δ G xs ds → R θ δ G (.ref a) (.list ds)
  | tup {a : Addr} {xs : List V} {ds : List D} : G a = some (.tup xs) → RA θ δ G xs ds → R θ δ G (.ref a) (.tup ds)
  | bud {p dx t : Addr} {fs : List (Str × V)} {caps : List Int} {lo hi : Int} : G p = some (.ins θ.C dx fs) → fs.lookup ("key_count" : Str) = some (.int caps.length) → fs.lookup ("caps" : Str) = some (.ref t) → G t = some (.tup (caps.map V.int)) →
      fs.lookup ("low" : Str) = some (.int lo) → fs.lookup ("high" : Str) = some (.int hi) → R θ δ G (.ref p) (.bud caps lo hi)
  | deal : R θ δ G (.ref δ.d) .deal
  | edict {p : Addr} : G p = some (.dK []) → R θ δ G (.ref p) .edict
  | lam {f c' : Addr} {r : LamRec} : G f = some (LamO f c' r) → G c' = some (LamX.CodeO c' r.qual) → R θ δ G (.ref f) (.lam r)
inductive RA (θ : Th) (δ : Dl) (G : Hp) : List V → List D → Prop
  | nil : RA θ δ G [] []
  | cons {v : V} {vs : List V} {d : D} {ds : List D} : R θ δ G v d → RA θ δ G vs ds → RA θ δ G (v :: vs) (d :: ds)
end

/-- dictionary of the numbers of a list -/
abbrev di (ns : List Int) : List D := ns.map D.int
abbrev dti (ns : List Int) : D := .tup (di ns)
abbrev dli (ns : List Int) : D := .list (di ns)

section
variable {θ : Th} {δ : Dl} {G G' H H' : Hp}
theorem Same.rd {a : Addr} {u : HO} (e : Same G G') (h : Rd G a u) : Rd G' a u := by
  rcases h with h | ⟨o, h⟩
  · exact .inl (e _ _ h)
  · exact .inr ⟨o, e _ _ h⟩
theorem Same.sqt {K : PySem.W.Frag} {a : Addr} {xs : List V} (e : Same G G') (h : SqT K G a xs) : SqT K G' a xs := by
  rcases h with h | h
  · exact .inl (Same.rd e h)
  · exact .inr h
mutual
theorem R.mono (e : Same G G') : ∀ {v : V} {d : D}, R θ δ G v d → R θ δ G' v d
  | _, _, .non => .non
  | _, _, .bl b => .bl b
  | _, _, .int i => .int i
  | _, _, .str x => .str x
  | _, _, .ty n => .ty n
  | _, _, .self p => .self p
  | _, _, .scr h => .scr (e.seq h)
  | _, _, .lst h r => .lst (e _ _ h) (RA.mono e r)
  | _, _, .tup h r => .tup (e _ _ h) (RA.mono e r)
  | _, _, .bud h1 h2 h3 h4 h5 h6 => .bud (e _ _ h1) h2 h3 (e _ _ h4) h5 h6
  | _, _, .deal => .deal
  | _, _, .edict h => .edict (e _ _ h)
  | _, _, .lam h1 h2 => .lam (e _ _ h1) (e _ _ h2)
theorem RA.mono (e : Same G G') : ∀ {vs : List V} {ds : List D}, RA θ δ G vs ds → RA θ δ G' vs ds
  | _, _, .nil => .nil
  | _, _, .cons h r => .cons (R.mono e h) (RA.mono e r)
end
theorem RA.length : ∀ {vs : List V} {ds : List D}, RA θ δ G vs ds → vs.length = ds.length
  | _, _, .nil => rfl
  | _, _, .cons _ r => by simp [RA.length r]
theorem RA.get : ∀ {vs : List V} {ds : List D} {i : Nat} {d : D}, RA θ δ G vs ds → ds[i]? = some d → ∃ v, vs[i]? = some v ∧ R θ δ G v d
  | _, _, _, _, .nil, h => by simp at h
  | _, _, 0, _, .cons h _, e => by simp at e; subst e; exact ⟨_, rfl, h⟩
  | _, _, i + 1, _, .cons _ r, e => by
    obtain ⟨v, h1, h2⟩ := RA.get r (i := i) (by simpa using e)
    exact ⟨v, by simpa using h1, h2⟩
theorem RA.getV : ∀ {vs : List V} {ds : List D} {i : Nat} {v : V}, RA θ δ G vs ds → vs[i]? = some v → ∃ d, ds[i]? = some d ∧ R θ δ G v d
  | _, _, _, _, .nil, h => by simp at h
  | _, _, 0, _, .cons h _, e => by simp at e; subst e; exact ⟨_, rfl, h⟩
  | _, _, i + 1, _, .cons _ r, e => by
    obtain ⟨v, h1, h2⟩ := RA.getV r (i := i) (by simpa using e)
    exact ⟨v, by simpa using h1, h2⟩
theorem RA.append : ∀ {vs ws : List V} {ds es : List D}, RA θ δ G vs ds → RA θ δ G ws es → RA θ δ G (vs ++ ws) (ds ++ es)
  | _, _, _, _, .nil, s => s
  | _, _, _, _, .cons h r, s => .cons h (RA.append r s)
theorem RA.drop : ∀ {vs : List V} {ds : List D} (n : Nat), RA θ δ G vs ds → RA θ δ G (vs.drop n) (ds.drop n)
  | _, _, 0, r => r
  | _, _, _ + 1, .nil => .nil
  | _, _, n + 1, .cons _ r => RA.drop n r
theorem RA.take : ∀ {vs : List V} {ds : List D} (n : Nat), RA θ δ G vs ds → RA θ δ G (vs.take n) (ds.take n)
  | _, _, 0, _ => .nil
  | _, _, _ + 1, .nil => .nil
  | _, _, n + 1, .cons h r => .cons h (RA.take n r)
theorem RA.set {v : V} {d : D} (h : R θ δ G v d) : ∀ {vs : List V} {ds : List D} (n : Nat), RA θ δ G vs ds → RA θ δ G (vs.set n v) (ds.set n d)
  | _, _, _, .nil => .nil
  | _, _, 0, .cons _ r => .cons h r
  | _, _, n + 1, .cons q r => .cons q (RA.set h n r)
theorem RA.reverse : ∀ {vs : List V} {ds : List D}, RA θ δ G vs ds → RA θ δ G vs.reverse ds.reverse
  | _, _, .nil => .nil
  | _, _, .cons h r => by
    rw [List.reverse_cons, List.reverse_cons]
    exact RA.append (RA.reverse r) (.cons h .nil)
theorem RA.int : ∀ {vs : List V} {ns : List Int}, RA θ δ G vs (di ns) → vs = ns.map V.int
  | _, [], .nil => rfl
  | _, n :: ns, .cons h r => by
    cases h
    rw [RA.int r, List.map_cons]
theorem RA.ofInt : ∀ (ns : List Int), RA θ δ G (ns.map V.int) (di ns)
  | [] => .nil
  | n :: ns => .cons (.int n) (RA.ofInt ns)
theorem RA.bls : ∀ {vs : List V} {ns : List Bool}, RA θ δ G vs (ns.map D.bl) → vs = ns.map V.bl
  | _, [], .nil => rfl
  | _, n :: ns, .cons h r => by
    cases h
    rw [RA.bls r, List.map_cons]
end

/-! ### the world: the source of draws, and the tables of code objects -/
def Mut (θ : Th) (δ : Dl) (a : Addr) : Prop := a = δ.d ∨ a = δ.d0 ∨ ∃ p ∈ θ.T, p.1 = a
/-- the table at P tells codes of the name q alone, each known for good -/
def TabG (G H : Hp) (P : Addr) (q : Str) : Prop := ∃ ps : Array Value, H P = some (.tbl ps) ∧ TriplesOk ps.toList ∧ ∀ (pos : Pos) (cv : Value), codeAmong pos ps.toList = some cv → ∃ c, cv = .ref c ∧ G c = some (LamX.CodeO c q)
def TabsG (T : List (Addr × Str)) (G H : Hp) : Prop := ∀ p ∈ T, TabG G H p.1 p.2
theorem TabsG.ext {T : List (Addr × Str)} {G H G' H' : Hp} (t : TabsG T G H) (g : Same G G') (e : Same H H') : TabsG T G' H' := fun p hp => by
  obtain ⟨ps, h1, h2, h3⟩ := t p hp
  exact ⟨ps, e _ _ h1, h2, fun pos cv hc => let ⟨c, e1, e2⟩ := h3 pos cv hc; ⟨c, e1, g _ _ e2⟩⟩
structure Wld (θ : Th) (δ : Dl) (G H : Hp) : Prop where
  ne : δ.d ≠ δ.d0
  dl : ∃ bl : Int, H δ.d = some (.lst [.ref δ.d0, .int bl]) ∧ 0 ≤ bl ∧ bl < 2147483647
  d0 : ∃ cs : List Int, H δ.d0 = some (.lst (cs.map V.int)) ∧ (∀ c ∈ cs, 0 ≤ c) ∧ cs.length ≤ 100
  tb : TabsG θ.T G H
  tm : ∀ p ∈ θ.T, p.1 ≠ δ.d ∧ p.1 ≠ δ.d0
  gn : ∀ a, Mut θ δ a → G a = none

/-- the heap moves on: G, what is known for good, grows by new objects alone -/
structure Post (θ : Th) (δ : Dl) (m : Bool) (G H G' H' : Hp) : Prop where
  gg : Same G G'
  gh : Same G' H'
  nw : ∀ a, G' a ≠ none → G a ≠ none ∨ H a = none
  nt : ∀ a ps, G' a = some (.tbl ps) → G a = some (.tbl ps)
  fr : ∀ a o, H a = some o → (m = true → ¬ Mut θ δ a) → H' a = some o
  dm : ∀ a, H a ≠ none → H' a ≠ none
  wd : m = true → Wld θ δ G' H'
structure Pre (θ : Th) (δ : Dl) (m : Bool) (G H : Hp) : Prop where
  gh : Same G H
  nt : ∀ a ps, G a ≠ some (.tbl ps)
  wd : m = true → Wld θ δ G H

section
variable {θ : Th} {δ : Dl} {m : Bool} {G G' G1 H H' H1 : Hp}
theorem Post.refl (p : Pre θ δ m G H) : Post θ δ m G H G H :=
  ⟨Same.refl _, p.gh, fun _ h => .inl h, fun _ _ h => h, fun _ _ h _ => h, fun _ h => h, p.wd⟩
theorem Post.pre (p : Pre θ δ m G H) (q : Post θ δ m G H G' H') : Pre θ δ m G' H' :=
  ⟨q.gh, fun a ps h => p.nt a ps (q.nt a ps h), q.wd⟩
theorem Post.trans (a : Post θ δ m G H G1 H1) (b : Post θ δ m G1 H1 G' H') : Post θ δ m G H G' H' where
  gg := a.gg.trans b.gg
  gh := b.gh
  nw := fun x h => by
    rcases b.nw x h with h | h
    · exact a.nw x h
    · refine .inr ?_
      cases e : H x with
      | none => rfl
      | some o => exact absurd h (a.dm x (by rw [e]; simp))
  nt := fun x ps h => a.nt x ps (b.nt x ps h)
  fr := fun x o h hm => b.fr x o (a.fr x o h hm) hm
  dm := fun x h => b.dm x (a.dm x h)
  wd := b.wd
/-- a new object is laid: into the heap and into what is known for good -/
theorem Wld.mutDom {a : Addr} (w : Wld θ δ G H) (h : Mut θ δ a) : H a ≠ none := by
  rcases h with rfl | rfl | ⟨p, hp, rfl⟩
  · obtain ⟨bl, e, _⟩ := w.dl
    rw [e]; simp
  · obtain ⟨cs, e, _⟩ := w.d0
    rw [e]; simp
  · obtain ⟨ps, e, _⟩ := w.tb p hp
    rw [e]; simp
theorem Wld.grow (w : Wld θ δ G H) (gg : Same G G') (e : Same H H') (nw : ∀ a, G' a ≠ none → G a ≠ none ∨ H a = none) : Wld θ δ G' H' where
  ne := w.ne
  dl := let ⟨bl, h, r⟩ := w.dl; ⟨bl, e _ _ h, r⟩
  d0 := let ⟨cs, h, r⟩ := w.d0; ⟨cs, e _ _ h, r⟩
  tb := w.tb.ext gg e
  tm := w.tm
  gn := fun a ha => by
    cases q : G' a with
    | none => rfl
    | some o =>
      rcases nw a (by rw [q]; simp) with z | z
      · exact absurd (w.gn a ha) z
      · exact absurd z (w.mutDom ha)
/-- heaps that only grow -/
theorem Post.grow (p : Pre θ δ m G H) (gg : Same G G') (gh : Same G' H') (e : Same H H') (nw : ∀ a, G' a ≠ none → G a ≠ none ∨ H a = none) (nt : ∀ a ps, G' a = some (.tbl ps) → G a = some (.tbl ps)) : Post θ δ m G H G' H' :=
  ⟨gg, gh, nw, nt, fun a o h _ => e a o h, fun a h => by
    cases q : H a with
    | none => exact absurd q h
    | some o => rw [e a o q]; simp, fun hm => (p.wd hm).grow gg e nw⟩
theorem Post.same (p : Pre θ δ m G H) (e : Same H H') : Post θ δ m G H G H' :=
  .grow p (Same.refl _) (p.gh.trans e) e (fun _ h => .inl h) fun _ _ h => h
theorem Same.upd {a : Addr} {o : HO} (h : H a = none) : Same H (upd H a o) := fun b u e => by
  rw [upd_ne (ne_of_none e h)]
  exact e
theorem Same.upd2 {a : Addr} {o : HO} (g : Same G H) : Same (L2.upd G a o) (L2.upd H a o) := fun b u e => by
  by_cases hb : b = a
  · subst hb
    rw [upd_same] at e ⊢
    exact e
  · rw [upd_ne hb] at e ⊢
    exact g b u e
theorem Pre.gnone (p : Pre θ δ m G H) {a : Addr} (h : H a = none) : G a = none := p.gh.free h
theorem Post.new (p : Pre θ δ m G H) {a : Addr} {o : HO} (h : H a = none) (ho : ∀ ps, o ≠ .tbl ps) : Post θ δ m G H (upd G a o) (upd H a o) := by
  refine .grow p (Same.upd (p.gnone h)) (Same.upd2 p.gh) (Same.upd h) (fun b hb => ?_) fun b ps hb => ?_
  · by_cases e : b = a
    · exact .inr (by rw [e]; exact h)
    · rw [upd_ne e] at hb
      exact .inl hb
  · by_cases e : b = a
    · rw [e, upd_same] at hb
      exact absurd (Option.some.inj hb) (ho ps)
    · rw [upd_ne e] at hb
      exact hb
end

/-! ### another base -/
section
variable {θ : Th} {δ δ' : Dl} {m : Bool} {G H G' H' : Hp}
mutual
theorem R.base (e : δ.d = δ'.d) : ∀ {v : V} {d : D}, R θ δ G v d → R θ δ' G v d
  | _, _, .non => .non
  | _, _, .bl b => .bl b
  | _, _, .int i => .int i
  | _, _, .str x => .str x
  | _, _, .ty n => .ty n
  | _, _, .self p => .self p
  | _, _, .scr h => .scr h
  | _, _, .lst h r => .lst h (RA.base e r)
  | _, _, .tup h r => .tup h (RA.base e r)
  | _, _, .bud h1 h2 h3 h4 h5 h6 => .bud h1 h2 h3 h4 h5 h6
  | _, _, .deal => by rw [e]; exact .deal
  | _, _, .edict h => .edict h
  | _, _, .lam h1 h2 => .lam h1 h2
theorem RA.base (e : δ.d = δ'.d) : ∀ {vs : List V} {ds : List D}, RA θ δ G vs ds → RA θ δ' G vs ds
  | _, _, .nil => .nil
  | _, _, .cons h r => .cons (R.base e h) (RA.base e r)
end
theorem Mut.base (e : δ.d = δ'.d) (e0 : δ.d0 = δ'.d0) {a : Addr} (h : Mut θ δ a) : Mut θ δ' a := by
  unfold Mut at h ⊢
  rw [← e, ← e0]
  exact h
theorem Wld.base (e : δ.d = δ'.d) (e0 : δ.d0 = δ'.d0) (w : Wld θ δ G H) : Wld θ δ' G H where
  ne := by rw [← e, ← e0]; exact w.ne
  dl := by rw [← e, ← e0]; exact w.dl
  d0 := by rw [← e0]; exact w.d0
  tb := w.tb
  tm := by rw [← e, ← e0]; exact w.tm
  gn := fun a h => w.gn a (h.base e.symm e0.symm)
theorem Pre.base (e : δ.d = δ'.d) (e0 : δ.d0 = δ'.d0) (p : Pre θ δ m G H) : Pre θ δ' m G H := ⟨p.gh, p.nt, fun z => (p.wd z).base e e0⟩
theorem Post.base (e : δ.d = δ'.d) (e0 : δ.d0 = δ'.d0) (p : Post θ δ m G H G' H') : Post θ δ' m G H G' H' :=
  ⟨p.gg, p.gh, p.nw, p.nt, fun a o h k => p.fr a o h fun z q => k z (q.base e e0), p.dm, fun z => (p.wd z).base e e0⟩
end

/-! ### what the names hold -/
inductive Sl where
  | dat (d : D)
  | own (ds : List D)
abbrev Rho := List (Option Sl)
def noOwn (ρ : Rho) : Bool := ρ.all fun s => match s with | some (.own _) => false | _ => true
theorem set_cases {α : Type} {l : List (Option α)} {i j : Nat} {x y : Option α} (h : (l.set i x)[j]? = some y) : (i = j ∧ y = x ∧ i < l.length) ∨ (i ≠ j ∧ l[j]? = some y) := by
  by_cases e : i = j
  · subst e
    by_cases hl : i < l.length
    · rw [List.getElem?_set_self hl] at h
      exact .inl ⟨rfl, (Option.some.inj h).symm, hl⟩
    · rw [List.getElem?_eq_none (by simpa using hl)] at h; cases h
  · rw [List.getElem?_set_ne e] at h
    exact .inr ⟨e, h⟩
structure RS (θ : Th) (δ : Dl) (m : Bool) (G H : Hp) (σ : L2.St) (ρ : Rho) : Prop where
  len : σ.length = ρ.length
  dat : ∀ (i : Nat) (d : D), ρ[i]? = some (some (Sl.dat d)) → ∃ v, σ[i]? = some (some v) ∧ R θ δ G v d
  own : ∀ (i : Nat) (ds : List D), ρ[i]? = some (some (Sl.own ds)) → ∃ (a : Addr) (xs : List V), σ[i]? = some (some (V.ref a)) ∧ H a = some (.lst xs) ∧ G a = none ∧ RA θ δ G xs ds ∧ (m = true → ¬ Mut θ δ a) ∧ δ.b a = none
  one : ∀ (i j : Nat) (ds es : List D), ρ[i]? = some (some (Sl.own ds)) → ρ[j]? = some (some (Sl.own es)) → i = j

section
variable {θ : Th} {δ : Dl} {m : Bool} {G G' H H' : Hp} {σ : L2.St} {ρ : Rho}
theorem RS.post (r : RS θ δ m G H σ ρ) (q : Post θ δ m G H G' H') : RS θ δ m G' H' σ ρ where
  len := r.len
  dat := fun i d h => let ⟨v, h1, h2⟩ := r.dat i d h; ⟨v, h1, h2.mono q.gg⟩
  own := fun i ds h => by
    obtain ⟨a, xs, h1, h2, h3, h4, h5, h6⟩ := r.own i ds h
    refine ⟨a, xs, h1, q.fr a _ h2 h5, ?_, h4.mono q.gg, h5, h6⟩
    cases e : G' a with
    | none => rfl
    | some o =>
      rcases q.nw a (by rw [e]; simp) with z | z
      · exact absurd h3 z
      · rw [h2] at z; cases z
  one := r.one
theorem RS.set (r : RS θ δ m G H σ ρ) {v : V} {d : D} (h : R θ δ G v d) (i : Nat) : RS θ δ m G H (σ.set i (some v)) (ρ.set i (some (.dat d))) where
  len := by simp [r.len]
  dat := fun j e hj => by
    rcases set_cases hj with ⟨rfl, e1, hl⟩ | ⟨n, hj⟩
    · cases e1
      exact ⟨v, List.getElem?_set_self (by rw [r.len]; exact hl), h⟩
    · rw [List.getElem?_set_ne n]
      exact r.dat j e hj
  own := fun j e hj => by
    rcases set_cases hj with ⟨rfl, e1, hl⟩ | ⟨n, hj⟩
    · cases e1
    · rw [List.getElem?_set_ne n]
      exact r.own j e hj
  one := fun a b ds es ha hb => by
    rcases set_cases ha with ⟨_, e1, _⟩ | ⟨_, ha⟩
    · cases e1
    rcases set_cases hb with ⟨_, e1, _⟩ | ⟨_, hb⟩
    · cases e1
    exact r.one a b ds es ha hb
theorem RS.forget (r : RS θ δ m G H σ ρ) (i : Nat) : RS θ δ m G H (σ.set i none) (ρ.set i none) where
  len := by simp [r.len]
  dat := fun j e hj => by
    rcases set_cases hj with ⟨rfl, e1, hl⟩ | ⟨n, hj⟩
    · cases e1
    · rw [List.getElem?_set_ne n]
      exact r.dat j e hj
  own := fun j e hj => by
    rcases set_cases hj with ⟨rfl, e1, hl⟩ | ⟨n, hj⟩
    · cases e1
    · rw [List.getElem?_set_ne n]
      exact r.own j e hj
  one := fun a b ds es ha hb => by
    rcases set_cases ha with ⟨_, e1, _⟩ | ⟨_, ha⟩
    · cases e1
    rcases set_cases hb with ⟨_, e1, _⟩ | ⟨_, hb⟩
    · cases e1
    exact r.one a b ds es ha hb
/-- knowing less -/
theorem RS.weak (r : RS θ δ m G H σ ρ) (i : Nat) : RS θ δ m G H σ (ρ.set i none) where
  len := by simp [r.len]
  dat := fun j e hj => by
    rcases set_cases hj with ⟨rfl, e1, hl⟩ | ⟨n, hj⟩
    · cases e1
    · exact r.dat j e hj
  own := fun j e hj => by
    rcases set_cases hj with ⟨rfl, e1, hl⟩ | ⟨n, hj⟩
    · cases e1
    · exact r.own j e hj
  one := fun a b ds es ha hb => by
    rcases set_cases ha with ⟨_, e1, _⟩ | ⟨_, ha⟩
    · cases e1
    rcases set_cases hb with ⟨_, e1, _⟩ | ⟨_, hb⟩
    · cases e1
    exact r.one a b ds es ha hb
def wipeR (ρ : Rho) : List Nat → Rho
  | [] => ρ
  | v :: vs => (wipeR ρ vs).set v none
theorem RS.wipe (r : RS θ δ m G H σ ρ) : ∀ vs : List Nat, RS θ δ m G H (L2.wipe σ vs) (wipeR ρ vs)
  | [] => r
  | v :: vs => (RS.wipe r vs).forget v
theorem noOwn_none (h : noOwn ρ = true) {i : Nat} {ds : List D} : ρ[i]? ≠ some (some (.own ds)) := fun e => by
  unfold noOwn at h
  have := List.all_eq_true.mp h _ (List.mem_of_getElem? e)
  simp at this
/-- a new list of one's own in slot i -/
theorem RS.setOwn (r : RS θ δ m G H σ ρ) {i : Nat} (hn : noOwn (ρ.set i none) = true) {a : Addr} {xs : List V} {ds : List D} (hH : H a = some (.lst xs)) (hG : G a = none) (hr : RA θ δ G xs ds) (hm : m = true → ¬ Mut θ δ a) (hb : δ.b a = none) :
    RS θ δ m G H (σ.set i (some (.ref a))) (ρ.set i (some (.own ds))) where
  len := by simp [r.len]
  dat := fun j e hj => by
    rcases set_cases hj with ⟨rfl, e1, hl⟩ | ⟨n, hj⟩
    · cases e1
    · rw [List.getElem?_set_ne n]
      exact r.dat j e hj
  own := fun j e hj => by
    rcases set_cases hj with ⟨rfl, e1, hl⟩ | ⟨n, hj⟩
    · cases e1
      exact ⟨a, xs, List.getElem?_set_self (by rw [r.len]; exact hl), hH, hG, hr, hm, hb⟩
    · have : (ρ.set i none)[j]? = some (some (.own e)) := by rw [List.getElem?_set_ne n]; exact hj
      exact absurd this (noOwn_none hn)
  one := fun x y ds' es hx hy => by
    have key : ∀ z fs, (ρ.set i (some (Sl.own ds)))[z]? = some (some (.own fs)) → i = z := fun z fs hz => by
      rcases set_cases hz with ⟨h1, _, _⟩ | ⟨n, hz⟩
      · exact h1
      · have : (ρ.set i none)[z]? = some (some (.own fs)) := by rw [List.getElem?_set_ne n]; exact hz
        exact absurd this (noOwn_none hn)
    exact (key x _ hx).symm.trans (key y _ hy)
end
end B
set_option Elab.async false
set_option autoImplicit false
set_option linter.all false
set_option maxRecDepth 100000
set_option maxHeartbeats 2000000
namespace B
open PySem PySem.Spec PyProof.Rows L2

/-! ### the widest reading of each piece of syntax -/
def bE (X : Cx) (e : Expr) : TE := fun σ H Q => ∃ t, PE X e t ∧ t σ H Q
theorem pe_b (X : Cx) (e : Expr) : PE X e (bE X e) := ⟨fun pins s σ H Q I h => let ⟨_, p, q⟩ := h; p.run pins s σ H Q I q⟩
def bT (X : Cx) (e : Expr) : TT := fun σ H Q => ∃ t, PT X e t ∧ t σ H Q
theorem pt_b (X : Cx) (e : Expr) : PT X e (bT X e) := ⟨fun pins s σ H Q I h => let ⟨_, p, q⟩ := h; p.run pins s σ H Q I q⟩
def bW (X : Cx) (e : Expr) : TT := fun σ H Q => ∃ t, PW X e t ∧ t σ H Q
theorem pw_b (X : Cx) (e : Expr) : PW X e (bW X e) := ⟨fun wh pins s σ H Q I h => let ⟨_, p, q⟩ := h; p.run wh pins s σ H Q I q⟩
def bA (X : Cx) (es : List Expr) : TA := fun σ H Q => ∃ t, PA X es t ∧ t σ H Q
theorem pa_b (X : Cx) (es : List Expr) : PA X es (bA X es) := ⟨fun pos pins s σ H Q I h => let ⟨_, p, q⟩ := h; p.run pos pins s σ H Q I q⟩
def bI (X : Cx) (tg iter : Expr) : TI := fun σ H Rk => ∃ wi, PI X tg iter wi ∧ wi σ H Rk
theorem pi_b (X : Cx) (tg iter : Expr) : PI X tg iter (bI X tg iter) := ⟨fun pins s σ H Rk I h => let ⟨_, p, q⟩ := h; p.run pins s σ H Rk I q⟩
def bG (X : Cx) (tg : Expr) : TG := fun v σ H Q => ∃ t, PG X tg t ∧ t v σ H Q
theorem pg_b (X : Cx) (tg : Expr) : PG X tg (bG X tg) := ⟨fun pins s σ H v u Q I r h => let ⟨_, p, q⟩ := h; p.run pins s σ H v u Q I r q⟩
def bS1 (X : Cx) (st : Stmt) : TS := fun D σ H => ∃ t, PS X st t ∧ t D σ H
theorem ps_b (X : Cx) (st : Stmt) : PS X st (bS1 X st) := ⟨fun pins s σ H D I h => let ⟨_, p, q⟩ := h; p.run pins s σ H D I q⟩
def bS (X : Cx) (st : List Stmt) : TS := fun D σ H => ∃ t, PSs X st t ∧ t D σ H
theorem pss_b (X : Cx) (st : List Stmt) : PSs X st (bS X st) := ⟨fun pins s σ H D I h => let ⟨_, p, q⟩ := h; p.run pins s σ H D I q⟩
def bF (X : Cx) (ifs : List Expr) : TT := fun σ H Q => ∃ t, PTs X ifs t ∧ t σ H Q
theorem pts_b (X : Cx) (ifs : List Expr) : PTs X ifs (bF X ifs) := ⟨fun pins s σ H Q I h => let ⟨_, p, q⟩ := h; p.run pins s σ H Q I q⟩

/-! ### the judgements -/
abbrev Is (d : D) : D → Prop := fun e => e = d
section
variable (θ : Th) (δ : Dl) (m : Bool)
def JE (X : Cx) (ρ : Rho) (e : Expr) (Φ : D → Prop) : Prop :=
  ∀ (σ : L2.St) (G H : Hp), RS θ δ m G H σ ρ → Pre θ δ m G H → ∀ Q : VK, (∀ v d G' H', Post θ δ m G H G' H' → Φ d → R θ δ G' v d → Q v H') → bE X e σ H Q
/-- .. that may raise: Ψ of the class and the number, E what is wished of what is raised -/
def JX (X : Cx) (E : XK) (ρ : Rho) (e : Expr) (Φ : D → Prop) (Ψ : EC → Int → Prop) : Prop :=
  ∀ (σ : L2.St) (G H : Hp), RS θ δ m G H σ ρ → Pre θ δ m G H → ∀ Q : VK, (∀ v d G' H', Post θ δ m G H G' H' → Φ d → R θ δ G' v d → Q v H') →
    (∀ c n dx G' H', Post θ δ m G H G' H' → Ψ c n → H' dx = some (.xd [(("at" : Str), .int n)]) → E (.ref (θ.cls c)) (some dx) H') → bE X e σ H Q
def JT (X : Cx) (ρ : Rho) (e : Expr) (β : Bool → Prop) : Prop :=
  ∀ (σ : L2.St) (G H : Hp), RS θ δ m G H σ ρ → Pre θ δ m G H → ∀ Q : Bool → Hp → Prop, (∀ b G' H', Post θ δ m G H G' H' → β b → Q b H') → bT X e σ H Q
def JW (X : Cx) (ρ : Rho) (e : Expr) (β : Bool → Prop) : Prop :=
  ∀ (σ : L2.St) (G H : Hp), RS θ δ m G H σ ρ → Pre θ δ m G H → ∀ Q : Bool → Hp → Prop, (∀ b G' H', Post θ δ m G H G' H' → β b → Q b H') → bW X e σ H Q
def JF (X : Cx) (ρ : Rho) (ifs : List Expr) (β : Bool → Prop) : Prop :=
  ∀ (σ : L2.St) (G H : Hp), RS θ δ m G H σ ρ → Pre θ δ m G H → ∀ Q : Bool → Hp → Prop, (∀ b G' H', Post θ δ m G H G' H' → β b → Q b H') → bF X ifs σ H Q
def JA (X : Cx) (ρ : Rho) (es : List Expr) (Φ : List D → Prop) : Prop :=
  ∀ (σ : L2.St) (G H : Hp), RS θ δ m G H σ ρ → Pre θ δ m G H → ∀ Q : List V → Hp → Prop, (∀ vs ds G' H', Post θ δ m G H G' H' → Φ ds → RA θ δ G' vs ds → Q vs H') → bA X es σ H Q
/-- what an iterator gives: the data src, one a turn; a pair in a new tuple, or the thing itself -/
def YD (G : Hp) (src : List D) (i : Nat) (H : Hp) (x : V) (H' : Hp) : Prop :=
  ∃ d, src[i]? = some d ∧ ((H' = H ∧ R θ δ G x d) ∨ ∃ T xs ds, H T = none ∧ x = .ref T ∧ H' = L2.upd H T (.tup xs) ∧ RA θ δ G xs ds ∧ d = .tup ds)
def JI (X : Cx) (ρ : Rho) (tg iter : Expr) (S : List D → Prop) : Prop :=
  ∀ (σ : L2.St) (G H : Hp), RS θ δ m G H σ ρ → Pre θ δ m G H → ∀ Rk : It → Hp → Prop,
    (∀ J src G' H', Post θ δ m G H G' H' → S src → Walk J src.length (fun H1 => Same G' H1) (YD θ δ G' src) → Rk J H') → bI X tg iter σ H Rk
def JG (X : Cx) (tg : Expr) (act : D → Rho → Rho → Prop) : Prop :=
  ∀ (v : V) (d : D) (σ : L2.St) (ρ : Rho) (G H : Hp), R θ δ G v d → RS θ δ m G H σ ρ → Pre θ δ m G H → ∀ Q : L2.St → Hp → Prop, (∃ ρ', act d ρ ρ') → (∀ σ' ρ', act d ρ ρ' → RS θ δ m G H σ' ρ' → Q σ' H) → bG X tg v σ H Q

structure Outs where
  nx : Rho → Prop
  rt : D → Prop
  bk : Rho → Prop := fun _ => False
  ct : Rho → Prop := fun _ => False
  ex : EC → Int → Prop := fun _ _ => False
structure StOk (G0 H0 : Hp) (ρ : Rho) (σ : L2.St) (G H : Hp) : Prop where
  rs : RS θ δ m G H σ ρ
  pre : Pre θ δ m G H
  post : Post θ δ m δ.g δ.b G H
  up : Same G0 G
structure EndsOk (E : XK) (O : Outs) (G0 H0 : Hp) (D0 : Ends) : Prop where
  nx : ∀ ρ σ G H, O.nx ρ → StOk θ δ m G0 H0 ρ σ G H → D0.nx σ H
  rt : ∀ v d G H, O.rt d → Post θ δ m δ.g δ.b G H → R θ δ G v d → D0.rt v H
  bk : ∀ ρ σ G H, O.bk ρ → StOk θ δ m G0 H0 ρ σ G H → D0.bk σ H
  ct : ∀ ρ σ G H, O.ct ρ → StOk θ δ m G0 H0 ρ σ G H → D0.ct σ H
  ex : ∀ c n dx G H, O.ex c n → Post θ δ m δ.g δ.b G H → H dx = some (.xd [(("at" : Str), .int n)]) → E (.ref (θ.cls c)) (some dx) H
def JS (X : Cx) (E : XK) (ρ : Rho) (st : List Stmt) (O : Outs) : Prop :=
  ∀ (G0 H0 : Hp) (σ : L2.St) (G H : Hp), StOk θ δ m G0 H0 ρ σ G H → ∀ D0 : Ends, EndsOk θ δ m E O G0 H0 D0 → bS X st D0 σ H
def JS1 (X : Cx) (E : XK) (ρ : Rho) (st : Stmt) (O : Outs) : Prop :=
  ∀ (G0 H0 : Hp) (σ : L2.St) (G H : Hp), StOk θ δ m G0 H0 ρ σ G H → ∀ D0 : Ends, EndsOk θ δ m E O G0 H0 D0 → bS1 X st D0 σ H
/-- a two-place operation, a call, on data -/
def OpD (r : R2) (A C Φ : D → Prop) : Prop := ∀ (x y : V) (da db : D) (G H : Hp), A da → C db → R θ δ G x da → R θ δ G y db → Pre θ δ m G H →
  ∀ Q : VK, (∀ v d G' H', Post θ δ m G H G' H' → Φ d → R θ δ G' v d → Q v H') → r x y H Q
def UnD (r : V → Hp → VK → Prop) (A Φ : D → Prop) : Prop := ∀ (x : V) (da : D) (G H : Hp), A da → R θ δ G x da → Pre θ δ m G H →
  ∀ Q : VK, (∀ v d G' H', Post θ δ m G H G' H' → Φ d → R θ δ G' v d → Q v H') → r x H Q
def CaD (r : List V → Hp → VK → Prop) (A : List D → Prop) (Φ : D → Prop) : Prop := ∀ (xs : List V) (ds : List D) (G H : Hp), A ds → RA θ δ G xs ds → Pre θ δ m G H →
  ∀ Q : VK, (∀ v d G' H', Post θ δ m G H G' H' → Φ d → R θ δ G' v d → Q v H') → r xs H Q
end

section
variable {θ : Th} {δ : Dl} {m : Bool} {X : Cx} {E : XK} {ρ : Rho} {a b c e : Expr} {es : List Expr} {Φ Φ' A C : D → Prop} {β β' : Bool → Prop} {pos : Pos}
theorem JE.mono (h : JE θ δ m X ρ e Φ) (k : ∀ d, Φ d → Φ' d) : JE θ δ m X ρ e Φ' := fun σ G H r p Q q => h σ G H r p Q fun v d G' H' po f rv => q v d G' H' po (k d f) rv
theorem JT.mono (h : JT θ δ m X ρ e β) (k : ∀ d, β d → β' d) : JT θ δ m X ρ e β' := fun σ G H r p Q q => h σ G H r p Q fun b G' H' po f => q b G' H' po (k b f)
theorem JE.jx {Ψ : EC → Int → Prop} (h : JE θ δ m X ρ e Φ) : JX θ δ m X E ρ e Φ Ψ := fun σ G H r p Q q _ => h σ G H r p Q q
theorem JX.mono {Ψ Ψ' : EC → Int → Prop} (h : JX θ δ m X E ρ e Φ Ψ) (k : ∀ d, Φ d → Φ' d) (k2 : ∀ c n, Ψ c n → Ψ' c n) : JX θ δ m X E ρ e Φ' Ψ' := fun σ G H r p Q q q2 => h σ G H r p Q (fun v d G' H' po f rv => q v d G' H' po (k d f) rv) fun c n dx G' H' po f => q2 c n dx G' H' po (k2 c n f)

/-! #### names, constants -/
theorem je_var (i : Nat) {d : D} {x : Str} (h : ρ[i]? = some (some (.dat d)) := by rfl) (hN : X.N[i]? = some x := by rfl) (hv : Vis X.env.scope x := by first | exact Or.inl rfl | exact Or.inr (Or.inl rfl) | exact Or.inr (Or.inr rfl))
    (hd : (x == ("__debug__" : Str)) = false := by decide) (hcd : (x == ("__classdict__" : Str)) = false := by decide) : JE θ δ m X ρ (.Name x pos) (Is d) := fun σ G H r p Q q => by
  obtain ⟨v, e, rv⟩ := r.dat i d h
  exact ⟨_, pe_var hN hv hd hcd, v, e, q v d G H (.refl p) rfl rv⟩
theorem je_int {i : Int} {j : Nat} : JE θ δ m X ρ (.Constant (.int i) j pos) (Is (.int i)) := fun σ G H r p Q q => ⟨_, pe_int, q _ _ G H (.refl p) rfl (.int i)⟩
theorem je_bl {b : Bool} {j : Nat} : JE θ δ m X ρ (.Constant (.bool b) j pos) (Is (.bl b)) := fun σ G H r p Q q => ⟨_, pe_bl, q _ _ G H (.refl p) rfl (.bl b)⟩
theorem je_non {j : Nat} : JE θ δ m X ρ (.Constant .none j pos) (Is .non) := fun σ G H r p Q q => ⟨_, pe_non, q _ _ G H (.refl p) rfl .non⟩
theorem je_str {x : Str} {j : Nat} : JE θ δ m X ρ (.Constant (.str x) j pos) (Is (.str x)) := fun σ G H r p Q q => ⟨_, pe_str, q _ _ G H (.refl p) rfl (.str x)⟩

/-! #### operators -/
theorem j_two (ha : JE θ δ m X ρ a A) (hb : JE θ δ m X ρ b C) {r : R2} (hr : OpD θ δ m r A C Φ) {σ : L2.St} {G H : Hp} (rs : RS θ δ m G H σ ρ) (p : Pre θ δ m G H) {Q : VK} (q : ∀ v d G' H', Post θ δ m G H G' H' → Φ d → R θ δ G' v d → Q v H') :
    tOp r (bE X a) (bE X b) σ H Q :=
  ha σ G H rs p _ fun x da G1 H1 p1 fa rx => hb σ G1 H1 (rs.post p1) (p1.pre p) _ fun y db G2 H2 p2 fb ry =>
    hr x y da db G2 H2 fa fb (rx.mono p2.gg) ry (p2.pre (p1.pre p)) Q fun v d G' H' p3 f rv => q v d G' H' ((p1.trans p2).trans p3) f rv
theorem je_bin {op : Operator} {r : R2} (ho : OpR X (binaryOp op) r) (ha : JE θ δ m X ρ a A) (hb : JE θ δ m X ρ b C) (hr : OpD θ δ m r A C Φ) : JE θ δ m X ρ (.BinOp a op b pos) Φ := fun σ G H rs p Q q =>
  ⟨_, pe_op ho (pe_b X a) (pe_b X b), j_two ha hb hr rs p q⟩
theorem je_cmp {op : CmpOp} {r : R2} (ho : OpR X (compareOp op) r) (hm : behindInMarks op b = false) (ha : JE θ δ m X ρ a A) (hb : JE θ δ m X ρ b C) (hr : OpD θ δ m r A C Φ) : JE θ δ m X ρ (.Compare a [op] [b] pos) Φ := fun σ G H rs p Q q =>
  ⟨_, pe_cmpR ho (pe_b X a) (pe_b X b) hm, j_two ha hb hr rs p q⟩
abbrev Bp (β : Bool → Prop) : D → Prop := fun d => ∃ b, d = .bl b ∧ β b
theorem jt_cmp {op : CmpOp} {r : R2} (ho : OpR X (compareOp op) r) (hm : behindInMarks op b = false) (ha : JE θ δ m X ρ a A) (hb : JE θ δ m X ρ b C) (hr : OpD θ δ m r A C (Bp β)) : JT θ δ m X ρ (.Compare a [op] [b] pos) β := fun σ G H rs p Q q =>
  ⟨_, pt_cmpR ho (pe_b X a) (pe_b X b) hm, j_two ha hb hr rs p fun v d G' H' po f rv => by
    obtain ⟨k, rfl, hk⟩ := f
    cases rv
    exact ⟨k, rfl, q k G' H' po hk⟩⟩
theorem jt_val (h : JE θ δ m X ρ e (Bp β)) (he : ∀ whole, isTrue e X.env whole = (do let v ← whole; standAt e.pos; holding [v] (truthy v)) := by intro _; rfl) : JT θ δ m X ρ e β := fun σ G H rs p Q q =>
  ⟨_, pt_val (pe_b X e) he, h σ G H rs p _ fun v d G' H' po f rv => by
    obtain ⟨k, rfl, hk⟩ := f
    cases rv
    exact ⟨k, rfl, q k G' H' po hk⟩⟩
theorem jt_pw (h : JW θ δ m X ρ e β) : JT θ δ m X ρ e β := fun σ G H rs p Q q => ⟨_, PW.pt (pw_b X e), h σ G H rs p Q q⟩
theorem jt_not (h : JT θ δ m X ρ a β) : JT θ δ m X ρ (.UnaryOp .Not a pos) (fun k => β (!k)) := fun σ G H rs p Q q =>
  ⟨_, pt_not (pt_b X a), h σ G H rs p _ fun b G' H' po f => q (!b) G' H' po (by simpa using f)⟩
theorem jw_and1 (h : JT θ δ m X ρ a β) : JW θ δ m X ρ (.BoolOp .And [a] pos) β := fun σ G H rs p Q q => ⟨_, pw_and1 (pt_b X a), h σ G H rs p Q q⟩
theorem jw_or1 (h : JT θ δ m X ρ a β) : JW θ δ m X ρ (.BoolOp .Or [a] pos) β := fun σ G H rs p Q q => ⟨_, pw_or1 (pt_b X a), h σ G H rs p Q q⟩
theorem jw_and {rest : List Expr} (h : JT θ δ m X ρ a β) (h2 : β true → JW θ δ m X ρ (.BoolOp .And (b :: rest) pos) β') (hf : β false → β' false) : JW θ δ m X ρ (.BoolOp .And (a :: b :: rest) pos) β' := fun σ G H rs p Q q =>
  ⟨_, pw_and (pt_b X a) (pw_b X _), h σ G H rs p _ fun k G1 H1 p1 f => by
    cases k with
    | true => exact iteT (h2 f σ G1 H1 (rs.post p1) (p1.pre p) Q fun b G' H' p2 f2 => q b G' H' (p1.trans p2) f2)
    | false => exact iteF (q false G1 H1 p1 (hf f))⟩
theorem jw_or {rest : List Expr} (h : JT θ δ m X ρ a β) (h2 : β false → JW θ δ m X ρ (.BoolOp .Or (b :: rest) pos) β') (hf : β true → β' true) : JW θ δ m X ρ (.BoolOp .Or (a :: b :: rest) pos) β' := fun σ G H rs p Q q =>
  ⟨_, pw_or (pt_b X a) (pw_b X _), h σ G H rs p _ fun k G1 H1 p1 f => by
    cases k with
    | false => exact iteF (h2 f σ G1 H1 (rs.post p1) (p1.pre p) Q fun b G' H' p2 f2 => q b G' H' (p1.trans p2) f2)
    | true => exact iteT (q true G1 H1 p1 (hf f))⟩
/-- as values -/
theorem je_and1 {op : BoolOp} (h : JE θ δ m X ρ a Φ) : JE θ δ m X ρ (.BoolOp op [a] pos) Φ := fun σ G H rs p Q q => ⟨_, pe_one (pe_b X a), h σ G H rs p Q q⟩
theorem je_and {rest : List Expr} (h : JE θ δ m X ρ a (Bp β)) (h2 : β true → JE θ δ m X ρ (.BoolOp .And (b :: rest) pos) Φ) (hf : β false → Φ (.bl false)) : JE θ δ m X ρ (.BoolOp .And (a :: b :: rest) pos) Φ := fun σ G H rs p Q q =>
  ⟨_, pe_and (pe_b X a) (pe_b X _), h σ G H rs p _ fun v d G1 H1 p1 f rv => by
    obtain ⟨k, rfl, hk⟩ := f
    cases rv
    refine ⟨k, rfl, ?_⟩
    cases k with
    | true => exact iteT (h2 hk σ G1 H1 (rs.post p1) (p1.pre p) Q fun v d G' H' p2 f2 => q v d G' H' (p1.trans p2) f2)
    | false => exact iteF (q _ _ G1 H1 p1 (hf hk) (.bl false))⟩
theorem je_or {rest : List Expr} (h : JE θ δ m X ρ a (Bp β)) (h2 : β false → JE θ δ m X ρ (.BoolOp .Or (b :: rest) pos) Φ) (hf : β true → Φ (.bl true)) : JE θ δ m X ρ (.BoolOp .Or (a :: b :: rest) pos) Φ := fun σ G H rs p Q q =>
  ⟨_, pe_or (pe_b X a) (pe_b X _), h σ G H rs p _ fun v d G1 H1 p1 f rv => by
    obtain ⟨k, rfl, hk⟩ := f
    cases rv
    refine ⟨k, rfl, ?_⟩
    cases k with
    | false => exact iteF (h2 hk σ G1 H1 (rs.post p1) (p1.pre p) Q fun v d G' H' p2 f2 => q v d G' H' (p1.trans p2) f2)
    | true => exact iteT (q _ _ G1 H1 p1 (hf hk) (.bl true))⟩
theorem je_not (h : JE θ δ m X ρ a (Bp β)) : JE θ δ m X ρ (.UnaryOp .Not a pos) (Bp fun k => β (!k)) := fun σ G H rs p Q q =>
  ⟨_, pe_not (pe_b X a), h σ G H rs p _ fun v d G' H' po f rv => by
    obtain ⟨k, rfl, hk⟩ := f
    cases rv
    exact ⟨k, rfl, q _ _ G' H' po ⟨!k, rfl, by simpa using hk⟩ (.bl _)⟩⟩
theorem je_if (h : JT θ δ m X ρ c β) (h1 : β true → JE θ δ m X ρ a Φ) (h2 : β false → JE θ δ m X ρ b Φ) : JE θ δ m X ρ (.IfExp c a b pos) Φ := fun σ G H rs p Q q =>
  ⟨_, pe_ifExp (pt_b X c) (pe_b X a) (pe_b X b), h σ G H rs p _ fun k G1 H1 p1 f => by
    cases k with
    | true => exact iteT (h1 f σ G1 H1 (rs.post p1) (p1.pre p) Q fun v d G' H' p2 f2 => q v d G' H' (p1.trans p2) f2)
    | false => exact iteF (h2 f σ G1 H1 (rs.post p1) (p1.pre p) Q fun v d G' H' p2 f2 => q v d G' H' (p1.trans p2) f2)⟩
theorem je_un {op : UnaryOp} {r : V → Hp → VK → Prop} (ho : UnR X (unaryOp op) r) (h : JE θ δ m X ρ a A) (hr : UnD θ δ m r A Φ) : JE θ δ m X ρ (.UnaryOp op a pos) Φ := fun σ G H rs p Q q =>
  ⟨_, pe_un ho (pe_b X a), h σ G H rs p _ fun v d G1 H1 p1 f rv => hr v d G1 H1 f rv (p1.pre p) Q fun v d G' H' p2 f2 => q v d G' H' (p1.trans p2) f2⟩

/-! #### arguments, displays -/
theorem ja_nil : JA θ δ m X ρ [] (fun ds => ds = []) := fun σ G H rs p Q q => ⟨_, pa_nil, q [] [] G H (.refl p) rfl .nil⟩
theorem ja_cons {Θ : List D → Prop} (h : JE θ δ m X ρ e A) (hr : JA θ δ m X ρ es Θ) (hs : starEach (e :: es) X.env = (false, eval e X.env) :: starEach es X.env := by rfl) : JA θ δ m X ρ (e :: es) (fun ds => ∃ d r, ds = d :: r ∧ A d ∧ Θ r) := fun σ G H rs p Q q =>
  ⟨_, pa_cons (pe_b X e) (pa_b X es) hs, h σ G H rs p _ fun v d G1 H1 p1 f rv => hr σ G1 H1 (rs.post p1) (p1.pre p) _ fun vs ds G' H' p2 f2 rvs =>
    q _ _ G' H' (p1.trans p2) ⟨d, ds, rfl, f, f2⟩ (.cons (rv.mono p2.gg) rvs)⟩
theorem JA.mono {Θ Θ' : List D → Prop} (h : JA θ δ m X ρ es Θ) (k : ∀ ds, Θ ds → Θ' ds) : JA θ δ m X ρ es Θ' := fun σ G H r p Q q => h σ G H r p Q fun v d G' H' po f rv => q v d G' H' po (k d f) rv
/-- of known data -/
theorem ja_1 {d : D} (h : JE θ δ m X ρ e (Is d)) {ds : List D} (hr : JA θ δ m X ρ es (fun r => r = ds)) (hs : starEach (e :: es) X.env = (false, eval e X.env) :: starEach es X.env := by rfl) : JA θ δ m X ρ (e :: es) (fun r => r = d :: ds) := (ja_cons h hr hs).mono fun _ ⟨_, _, e1, e2, e3⟩ => by rw [e1, e2, e3]
theorem j_tup {Θ : List D → Prop} {k1 : Nat} (h : JA θ δ m X ρ es Θ) (hz : ∀ ds, Θ ds → ds.length ≤ 100000) (k : ∀ ds, Θ ds → Φ (.tup ds)) : JE θ δ m X ρ (.Tuple es k1 pos) Φ := fun σ G H rs p Q q =>
  ⟨_, pe_tup (pa_b X es), h σ G H rs p _ fun vs ds G1 H1 p1 f rv => ⟨by have := rv.length; have := hz ds f; rw [sizeLine_eq]; omega, fun a ha =>
    q (.ref a) (.tup ds) _ _ (p1.trans (.new (p1.pre p) ha fun ps z => by cases z)) (k ds f) (.tup upd_same (rv.mono (Same.upd ((p1.pre p).gnone ha))))⟩⟩
theorem j_lst {Θ : List D → Prop} (h : JA θ δ m X ρ es Θ) (hz : ∀ ds, Θ ds → ds.length ≤ 100000) (k : ∀ ds, Θ ds → Φ (.list ds)) : JE θ δ m X ρ (.List es pos) Φ := fun σ G H rs p Q q =>
  ⟨_, pe_lst (pa_b X es), h σ G H rs p _ fun vs ds G1 H1 p1 f rv => ⟨by have := rv.length; have := hz ds f; rw [sizeLine_eq]; omega, fun a ha =>
    q (.ref a) (.list ds) _ _ (p1.trans (.new (p1.pre p) ha fun ps z => by cases z)) (k ds f) (.lst upd_same (rv.mono (Same.upd ((p1.pre p).gnone ha))))⟩⟩
theorem je_tup {ds : List D} {k1 : Nat} (h : JA θ δ m X ρ es (fun r => r = ds)) (hz : ds.length ≤ 100000 := by first | decide | simp) : JE θ δ m X ρ (.Tuple es k1 pos) (Is (.tup ds)) := j_tup h (fun _ e => e ▸ hz) fun _ e => by rw [e]
theorem je_lst {ds : List D} (h : JA θ δ m X ρ es (fun r => r = ds)) (hz : ds.length ≤ 100000 := by first | decide | simp) : JE θ δ m X ρ (.List es pos) (Is (.list ds)) := j_lst h (fun _ e => e ▸ hz) fun _ e => by rw [e]
theorem je_edict : JE θ δ m X ρ (.Dict [] [] pos) (Is .edict) := fun σ G H rs p Q q => ⟨_, pe_dnewK, fun a ha => q (.ref a) .edict _ _ (.new p ha fun ps z => by cases z) rfl (.edict upd_same)⟩

/-! #### built-ins by name -/
theorem je_callB {x : Str} {px : Pos} {id : String} {r : List V → Hp → VK → Prop} {Θ : List D → Prop} (hc : CallR X (.builtin id) r) (hm : X.mg x = none) (ha : JA θ δ m X ρ (e :: es) Θ) (hr : CaD θ δ m r Θ Φ) (hv : bootBuiltins x = some (.builtin id) := by decide +kernel) (hg : Gl X x := by rfl)
    (hn : x ≠ "__name__" := by decide) (hdb : (x == ("__debug__" : Str)) = false := by decide) (he : starEach (e :: es) X.env = (false, eval e X.env) :: starEach es X.env := by rfl) (hpl : (backTo pos (starEach es X.env)).any (·.1) = false := by rfl) :
    JE θ δ m X ρ (.Call (.Name x px) (e :: es) [] pos) Φ := fun σ G H rs p Q q =>
  ⟨_, pe_callB hc hg hm hv (pa_b X _) hn hdb he hpl, ha σ G H rs p _ fun vs ds G1 H1 p1 f rv => hr vs ds G1 H1 f rv (p1.pre p) Q fun v d G' H' p2 f2 => q v d G' H' (p1.trans p2) f2⟩
theorem je_callTy {x : Str} {px : Pos} {T : String} {r : List V → Hp → VK → Prop} {Θ : List D → Prop} (hc : CallR X (.type T) r) (hm : X.mg x = none) (ha : JA θ δ m X ρ (e :: es) Θ) (hr : CaD θ δ m r Θ Φ) (hv : bootBuiltins x = some (.type T) := by decide +kernel) (hg : Gl X x := by rfl)
    (hn : x ≠ "__name__" := by decide) (hdb : (x == ("__debug__" : Str)) = false := by decide) (he : starEach (e :: es) X.env = (false, eval e X.env) :: starEach es X.env := by rfl) (hpl : (backTo pos (starEach es X.env)).any (·.1) = false := by rfl) :
    JE θ δ m X ρ (.Call (.Name x px) (e :: es) [] pos) Φ := fun σ G H rs p Q q =>
  ⟨_, pe_callTy hc hg hm hv (pa_b X _) hn hdb he hpl, ha σ G H rs p _ fun vs ds G1 H1 p1 f rv => hr vs ds G1 H1 f rv (p1.pre p) Q fun v d G' H' p2 f2 => q v d G' H' (p1.trans p2) f2⟩
end
end B
set_option Elab.async false
set_option autoImplicit false
set_option linter.all false
set_option maxRecDepth 100000
set_option maxHeartbeats 2000000
namespace B
open PySem PySem.Spec PyProof.Rows L2

section
variable {θ : Th} {δ : Dl} {m : Bool} {X : Cx} {E : XK} {ρ : Rho} {a b c e : Expr} {es : List Expr} {Φ Φ' A C : D → Prop} {β β' : Bool → Prop} {pos : Pos} {rest : List Stmt} {O : Outs} {G0 H0 G G' H H' : Hp} {σ : L2.St}

theorem StOk.go (s : StOk θ δ m G0 H0 ρ σ G H) (p : Post θ δ m G H G' H') : StOk θ δ m G0 H0 ρ σ G' H' := ⟨s.rs.post p, p.pre s.pre, s.post.trans p, s.up.trans p.gg⟩
theorem StOk.set (s : StOk θ δ m G0 H0 ρ σ G H) {v : V} {d : D} (h : R θ δ G v d) (i : Nat) : StOk θ δ m G0 H0 (ρ.set i (some (.dat d))) (σ.set i (some v)) G H := ⟨s.rs.set h i, s.pre, s.post, s.up⟩

/-! #### blocks -/
theorem js_nil (h : O.nx ρ) : JS θ δ m X E ρ [] O := fun G0 H0 σ G H s D0 k => ⟨_, pss_nil, k.nx ρ σ G H h s⟩
theorem js_cons {st : Stmt} {Mid : Rho → Prop} (h : JS1 θ δ m X E ρ st { O with nx := Mid }) (hr : ∀ ρ', Mid ρ' → JS θ δ m X E ρ' rest O) : JS θ δ m X E ρ (st :: rest) O := fun G0 H0 σ G H s D0 k =>
  ⟨_, pss_cons (ps_b X st) (pss_b X rest), h G0 H0 σ G H s { D0 with nx := bS X rest D0 } ⟨fun ρ' σ' G' H' f s' => hr ρ' f G0 H0 σ' G' H' s' D0 k, k.rt, k.bk, k.ct, k.ex⟩⟩
theorem js_ret (h : JE θ δ m X ρ e Φ) (k : ∀ d, Φ d → O.rt d) : JS θ δ m X E ρ (.Return (some e) pos :: rest) O := fun G0 H0 σ G H s D0 q =>
  ⟨_, pss_cons (ps_ret (pe_b X e)) (pss_b X rest), h σ G H s.rs s.pre _ fun v d G' H' p f rv => q.rt v d G' H' (k d f) (s.post.trans p) rv⟩
theorem js_expr (h : JE θ δ m X ρ e Φ) (hr : JS θ δ m X E ρ rest O) (hs : swapsWith e none pos.line X.env = pure false := by rfl) : JS θ δ m X E ρ (.Expr e pos :: rest) O := fun G0 H0 σ G H s D0 q =>
  ⟨_, pss_cons (ps_expr (pe_b X e) hs) (pss_b X rest), h σ G H s.rs s.pre _ fun v d G' H' p f rv => hr G0 H0 σ G' H' (s.go p) D0 q⟩
theorem js_set {x : Str} {px : Pos} (i : Nat) (hN : X.N.Nodup) (h : JE θ δ m X ρ e Φ) (hr : ∀ d, Φ d → JS θ δ m X E (ρ.set i (some (.dat d))) rest O) (hi : X.N[i]? = some x := by rfl) (hx : Loc X.env.scope x := by first | exact Or.inl rfl | exact Or.inr rfl)
    (hs : swapsWith e (some (.Name x px)) pos.line X.env = pure false := by rfl) (hf : X.fn x = true ∨ X.env.scope.names.lookup x = some .local := by first | exact .inl rfl | exact .inr rfl | assumption) : JS θ δ m X E ρ (.Assign [.Name x px] e pos :: rest) O := fun G0 H0 σ G H s D0 q =>
  ⟨_, pss_cons (ps_set (i := i) hN hi hx (pe_b X e) hs hf) (pss_b X rest), h σ G H s.rs s.pre _ fun v d G' H' p f rv => hr d f G0 H0 _ G' H' ((s.go p).set rv i) D0 q⟩
/-- target = value -/
theorem js_asg {tg : Expr} {act : D → Rho → Rho → Prop} (hg : JG θ δ m X tg act) (h : JE θ δ m X ρ e Φ) (tot : ∀ d, Φ d → ∃ ρ', act d ρ ρ') (hr : ∀ d ρ', Φ d → act d ρ ρ' → JS θ δ m X E ρ' rest O) (hs : swapsWithSole [tg] e pos.line X.env = pure false := by rfl) (hw : swappedStores [tg] e X.env = pure none := by rfl)
    (h1 : (assignEach [tg] X.env).map (·.2) = [assign tg X.env] := by rfl) : JS θ δ m X E ρ (.Assign [tg] e pos :: rest) O := fun G0 H0 σ G H s D0 q =>
  ⟨_, pss_cons (ps_asg (pe_b X e) (pg_b X tg) hs hw h1) (pss_b X rest), h σ G H s.rs s.pre _ fun v d G' H' p f rv => hg v d σ ρ G' H' rv (s.go p).rs (s.go p).pre _ (tot d f) fun σ' ρ' ha rs' => hr d ρ' f ha G0 H0 σ' G' H' ⟨rs', (s.go p).pre, (s.go p).post, (s.go p).up⟩ D0 q⟩
/-- a, b = x, y with local names -/
theorem js_par {x y : Str} {px py pt : Pos} {kt k2 : Nat} {pt2 : Pos} (i j : Nat) (hN : X.N.Nodup) {A C : D → Prop} (ha : JE θ δ m X ρ a A) (hb : JE θ δ m X ρ b C) (hr : ∀ d d', A d → C d' → JS θ δ m X E ((ρ.set i (some (.dat d))).set j (some (.dat d'))) rest O)
    (hij : i ≠ j := by decide) (hc : X.calm = true := by rfl) (hi : X.N[i]? = some x := by rfl) (hj : X.N[j]? = some y := by rfl) (hx : X.env.scope.names.lookup x = some .local := by rfl) (hy : X.env.scope.names.lookup y = some .local := by rfl)
    (hw : swappedStores [.Tuple [.Name x px, .Name y py] kt pt] (.Tuple [a, b] k2 pt2) X.env = pure (some [x, y]) := by rfl)
    (hs : swapsWithSole [.Tuple [.Name x px, .Name y py] kt pt] (.Tuple [a, b] k2 pt2) pos.line X.env = pure false := by rfl)
    (e1 : starEach [a, b] X.env = (false, eval a X.env) :: starEach [b] X.env := by rfl) (e2 : starEach [b] X.env = (false, eval b X.env) :: starEach [] X.env := by rfl) :
    JS θ δ m X E ρ (.Assign [.Tuple [.Name x px, .Name y py] kt pt] (.Tuple [a, b] k2 pt2) pos :: rest) O := fun G0 H0 σ G H s D0 q =>
  ⟨_, pss_cons (ps_par (i := i) (j := j) hc hN hi hj hij hx hy (pa_b X _) hw hs) (pss_b X rest), ja_cons ha (ja_cons hb ja_nil e2) e1 σ G H s.rs s.pre _ fun vs ds G' H' p f rv => by
    obtain ⟨d, r, e1, fd, d', r', e2, fd', e3⟩ := f
    subst e1 e2 e3
    cases rv with
    | cons r1 rv =>
      cases rv with
      | cons r2 rv =>
        cases rv
        exact ⟨_, _, rfl, hr d d' fd fd' G0 H0 _ G' H' (((s.go p).set r1 i).set r2 j) D0 q⟩⟩
theorem js_if {p1 p2 : List Stmt} {Mid : Rho → Prop} (hc : JT θ δ m X ρ c β) (h1 : β true → JS θ δ m X E ρ p1 { O with nx := Mid }) (h2 : β false → JS θ δ m X E ρ p2 { O with nx := Mid }) (hr : ∀ ρ', Mid ρ' → JS θ δ m X E ρ' rest O) : JS θ δ m X E ρ (.If c p1 p2 pos :: rest) O := fun G0 H0 σ G H s D0 q => by
  refine ⟨_, pss_cons (ps_if (pt_b X c) (pss_b X p1) (pss_b X p2)) (pss_b X rest), hc σ G H s.rs s.pre _ fun k G' H' p f => ?_⟩
  have q' : EndsOk θ δ m E { O with nx := Mid } G0 H0 { D0 with nx := bS X rest D0 } := ⟨fun ρ' σ' G' H' f s' => hr ρ' f G0 H0 σ' G' H' s' D0 q, q.rt, q.bk, q.ct, q.ex⟩
  cases k with
  | true => exact iteT (h1 f G0 H0 σ G' H' (s.go p) _ q')
  | false => exact iteF (h2 f G0 H0 σ G' H' (s.go p) _ q')
/-- if c: return .. -/
theorem js_ifRet {p1 : List Stmt} (hc : JT θ δ m X ρ c β) (h1 : β true → JS θ δ m X E ρ p1 { O with nx := fun _ => False }) (h2 : β false → JS θ δ m X E ρ rest O) : JS θ δ m X E ρ (.If c p1 [] pos :: rest) O :=
  js_if (Mid := fun ρ' => β false ∧ ρ' = ρ) hc (fun f G0 H0 σ G H s D0 q => h1 f G0 H0 σ G H s D0 ⟨fun _ _ _ _ z => z.elim, q.rt, q.bk, q.ct, q.ex⟩) (fun f => js_nil ⟨f, rfl⟩) fun ρ' h => by
    obtain ⟨f, e⟩ := h
    subst e
    exact h2 f
theorem JS.mono {O' : Outs} {st : List Stmt} (h : JS θ δ m X E ρ st O) (k1 : ∀ ρ, O.nx ρ → O'.nx ρ) (k2 : ∀ d, O.rt d → O'.rt d) (k3 : ∀ ρ, O.bk ρ → O'.bk ρ) (k4 : ∀ ρ, O.ct ρ → O'.ct ρ) (k5 : ∀ c n, O.ex c n → O'.ex c n) : JS θ δ m X E ρ st O' := fun G0 H0 σ G H s D0 q =>
  h G0 H0 σ G H s D0 ⟨fun ρ σ G H f => q.nx ρ σ G H (k1 ρ f), fun v d G H f => q.rt v d G H (k2 d f), fun ρ σ G H f => q.bk ρ σ G H (k3 ρ f), fun ρ σ G H f => q.ct ρ σ G H (k4 ρ f), fun c n dx G H f => q.ex c n dx G H (k5 c n f)⟩
theorem js_continue (h : O.ct ρ) : JS θ δ m X E ρ (.Continue pos :: rest) O := fun G0 H0 σ G H s D0 q => ⟨_, pss_cons ps_continue (pss_b X rest), q.ct ρ σ G H h s⟩
theorem js_break (h : O.bk ρ) : JS θ δ m X E ρ (.Break pos :: rest) O := fun G0 H0 σ G H s D0 q => ⟨_, pss_cons ps_break (pss_b X rest), q.bk ρ σ G H h s⟩

/-! #### targets -/
theorem jg_name (i : Nat) {x : Str} (hN : X.N.Nodup) (hi : X.N[i]? = some x := by rfl) (hx : Loc X.env.scope x := by first | exact Or.inl rfl | exact Or.inr rfl) (hf : X.fn x = true ∨ X.env.scope.names.lookup x = some .local := by first | exact .inl rfl | exact .inr rfl | assumption) :
    JG θ δ m X (.Name x pos) (fun d ρ ρ' => ρ' = ρ.set i (some (.dat d))) := fun v d σ ρ G H rv rs _ Q _ q => ⟨_, pg_name hN hi hx hf, q _ _ rfl (rs.set rv i)⟩
def Two (i j : Nat) (d : D) (ρ ρ' : Rho) : Prop := ∃ x y, d = .tup [x, y] ∧ ρ' = (ρ.set i (some (.dat x))).set j (some (.dat y))
def Three (i j k : Nat) (d : D) (ρ ρ' : Rho) : Prop := ∃ x y z, d = .tup [x, y, z] ∧ ρ' = ((ρ.set i (some (.dat x))).set j (some (.dat y))).set k (some (.dat z))
theorem jg_two (hK : X.K = θ.K) (i j : Nat) {x y : Str} {px py : Pos} {kk : Nat} (hN : X.N.Nodup) (hc : X.calm = true := by rfl) (hi : X.N[i]? = some x := by rfl) (hj : X.N[j]? = some y := by rfl) (hx : Loc X.env.scope x := by first | exact Or.inl rfl | exact Or.inr rfl) (hy : Loc X.env.scope y := by first | exact Or.inl rfl | exact Or.inr rfl)
    (hf : X.fn x = true ∨ X.env.scope.names.lookup x = some .local := by first | exact .inl rfl | exact .inr rfl | assumption) (hf2 : X.fn y = true ∨ X.env.scope.names.lookup y = some .local := by first | exact .inl rfl | exact .inr rfl | assumption)
    (h1 : (assignEach [.Name x px, .Name y py] X.env).map (·.2) = assign (.Name x px) X.env :: (assignEach [.Name y py] X.env).map (·.2) := by rfl) (h2 : (assignEach [.Name y py] X.env).map (·.2) = assign (.Name y py) X.env :: (assignEach [] X.env).map (·.2) := by rfl)
    (hn : (assignEach [.Name x px, .Name y py] X.env).length = 2 := by rfl) (hst : (assignEach [.Name x px, .Name y py] X.env).findIdx? (·.1) = none := by rfl) : JG θ δ m X (.Tuple [.Name x px, .Name y py] kk pos) (Two i j) := fun v d σ ρ G H rv rs p Q t q => by
  refine ⟨_, pg_tup hc (pgs_cons (pg_name hN hi hx hf) (pgs_cons (pg_name hN hj hy hf2) pgs_nil h2) h1) hn hst, ?_⟩
  obtain ⟨_, u, w, rfl, _⟩ := t
  cases rv with
  | tup hs ra =>
    cases ra with
    | cons r1 ra =>
      cases ra with
      | cons r2 ra =>
        cases ra
        exact ⟨_, _, rfl, SqT.of (p.gh _ _ hs), rfl, _, _, rfl, _, _, rfl, rfl, q _ _ ⟨u, w, rfl, rfl⟩ ((rs.set r1 i).set r2 j)⟩
theorem jg_three (hK : X.K = θ.K) (i j k : Nat) {x y z : Str} {px py pz : Pos} {kk : Nat} (hN : X.N.Nodup) (hc : X.calm = true := by rfl) (hi : X.N[i]? = some x := by rfl) (hj : X.N[j]? = some y := by rfl) (hk : X.N[k]? = some z := by rfl)
    (hx : Loc X.env.scope x := by first | exact Or.inl rfl | exact Or.inr rfl) (hy : Loc X.env.scope y := by first | exact Or.inl rfl | exact Or.inr rfl) (hz : Loc X.env.scope z := by first | exact Or.inl rfl | exact Or.inr rfl)
    (hf : X.fn x = true ∨ X.env.scope.names.lookup x = some .local := by first | exact .inl rfl | exact .inr rfl | assumption) (hf2 : X.fn y = true ∨ X.env.scope.names.lookup y = some .local := by first | exact .inl rfl | exact .inr rfl | assumption) (hf3 : X.fn z = true ∨ X.env.scope.names.lookup z = some .local := by first | exact .inl rfl | exact .inr rfl | assumption)
    (h1 : (assignEach [.Name x px, .Name y py, .Name z pz] X.env).map (·.2) = assign (.Name x px) X.env :: (assignEach [.Name y py, .Name z pz] X.env).map (·.2) := by rfl) (h2 : (assignEach [.Name y py, .Name z pz] X.env).map (·.2) = assign (.Name y py) X.env :: (assignEach [.Name z pz] X.env).map (·.2) := by rfl) (h3 : (assignEach [.Name z pz] X.env).map (·.2) = assign (.Name z pz) X.env :: (assignEach [] X.env).map (·.2) := by rfl)
    (hn : (assignEach [.Name x px, .Name y py, .Name z pz] X.env).length = 3 := by rfl) (hst : (assignEach [.Name x px, .Name y py, .Name z pz] X.env).findIdx? (·.1) = none := by rfl) : JG θ δ m X (.Tuple [.Name x px, .Name y py, .Name z pz] kk pos) (Three i j k) := fun v d σ ρ G H rv rs p Q t q => by
  refine ⟨_, pg_tup hc (pgs_cons (pg_name hN hi hx hf) (pgs_cons (pg_name hN hj hy hf2) (pgs_cons (pg_name hN hk hz hf3) pgs_nil h3) h2) h1) hn hst, ?_⟩
  obtain ⟨_, u, w, r, rfl, _⟩ := t
  cases rv with
  | tup hs ra =>
    cases ra with
    | cons r1 ra =>
      cases ra with
      | cons r2 ra =>
        cases ra with
        | cons r3 ra =>
          cases ra
          exact ⟨_, _, rfl, SqT.of (p.gh _ _ hs), rfl, _, _, rfl, _, _, rfl, _, _, rfl, rfl, q _ _ ⟨u, w, r, rfl, rfl⟩ (((rs.set r1 i).set r2 j).set r3 k)⟩

/-! #### loops -/
theorem js_while {body : List Stmt} {Inv : Nat → Rho → Prop} {β : Nat → Rho → Bool → Prop} {Mid : Rho → Prop} (m0 : Nat) (h0 : Inv m0 ρ) (hc : ∀ k ρ, Inv k ρ → JT θ δ m X ρ c (β k ρ))
    (hb : ∀ k ρ, Inv k ρ → β k ρ true → JS θ δ m X E ρ body { O with nx := fun ρ' => ∃ k', k' < k ∧ Inv k' ρ', ct := fun ρ' => ∃ k', k' < k ∧ Inv k' ρ', bk := Mid }) (hd : ∀ k ρ, Inv k ρ → β k ρ false → Mid ρ) (hr : ∀ ρ', Mid ρ' → JS θ δ m X E ρ' rest O)
    (hp : PassesOwn (model X.prog X.w) X.A X.env X.xe := by first | exact PassesOwn.never | exact passes_of rfl) : JS θ δ m X E ρ (.While c body [] pos :: rest) O := fun G0 H0 σ G H s D0 q => by
  refine ⟨_, pss_cons (ps_while hp (pt_b X c) (pss_b X body)) (pss_b X rest), ?_⟩
  refine ⟨fun k σ' H' => ∃ ρ' G', Inv k ρ' ∧ StOk θ δ m G0 H0 ρ' σ' G' H', ⟨m0, ρ, G, h0, s⟩, fun k σ1 H1 ⟨ρ1, G1, i1, s1⟩ => ?_⟩
  refine hc k ρ1 i1 σ1 G1 H1 s1.rs s1.pre _ fun v G2 H2 p f => ?_
  cases v with
  | true =>
    refine iteT ⟨fun σ' H' => ∃ k', k' < k ∧ ∃ ρ' G', Inv k' ρ' ∧ StOk θ δ m G0 H0 ρ' σ' G' H', fun σ' H' ⟨k', hk, w⟩ => ⟨k', hk, w⟩, hb k ρ1 i1 f G0 H0 σ1 G2 H2 (s1.go p) _ ⟨?_, q.rt, ?_, ?_, q.ex⟩⟩
    · exact fun ρ' σ' G' H' ⟨k', hk, i'⟩ s' => ⟨k', hk, ρ', G', i', s'⟩
    · exact fun ρ' σ' G' H' hm s' => hr ρ' hm G0 H0 σ' G' H' s' D0 q
    · exact fun ρ' σ' G' H' ⟨k', hk, i'⟩ s' => ⟨k', hk, ρ', G', i', s'⟩
  | false => exact iteF (hr ρ1 (hd k ρ1 i1 f) G0 H0 σ1 G2 H2 (s1.go p) D0 q)
theorem js_for {tg iter : Expr} {body : List Stmt} {S : List D → Prop} {act : D → Rho → Rho → Prop} {Inv : List D → Nat → Rho → Prop} {Mid : Rho → Prop} (hi : JI θ δ m X ρ tg iter S) (hg : JG θ δ m X tg act) (h0 : ∀ src, S src → Inv src 0 ρ)
    (tot : ∀ src i d ρ1, S src → src[i]? = some d → Inv src i ρ1 → ∃ ρ2, act d ρ1 ρ2)
    (hb : ∀ src i d ρ1 ρ2, S src → src[i]? = some d → Inv src i ρ1 → act d ρ1 ρ2 → JS θ δ m X E ρ2 body { O with nx := Inv src (i + 1), ct := Inv src (i + 1), bk := Mid }) (hd : ∀ src ρ1, S src → Inv src src.length ρ1 → Mid ρ1) (hr : ∀ ρ', Mid ρ' → JS θ δ m X E ρ' rest O)
    (hp : PassesOwn (model X.prog X.w) X.A X.env X.xe := by first | exact PassesOwn.never | exact passes_of rfl) (hc : X.calm = true := by rfl) (hs : ∀ x, foldedSetIterable iter X.env x = pure x := by intro _; rfl) : JS θ δ m X E ρ (.For tg iter body [] pos :: rest) O := fun G0 H0 σ G H s D0 q => by
  refine ⟨_, pss_cons (ps_for hp hc (pi_b X tg iter) (pg_b X tg) (pss_b X body) hs) (pss_b X rest), hi σ G H s.rs s.pre _ fun J src G1 H1 p1 hS w => ?_⟩
  refine for_it w (fun i σ' H' => ∃ ρ' G', Inv src i ρ' ∧ StOk θ δ m G0 H0 ρ' σ' G' H' ∧ Same G1 G') ⟨ρ, G1, h0 src hS, s.go p1, Same.refl _⟩ (fun i σ' H' _ ⟨ρ', G', _, s', e'⟩ => e'.trans s'.pre.gh) ?_ ?_
  · rintro i x σ1 H2 H2' hlt ⟨ρ1, G2, i1, s1, e1⟩ ⟨d, hdt, y⟩
    have fin : ∀ G3 H3, R θ δ G3 x d → StOk θ δ m G0 H0 ρ1 σ1 G3 H3 → Same G1 G3 → bG X tg x σ1 H3 fun σ2 H2 => bS X body { D0 with nx := fun σ' H' => ∃ ρ' G', Inv src (i + 1) ρ' ∧ StOk θ δ m G0 H0 ρ' σ' G' H' ∧ Same G1 G', ct := fun σ' H' => ∃ ρ' G', Inv src (i + 1) ρ' ∧ StOk θ δ m G0 H0 ρ' σ' G' H' ∧ Same G1 G', bk := bS X rest D0 } σ2 H2 := fun G3 H3 rv s3 e3 => by
      refine hg x d σ1 ρ1 G3 H3 rv s3.rs s3.pre _ (tot src i d ρ1 hS hdt i1) fun σ4 ρ4 ha rs4 => ?_
      refine hb src i d ρ1 ρ4 hS hdt i1 ha G3 H3 σ4 G3 H3 ⟨rs4, s3.pre, s3.post, Same.refl _⟩ _ ⟨?_, q.rt, ?_, ?_, q.ex⟩
      · exact fun ρ' σ' G' H' i' s' => ⟨ρ', G', i', ⟨s'.rs, s'.pre, s'.post, s3.up.trans s'.up⟩, e3.trans s'.up⟩
      · exact fun ρ' σ' G' H' hm s' => hr ρ' hm G0 H0 σ' G' H' ⟨s'.rs, s'.pre, s'.post, s3.up.trans s'.up⟩ D0 q
      · exact fun ρ' σ' G' H' i' s' => ⟨ρ', G', i', ⟨s'.rs, s'.pre, s'.post, s3.up.trans s'.up⟩, e3.trans s'.up⟩
    rcases y with ⟨eH, rv⟩ | ⟨T, xs, ds, hT, rfl, eH, ra, rfl⟩
    · rw [eH]
      exact fin G2 H2 (rv.mono e1) s1 e1
    · rw [eH]
      have p2 : Post θ δ m G2 H2 (L2.upd G2 T (.tup xs)) (L2.upd H2 T (.tup xs)) := .new s1.pre hT fun ps z => by cases z
      exact fin _ _ (.tup upd_same (ra.mono (e1.trans p2.gg))) (s1.go p2) (e1.trans p2.gg)
  · rintro σ1 H2 ⟨ρ1, G2, i1, s1, e1⟩
    exact hr ρ1 (hd src ρ1 hS i1) G0 H0 σ1 G2 H2 s1 D0 q
end
end B
set_option Elab.async false
set_option autoImplicit false
set_option linter.all false
set_option maxRecDepth 100000
set_option maxHeartbeats 2000000
namespace B
open PySem PySem.Spec PyProof.Rows L2

section
variable {θ : Th} {δ : Dl} {m : Bool} {X : Cx} {E : XK} {ρ : Rho} {a b c e tg iter : Expr} {es : List Expr} {Φ Φ' A C : D → Prop} {β β' : Bool → Prop} {pos : Pos} {rest : List Stmt} {O : Outs} {G0 H0 G G' H H' : Hp} {σ : L2.St}

/-! #### what is walked -/
theorem RA.walk {xs : List V} {src : List D} (ra : RA θ δ G xs src) {J : It} {G1 : Hp → Prop} (w : Walk J xs.length G1 (YAt xs)) (hG : ∀ H1, Same G H1 → G1 H1) : Walk J src.length (fun H1 => Same G H1) (YD θ δ G src) := by
  have hl := ra.length
  rw [← hl]
  refine w.mono hG fun i H x H' hi _ y => ?_
  obtain ⟨e1, e2⟩ := y
  obtain ⟨d, h1, h2⟩ := ra.getV e2
  exact ⟨d, h1, .inl ⟨e1, h2⟩⟩
theorem ji_list (hK : X.K = θ.K) {src : List D} (h : JE θ δ m X ρ e (Is (.list src))) : JI θ δ m X ρ tg e (fun s => s = src) := fun σ G H rs p Rk q =>
  ⟨_, pi_list (pe_b X e), h σ G H rs p _ fun v d G' H' po f rv => by
    cases f
    cases rv with
    | @lst a xs _ hs ra =>
      refine ⟨a, rfl, ⟨xs, by exact SqL.of (po.gh _ _ hs)⟩, q _ src G' H' po rfl ?_⟩
      exact ra.walk (G1 := fun H => SqL X.K H a xs) walk_list fun H1 s => SqL.of (s _ _ hs)⟩
theorem ji_tup (hK : X.K = θ.K) {src : List D} (h : JE θ δ m X ρ e (Is (.tup src))) : JI θ δ m X ρ tg e (fun s => s = src) := fun σ G H rs p Rk q =>
  ⟨_, pi_tup (pe_b X e), h σ G H rs p _ fun v d G' H' po f rv => by
    cases f
    cases rv with
    | @tup a xs _ hs ra =>
      refine ⟨a, rfl, ⟨xs, SqT.of (po.gh _ _ hs)⟩, q _ src G' H' po rfl ?_⟩
      exact ra.walk (G1 := fun H => SqT X.K H a xs) walk_tup fun H1 s => SqT.of (s _ _ hs)⟩
/-- 0, 1, .. -/
def rng (n : Nat) : List D := (List.range n).map fun (i : Nat) => D.int (i : Int)
theorem rng_length (n : Nat) : (rng n).length = n := by simp [rng]
theorem rng_get (n i : Nat) : (rng n)[i]? = if i < n then some (D.int i) else none := by
  unfold rng
  rw [List.getElem?_map]
  by_cases h : i < n
  · rw [if_pos h, List.getElem?_range h]; rfl
  · rw [if_neg h, List.getElem?_eq_none (by simpa using h)]; rfl
theorem ji_range (hm : X.mg "range" = none) {p px : Pos} (N : Int → Prop) (h : JE θ δ m X ρ e (fun d => ∃ n : Int, d = .int n ∧ N n)) (hz : ∀ n, N n → -1000000 ≤ n ∧ n ≤ 1000000) (hg : Gl X "range" := by rfl) (hs : starEach [e] X.env = [(false, eval e X.env)] := by rfl)
    (hs2 : starEach [e] X.env = (false, eval e X.env) :: starEach [] X.env := by rfl) :
    JI θ δ m X ρ tg (.Call (.Name "range" px) [e] [] p) (fun s => ∃ n, N n ∧ s = rng n.toNat) := fun σ G H rs pr Rk q =>
  ⟨_, pi_range1 hg hm (pa_cons (pe_b X e) pa_nil hs2) hs, h σ G H rs pr _ fun v d G' H' po f rv => by
    obtain ⟨n, rfl, hn⟩ := f
    cases rv
    have hb := hz n hn
    refine ⟨n, rfl, by omega, by omega, q _ (rng n.toNat) G' H' po ⟨n, hn, rfl⟩ ?_⟩
    rw [rng_length]
    refine walk_range.mono (fun _ _ => trivial) fun i H x H' hi _ y => ?_
    obtain ⟨e1, e2⟩ := y
    refine ⟨.int i, by rw [rng_get, if_pos hi], .inl ⟨e1, ?_⟩⟩
    have e3 : x = .int (i : Int) := by
      rw [e2]
      show V.int (0 + (i : Int)) = .int (i : Int)
      rw [Int.zero_add]
    rw [e3]
    exact .int _⟩
theorem ji_rangeI (hm : X.mg "range" = none) {p px : Pos} {n : Nat} (h : JE θ δ m X ρ e (Is (.int n))) (hz : n ≤ 1000000) (hg : Gl X "range" := by rfl) (hs : starEach [e] X.env = [(false, eval e X.env)] := by rfl)
    (hs2 : starEach [e] X.env = (false, eval e X.env) :: starEach [] X.env := by rfl) : JI θ δ m X ρ tg (.Call (.Name "range" px) [e] [] p) (fun s => s = rng n) := fun σ G H rs pr Rk q =>
  ji_range hm (fun k => k = n) (h.mono fun d e => ⟨n, e, rfl⟩) (fun k hk => by omega) hg hs hs2 σ G H rs pr Rk fun J src G' H' po f w => by
    obtain ⟨k, rfl, rfl⟩ := f
    exact q J _ G' H' po rfl (by simpa using w)
theorem JI.mono {S S' : List D → Prop} (h : JI θ δ m X ρ tg iter S) (k : ∀ s, S s → S' s) : JI θ δ m X ρ tg iter S' := fun σ G H r p Rk q => h σ G H r p Rk fun J src G' H' po f w => q J src G' H' po (k src f) w
/-- the pairs of enumerate -/
def numbered (src : List D) : List D := src.zipIdx.map fun p => D.tup [.int p.2, p.1]
theorem numbered_length (src : List D) : (numbered src).length = src.length := by simp [numbered]
theorem numbered_get (src : List D) (i : Nat) : (numbered src)[i]? = src[i]?.map fun d => D.tup [.int i, d] := by
  unfold numbered
  rw [List.getElem?_map, List.getElem?_zipIdx]
  cases src[i]? <;> simp
theorem pairs_walk {xs : List V} {src : List D} (ra : RA θ δ G xs src) {J : It} {G1 : Hp → Prop} (w : Walk J xs.length G1 (YPair (fun i => some (.int (i : Nat))) (fun i => xs[i]?))) (hG : ∀ H1, Same G H1 → G1 H1) :
    Walk J (numbered src).length (fun H1 => Same G H1) (YD θ δ G (numbered src)) := by
  rw [numbered_length, ← ra.length]
  refine w.mono hG fun i H x H' hi _ y => ?_
  obtain ⟨T, u, v, e1, e2, e3, e4, e5⟩ := y
  obtain ⟨d, h1, h2⟩ := ra.getV e5
  cases e4
  exact ⟨.tup [.int i, d], by rw [numbered_get, h1]; rfl, .inr ⟨T, _, _, e2, e1, e3, .cons (.int _) (.cons h2 .nil), rfl⟩⟩
theorem ji_enum (hK : X.K = θ.K) (hm : X.mg "enumerate" = none) {elts : List Expr} {kk : Nat} {tpos p px : Pos} {src : List D} (h : JE θ δ m X ρ e (Is (.list src))) (hg : Gl X "enumerate" := by rfl) (hs : starEach [e] X.env = [(false, eval e X.env)] := by rfl)
    (hs2 : starEach [e] X.env = (false, eval e X.env) :: starEach [] X.env := by rfl) : JI θ δ m X ρ (.Tuple elts kk tpos) (.Call (.Name "enumerate" px) [e] [] p) (fun s => s = numbered src) := fun σ G H rs pr Rk q =>
  ⟨_, pi_enum hg hm (pa_cons (pe_b X e) pa_nil hs2) hs, h σ G H rs pr _ fun v d G' H' po f rv => by
    cases f
    cases rv with
    | @lst a xs _ hs ra =>
      refine ⟨a, xs, rfl, by exact SqL.of (po.gh _ _ hs), q _ _ G' H' po rfl ?_⟩
      exact pairs_walk ra (G1 := fun H => SqL X.K H a xs) walk_enum fun H1 s => SqL.of (s _ _ hs)⟩

/-! #### comprehensions -/
theorem wipe_get (vs : List Nat) (j : Nat) : (L2.wipe σ vs)[j]? = if j ∈ vs ∧ j < σ.length then some none else σ[j]? := by
  induction vs with
  | nil => simp [L2.wipe]
  | cons v vs ih =>
    unfold L2.wipe
    by_cases hv : v = j
    · subst hv
      by_cases hl : v < σ.length
      · rw [List.getElem?_set_self (by rw [wipe_length]; exact hl), if_pos ⟨by simp, hl⟩]
      · rw [List.getElem?_eq_none (by rw [List.length_set, wipe_length]; omega), if_neg (by omega), List.getElem?_eq_none (by omega)]
    · rw [List.getElem?_set_ne hv, ih]
      have : j ∈ v :: vs ↔ j ∈ vs := by simp [Ne.symm hv]
      simp only [this]
theorem wipe_set (vs : List Nat) (ts : List Nat) (h : ∀ j ∈ ts, j ∈ vs) {σ' : L2.St} (hl : σ'.length = σ.length) (hj : ∀ j, j ∉ ts → σ'[j]? = (L2.wipe σ vs)[j]?) : L2.wipe σ' vs = L2.wipe σ vs := by
  refine List.ext_getElem? fun j => ?_
  rw [wipe_get, wipe_get, hl]
  by_cases c : j ∈ vs ∧ j < σ.length
  · rw [if_pos c, if_pos c]
  · rw [if_neg c, if_neg c]
    by_cases ht : j ∈ ts
    · have h2 := h j ht
      have h3 : ¬ j < σ.length := fun z => c ⟨h2, z⟩
      rw [List.getElem?_eq_none (by omega), List.getElem?_eq_none (by omega)]
    · rw [hj j ht, wipe_get, if_neg c]
/-- a target that writes the slots ts alone -/
def Wr (X : Cx) (tg : Expr) (ts : List Nat) (act : D → Rho → Rho → Prop) : Prop :=
  ∀ (v : V) (d : D) (σ : L2.St) (ρ : Rho) (G H : Hp), R θ δ G v d → RS θ δ m G H σ ρ → Pre θ δ m G H → ∀ Q : L2.St → Hp → Prop, (∃ ρ', act d ρ ρ') →
    (∀ σ' ρ', act d ρ ρ' → RS θ δ m G H σ' ρ' → σ'.length = σ.length → (∀ j, j ∉ ts → σ'[j]? = σ[j]?) → Q σ' H) → bG X tg v σ H Q
theorem wr_name (i : Nat) {x : Str} (hN : X.N.Nodup) (hi : X.N[i]? = some x := by rfl) (hx : Loc X.env.scope x := by first | exact Or.inl rfl | exact Or.inr rfl) (hf : X.fn x = true ∨ X.env.scope.names.lookup x = some .local := by first | exact .inl rfl | exact .inr rfl | assumption) :
    Wr (θ := θ) (δ := δ) (m := m) X (.Name x pos) [i] (fun d ρ ρ' => ρ' = ρ.set i (some (.dat d))) := fun v d σ ρ G H rv rs p Q t q =>
  ⟨_, pg_name hN hi hx hf, q _ _ rfl (rs.set rv i) (by simp) fun j hj => List.getElem?_set_ne (by simpa using Ne.symm (by simpa using hj))⟩
theorem wr_two (hK : X.K = θ.K) (i j : Nat) {x y : Str} {px py : Pos} {kk : Nat} (hN : X.N.Nodup) (hc : X.calm = true := by rfl) (hi : X.N[i]? = some x := by rfl) (hj : X.N[j]? = some y := by rfl) (hx : Loc X.env.scope x := by first | exact Or.inl rfl | exact Or.inr rfl) (hy : Loc X.env.scope y := by first | exact Or.inl rfl | exact Or.inr rfl)
    (hf : X.fn x = true ∨ X.env.scope.names.lookup x = some .local := by first | exact .inl rfl | exact .inr rfl | assumption) (hf2 : X.fn y = true ∨ X.env.scope.names.lookup y = some .local := by first | exact .inl rfl | exact .inr rfl | assumption)
    (h1 : (assignEach [.Name x px, .Name y py] X.env).map (·.2) = assign (.Name x px) X.env :: (assignEach [.Name y py] X.env).map (·.2) := by rfl) (h2 : (assignEach [.Name y py] X.env).map (·.2) = assign (.Name y py) X.env :: (assignEach [] X.env).map (·.2) := by rfl)
    (hn : (assignEach [.Name x px, .Name y py] X.env).length = 2 := by rfl) (hst : (assignEach [.Name x px, .Name y py] X.env).findIdx? (·.1) = none := by rfl) : Wr (θ := θ) (δ := δ) (m := m) X (.Tuple [.Name x px, .Name y py] kk pos) [i, j] (Two i j) := fun v d σ ρ G H rv rs p Q t q => by
  refine ⟨_, pg_tup hc (pgs_cons (pg_name hN hi hx hf) (pgs_cons (pg_name hN hj hy hf2) pgs_nil h2) h1) hn hst, ?_⟩
  obtain ⟨_, u, w, rfl, _⟩ := t
  cases rv with
  | tup hs ra =>
    cases ra with
    | cons r1 ra =>
      cases ra with
      | cons r2 ra =>
        cases ra
        refine ⟨_, _, rfl, SqT.of (p.gh _ _ hs), rfl, _, _, rfl, _, _, rfl, rfl, q _ _ ⟨u, w, rfl, rfl⟩ ((rs.set r1 i).set r2 j) (by simp) fun k hk => ?_⟩
        have h1 : k ≠ i := fun z => hk (by simp [z])
        have h2 : k ≠ j := fun z => hk (by simp [z])
        rw [List.getElem?_set_ne (Ne.symm h2), List.getElem?_set_ne (Ne.symm h1)]

theorem Post.keep (p : Pre θ δ m G H) (q : Post θ δ m G H G' H') {a : Addr} {o : HO} (ha : H a = none) (hg : G' a = none) (ho : H' a = some o) (nt : ∀ ps, o ≠ .tbl ps) : Post θ δ m G H (L2.upd G' a o) H' where
  gg := q.gg.trans (Same.upd hg)
  gh := fun b u e => by
    by_cases hb : b = a
    · rw [hb, upd_same] at e
      cases e
      rw [hb]; exact ho
    · rw [upd_ne hb] at e
      exact q.gh b u e
  nw := fun b hb => by
    by_cases e : b = a
    · exact .inr (by rw [e]; exact ha)
    · rw [upd_ne e] at hb
      exact q.nw b hb
  nt := fun b ps hb => by
    by_cases e : b = a
    · rw [e, upd_same] at hb
      exact absurd (Option.some.inj hb) (nt ps)
    · rw [upd_ne e] at hb
      exact q.nt b ps hb
  fr := q.fr
  dm := q.dm
  wd := fun hm => by
    have w := q.wd hm
    refine ⟨w.ne, w.dl, w.d0, w.tb.ext (Same.upd hg) (Same.refl _), w.tm, fun b hb => ?_⟩
    have : b ≠ a := fun e => by
      have := (p.wd hm).mutDom hb
      rw [e] at this
      exact this ha
    rw [upd_ne this]
    exact w.gn b hb

/-- what each item gives: nothing, or a thing -/
def Made (src : List D) (Φ : D → Option D → Prop) (es : List D) : Prop := ∃ os : List (Option D), os.length = src.length ∧ (∀ (i : Nat) d, src[i]? = some d → ∃ o, os[i]? = some o ∧ Φ d o) ∧ es = os.filterMap id
def blkTT (X : Cx) (scope : Scope) (ifs : List Expr) : TT := fun σ H Q => ∀ (s : Shared) (H1 : Hp) (C : Addr) (cl : List (Str × Addr)) (fp : List Addr), bF (X.blk s H1 scope (compEnvC scope cl C X.env) fp) ifs σ H Q
def blkTE (X : Cx) (scope : Scope) (elt : Expr) : TE := fun σ H Q => ∀ (s : Shared) (H1 : Hp) (C : Addr) (cl : List (Str × Addr)) (fp : List Addr), bE (X.blk s H1 scope (compEnvC scope cl C X.env) fp) elt σ H Q
def blkTG (X : Cx) (scope : Scope) (tg : Expr) : TG := fun v σ H Q => ∀ (s : Shared) (H1 : Hp) (C : Addr) (cl : List (Str × Addr)) (fp : List Addr), bG (X.blk s H1 scope (compEnvC scope cl C X.env) fp) tg v σ H Q
theorem lc_data {elt : Expr} {ifs : List Expr} {scope : Scope} {vs ts : List Nat} {S : List D → Prop} {act : D → Rho → Rho → Prop} {Ψ : D → Prop} {Fi : List D → D → Option D → Prop} (hi : JI θ δ m X ρ tg iter S) (hts : ∀ j ∈ ts, j ∈ vs)
    (hg : ∀ (s : Shared) (H : Hp) (C : Addr) (cl : List (Str × Addr)) (fp : List Addr), Wr (θ := θ) (δ := δ) (m := m) (X.blk s H scope (compEnvC scope cl C X.env) fp) tg ts act)
    (tot : ∀ src d, S src → d ∈ src → ∃ ρ', act d (wipeR ρ vs) ρ') (hz : ∀ src, S src → src.length ≤ 100000)
    (hβ : ∀ src d ρ', S src → d ∈ src → act d (wipeR ρ vs) ρ' → ∃ β : Bool → Prop, (∀ (s : Shared) (H : Hp) (C : Addr) (cl : List (Str × Addr)) (fp : List Addr), JF θ δ m (X.blk s H scope (compEnvC scope cl C X.env) fp) ρ' ifs β) ∧ (β false → Fi src d none) ∧
      (β true → ∀ (s : Shared) (H : Hp) (C : Addr) (cl : List (Str × Addr)) (fp : List Addr), JE θ δ m (X.blk s H scope (compEnvC scope cl C X.env) fp) ρ' elt (fun x => Fi src d (some x))))
    (k : ∀ src es, S src → Made src (Fi src) es → Ψ (.list es)) {σ : L2.St} {G H : Hp} (rs : RS θ δ m G H σ ρ) (p : Pre θ δ m G H) {Q : VK} (q : ∀ v d G' H', Post θ δ m G H G' H' → Ψ d → R θ δ G' v d → Q v H') :
    tLc (bI X tg iter) (blkTG X scope tg) (blkTT X scope ifs) (blkTE X scope elt) vs σ H Q := by
  refine hi σ G H rs p _ fun J src G1 H1 p1 hS w Dl hD => ?_
  have pr1 := p1.pre p
  have gD : G1 Dl = none := pr1.gnone hD
  have p2 : Post θ δ m G1 H1 G1 (L2.upd H1 Dl (.lst [])) := .same pr1 (Same.upd hD)
  have rs1 := rs.post p1
  have rs2 := rs1.post p2
  have nmD : m = true → ¬ Mut θ δ Dl := fun hm z => (pr1.wd hm).mutDom z hD
  refine lc_it w (fun i H' => ∃ (xs : List V) (os : List (Option D)) (G' : Hp), H' Dl = some (.lst xs) ∧ G' Dl = none ∧ Post θ δ m G1 H1 G' H' ∧ RS θ δ m G' H' σ ρ ∧ RA θ δ G' xs (os.filterMap id) ∧ os.length = i ∧ xs.length ≤ i ∧ ∀ (j : Nat) d, j < i → src[j]? = some d → ∃ o, os[j]? = some o ∧ Fi src d o)
    ⟨[], [], G1, upd_same, gD, p2, rs2, .nil, rfl, Nat.le_refl _, fun j d hj => absurd hj (Nat.not_lt_zero _)⟩ (fun i H' _ ⟨_, _, G', _, _, po, _⟩ => po.gg.trans po.gh) ?_ ?_
  · rintro i x H2 H2' hlt ⟨xs, os, G2, h1, h2, h3, h4, h5, h6, h7, h8⟩ ⟨d, hd, y⟩
    have hmem : d ∈ src := List.mem_of_getElem? hd
    -- the item as data in the heap behind the draw
    obtain ⟨G3, pz, rv⟩ : ∃ G3, Post θ δ m G2 H2 G3 H2' ∧ R θ δ G3 x d := by
      rcases y with ⟨eH, rv⟩ | ⟨T, ys, ds, hT, rfl, eH, ra, rfl⟩
      · rw [eH]
        exact ⟨G2, .refl (h3.pre pr1), rv.mono h3.gg⟩
      · rw [eH]
        have pn : Post θ δ m G2 H2 (L2.upd G2 T (.tup ys)) (L2.upd H2 T (.tup ys)) := .new (h3.pre pr1) hT fun ps z => by cases z
        exact ⟨_, pn, .tup upd_same (ra.mono (h3.gg.trans pn.gg))⟩
    have h3' := h3.trans pz
    have h4' := h4.post pz
    have h5' := h5.mono pz.gg
    have h1' : H2' Dl = some (.lst xs) := pz.fr Dl _ h1 nmD
    have h2' : G3 Dl = none := by
      cases e : G3 Dl with
      | none => rfl
      | some o =>
        rcases pz.nw Dl (by rw [e]; simp) with z | z
        · exact absurd h2 z
        · rw [h1] at z; cases z
    have rw' := h4'.wipe vs
    have pr3 := h3'.pre pr1
    refine fun s0 HH C cl fp => hg s0 HH C cl fp x d _ _ G3 H2' rv rw' pr3 _ (tot src d hS hmem) fun σ4 ρ4 ha rs4 hl4 hj4 => ?_
    refine ⟨wipe_set vs ts hts (by rw [hl4, wipe_length]) hj4, ?_⟩
    obtain ⟨β, hF, hn, hy⟩ := hβ src d ρ4 hS hmem ha
    have back : ∀ {G5 H5 : Hp}, Post θ δ m G3 H2' G5 H5 → RS θ δ m G5 H5 σ ρ := fun po => h4'.post po
    have keepD : ∀ {G5 H5 : Hp}, Post θ δ m G3 H2' G5 H5 → H5 Dl = some (.lst xs) ∧ G5 Dl = none := fun {G5 H5} po => by
      refine ⟨po.fr Dl _ h1' nmD, ?_⟩
      cases e : G5 Dl with
      | none => rfl
      | some o =>
        rcases po.nw Dl (by rw [e]; simp) with z | z
        · exact absurd h2' z
        · rw [h1'] at z; cases z
    have next : ∀ {o : Option D} {j : Nat} {d' : D}, Fi src d o → j < i + 1 → src[j]? = some d' → ∃ o', (os ++ [o])[j]? = some o' ∧ Fi src d' o' := fun {o j d'} hf hj hd' => by
      by_cases e : j = i
      · subst e
        rw [hd] at hd'
        cases hd'
        exact ⟨o, by rw [← h6]; simp, hf⟩
      · obtain ⟨o', h1, h2⟩ := h8 j d' (by omega) hd'
        refine ⟨o', ?_, h2⟩
        rw [List.getElem?_append_left (by omega)]
        exact h1
    refine fun s0 HH C cl fp => hF s0 HH C cl fp σ4 G3 H2' rs4 pr3 _ fun bb G5 H5 p5 fb => ?_
    cases bb with
    | false =>
      obtain ⟨k1, k2⟩ := keepD p5
      refine iteF ⟨xs, os ++ [none], G5, k1, k2, h3'.trans p5, back p5, ?_, by simp [h6], by omega, fun j d' hj hd' => next (hn fb) hj hd'⟩
      rw [List.filterMap_append]
      simpa using h5'.mono p5.gg
    | true =>
      refine iteT fun s0 HH C cl fp => hy fb s0 HH C cl fp σ4 G5 H5 (rs4.post p5) (p5.pre pr3) _ fun yv yd G6 H6 p6 fy ry => ?_
      have p56 := p5.trans p6
      obtain ⟨k1, k2⟩ := keepD p56
      refine ⟨xs, k1, ?_, xs ++ [yv], os ++ [some yd], G6, upd_same, k2, ?_, ?_, ?_, by simp [h6], by simp; omega, fun j d' hj hd' => next fy hj hd'⟩
      · have := hz src hS
        rw [sizeLine_eq]
        omega
      · -- the list grows: nothing known is touched
        have po := h3'.trans p56
        refine ⟨po.gg, fun b u e => ?_, po.nw, po.nt, fun b u e hm => ?_, fun b e => ?_, fun hm => ?_⟩
        · rw [upd_ne (ne_of_none e k2)]
          exact po.gh b u e
        · rw [upd_ne (ne_of_none e hD)]
          exact po.fr b u e hm
        · by_cases hb : b = Dl
          · rw [hb, upd_same]; simp
          · rw [upd_ne hb]; exact po.dm b e
        · have wd := po.wd hm
          have nd : ∀ c, Mut θ δ c → c ≠ Dl := fun c hc z => nmD hm (z ▸ hc)
          refine ⟨wd.ne, let ⟨bl, e, r⟩ := wd.dl; ⟨bl, by rw [upd_ne (nd _ (.inl rfl))]; exact e, r⟩, let ⟨cs, e, r⟩ := wd.d0; ⟨cs, by rw [upd_ne (nd _ (.inr (.inl rfl)))]; exact e, r⟩, fun pp hp => ?_, wd.tm, wd.gn⟩
          obtain ⟨ps, e1, e2, e3⟩ := wd.tb pp hp
          refine ⟨ps, by rw [upd_ne (nd _ (.inr (.inr ⟨pp, hp, rfl⟩)))]; exact e1, e2, e3⟩
      · have r6 := back p56
        refine ⟨r6.len, r6.dat, fun j ds hj => ?_, r6.one⟩
        obtain ⟨a, ys, e1, e2, e3, e4, e5, e6⟩ := r6.own j ds hj
        obtain ⟨a0, ys0, f1, f2, _⟩ := rs1.own j ds hj
        have : a = a0 := by
          rw [e1] at f1
          cases f1
          rfl
        have na : a ≠ Dl := by
          rw [this]
          exact ne_of_none f2 hD
        exact ⟨a, ys, e1, by rw [upd_ne na]; exact e2, e3, e4, e5, e6⟩
      · rw [List.filterMap_append]
        exact RA.append ((h5'.mono p56.gg)) (by simpa using RA.cons ry .nil)
  · rintro H2 ⟨xs, os, G2, h1, h2, h3, h4, h5, h6, h7, h8⟩
    have pk : Post θ δ m G1 H1 (L2.upd G2 Dl (.lst xs)) H2 := Post.keep pr1 h3 hD h2 h1 fun ps z => by cases z
    refine q (.ref Dl) (.list (os.filterMap id)) _ H2 (p1.trans pk) (k src _ hS ⟨os, h6, fun j d hd => ?_, rfl⟩) (.lst upd_same (h5.mono (Same.upd h2)))
    exact h8 j d (List.getElem?_eq_some_iff.mp hd).1 hd
end
end B
set_option Elab.async false
set_option autoImplicit false
set_option linter.all false
set_option maxRecDepth 100000
set_option maxHeartbeats 2000000
namespace B
open PySem PySem.Spec PyProof.Rows L2

section
variable {θ : Th} {δ : Dl} {m : Bool} {X : Cx} {E : XK} {ρ : Rho} {a b c e tg iter elt : Expr} {es ifs : List Expr} {Φ Φ' A C : D → Prop} {β β' : Bool → Prop} {pos : Pos} {rest : List Stmt} {O : Outs} {G0 H0 G G' H H' : Hp} {σ : L2.St} {scope : Scope} {own : List (Str × Nat)} {Ψ : D → Prop}

theorem jf_nil : JF θ δ m X ρ [] (fun k => k = true) := fun σ G H rs p Q q => ⟨_, pts_nil, q true G H (.refl p) rfl⟩
theorem jf_one (h : JT θ δ m X ρ c β) : JF θ δ m X ρ [c] β := fun σ G H rs p Q q => ⟨_, pts_one (pt_b X c), h σ G H rs p Q q⟩
/-- a comprehension's block, as data -/
def JL (θ : Th) (δ : Dl) (m : Bool) (X : Cx) (ρ : Rho) (elt tg iter : Expr) (ifs : List Expr) (scope : Scope) (vs : List Nat) (Ψ : D → Prop) : Prop :=
  ∀ (σ : L2.St) (G H : Hp), RS θ δ m G H σ ρ → Pre θ δ m G H → ∀ Q : VK, (∀ v d G' H', Post θ δ m G H G' H' → Ψ d → R θ δ G' v d → Q v H') → tLc (bI X tg iter) (blkTG X scope tg) (blkTT X scope ifs) (blkTE X scope elt) vs σ H Q
theorem blk_tg (s : Shared) (H : Hp) (C : Addr) (cl : List (Str × Addr)) (fp : List Addr) : PG (X.blk s H scope (compEnvC scope cl C X.env) fp) tg (blkTG X scope tg) :=
  ⟨fun pins s1 σ H1 v u Q I r h => (pg_b _ tg).run pins s1 σ H1 v u Q I r (h s H C cl fp)⟩
theorem blk_tt (s : Shared) (H : Hp) (C : Addr) (cl : List (Str × Addr)) (fp : List Addr) : PTs (X.blk s H scope (compEnvC scope cl C X.env) fp) ifs (blkTT X scope ifs) :=
  ⟨fun pins s1 σ H1 Q I h => (pts_b _ ifs).run pins s1 σ H1 Q I (h s H C cl fp)⟩
theorem blk_te (s : Shared) (H : Hp) (C : Addr) (cl : List (Str × Addr)) (fp : List Addr) : PE (X.blk s H scope (compEnvC scope cl C X.env) fp) elt (blkTE X scope elt) :=
  ⟨fun pins s1 σ H1 Q I h => (pe_b _ elt).run pins s1 σ H1 Q I (h s H C cl fp)⟩
theorem je_lc (hN : X.N.Nodup) (own : List (Str × Nat)) (ok : BlkOk X.N X.env.scope scope own) (h : JL θ δ m X ρ elt tg iter ifs scope (own.map (·.2)) Ψ) (hc : X.calm = true := by rfl) (hs : ∀ x, foldedSetIterable iter X.env x = pure x := by intro _; rfl) :
    JE θ δ m X ρ (.ListComp elt [⟨tg, iter, ifs, 0⟩] scope pos) Ψ := fun σ G H rs p Q q =>
  ⟨_, pe_lc hc hN (pi_b X tg iter) ok blk_tg blk_tt blk_te hs, h σ G H rs p Q q⟩
theorem js_lc {y : Str} {py spos : Pos} (i : Nat) (hN : X.N.Nodup) (own : List (Str × Nat)) (ok : BlkOk X.N X.env.scope scope own) (h : JL θ δ m X ρ elt tg iter ifs scope (own.map (·.2)) Ψ) (hr : ∀ d, Ψ d → JS θ δ m X E (ρ.set i (some (.dat d))) rest O)
    (hsw : swapsWith (.ListComp elt [⟨tg, iter, ifs, 0⟩] scope pos) (some (.Name y py)) spos.line X.env = pure true) (hy : X.N[i]? = some y := by rfl) (hyl : X.env.scope.names.lookup y = some .local := by rfl) (hc : X.calm = true := by rfl) (hs : ∀ x, foldedSetIterable iter X.env x = pure x := by intro _; rfl) :
    JS θ δ m X E ρ (.Assign [.Name y py] (.ListComp elt [⟨tg, iter, ifs, 0⟩] scope pos) spos :: rest) O := fun G0 H0 σ G H s D0 q =>
  ⟨_, pss_cons (ps_setLc (i := i) hc hN hy hyl hsw (pi_b X tg iter) ok blk_tg blk_tt blk_te hs) (pss_b X rest), h σ G H s.rs s.pre _ fun v d G' H' po f rv => hr d f G0 H0 _ G' H' ((s.go po).set rv i) D0 q⟩

theorem made_fn {src es : List D} {g : D → Option D} (h : Made src (fun d o => o = g d) es) : es = src.filterMap g := by
  obtain ⟨os, h1, h2, rfl⟩ := h
  have : os = src.map g := by
    refine List.ext_getElem? fun i => ?_
    by_cases hi : i < src.length
    · have e : src[i]? = some src[i] := List.getElem?_eq_getElem hi
      obtain ⟨o, e1, e2⟩ := h2 i _ e
      rw [e1, List.getElem?_map, e, e2]
      rfl
    · rw [List.getElem?_eq_none (by omega), List.getElem?_eq_none (by simpa using hi)]
  rw [this, List.filterMap_map]
  rfl
theorem made_map {src es : List D} {f : D → D} (h : Made src (fun d o => o = some (f d)) es) : es = src.map f := by
  rw [made_fn (g := fun d => some (f d)) h]
  exact List.filterMap_eq_map' ▸ rfl
/-- each item a thing of a kind -/
theorem made_all {src es : List D} {Fi : D → D → Prop} (h : Made src (fun d o => ∃ x, o = some x ∧ Fi d x) es) : es.length = src.length ∧ ∀ (i : Nat) d, src[i]? = some d → ∃ x, es[i]? = some x ∧ Fi d x := by
  obtain ⟨os, h1, h2, rfl⟩ := h
  obtain ⟨xs, rfl⟩ : ∃ xs : List D, os = xs.map some := by
    have : ∀ (l : List D) (os : List (Option D)), os.length = l.length → (∀ (i : Nat) d, l[i]? = some d → ∃ o, os[i]? = some o ∧ ∃ x, o = some x ∧ Fi d x) → ∃ xs : List D, os = xs.map some := by
      intro l
      induction l with
      | nil => intro os hl _; exact ⟨[], by simpa using hl⟩
      | cons d l ih =>
        intro os hl hk
        cases os with
        | nil => simp at hl
        | cons o os =>
          obtain ⟨o', e1, x, e2, _⟩ := hk 0 d rfl
          obtain ⟨xs, e⟩ := ih os (by simpa using hl) fun i d' hd => by simpa using hk (i + 1) d' (by simpa using hd)
          have e3 : o = o' := by simpa using e1
          exact ⟨x :: xs, by rw [e, e3, e2]; rfl⟩
    exact this src os h1 h2
  have e : (xs.map some).filterMap id = xs := by
    rw [List.filterMap_map]
    simp
  rw [e]
  refine ⟨by simpa using h1, fun i d hd => ?_⟩
  obtain ⟨o, e1, x, rfl, hx⟩ := h2 i d hd
  rw [List.getElem?_map] at e1
  cases e2 : xs[i]? with
  | none => rw [e2] at e1; cases e1
  | some y =>
    rw [e2] at e1
    have : y = x := by simpa using e1
    exact ⟨y, rfl, by rw [this]; exact hx⟩

abbrev NameT (i : Nat) : D → Rho → Rho → Prop := fun d ρ ρ' => ρ' = ρ.set i (some (.dat d))
/-- [elt for x in src if ..]: g says what each item gives -/
theorem jl_filter {x : Str} {px : Pos} {src : List D} (i : Nat) (g : D → Option D) (hi : JI θ δ m X ρ (.Name x px) iter (fun s => s = src))
    (hg : ∀ (s : Shared) (H : Hp) (C : Addr) (cl : List (Str × Addr)) (fp : List Addr), Wr (θ := θ) (δ := δ) (m := m) (X.blk s H scope (compEnvC scope cl C X.env) fp) (.Name x px) [i] (NameT i)) (hz : src.length ≤ 100000)
    (hT : ∀ d ∈ src, ∀ (s : Shared) (H : Hp) (C : Addr) (cl : List (Str × Addr)) (fp : List Addr), JF θ δ m (X.blk s H scope (compEnvC scope cl C X.env) fp) (ρ.set i (some (.dat d))) ifs (fun k => k = (g d).isSome))
    (hE : ∀ d ∈ src, ∀ r, g d = some r → ∀ (s : Shared) (H : Hp) (C : Addr) (cl : List (Str × Addr)) (fp : List Addr), JE θ δ m (X.blk s H scope (compEnvC scope cl C X.env) fp) (ρ.set i (some (.dat d))) elt (Is r)) :
    JL θ δ m X ρ elt (.Name x px) iter ifs scope [i] (Is (.list (src.filterMap g))) := fun σ G H rs p Q q => by
  refine lc_data (Fi := fun _ d o => o = g d) hi (fun j hj => hj) hg (fun _ d _ _ => ⟨_, rfl⟩) (fun s hs => hs ▸ hz) (fun s d ρ' hs hd hρ => ?_) (fun s es hs hm => ?_) rs p q
  · subst hs
    have e : ρ' = ρ.set i (some (.dat d)) := by rw [hρ]; simp [wipeR]
    subst e
    refine ⟨_, hT d hd, fun hb => ?_, fun hb s H C cl fp => ?_⟩
    · cases hgd : g d with
      | none => rfl
      | some r => rw [hgd] at hb; cases hb
    · cases hgd : g d with
      | none => rw [hgd] at hb; cases hb
      | some r => exact (hE d hd r hgd s H C cl fp).mono fun x hx => by rw [hx]
  · rw [made_fn hm, hs]
theorem jl_map {x : Str} {px : Pos} {src : List D} (i : Nat) (f : D → D) (hi : JI θ δ m X ρ (.Name x px) iter (fun s => s = src))
    (hg : ∀ (s : Shared) (H : Hp) (C : Addr) (cl : List (Str × Addr)) (fp : List Addr), Wr (θ := θ) (δ := δ) (m := m) (X.blk s H scope (compEnvC scope cl C X.env) fp) (.Name x px) [i] (NameT i)) (hz : src.length ≤ 100000)
    (hE : ∀ d ∈ src, ∀ (s : Shared) (H : Hp) (C : Addr) (cl : List (Str × Addr)) (fp : List Addr), JE θ δ m (X.blk s H scope (compEnvC scope cl C X.env) fp) (ρ.set i (some (.dat d))) elt (Is (f d))) :
    JL θ δ m X ρ elt (.Name x px) iter [] scope [i] (Is (.list (src.map f))) := by
  have h := jl_filter (ifs := []) i (fun d => some (f d)) hi hg hz (fun d hd s H C cl fp => jf_nil) fun d hd r hr s H C cl fp => by
    cases hr
    exact hE d hd s H C cl fp
  rw [List.filterMap_eq_map'] at h
  exact h
/-- .. of things drawn: Fi d what comes of d -/
theorem jl_some {x : Str} {px : Pos} {S : List D → Prop} (i : Nat) (Fi : List D → D → D → Prop) (hi : JI θ δ m X ρ (.Name x px) iter S)
    (hg : ∀ (s : Shared) (H : Hp) (C : Addr) (cl : List (Str × Addr)) (fp : List Addr), Wr (θ := θ) (δ := δ) (m := m) (X.blk s H scope (compEnvC scope cl C X.env) fp) (.Name x px) [i] (NameT i)) (hz : ∀ src, S src → src.length ≤ 100000)
    (hE : ∀ src, S src → ∀ d ∈ src, ∀ (s : Shared) (H : Hp) (C : Addr) (cl : List (Str × Addr)) (fp : List Addr), JE θ δ m (X.blk s H scope (compEnvC scope cl C X.env) fp) (ρ.set i (some (.dat d))) elt (Fi src d))
    (k : ∀ src es, S src → es.length = src.length → (∀ (j : Nat) d, src[j]? = some d → ∃ x, es[j]? = some x ∧ Fi src d x) → Ψ (.list es)) :
    JL θ δ m X ρ elt (.Name x px) iter [] scope [i] Ψ := fun σ G H rs p Q q => by
  refine lc_data (Fi := fun src d o => ∃ x, o = some x ∧ Fi src d x) hi (fun j hj => hj) hg (fun _ d _ _ => ⟨_, rfl⟩) hz (fun s d ρ' hs hd hρ => ?_) (fun s es hs hm => ?_) rs p q
  · have e : ρ' = ρ.set i (some (.dat d)) := by rw [hρ]; simp [wipeR]
    subst e
    exact ⟨fun k => k = true, fun _ _ _ _ _ => jf_nil, fun hb => (by cases hb), fun _ s1 H C cl fp => (hE s hs d hd s1 H C cl fp).mono fun x hx => ⟨x, rfl, hx⟩⟩
  · obtain ⟨h1, h2⟩ := made_all hm
    exact k s es hs h1 h2
def pairG (g : D → D → Option D) : D → Option D
  | .tup [u, v] => g u v
  | _ => none
/-- [elt for x, y in src if ..], src of pairs -/
theorem jl_two {x y : Str} {px py tpos : Pos} {kk : Nat} {src : List D} (i j : Nat) (g : D → D → Option D) (hi : JI θ δ m X ρ (.Tuple [.Name x px, .Name y py] kk tpos) iter (fun s => s = src)) (hij : i ≠ j)
    (hg : ∀ (s : Shared) (H : Hp) (C : Addr) (cl : List (Str × Addr)) (fp : List Addr), Wr (θ := θ) (δ := δ) (m := m) (X.blk s H scope (compEnvC scope cl C X.env) fp) (.Tuple [.Name x px, .Name y py] kk tpos) [i, j] (Two i j)) (hz : src.length ≤ 100000)
    (hs2 : ∀ d ∈ src, ∃ u v, d = .tup [u, v])
    (hT : ∀ u v, .tup [u, v] ∈ src → ∀ (s : Shared) (H : Hp) (C : Addr) (cl : List (Str × Addr)) (fp : List Addr), JF θ δ m (X.blk s H scope (compEnvC scope cl C X.env) fp) ((ρ.set i (some (.dat u))).set j (some (.dat v))) ifs (fun k => k = (g u v).isSome))
    (hE : ∀ u v, .tup [u, v] ∈ src → ∀ r, g u v = some r → ∀ (s : Shared) (H : Hp) (C : Addr) (cl : List (Str × Addr)) (fp : List Addr), JE θ δ m (X.blk s H scope (compEnvC scope cl C X.env) fp) ((ρ.set i (some (.dat u))).set j (some (.dat v))) elt (Is r)) :
    JL θ δ m X ρ elt (.Tuple [.Name x px, .Name y py] kk tpos) iter ifs scope [i, j] (Is (.list (src.filterMap (pairG g)))) := fun σ G H rs p Q q => by
  refine lc_data (Fi := fun _ d o => o = pairG g d) hi (fun j hj => hj) hg (fun s d hs hd => ?_) (fun s hs => hs ▸ hz) (fun s d ρ' hs hd hρ => ?_) (fun s es hs hm => ?_) rs p q
  · obtain ⟨u, v, rfl⟩ := hs2 d (hs ▸ hd)
    exact ⟨_, u, v, rfl, rfl⟩
  · subst hs
    obtain ⟨u, v, rfl, e1⟩ := hρ
    have e : ρ' = (ρ.set i (some (.dat u))).set j (some (.dat v)) := by
      rw [e1]
      simp only [wipeR]
      rw [List.set_set, List.set_comm _ _ (Ne.symm hij), List.set_set]
    subst e
    refine ⟨_, hT u v hd, fun hb => ?_, fun hb s H C cl fp => ?_⟩
    · cases hgd : g u v with
      | none => exact hgd.symm
      | some r => rw [hgd] at hb; cases hb
    · cases hgd : g u v with
      | none => rw [hgd] at hb; cases hb
      | some r =>
        refine (hE u v hd r hgd s H C cl fp).mono fun x hx => ?_
        show some x = g u v
        rw [hx, hgd]
  · rw [made_fn hm, hs]
end
end B
set_option Elab.async false
set_option autoImplicit false
set_option linter.all false
set_option maxRecDepth 100000
set_option maxHeartbeats 2000000
namespace B
open PySem PySem.Spec PyProof.Rows L2

/-! ### defs -/
inductive Ou where
  | ret (d : D)
  | exc (c : EC) (n : Int)
def spD (θ : Th) (m : Bool) (pre : List D → Prop) (post : List D → Ou → Prop) : Sp := fun vs H Q E => ∃ (δ : Dl) (G : Hp) (ds : List D), Pre θ δ m G H ∧ RA θ δ G vs ds ∧ pre ds ∧
  (∀ v d G' H', Post θ δ m G H G' H' → post ds (.ret d) → R θ δ G' v d → Q v H') ∧
  (∀ c n dx G' H', Post θ δ m G H G' H' → post ds (.exc c n) → H' dx = some (.xd [(("at" : Str), .int n)]) → E (.ref (θ.cls c)) (some dx) H')
def outsOf (post : List D → Ou → Prop) (ds : List D) : Outs := { nx := fun _ => post ds (.ret .non), rt := fun d => post ds (.ret d), ex := fun c n => post ds (.exc c n) }
def startR (N : List Str) (ds : List D) : Rho := ds.map (fun d => some (Sl.dat d)) ++ List.replicate (N.length - ds.length) none
theorem rs_start {θ : Th} {δ : Dl} {m : Bool} {G H : Hp} {N : List Str} {vs : List V} {ds : List D} (ra : RA θ δ G vs ds) : RS θ δ m G H (L2.start N vs) (startR N ds) := by
  have hl := ra.length
  have no : ∀ (i : Nat) (es : List D), (startR N ds)[i]? ≠ some (some (Sl.own es)) := fun i es h => by
    unfold startR at h
    by_cases hi : i < ds.length
    · rw [List.getElem?_append_left (by simpa using hi), List.getElem?_map, List.getElem?_eq_getElem hi] at h
      cases h
    · rw [List.getElem?_append_right (by simpa using hi), List.getElem?_replicate] at h
      split at h <;> cases h
  refine ⟨?_, fun i d h => ?_, fun i es h => absurd h (no i es), fun i j a b h _ => absurd h (no i a)⟩
  · unfold L2.start startR
    simp [hl]
  · unfold startR at h
    by_cases hi : i < ds.length
    · rw [List.getElem?_append_left (by simpa using hi), List.getElem?_map, List.getElem?_eq_getElem hi] at h
      cases h
      obtain ⟨v, h1, h2⟩ := ra.get (List.getElem?_eq_getElem hi)
      refine ⟨v, ?_, h2⟩
      unfold L2.start
      rw [List.getElem?_append_left (by simp; omega), List.getElem?_map, h1]
      rfl
    · rw [List.getElem?_append_right (by simpa using hi), List.getElem?_replicate] at h
      split at h <;> cases h
/-- the def x as the top has left it -/
structure Df (K : PySem.W.Frag) (mg : Str → Option Value) (x : Str) (st : Stmt) (ps : List Str) (f : Addr) (fd : FuncData) : Prop where
  F : Fun K x x st f fd
  g : mg x = some (.ref f)
  b : Binds K fd ps []
def Cal (P : Program) (w : World) (K : PySem.W.Frag) (mg : Str → Option Value) (base : Heap) (k : Nat) (x : Str) (ps : List Str) (sp : Sp) : Prop :=
  ∃ f fd, FnOk P w K mg base (L2.CX P w) k f fd ps sp ∧ mg x = some (.ref f) ∧ PySem.W.keepIn K (.ref f) = true ∧ Binds K fd ps [] ∧ ∃ oc od osl, K.lookup f = some ⟨oc, od, .func fd, osl⟩
section
variable {P : Program} {w : World} {K : PySem.W.Frag} {mg : Str → Option Value} {base : Heap}
theorem fnD {θ : Th} {m : Bool} {pre : List D → Prop} {post : List D → Ou → Prop} {x : Str} {st : Stmt} {f : Addr} {fd : FuncData} {N ps : List Str} {k : Nat} {qual : Str} (F : Fun K x qual st f fd) (S : FnScope N ps (defScope st)) (len : ∀ ds, pre ds → ds.length = ps.length)
    (body : ∀ (cdv : Value) (A : Around) (outer : List Env) (s : Shared) (H : Hp) (E : XK), Room k (A.deeper (envOfC qual (defScope st) s.heap.objs.size f cdv)) → ∀ (δ : Dl) (ds : List D), pre ds →
      JS θ δ m (cxOf (L2.CX P w) P w K mg base N qual (defScope st) f cdv A outer s H E) E (startR N ds) (defBody st) (outsOf post ds)) : FnOk P w K mg base (L2.CX P w) (k + 1) f fd ps (spD θ m pre post) := by
  refine F.okX S (fun vs H Q E h => ?_) (fun cdv A outer s H vs Q E hr h => ?_)
  · obtain ⟨δ, G, ds, p, ra, hp, _⟩ := h
    rw [ra.length, len ds hp]
  · obtain ⟨δ, G, ds, p, ra, hp, k1, k2⟩ := h
    have e1 : δ.d = (Dl.mk δ.d δ.d0 G H).d := rfl
    have e2 : δ.d0 = (Dl.mk δ.d δ.d0 G H).d0 := rfl
    have z := body cdv A outer s H E hr (Dl.mk δ.d δ.d0 G H) ds hp G H (L2.start N vs) G H ⟨rs_start (ra.base e1), p.base e1 e2, .refl (p.base e1 e2), Same.refl _⟩ { nx := fun _ H' => Q .non H', rt := Q }
      ⟨fun ρ σ G' H' f s' => k1 .non .non G' H' (s'.post.base e1.symm e2.symm) f .non, fun v d G' H' f po rv => k1 v d G' H' (po.base e1.symm e2.symm) f (rv.base e1.symm), fun _ _ _ _ z => z.elim, fun _ _ _ _ z => z.elim, fun c n dx G' H' f po e => k2 c n dx G' H' (po.base e1.symm e2.symm) f e⟩
    exact z
theorem calD {θ : Th} {m : Bool} {pre : List D → Prop} {post : List D → Ou → Prop} {x : Str} {st : Stmt} {f : Addr} {fd : FuncData} {N ps : List Str} {k : Nat} (D0 : Df K mg x st ps f fd) (S : FnScope N ps (defScope st)) (len : ∀ ds, pre ds → ds.length = ps.length)
    (body : ∀ (cdv : Value) (A : Around) (outer : List Env) (s : Shared) (H : Hp) (E : XK), Room k (A.deeper (envOfC x (defScope st) s.heap.objs.size f cdv)) → ∀ (δ : Dl) (ds : List D), pre ds →
      JS θ δ m (cxOf (L2.CX P w) P w K mg base N x (defScope st) f cdv A outer s H E) E (startR N ds) (defBody st) (outsOf post ds)) : Cal P w K mg base (k + 1) x ps (spD θ m pre post) :=
  ⟨f, fd, fnD D0.F S len body, D0.g, D0.F.kp, D0.b, let ⟨oc, od, _, _, _, _, _, _, osl, _, lk, _⟩ := D0.F.ex; ⟨oc, od, osl, lk⟩⟩
end
section
variable {θ : Th} {δ : Dl} {m : Bool} {X : Cx} {E : XK} {ρ : Rho} {a b c e tg iter elt : Expr} {es ifs : List Expr} {Φ Φ' A C : D → Prop} {β β' : Bool → Prop} {pos : Pos} {rest : List Stmt} {O : Outs} {G0 H0 G G' H H' : Hp} {σ : L2.St} {scope : Scope} {own : List (Str × Nat)} {Ψ : D → Prop}
theorem Post.lift {m' : Bool} (hm : m' = m ∨ m' = false) (p : Pre θ δ m G H) (q : Post θ δ m' G H G' H') : Post θ δ m G H G' H' := by
  rcases hm with rfl | rfl
  · exact q
  · exact .grow p q.gg q.gh (fun a o e => q.fr a o e fun z => by cases z) q.nw q.nt
theorem Pre.lower {m' : Bool} (hm : m' = m ∨ m' = false) (p : Pre θ δ m G H) : Pre θ δ m' G H := by
  rcases hm with rfl | rfl
  · exact p
  · exact ⟨p.gh, p.nt, fun z => by cases z⟩
/-- a call by name: of what is handed back, and of what is raised -/
theorem jx_call {CX : CXT} {x : Str} {px : Pos} {ps : List Str} {j k : Nat} {m' : Bool} {pre : List D → Prop} {post : List D → Ou → Prop} {Θ : List D → Prop} {Φ : D → Prop} {Ψ : EC → Int → Prop} (F : Cal X.prog X.w X.K X.mg X.base j x ps (spD θ m' pre post)) (hr : Room k X.A) (hjk : j ≤ k) (hx : Passes (L2.CX X.prog X.w) X E)
    (ha : JA θ δ m X ρ (e :: es) Θ) (hp : ∀ ds, Θ ds → pre ds) (h1 : ∀ ds d, Θ ds → post ds (.ret d) → Φ d) (h2 : ∀ ds c n, Θ ds → post ds (.exc c n) → Ψ c n) (hmm : m' = m ∨ m' = false := by first | exact .inl rfl | exact .inr rfl) (hg : Gl X x := by rfl)
    (hdb : (x == ("__debug__" : Str)) = false := by decide) (he : starEach (e :: es) X.env = (false, eval e X.env) :: starEach es X.env := by rfl) (hpl : (backTo pos (starEach es X.env)).any (·.1) = false := by rfl) :
    JX θ δ m X E ρ (.Call (.Name x px) (e :: es) [] pos) Φ Ψ := fun σ G H rs p Q q q2 => by
  obtain ⟨f, fd, Fo, hm, hk, hb, _⟩ := F
  refine ⟨_, pe_call (Fo.mono hjk) hr hg hm hk hb .nil hx (pa_b X _) hdb he hpl, ha σ G H rs p _ fun vs ds G1 H1 p1 fa ra => ?_⟩
  rw [List.append_nil]
  have pr1 := p1.pre p
  exact ⟨δ, G1, ds, pr1.lower hmm, ra, hp ds fa, fun v d G' H' po f rv => q v d G' H' (p1.trans (po.lift hmm pr1)) (h1 ds d fa f) rv, fun c n dx G' H' po f ex => q2 c n dx G' H' (p1.trans (po.lift hmm pr1)) (h2 ds c n fa f) ex⟩
theorem JX.je {Ψ : EC → Int → Prop} (h : JX θ δ m X E0 ρ e Φ Ψ) (hn : ∀ c n, ¬ Ψ c n) : JE θ δ m X ρ e Φ := fun σ G H rs p Q q => h σ G H rs p Q q fun c n dx G' H' _ f _ => (hn c n f).elim
/-- .. that does not raise -/
theorem je_call {x : Str} {px : Pos} {ps : List Str} {j k : Nat} {m' : Bool} {pre : List D → Prop} {post : List D → Ou → Prop} {Θ : List D → Prop} {Φ : D → Prop} (F : Cal X.prog X.w X.K X.mg X.base j x ps (spD θ m' pre post)) (hr : Room k X.A) (hjk : j ≤ k)
    (ha : JA θ δ m X ρ (e :: es) Θ) (hp : ∀ ds, Θ ds → pre ds) (h1 : ∀ ds d, Θ ds → post ds (.ret d) → Φ d) (h2 : ∀ ds c n, Θ ds → ¬ post ds (.exc c n)) (hmm : m' = m ∨ m' = false := by first | exact .inl rfl | exact .inr rfl) (hg : Gl X x := by rfl)
    (hdb : (x == ("__debug__" : Str)) = false := by decide) (he : starEach (e :: es) X.env = (false, eval e X.env) :: starEach es X.env := by rfl) (hpl : (backTo pos (starEach es X.env)).any (·.1) = false := by rfl) : JE θ δ m X ρ (.Call (.Name x px) (e :: es) [] pos) Φ :=
  (jx_call (CX := L2.CX X.prog X.w) (Ψ := fun _ _ => False) F hr hjk passL ha hp h1 (fun ds c n f z => h2 ds c n f z) hmm hg hdb he hpl).je fun _ _ z => z
/-- of known arguments and a known answer -/
theorem je_callI {x : Str} {px : Pos} {ps : List Str} {j k : Nat} {m' : Bool} {pre : List D → Prop} {post : List D → Ou → Prop} {ds : List D} {d : D} (F : Cal X.prog X.w X.K X.mg X.base j x ps (spD θ m' pre post)) (hr : Room k X.A) (hjk : j ≤ k)
    (ha : JA θ δ m X ρ (e :: es) (fun r => r = ds)) (hp : pre ds) (h1 : ∀ o, post ds o → o = .ret d) (hmm : m' = m ∨ m' = false := by first | exact .inl rfl | exact .inr rfl) (hg : Gl X x := by rfl)
    (hdb : (x == ("__debug__" : Str)) = false := by decide) (he : starEach (e :: es) X.env = (false, eval e X.env) :: starEach es X.env := by rfl) (hpl : (backTo pos (starEach es X.env)).any (·.1) = false := by rfl) : JE θ δ m X ρ (.Call (.Name x px) (e :: es) [] pos) (Is d) :=
  je_call F hr hjk ha (fun r e => e ▸ hp) (fun r d' e f => by subst e; cases h1 _ f; rfl) (fun r c n e f => by subst e; cases h1 _ f) hmm hg hdb he hpl

/-! ### built-ins, on data -/
theorem JE.bp {b : Bool} (h : JE θ δ m X ρ e (Is (.bl b))) : JE θ δ m X ρ e (Bp fun k => k = b) := h.mono fun d e => ⟨b, e, rfl⟩
def tyD : D → Option String
  | .non => some "NoneType"
  | .bl _ => some "bool"
  | .int _ => some "int"
  | .str _ => some "str"
  | .list _ => some "list"
  | .tup _ => some "tuple"
  | .edict => some "dict"
  | _ => none
theorem R.tyx {v : V} {d : D} {T : String} (h : R θ δ G v d) (hT : tyD d = some T) (e : Same G H) : TyX θ.K H v (.type T) := by
  cases h <;> cases hT
  · exact .base .non
  · exact .base (.bl _)
  · exact .base (.int _)
  · exact .base (.str _)
  · exact .base (.lst (e _ _ ‹_›))
  · exact .base (.tup (e _ _ ‹_›))
  · exact .base (.dK (e _ _ ‹_›))
theorem je_bltn {x : Str} {n : String} (hm : X.mg x = none) (hv : bootBuiltins x = some (.type n) := by decide +kernel) (hg : Gl X x := by rfl) (hn : x ≠ "__name__" := by decide) (hdb : (x == ("__debug__" : Str)) = false := by decide) : JE θ δ m X ρ (.Name x pos) (Is (.ty n)) := fun σ G H rs p Q q =>
  ⟨_, pe_bltn (v := .ty n) hg hm hv rfl hn hdb, q _ _ G H (.refl p) rfl (.ty n)⟩
theorem ca_isi (hK : X.K = θ.K) {d : D} {T T' : String} {b : Bool} (hT : tyD d = some T') (h : kitB T' T = some b) : CaD θ δ m (rIsi X.K) (fun ds => ds = [d, .ty T]) (Is (.bl b)) := fun xs ds G H f ra p Q q => by
  subst f
  cases ra with
  | cons r1 ra =>
    cases ra with
    | cons r2 ra =>
      cases ra
      cases r2
      exact ⟨_, _, _, _, b, rfl, .ty T, by rw [hK]; exact r1.tyx hT p.gh, kit_ty h, q _ _ G H (.refl p) rfl (.bl b)⟩
def isiD (d : D) (T : String) : Bool := match tyD d with
  | some T' => (kitB T' T).getD false
  | none => false
theorem ca_isiSeq (hK : X.K = θ.K) {d : D} {T' : String} {b : Bool} (hT : tyD d = some T') (h : PySem.W.kitAny θ.K (.type T') [.type "list", .type "tuple"] = some b) : CaD θ δ m (rIsiT X.K) (fun ds => ds = [d, .tup [.ty "list", .ty "tuple"]]) (Is (.bl b)) := fun xs ds G H f ra p Q q => by
  subst f
  cases ra with
  | cons r1 ra =>
    cases ra with
    | cons r2 ra =>
      cases ra
      cases r2 with
      | @tup a ys _ hs ra2 =>
        cases ra2 with
        | cons s1 ra2 =>
          cases ra2 with
          | cons s2 ra2 =>
            cases ra2
            cases s1
            cases s2
            exact ⟨_, a, _, _, [.type "list", .type "tuple"], b, rfl, p.gh _ _ hs, .cons (.ty _) (.cons (.ty _) .nil), by rw [hK]; exact r1.tyx hT p.gh, by rw [hK]; exact h, q _ _ G H (.refl p) rfl (.bl b)⟩
/-- the length of a list, a tuple -/
def lenD : D → Option Nat
  | .list xs => some xs.length
  | .tup xs => some xs.length
  | _ => none
theorem ca_len (hK : X.K = θ.K) {d : D} {n : Nat} (hn : lenD d = some n) : CaD θ δ m (fun xs H Q => ∃ p ys, xs = [.ref p] ∧ (SqL X.K H p ys ∨ SqT X.K H p ys) ∧ Q (.int ys.length) H) (fun ds => ds = [d]) (Is (.int n)) := fun xs ds G H f ra p Q q => by
  subst f
  cases ra with
  | cons r1 ra =>
    cases ra
    cases r1 <;> cases hn
    · rename_i a xs es hs ra
      exact ⟨a, xs, rfl, .inl (SqL.of (p.gh _ _ hs)), q _ _ G H (.refl p) (by rw [ra.length]) (.int _)⟩
    · rename_i a xs es hs ra
      exact ⟨a, xs, rfl, .inr (SqT.of (p.gh _ _ hs)), q _ _ G H (.refl p) (by rw [ra.length]) (.int _)⟩
end
end B
set_option Elab.async false
set_option autoImplicit false
set_option linter.all false
set_option maxRecDepth 100000
set_option maxHeartbeats 2000000
namespace B
open PySem PySem.Spec PyProof.Rows L2

section
variable {θ : Th} {δ : Dl} {m : Bool} {X : Cx} {E : XK} {ρ : Rho} {a b c e tg iter elt : Expr} {es ifs : List Expr} {Φ Φ' A C : D → Prop} {β β' : Bool → Prop} {pos : Pos} {rest : List Stmt} {O : Outs} {G0 H0 G G' H H' : Hp} {σ : L2.St} {scope : Scope} {own : List (Str × Nat)} {Ψ : D → Prop}

/-! ### numbers -/
abbrev Ip (N : Int → Prop) : D → Prop := fun d => ∃ i, d = .int i ∧ N i
theorem od_I0 {g : Int → Int → V} {f : Int → Int → D} {i j : Int} (h : ∀ G : Hp, R θ δ G (g i j) (f i j)) : OpD θ δ m (rI0 g) (Is (.int i)) (Is (.int j)) (Is (f i j)) := fun x y da db G H fa fb rx ry p Q q => by
  subst fa fb
  cases rx
  cases ry
  exact ⟨i, j, rfl, rfl, q _ _ G H (.refl p) rfl (h G)⟩
theorem odP_I0 {g : Int → Int → V} {f : Int → Int → D} {N M : Int → Prop} (h : ∀ (G : Hp) i j, R θ δ G (g i j) (f i j)) (k : ∀ i j, N i → M j → Φ (f i j)) : OpD θ δ m (rI0 g) (Ip N) (Ip M) Φ := fun x y da db G H fa fb rx ry p Q q => by
  obtain ⟨i, rfl, hi⟩ := fa
  obtain ⟨j, rfl, hj⟩ := fb
  cases rx
  cases ry
  exact ⟨i, j, rfl, rfl, q _ _ G H (.refl p) (k i j hi hj) (h G i j)⟩
theorem odP_I {C0 : Int → Int → Prop} {g : Int → Int → V} {f : Int → Int → D} {N M : Int → Prop} (hc : ∀ i j, N i → M j → C0 i j) (h : ∀ (G : Hp) i j, R θ δ G (g i j) (f i j)) (k : ∀ i j, N i → M j → Φ (f i j)) : OpD θ δ m (rI C0 g) (Ip N) (Ip M) Φ := fun x y da db G H fa fb rx ry p Q q => by
  obtain ⟨i, rfl, hi⟩ := fa
  obtain ⟨j, rfl, hj⟩ := fb
  cases rx
  cases ry
  exact ⟨i, j, rfl, rfl, hc i j hi hj, q _ _ G H (.refl p) (k i j hi hj) (h G i j)⟩
theorem JE.ip {i : Int} (h : JE θ δ m X ρ e (Is (.int i))) : JE θ δ m X ρ e (Ip fun k => k = i) := h.mono fun d e => ⟨i, e, rfl⟩
theorem JE.is {i : Int} (h : JE θ δ m X ρ e (Ip fun k => k = i)) : JE θ δ m X ρ e (Is (.int i)) := h.mono fun d ⟨k, e1, e2⟩ => by rw [e1, e2]
theorem je_addP {N M : Int → Prop} (ha : JE θ δ m X ρ a (Ip N)) (hb : JE θ δ m X ρ b (Ip M)) : JE θ δ m X ρ (.BinOp a .Add b pos) (Ip fun k => ∃ i j, N i ∧ M j ∧ k = i + j) :=
  je_bin op_add ha hb (odP_I0 (f := fun i j => .int (i + j)) (fun _ _ _ => .int _) fun i j hi hj => ⟨_, rfl, i, j, hi, hj, rfl⟩)
theorem je_add {i j : Int} (ha : JE θ δ m X ρ a (Is (.int i))) (hb : JE θ δ m X ρ b (Is (.int j))) : JE θ δ m X ρ (.BinOp a .Add b pos) (Is (.int (i + j))) :=
  je_bin op_add ha hb (od_I0 (f := fun i j => .int (i + j)) fun _ => .int _)
theorem je_sub {i j : Int} (ha : JE θ δ m X ρ a (Is (.int i))) (hb : JE θ δ m X ρ b (Is (.int j))) : JE θ δ m X ρ (.BinOp a .Sub b pos) (Is (.int (i - j))) :=
  je_bin op_sub ha hb (od_I0 (f := fun i j => .int (i - j)) fun _ => .int _)
/-- of factors of less than a million bits together -/
theorem je_mul {i j : Int} (hw : CMulW i j) (ha : JE θ δ m X ρ a (Is (.int i))) (hb : JE θ δ m X ρ b (Is (.int j))) : JE θ δ m X ρ (.BinOp a .Mult b pos) (Is (.int (i * j))) :=
  (je_bin op_mulW ha.ip hb.ip (odP_I (f := fun i j => .int (i * j)) (fun i' j' hi hj => by rw [hi, hj]; exact hw) (fun _ _ _ => .int _) fun i' j' hi hj => ⟨i' * j', rfl, by rw [hi, hj]⟩) : JE θ δ m X ρ _ (Ip fun k => k = i * j)).is
/-- one of the factors small -/
theorem je_mulP {N M : Int → Prop} (hc : ∀ i j, N i → M j → CMul i j) (ha : JE θ δ m X ρ a (Ip N)) (hb : JE θ δ m X ρ b (Ip M)) : JE θ δ m X ρ (.BinOp a .Mult b pos) (Ip fun k => ∃ i j, N i ∧ M j ∧ k = i * j) :=
  je_bin op_mul ha hb (odP_I (f := fun i j => .int (i * j)) hc (fun _ _ _ => .int _) fun i j hi hj => ⟨_, rfl, i, j, hi, hj, rfl⟩)
theorem je_modP {N M : Int → Prop} (hc : ∀ i j, N i → M j → 0 < j) (ha : JE θ δ m X ρ a (Ip N)) (hb : JE θ δ m X ρ b (Ip M)) : JE θ δ m X ρ (.BinOp a .Mod b pos) (Ip fun k => ∃ i j, N i ∧ M j ∧ k = i % j) :=
  je_bin op_mod ha hb (odP_I (f := fun i j => .int (i % j)) hc (fun _ _ _ => .int _) fun i j hi hj => ⟨_, rfl, i, j, hi, hj, rfl⟩)
theorem je_divP {N M : Int → Prop} (hc : ∀ i j, N i → M j → CDivW i j) (ha : JE θ δ m X ρ a (Ip N)) (hb : JE θ δ m X ρ b (Ip M)) : JE θ δ m X ρ (.BinOp a .FloorDiv b pos) (Ip fun k => ∃ i j, N i ∧ M j ∧ k = i / j) :=
  je_bin op_fdivW ha hb (odP_I (f := fun i j => .int (i / j)) hc (fun _ _ _ => .int _) fun i j hi hj => ⟨_, rfl, i, j, hi, hj, rfl⟩)
theorem je_div {i j : Int} (hc : CDivW i j) (ha : JE θ δ m X ρ a (Is (.int i))) (hb : JE θ δ m X ρ b (Is (.int j))) : JE θ δ m X ρ (.BinOp a .FloorDiv b pos) (Is (.int (i / j))) :=
  (je_bin op_fdivW ha.ip hb.ip (odP_I (f := fun i j => .int (i / j)) (fun i' j' hi hj => by rw [hi, hj]; exact hc) (fun _ _ _ => .int _) fun i' j' hi hj => ⟨i' / j', rfl, by rw [hi, hj]⟩) : JE θ δ m X ρ _ (Ip fun k => k = i / j)).is
theorem je_pow {i j : Int} (hc : CPow i j) (ha : JE θ δ m X ρ a (Is (.int i))) (hb : JE θ δ m X ρ b (Is (.int j))) : JE θ δ m X ρ (.BinOp a .Pow b pos) (Is (.int (i ^ j.toNat))) :=
  (je_bin op_pow ha.ip hb.ip (odP_I (f := fun i j => .int (i ^ j.toNat)) (fun i' j' hi hj => by rw [hi, hj]; exact hc) (fun _ _ _ => .int _) fun i' j' hi hj => ⟨i' ^ j'.toNat, rfl, by rw [hi, hj]⟩) : JE θ δ m X ρ _ (Ip fun k => k = i ^ j.toNat)).is
theorem je_neg {i : Int} (ha : JE θ δ m X ρ a (Is (.int i))) : JE θ δ m X ρ (.UnaryOp .USub a pos) (Is (.int (-i))) := je_un un_neg ha fun x da G H fa rx p Q q => by
  subst fa
  cases rx
  exact ⟨i, rfl, q _ _ G H (.refl p) rfl (.int _)⟩
/-! comparisons of numbers -/
theorem od_lt {i j : Int} : OpD θ δ m (rI0 fun i j => .bl (decide (i < j))) (Is (.int i)) (Is (.int j)) (Is (.bl (decide (i < j)))) := od_I0 (f := fun i j => .bl (decide (i < j))) fun _ => .bl _
theorem od_le {i j : Int} : OpD θ δ m (rI0 fun i j => .bl (decide (i ≤ j))) (Is (.int i)) (Is (.int j)) (Is (.bl (decide (i ≤ j)))) := od_I0 (f := fun i j => .bl (decide (i ≤ j))) fun _ => .bl _
theorem od_gt {i j : Int} : OpD θ δ m (rI0 fun i j => .bl (decide (j < i))) (Is (.int i)) (Is (.int j)) (Is (.bl (decide (j < i)))) := od_I0 (f := fun i j => .bl (decide (j < i))) fun _ => .bl _
theorem od_ge {i j : Int} : OpD θ δ m (rI0 fun i j => .bl (decide (j ≤ i))) (Is (.int i)) (Is (.int j)) (Is (.bl (decide (j ≤ i)))) := od_I0 (f := fun i j => .bl (decide (j ≤ i))) fun _ => .bl _
theorem od_eqI {i j : Int} : OpD θ δ m rEq (Is (.int i)) (Is (.int j)) (Is (.bl (decide (i = j)))) := fun x y da db G H fa fb rx ry p Q q => by
  subst fa fb
  cases rx
  cases ry
  exact ⟨rfl, q _ _ G H (.refl p) (by simp) (.bl _)⟩
theorem od_neI {i j : Int} : OpD θ δ m rNe (Is (.int i)) (Is (.int j)) (Is (.bl (!decide (i = j)))) := fun x y da db G H fa fb rx ry p Q q => by
  subst fa fb
  cases rx
  cases ry
  exact ⟨rfl, q _ _ G H (.refl p) (by simp) (.bl _)⟩
theorem od_eqS {i j : Str} : OpD θ δ m rEq (Is (.str i)) (Is (.str j)) (Is (.bl (decide (i = j)))) := fun x y da db G H fa fb rx ry p Q q => by
  subst fa fb
  cases rx
  cases ry
  exact ⟨rfl, q _ _ G H (.refl p) (by simp) (.bl _)⟩
theorem od_neS {i j : Str} : OpD θ δ m rNe (Is (.str i)) (Is (.str j)) (Is (.bl (!decide (i = j)))) := fun x y da db G H fa fb rx ry p Q q => by
  subst fa fb
  cases rx
  cases ry
  exact ⟨rfl, q _ _ G H (.refl p) (by simp) (.bl _)⟩
theorem OpD.bp {r : R2} {A C : D → Prop} {b : Bool} (h : OpD θ δ m r A C (Is (.bl b))) : OpD θ δ m r A C (Bp fun k => k = b) := fun x y da db G H fa fb rx ry p Q q => h x y da db G H fa fb rx ry p Q fun v d G' H' po f rv => q v d G' H' po ⟨b, f, rfl⟩ rv
/-- a test of known answer -/
abbrev JTI (θ : Th) (δ : Dl) (m : Bool) (X : Cx) (ρ : Rho) (e : Expr) (b : Bool) : Prop := JT θ δ m X ρ e (fun k => k = b)
theorem jt_lt {i j : Int} (ha : JE θ δ m X ρ a (Is (.int i))) (hb : JE θ δ m X ρ b (Is (.int j))) : JTI θ δ m X ρ (.Compare a [.Lt] [b] pos) (decide (i < j)) := jt_cmp op_lt (nomark _) ha hb od_lt.bp
theorem jt_le {i j : Int} (ha : JE θ δ m X ρ a (Is (.int i))) (hb : JE θ δ m X ρ b (Is (.int j))) : JTI θ δ m X ρ (.Compare a [.LtE] [b] pos) (decide (i ≤ j)) := jt_cmp op_le (nomark _) ha hb od_le.bp
theorem jt_gt {i j : Int} (ha : JE θ δ m X ρ a (Is (.int i))) (hb : JE θ δ m X ρ b (Is (.int j))) : JTI θ δ m X ρ (.Compare a [.Gt] [b] pos) (decide (j < i)) := jt_cmp op_gt (nomark _) ha hb od_gt.bp
theorem jt_ge {i j : Int} (ha : JE θ δ m X ρ a (Is (.int i))) (hb : JE θ δ m X ρ b (Is (.int j))) : JTI θ δ m X ρ (.Compare a [.GtE] [b] pos) (decide (j ≤ i)) := jt_cmp op_ge (nomark _) ha hb od_ge.bp
theorem jt_eq {i j : Int} (ha : JE θ δ m X ρ a (Is (.int i))) (hb : JE θ δ m X ρ b (Is (.int j))) : JTI θ δ m X ρ (.Compare a [.Eq] [b] pos) (decide (i = j)) := jt_cmp op_eq (nomark _) ha hb od_eqI.bp
theorem jt_ne {i j : Int} (ha : JE θ δ m X ρ a (Is (.int i))) (hb : JE θ δ m X ρ b (Is (.int j))) : JTI θ δ m X ρ (.Compare a [.NotEq] [b] pos) (!decide (i = j)) := jt_cmp op_ne (nomark _) ha hb od_neI.bp
theorem je_lt {i j : Int} (ha : JE θ δ m X ρ a (Is (.int i))) (hb : JE θ δ m X ρ b (Is (.int j))) : JE θ δ m X ρ (.Compare a [.Lt] [b] pos) (Is (.bl (decide (i < j)))) := je_cmp op_lt (nomark _) ha hb od_lt
theorem je_le {i j : Int} (ha : JE θ δ m X ρ a (Is (.int i))) (hb : JE θ δ m X ρ b (Is (.int j))) : JE θ δ m X ρ (.Compare a [.LtE] [b] pos) (Is (.bl (decide (i ≤ j)))) := je_cmp op_le (nomark _) ha hb od_le
theorem je_gt {i j : Int} (ha : JE θ δ m X ρ a (Is (.int i))) (hb : JE θ δ m X ρ b (Is (.int j))) : JE θ δ m X ρ (.Compare a [.Gt] [b] pos) (Is (.bl (decide (j < i)))) := je_cmp op_gt (nomark _) ha hb od_gt
theorem je_ge {i j : Int} (ha : JE θ δ m X ρ a (Is (.int i))) (hb : JE θ δ m X ρ b (Is (.int j))) : JE θ δ m X ρ (.Compare a [.GtE] [b] pos) (Is (.bl (decide (j ≤ i)))) := je_cmp op_ge (nomark _) ha hb od_ge
theorem je_eq {i j : Int} (ha : JE θ δ m X ρ a (Is (.int i))) (hb : JE θ δ m X ρ b (Is (.int j))) : JE θ δ m X ρ (.Compare a [.Eq] [b] pos) (Is (.bl (decide (i = j)))) := je_cmp op_eq (nomark _) ha hb od_eqI
theorem JT.to {k k' : Bool} (h : JTI θ δ m X ρ e k) (hk : k = k') : JTI θ δ m X ρ e k' := hk ▸ h
theorem JE.to {d d' : D} (h : JE θ δ m X ρ e (Is d)) (hk : d = d') : JE θ δ m X ρ e (Is d') := hk ▸ h
theorem jt_notI {k : Bool} (h : JTI θ δ m X ρ a k) : JTI θ δ m X ρ (.UnaryOp .Not a pos) (!k) := (jt_not h).mono fun b hb => by rw [← hb]; simp
theorem jw_andI {k k' : Bool} {rest : List Expr} (h : JTI θ δ m X ρ a k) (h2 : k = true → JW θ δ m X ρ (.BoolOp .And (b :: rest) pos) (fun z => z = k')) : JW θ δ m X ρ (.BoolOp .And (a :: b :: rest) pos) (fun z => z = (k && k')) :=
  jw_and h (fun e => by subst e; simpa using h2 rfl) fun e => by subst e; rfl
theorem jw_orI {k k' : Bool} {rest : List Expr} (h : JTI θ δ m X ρ a k) (h2 : k = false → JW θ δ m X ρ (.BoolOp .Or (b :: rest) pos) (fun z => z = k')) : JW θ δ m X ρ (.BoolOp .Or (a :: b :: rest) pos) (fun z => z = (k || k')) :=
  jw_or h (fun e => by subst e; simpa using h2 rfl) fun e => by subst e; rfl
theorem je_andI {k : Bool} {d : D} {rest : List Expr} (h : JE θ δ m X ρ a (Is (.bl k))) (h2 : k = true → JE θ δ m X ρ (.BoolOp .And (b :: rest) pos) (Is d)) (hf : k = false → d = .bl false) : JE θ δ m X ρ (.BoolOp .And (a :: b :: rest) pos) (Is d) :=
  je_and h.bp (fun e => h2 e.symm) fun e => (hf e.symm).symm
theorem je_orI {k : Bool} {d : D} {rest : List Expr} (h : JE θ δ m X ρ a (Is (.bl k))) (h2 : k = false → JE θ δ m X ρ (.BoolOp .Or (b :: rest) pos) (Is d)) (hf : k = true → d = .bl true) : JE θ δ m X ρ (.BoolOp .Or (a :: b :: rest) pos) (Is d) :=
  je_or h.bp (fun e => h2 e.symm) fun e => (hf e.symm).symm
theorem je_notI {k : Bool} (h : JE θ δ m X ρ a (Is (.bl k))) : JE θ δ m X ρ (.UnaryOp .Not a pos) (Is (.bl (!k))) := (je_not h.bp).mono fun d ⟨k', e1, e2⟩ => by rw [e1, ← e2]; simp
theorem jt_valI {k : Bool} (h : JE θ δ m X ρ e (Is (.bl k))) (he : ∀ whole, isTrue e X.env whole = (do let v ← whole; standAt e.pos; holding [v] (truthy v)) := by intro _; rfl) : JTI θ δ m X ρ e k := jt_val h.bp he

/-! ### max, min, abs, int -/
theorem ca_max2 {i j : Int} : CaD θ δ m (fun xs H Q => ∃ i j, xs = [.int i, .int j] ∧ Q (.int (if j > i then j else i)) H) (fun ds => ds = [.int i, .int j]) (Is (.int (max i j))) := fun xs ds G H f ra p Q q => by
  have e := ra
  rw [f] at e
  cases e with
  | cons r1 ra =>
    cases ra with
    | cons r2 ra =>
      cases ra
      cases r1
      cases r2
      refine ⟨i, j, rfl, q _ _ G H (.refl p) ?_ (.int _)⟩
      congr 1
      rw [Int.max_def]
      split <;> split <;> omega
theorem ca_min2 {i j : Int} : CaD θ δ m (fun xs H Q => ∃ i j, xs = [.int i, .int j] ∧ Q (.int (if j < i then j else i)) H) (fun ds => ds = [.int i, .int j]) (Is (.int (min i j))) := fun xs ds G H f ra p Q q => by
  have e := ra
  rw [f] at e
  cases e with
  | cons r1 ra =>
    cases ra with
    | cons r2 ra =>
      cases ra
      cases r1
      cases r2
      refine ⟨i, j, rfl, q _ _ G H (.refl p) ?_ (.int _)⟩
      congr 1
      rw [Int.min_def]
      split <;> split <;> omega
theorem je_max {i j : Int} {px : Pos} (hm : X.mg "max" = none) (ha : JE θ δ m X ρ a (Is (.int i))) (hb : JE θ δ m X ρ b (Is (.int j))) (hc : X.calm = true := by rfl) (hg : Gl X "max" := by rfl) (h1 : starEach [a, b] X.env = (false, eval a X.env) :: starEach [b] X.env := by rfl) (h2 : starEach [b] X.env = (false, eval b X.env) :: starEach [] X.env := by rfl)
    (h3 : (backTo pos (starEach [b] X.env)).any (·.1) = false := by rfl) : JE θ δ m X ρ (.Call (.Name "max" px) [a, b] [] pos) (Is (.int (max i j))) := je_callB (call_max2 hc) hm (ja_1 ha (ja_1 hb ja_nil h2) h1) ca_max2 (by decide +kernel) hg (by decide) (by decide) h1 h3
theorem je_min {i j : Int} {px : Pos} (hm : X.mg "min" = none) (ha : JE θ δ m X ρ a (Is (.int i))) (hb : JE θ δ m X ρ b (Is (.int j))) (hc : X.calm = true := by rfl) (hg : Gl X "min" := by rfl) (h1 : starEach [a, b] X.env = (false, eval a X.env) :: starEach [b] X.env := by rfl) (h2 : starEach [b] X.env = (false, eval b X.env) :: starEach [] X.env := by rfl)
    (h3 : (backTo pos (starEach [b] X.env)).any (·.1) = false := by rfl) : JE θ δ m X ρ (.Call (.Name "min" px) [a, b] [] pos) (Is (.int (min i j))) := je_callB (call_min2 hc) hm (ja_1 ha (ja_1 hb ja_nil h2) h1) ca_min2 (by decide +kernel) hg (by decide) (by decide) h1 h3
theorem ca_int1 {N : Int → Prop} : CaD θ δ m (fun xs H Q => (∃ i, xs = [.int i] ∧ Q (.int i) H) ∨ ∃ k, xs = [.bl k] ∧ Q (.int (if k then 1 else 0)) H) (fun ds => ∃ d r, ds = d :: r ∧ Ip N d ∧ r = []) (Ip N) := fun xs ds G H f ra p Q q => by
  obtain ⟨d, r, rfl, ⟨i, rfl, hi⟩, rfl⟩ := f
  cases ra with
  | cons r1 ra =>
    cases ra
    cases r1
    exact .inl ⟨i, rfl, q _ _ G H (.refl p) ⟨i, rfl, hi⟩ (.int _)⟩
theorem ca_abs {N : Int → Prop} : CaD θ δ m (fun xs H Q => ∃ i, xs = [.int i] ∧ Q (.int (if i < 0 then -i else i)) H) (fun ds => ∃ d r, ds = d :: r ∧ Ip N d ∧ r = []) (Ip fun k => 0 ≤ k) := fun xs ds G H f ra p Q q => by
  obtain ⟨d, r, rfl, ⟨i, rfl, hi⟩, rfl⟩ := f
  cases ra with
  | cons r1 ra =>
    cases ra
    cases r1
    exact ⟨i, rfl, q _ _ G H (.refl p) ⟨_, rfl, by split <;> omega⟩ (.int _)⟩

/-! ### sequences -/
theorem ca_sumL {ns : List Int} : CaD θ δ m (rSum X.K) (fun ds => ds = [dli ns]) (Is (.int ns.sum)) := fun xs ds G H f ra p Q q => by
  subst f
  cases ra with
  | cons r1 ra =>
    cases ra
    cases r1 with
    | lst hs ra =>
      rw [ra.int] at hs
      exact ⟨_, ns, rfl, SqL.of (p.gh _ _ hs), q _ _ G H (.refl p) rfl (.int _)⟩
theorem ca_all {bs : List Bool} : CaD θ δ m (rAll X.K) (fun ds => ds = [.list (bs.map D.bl)]) (Is (.bl (bs.all id))) := fun xs ds G H f ra p Q q => by
  subst f
  cases ra with
  | cons r1 ra =>
    cases ra
    cases r1 with
    | lst hs ra =>
      rw [ra.bls] at hs
      exact ⟨_, bs, rfl, SqL.of (p.gh _ _ hs), q _ _ G H (.refl p) rfl (.bl _)⟩
/-- list(..) of a list or a tuple: a new one -/
def seqD : D → Option (List D)
  | .list xs => some xs
  | .tup xs => some xs
  | _ => none
theorem ca_list {d : D} {ds : List D} (hd : seqD d = some ds) : CaD θ δ m (fun xs H Q => ∃ p ys, xs = [.ref p] ∧ (SqL X.K H p ys ∨ SqT X.K H p ys) ∧ ∀ l, H l = none → Q (.ref l) (upd H l (.lst ys))) (fun r => r = [d]) (Is (.list ds)) := fun xs ds G H f ra p Q q => by
  subst f
  cases ra with
  | cons r1 ra =>
    cases ra
    cases d <;> cases hd
    · cases r1 with
      | lst hs ra => exact ⟨_, _, rfl, .inl (SqL.of (p.gh _ _ hs)), fun l hl => q _ _ _ _ (.new p hl fun ps z => by cases z) rfl (.lst upd_same (ra.mono (Same.upd (p.gnone hl))))⟩
    · cases r1 with
      | tup hs ra => exact ⟨_, _, rfl, .inr (SqT.of (p.gh _ _ hs)), fun l hl => q _ _ _ _ (.new p hl fun ps z => by cases z) rfl (.lst upd_same (ra.mono (Same.upd (p.gnone hl))))⟩
theorem ca_tuple {d : D} {ds : List D} (hd : seqD d = some ds) : CaD θ δ m (fun xs H Q => ∃ p ys, xs = [.ref p] ∧ ((SqL X.K H p ys ∧ ∀ l, H l = none → Q (.ref l) (upd H l (.tup ys))) ∨ (SqT X.K H p ys ∧ Q (.ref p) H))) (fun r => r = [d]) (Is (.tup ds)) := fun xs ds G H f ra p Q q => by
  subst f
  cases ra with
  | cons r1 ra =>
    cases ra
    cases d <;> cases hd
    · cases r1 with
      | lst hs ra => exact ⟨_, _, rfl, .inl ⟨SqL.of (p.gh _ _ hs), fun l hl => q _ _ _ _ (.new p hl fun ps z => by cases z) rfl (.tup upd_same (ra.mono (Same.upd (p.gnone hl))))⟩⟩
    · cases r1 with
      | tup hs ra => exact ⟨_, _, rfl, .inr ⟨SqT.of (p.gh _ _ hs), q _ _ G H (.refl p) rfl (.tup hs ra)⟩⟩
/-- xs[i], t[i] -/
theorem atI_natD {xs : List V} {ds : List D} {i : Nat} {d : D} (ra : RA θ δ G xs ds) (h : ds[i]? = some d) : ∃ v, atI xs (i : Int) = some v ∧ R θ δ G v d := by
  obtain ⟨v, h1, h2⟩ := ra.get h
  exact ⟨v, atI_nat h1, h2⟩
theorem od_ixL {ds : List D} {i : Nat} {d : D} (h : ds[i]? = some d) : OpD θ δ m (rIxL X.K) (Is (.list ds)) (Is (.int i)) (Is d) := fun x y da db G H fa fb rx ry p Q q => by
  subst fa fb
  cases ry
  cases rx with
  | lst hs ra =>
    obtain ⟨v, h1, h2⟩ := atI_natD ra h
    exact ⟨_, _, _, v, rfl, rfl, SqL.of (p.gh _ _ hs), h1, q _ _ G H (.refl p) rfl h2⟩
theorem od_ixT {ds : List D} {i : Nat} {d : D} (h : ds[i]? = some d) : OpD θ δ m (rIxT X.K) (Is (.tup ds)) (Is (.int i)) (Is d) := fun x y da db G H fa fb rx ry p Q q => by
  subst fa fb
  cases ry
  cases rx with
  | tup hs ra =>
    obtain ⟨v, h1, h2⟩ := atI_natD ra h
    exact ⟨_, _, _, v, rfl, rfl, SqT.of (p.gh _ _ hs), h1, q _ _ G H (.refl p) rfl h2⟩
theorem je_ix {r : R2} (hr : IxR X r) (ha : JE θ δ m X ρ a A) (hb : JE θ δ m X ρ b C) (ho : OpD θ δ m r A C Φ) (hs : PlainIx b := by exact fun _ _ => rfl) : JE θ δ m X ρ (.Subscript a b pos) Φ := fun σ G H rs p Q q =>
  ⟨_, pe_ix hr (pe_b X a) (pe_b X b) hs, j_two ha hb ho rs p q⟩
theorem je_ixL {ds : List D} {i : Nat} {d : D} (h : ds[i]? = some d) (ha : JE θ δ m X ρ a (Is (.list ds))) (hb : JE θ δ m X ρ b (Is (.int i))) (hs : PlainIx b := by exact fun _ _ => rfl) : JE θ δ m X ρ (.Subscript a b pos) (Is d) := je_ix ix_list ha hb (od_ixL h) hs
theorem je_ixT {ds : List D} {i : Nat} {d : D} (h : ds[i]? = some d) (ha : JE θ δ m X ρ a (Is (.tup ds))) (hb : JE θ δ m X ρ b (Is (.int i))) (hs : PlainIx b := by exact fun _ _ => rfl) : JE θ δ m X ρ (.Subscript a b pos) (Is d) := je_ix ix_tup ha hb (od_ixT h) hs
/-- of a list at a place drawn: one of its things -/
theorem je_ixOf {ds : List D} (ha : JE θ δ m X ρ a (Is (.list ds))) (hb : JE θ δ m X ρ b (Ip fun i => 0 ≤ i ∧ i < ds.length)) (hs : PlainIx b := by exact fun _ _ => rfl) : JE θ δ m X ρ (.Subscript a b pos) (fun d => d ∈ ds) :=
  je_ix ix_list ha hb (fun x y da db G H fa fb rx ry p Q q => by
    subst fa
    obtain ⟨i, rfl, h0, h1⟩ := fb
    cases ry
    cases rx with
    | lst hs ra =>
      obtain ⟨n, rfl⟩ := Int.eq_ofNat_of_zero_le h0
      have hn : n < ds.length := by omega
      obtain ⟨v, e1, e2⟩ := atI_natD ra (List.getElem?_eq_getElem hn)
      exact ⟨_, _, _, v, rfl, rfl, SqL.of (p.gh _ _ hs), e1, q _ _ G H (.refl p) (List.getElem_mem hn) e2⟩) hs

/-! ### == of data -/
mutual
def py : D → PyData
  | .non => .none
  | .bl b => .bool b
  | .int i => .int i
  | .str x => .str x
  | .list xs => .list (pys xs)
  | .tup xs => .tuple (pys xs)
  | _ => .none
def pys : List D → List PyData
  | [] => []
  | d :: ds => py d :: pys ds
end
mutual
def isPy : D → Bool
  | .non => true
  | .bl _ => true
  | .int _ => true
  | .str _ => true
  | .list xs => arePy xs
  | .tup xs => arePy xs
  | _ => false
def arePy : List D → Bool
  | [] => true
  | d :: ds => isPy d && arePy ds
end
mutual
theorem R.dp (e : Same G H) : ∀ {d : D} {v : V}, R θ δ G v d → isPy d = true → Dp θ.K H v (py d)
  | .non, _, .non, _ => by simp only [py]; exact .non
  | .bl b, _, .bl _, _ => by simp only [py]; exact .bl b
  | .int i, _, .int _, _ => by simp only [py]; exact .int i
  | .str x, _, .str _, _ => by simp only [py]; exact .str x
  | .list ds, _, .lst h r, k => by simp only [py]; exact .lst (SqL.of (e _ _ h)) (RA.dp e r (by simpa only [isPy] using k))
  | .tup ds, _, .tup h r, k => by simp only [py]; exact .tup (SqT.of (e _ _ h)) (RA.dp e r (by simpa only [isPy] using k))
theorem RA.dp (e : Same G H) : ∀ {ds : List D} {vs : List V}, RA θ δ G vs ds → arePy ds = true → DpAll θ.K H vs (pys ds)
  | [], _, .nil, _ => by simp only [pys]; exact .nil
  | d :: ds, _, .cons h r, k => by
    simp only [arePy, Bool.and_eq_true] at k
    simp only [pys]
    exact .cons (R.dp e h k.1) (RA.dp e r k.2)
end
def okD (d : D) : Prop := isPy d = true ∧ SeqAt.shaped (py d) = true
theorem od_eqD (hK : X.K = θ.K) {x y : D} {k : Bool} (hx : okD x) (hy : okD y) (hk : PyData.eqv (py x) (py y) = k) : OpD θ δ m (rEqD X.K) (Is x) (Is y) (Is (.bl k)) := fun u v da db G H fa fb rx ry p Q q => by
  subst fa fb
  exact ⟨_, _, by rw [hK]; exact rx.dp p.gh hx.1, by rw [hK]; exact ry.dp p.gh hy.1, hx.2, hy.2, q _ _ G H (.refl p) (by rw [hk]) (.bl _)⟩
theorem od_neD (hK : X.K = θ.K) {x y : D} {k : Bool} (hx : okD x) (hy : okD y) (hk : PyData.eqv (py x) (py y) = k) : OpD θ δ m (rNeD X.K) (Is x) (Is y) (Is (.bl (!k))) := fun u v da db G H fa fb rx ry p Q q => by
  subst fa fb
  exact ⟨_, _, by rw [hK]; exact rx.dp p.gh hx.1, by rw [hK]; exact ry.dp p.gh hy.1, hx.2, hy.2, q _ _ G H (.refl p) (by rw [hk]) (.bl _)⟩
theorem od_inD (hK : X.K = θ.K) {x : D} {ys : List D} {k : Bool} (hx : okD x) (hy : okD (.list ys)) (hk : ((pys ys).any fun z => PyData.eqv z (py x)) = k) : OpD θ δ m (rInD X.K) (Is x) (Is (.list ys)) (Is (.bl k)) := fun u v da db G H fa fb rx ry p Q q => by
  subst fa fb
  have e : py (.list ys) = .list (pys ys) := by simp only [py]
  have h2 := ry.dp p.gh hy.1
  have h3 := hy.2
  rw [e] at h2 h3
  exact ⟨_, _, by rw [hK]; exact rx.dp p.gh hx.1, by rw [hK]; exact h2, hx.2, h3, q _ _ G H (.refl p) (by rw [hk]) (.bl _)⟩
theorem od_notInD (hK : X.K = θ.K) {x : D} {ys : List D} {k : Bool} (hx : okD x) (hy : okD (.list ys)) (hk : ((pys ys).any fun z => PyData.eqv z (py x)) = k) : OpD θ δ m (rNotInD X.K) (Is x) (Is (.list ys)) (Is (.bl (!k))) := fun u v da db G H fa fb rx ry p Q q => by
  subst fa fb
  have e : py (.list ys) = .list (pys ys) := by simp only [py]
  have h2 := ry.dp p.gh hy.1
  have h3 := hy.2
  rw [e] at h2 h3
  exact ⟨_, _, by rw [hK]; exact rx.dp p.gh hx.1, by rw [hK]; exact h2, hx.2, h3, q _ _ G H (.refl p) (by rw [hk]) (.bl _)⟩
/-! what is needed of ints and rows -/
theorem pys_map {α : Type} (f : α → D) : ∀ xs : List α, pys (xs.map f) = xs.map fun x => py (f x)
  | [] => rfl
  | x :: xs => by simp only [List.map_cons, pys, pys_map f xs]
theorem arePy_map {α : Type} {f : α → D} (h : ∀ x, isPy (f x) = true) : ∀ xs : List α, arePy (xs.map f) = true
  | [] => rfl
  | x :: xs => by simp only [List.map_cons, arePy, h x, arePy_map h xs, Bool.and_self]
theorem canLayAll_map {α : Type} {f : α → PyData} (h : ∀ x, PyData.canLay0 (f x) = true) : ∀ xs : List α, PyData.canLayAll0 (xs.map f) = true
  | [] => rfl
  | x :: xs => by simp only [List.map_cons, PyData.canLayAll0, h x, canLayAll_map h xs, Bool.and_self]
theorem depthAll_map' {α : Type} {f : α → PyData} {n : Nat} (h : ∀ x, (f x).depth ≤ n) : ∀ xs : List α, PyData.depthAll (xs.map f) ≤ n
  | [] => Nat.zero_le _
  | x :: xs => by
    simp only [List.map_cons, PyData.depthAll]
    exact Nat.max_le.mpr ⟨h x, depthAll_map' h xs⟩
theorem eqvAll_ints : ∀ ns ms : List Int, PyData.eqvAll (ns.map PyData.int) (ms.map PyData.int) = decide (ns = ms)
  | [], [] => by simp [PyData.eqvAll]
  | [], _ :: _ => by simp [PyData.eqvAll]
  | _ :: _, [] => by simp [PyData.eqvAll]
  | n :: ns, k :: ms => by
    simp only [List.map_cons, PyData.eqvAll, PyData.eqv, eqvAll_ints ns ms]
    by_cases h : n = k
    · subst h; simp
    · simp [h]
theorem py_dti (ns : List Int) : py (dti ns) = .tuple (ns.map PyData.int) := by
  show py (.tup (ns.map D.int)) = _
  simp only [py, pys_map]
theorem py_dli (ns : List Int) : py (dli ns) = .list (ns.map PyData.int) := by
  show py (.list (ns.map D.int)) = _
  simp only [py, pys_map]
theorem isPy_dti (ns : List Int) : isPy (dti ns) = true := by
  show isPy (.tup (ns.map D.int)) = true
  simp only [isPy]
  exact arePy_map (fun _ => by simp only [isPy]) ns
theorem lay_dti (ns : List Int) : PyData.canLay0 (py (dti ns)) = true := by
  rw [py_dti]
  simp only [PyData.canLay0]
  exact canLayAll_map (fun _ => by simp only [PyData.canLay0]) ns
theorem depth_dti (ns : List Int) : (py (dti ns)).depth ≤ 1 := by
  rw [py_dti]
  simp only [PyData.depth]
  have := depthAll_map' (f := PyData.int) (n := 0) (fun _ => by simp [PyData.depth]) ns
  omega
theorem ok_dti (ns : List Int) : okD (dti ns) := ⟨isPy_dti ns, by
  unfold SeqAt.shaped
  rw [lay_dti, Bool.true_and, decide_eq_true_eq]
  exact Nat.le_trans (depth_dti ns) (by decide)⟩
theorem eqv_dti (ns ms : List Int) : PyData.eqv (py (dti ns)) (py (dti ms)) = decide (ns = ms) := by
  rw [py_dti, py_dti]
  simp only [PyData.eqv]
  exact eqvAll_ints ns ms
theorem ok_dli (ns : List Int) : okD (dli ns) := ⟨by
  show isPy (.list (ns.map D.int)) = true
  simp only [isPy]
  exact arePy_map (fun _ => by simp only [isPy]) ns, by
  rw [py_dli]
  unfold SeqAt.shaped
  rw [Bool.and_eq_true, decide_eq_true_eq]
  constructor
  · simp only [PyData.canLay0]
    exact canLayAll_map (fun _ => by simp only [PyData.canLay0]) ns
  · simp only [PyData.depth]
    have := depthAll_map' (f := PyData.int) (n := 0) (fun _ => by simp [PyData.depth]) ns
    omega⟩
/-- a list of rows -/
abbrev drows (rs : List (List Int)) : D := .list (rs.map dti)
theorem ok_drows (rs : List (List Int)) : okD (drows rs) := ⟨by
  show isPy (.list (rs.map dti)) = true
  simp only [isPy]
  exact arePy_map isPy_dti rs, by
  have e : py (drows rs) = .list (rs.map fun r => py (dti r)) := by
    show py (.list (rs.map dti)) = _
    simp only [py, pys_map]
  rw [e]
  unfold SeqAt.shaped
  rw [Bool.and_eq_true, decide_eq_true_eq]
  constructor
  · simp only [PyData.canLay0]
    exact canLayAll_map lay_dti rs
  · simp only [PyData.depth]
    have := depthAll_map' (f := fun r => py (dti r)) (n := 1) depth_dti rs
    omega⟩
theorem eqv_nilL (ds : List D) : PyData.eqv (py (.list ds)) (py (.list [])) = ds.isEmpty := by
  cases ds <;> simp [py, pys, PyData.eqv, PyData.eqvAll]
theorem eqv_nilT (ds : List D) : PyData.eqv (py (.tup ds)) (py (.tup [])) = ds.isEmpty := by
  cases ds <;> simp [py, pys, PyData.eqv, PyData.eqvAll]
theorem any_rows (rs : List (List Int)) (r : List Int) : ((pys (rs.map dti)).any fun z => PyData.eqv z (py (dti r))) = decide (r ∈ rs) := by
  rw [pys_map]
  induction rs with
  | nil => simp
  | cons x rs ih =>
    rw [List.map_cons, List.any_cons, ih, eqv_dti]
    by_cases h : x = r
    · subst h; simp
    · by_cases h2 : r ∈ rs
      · simp [h2]
      · simp [h, h2, Ne.symm h]
end
end B
set_option Elab.async false
set_option autoImplicit false
set_option linter.all false
set_option maxRecDepth 100000
set_option maxHeartbeats 4000000
namespace B
open PySem PySem.Spec PyProof.Rows L2

/-! ### enumerate(a tuple) -/
theorem meets_enumT (l : Addr) (items : Array Value) :
    Meets (Builtin.«enumerate.__new__» ⟨[.type "enumerate", .ref l], []⟩) (fun _ R s => s.heap.IsTuple l items ∧
      R (.ok (.ret (.ref (s.heap.push { cls := .type "tuple_iterator", data := .fields #[.ref l, .int 0 0] }).objs.size)))
        { s with heap := (s.heap.push { cls := .type "tuple_iterator", data := .fields #[.ref l, .int 0 0] }).push { cls := .type "enumerate", data := .fields #[.none, .bool false, .ref s.heap.objs.size, rawInt 0, .none, .none] } }) :=
  .of_wp fun prog w A R s h => by
    obtain ⟨hp, g, d, tk, os⟩ := s
    obtain ⟨hT, h⟩ := h
    have hsub := sub_enumerate
    obtain ⟨⟨c, dct, dt, sl⟩, hl, hc, n, hd⟩ := id hT
    replace hc : c = .type "tuple" := hc
    replace hd : dt = .seq items n := hd
    subst hc hd
    have q1 : ∀ {A' : Around} {E : Value → Shared → Prop} {Q : Value → Shared → Prop}, Q (.ref hp.objs.size) ⟨hp.push { cls := .type "tuple_iterator", data := .fields #[.ref l, .int 0 0] }, g, d, tk, os⟩ → wpAny (model prog w) A' (pyIter (.ref l)) Q E ⟨hp, g, d, tk, os⟩ :=
      fun q => wpAny_pyIter_tuple hT q
    wp_walk
    refine wpAny_stack_any fun st => wpAny_pure ?_
    split
    · rename_i c _ _ _ _ _
      cases (c == Value.type "enumerate")
      · wp_walk using wpAny_loadPart' hl, q1
        exact ⟨_, rfl, h⟩
      · wp_walk using wpAny_loadPart' hl, q1
        exact ⟨_, rfl, h⟩
    · wp_walk using wpAny_loadPart' hl, q1
      exact ⟨_, rfl, h⟩
theorem call_enumT {prog : Program} {w : World} {A : Around} {E : Value → Shared → Prop} {s : Shared} {l : Addr} {items : Array Value} {Q : Value → Shared → Prop} (hL : s.heap.IsTuple l items)
    (h : ∀ h', IsEnum h' (s.heap.objs.size + 1) s.heap.objs.size 0 .none → h'.IsTupleIter s.heap.objs.size l 0 → (∀ b o, s.heap.get? b = some o → h'.get? b = some o) → Q (.ref (s.heap.objs.size + 1)) { s with heap := h' }) :
    wpAny (model prog w) A (call (.type "enumerate") [.ref l]) Q E s := by
  refine callType_new F.called_enumerate (by decide) (F.typeCall_enumerate_1 _) (F.newCall_enumerate_1 _) (fun obj => F.args_object_init_2 obj _) F.entry_enumerate_new (meets_enumT l items) ⟨hL, ?_⟩
  have hz : (s.heap.push { cls := .type "tuple_iterator", data := .fields #[.ref l, .int 0 0] }).objs.size = s.heap.objs.size + 1 := Heap.size_push ..
  show _ ∧ _
  rw [hz]
  have he : IsEnum ((s.heap.push { cls := .type "tuple_iterator", data := .fields #[.ref l, .int 0 0] }).push { cls := .type "enumerate", data := .fields #[.none, .bool false, .ref s.heap.objs.size, rawInt 0, .none, .none] }) (s.heap.objs.size + 1) s.heap.objs.size 0 .none := by
    have := Heap.get?_push_size (s.heap.push { cls := .type "tuple_iterator", data := .fields #[.ref l, .int 0 0] }) (o := { cls := .type "enumerate", data := .fields #[.none, .bool false, .ref s.heap.objs.size, rawInt 0, .none, .none] }) rfl
    rw [hz] at this; exact this
  exact ⟨⟨_, he, rfl⟩, h _ he ⟨_, Heap.get?_push_of_some _ (Heap.get?_push_size _ rfl), rfl, rfl⟩ fun b o x => Heap.get?_push_of_some _ (Heap.get?_push_of_some _ x)⟩
/-- the tuple at a, each item in a new pair with its number -/
def IteT (K : PySem.W.Frag) (a : Addr) : It :=
  ⟨fun i H => ∃ (xs : List V) (x : V), SqT K H a xs ∧ xs[i]? = some x, fun i H v H' => ∃ T x, v = .ref T ∧ H T = none ∧ H' = upd H T (.tup [.int (i : Nat), x]) ∧ ∀ xs, SqT K H a xs → xs[i]? = some x, fun i H => ∃ xs : List V, SqT K H a xs ∧ xs.length = i⟩
theorem walk_enumT {K : PySem.W.Frag} {a : Addr} {xs : List V} : Walk (IteT K a) xs.length (fun H => SqT K H a xs) (YPair (fun i => some (.int (i : Nat))) (fun i => xs[i]?)) := by
  refine ⟨fun i _ hi q => ⟨xs, xs[i], q, List.getElem?_eq_getElem hi⟩, fun _ q => ⟨xs, q, rfl⟩, fun i H v H' _ q y => ?_⟩
  obtain ⟨T, x, h1, h2, h3, h4⟩ := y
  exact ⟨T, .int (i : Nat), x, h1, h2, h3, rfl, h4 xs q⟩
theorem turn_enumT {P : Program} {w : World} {K : PySem.W.Frag} {elts : List Expr} {kk : Nat} {tpos : Pos} (a e it : Addr) (hae : a ≠ e) (hai : a ≠ it) (hne : e ≠ it) :
    Turn P w K (.Tuple elts kk tpos) (IteT K a) [e, it] e (fun i h => (∃ old, IsEnum h e it ((0 : Int) + (i : Int)) old) ∧ h.IsTupleIter it a i) where
  mem := List.mem_cons_self ..
  obj := fun i h ⟨⟨old, he⟩, o, ho, hc, hd⟩ b hb => by
    rcases List.mem_cons.mp hb with z | hb
    · rw [z]
      exact ⟨_, he, fun v q => nomatch q⟩
    · rw [List.mem_singleton.mp hb]
      exact ⟨o, ho, fun v q => by rw [hd] at q; cases q⟩
  keep := fun i h h' ⟨⟨old, he⟩, hi⟩ k => ⟨⟨old, k e (List.mem_cons_self ..) _ he⟩, hi.at fun o q => k it (by simp) o q⟩
  item := by
    intro X hP hw hK hc i pins s σ H E I hf ⟨hen, hit⟩ ⟨xs, x, hq, hx⟩
    subst hP hw hK
    obtain ⟨its, rv, p, _⟩ := I.tuple hq
    have hl := rv.length
    obtain ⟨u, hu, ru⟩ := rv.get hx
    have hi : i < its.toArray.size := by
      rw [List.size_toArray]
      exact (List.getElem?_eq_some_iff.mp hu).1
    have W := GoesN.enumFrom (prog := X.prog) (w := X.w) (A := X.A) (elts := elts) (x1 := kk) (pos := tpos) 0 (Draws.tuple (A := X.A.in1) (I.ok.hd hc) it a hai its.toArray) e hne (by simp [hne, Ne.symm hae]) (List.mem_cons_self ..)
    refine wpAny_mono (W.goes i s (fun v s2 => ∃ x' H', Inv X pins σ H' s2 ∧ RelV x' v ∧ (IteT X.K a).yld i H x' H' ∧ ((∃ old, IsEnum s2.heap e it ((0 : Int) + ((i + 1 : Nat) : Int)) old) ∧ s2.heap.IsTupleIter it a (i + 1)) ∧ ∀ b ∈ [e, it], H' b = none) E hi ⟨hen, hit, p⟩ fun v h' tk hY st' hk htk => ?_) (fun r s1 h1 => h1) fun _ _ z => z
    obtain ⟨T, t, z, rfl, hT, hz, hT2⟩ := hY
    have hz' : z = u := by
      have : its.toArray[i]? = some u := by simpa using hu
      rw [this] at hz
      exact (Option.some.inj hz).symm
    subst hz'
    have hTn : H T = none := I.hok.fresh hT
    have new : ObjOk X.prog X.w (upd H T (.tup [.int (i : Nat), x])) h' T (.tup [.int (i : Nat), x]) := ⟨by show 2 ≤ sizeLine; decide, [.int (0 + (i : Int)) t, z], .cons ⟨t, by rw [Int.zero_add]⟩ (.cons ru .nil), hT2⟩
    refine ⟨.ref T, _, I.turnedNew (t' := tk) (ch := [e, it]) hk hf hT new, rfl, ⟨T, x, rfl, hTn, rfl, fun ys hy => by rw [I.tuple_inj hy hq]; exact hx⟩, ⟨st'.1, st'.2.1⟩, fun b hb => ?_⟩
    have h5 := (hf b hb).1
    have : b ≠ T := by
      intro q
      have hlt : b < s.heap.objs.size := by
        rcases List.mem_cons.mp hb with z | hb
        · rw [z]
          obtain ⟨old, he⟩ := hen
          exact Heap.lt_size he
        · rw [List.mem_singleton.mp hb]
          obtain ⟨o, ho, _⟩ := hit
          exact Heap.lt_size ho
      rw [q] at hlt
      exact absurd hlt (Nat.not_lt_of_le hT)
    rw [upd_ne this]
    exact h5
  done := by
    intro X hP hw hK hc i pins s σ H E I hf ⟨hen, hit⟩ ⟨xs, hq, hx⟩
    subst hP hw hK
    obtain ⟨its, rv, p, _⟩ := I.tuple hq
    have hl := rv.length
    have hn : its.toArray.size = i := by rw [List.size_toArray]; omega
    have W := GoesN.enumFrom (prog := X.prog) (w := X.w) (A := X.A) (elts := elts) (x1 := kk) (pos := tpos) 0 (Draws.tuple (A := X.A.in1) (I.ok.hd hc) it a hai its.toArray) e hne (by simp [hne, Ne.symm hae]) (List.mem_cons_self ..)
    rw [hn] at W
    exact W.stops s _ E ⟨hen, hit, p⟩ fun h' tk hk htk => I.turnedL (t' := tk) (ch := [e, it]) hk hf
  self := fun A i s Q E st h => let ⟨⟨_, he⟩, _⟩ := st; wpAny_pyIter_enum he h
def iEnumT (K : PySem.W.Frag) (ta : TA) : TI := fun σ H R => ta σ H fun vs H1 => ∃ a xs, vs = [.ref a] ∧ SqT K H1 a xs ∧ R (IteT K a) H1
theorem pi_enumT {X : Cx} {e : Expr} {ta : TA} {p pos tpos : Pos} {elts : List Expr} {kk : Nat} (hg : Gl X "enumerate") (hm : X.mg "enumerate" = none) (ha : PA X [e] ta) (hs : starEach [e] X.env = [(false, eval e X.env)] := by rfl) :
    PI X (.Tuple elts kk tpos) (.Call (.Name "enumerate" p) [e] [] pos) (iEnumT X.K ta) := by
  refine ⟨fun pins s σ H R I h => Call_ (ld_blt I hg hm PyProof.Rows.boot_enumerate (PyProof.Rows.callWith_type1 (thn (ha.run pos pins s σ H _ I h) fun us s1 ⟨vs, H1, I1, r1, q1⟩ => ?_) hs rfl))⟩
  obtain ⟨a, xs, rfl, hq, q⟩ := q1
  obtain rfl := Vals.ref1 r1
  obtain ⟨its, rv, p', _⟩ := I1.tuple hq
  have hlt : a < s1.heap.objs.size := by
    obtain ⟨o, ho, _⟩ := id p'
    exact Heap.lt_size ho
  refine call_enumT (show s1.heap.IsTuple a its.toArray from p') fun h' he hit hk => wpAny_pyIter_enum he ?_
  refine ⟨s1.heap.objs.size + 1, [s1.heap.objs.size + 1, s1.heap.objs.size], _, _, H1, rfl, I1.kept (t' := s1.toks) hk, turn_enumT a (s1.heap.objs.size + 1) s1.heap.objs.size (Nat.ne_of_lt (Nat.lt_succ_of_lt hlt)) (Nat.ne_of_lt hlt) (Nat.succ_ne_self _), ⟨⟨.none, he⟩, hit⟩, fun b hb => ?_, q⟩
  have hle : s1.heap.objs.size ≤ b := by
    rcases List.mem_cons.mp hb with z | hb
    · rw [z]; exact Nat.le_succ _
    · rw [List.mem_singleton.mp hb]; exact Nat.le_refl _
  exact I1.fpOk hle (I1.hok.fresh hle)
/-! ### zip(a list, a tuple) -/
def ItzM (K : PySem.W.Frag) (a b : Addr) : It :=
  ⟨fun i H => ∃ (xs ys : List V) (x y : V), SqL K H a xs ∧ SqT K H b ys ∧ xs[i]? = some x ∧ ys[i]? = some y,
    fun i H v H' => ∃ T x y, v = .ref T ∧ H T = none ∧ H' = upd H T (.tup [x, y]) ∧ (∀ xs, SqL K H a xs → xs[i]? = some x) ∧ ∀ ys, SqT K H b ys → ys[i]? = some y,
    fun i H => ∃ xs ys : List V, SqL K H a xs ∧ SqT K H b ys ∧ xs.length = i ∧ ys.length = i⟩
theorem walk_zipM {K : PySem.W.Frag} {a b : Addr} {xs ys : List V} (hl : xs.length = ys.length) : Walk (ItzM K a b) xs.length (fun H => SqL K H a xs ∧ SqT K H b ys) (YPair (fun i => xs[i]?) (fun i => ys[i]?)) := by
  refine ⟨fun i _ hi q => ⟨xs, ys, xs[i], ys[i]'(hl ▸ hi), q.1, q.2, List.getElem?_eq_getElem hi, List.getElem?_eq_getElem (hl ▸ hi)⟩, fun _ q => ⟨xs, ys, q.1, q.2, rfl, hl.symm⟩, fun i H v H' _ q y => ?_⟩
  obtain ⟨T, x, y, h1, h2, h3, h4, h5⟩ := y
  exact ⟨T, x, y, h1, h2, h3, h4 xs q.1, h5 ys q.2⟩
theorem turn_zipM {P : Program} {w : World} {K : PySem.W.Frag} {elts : List Expr} {kk : Nat} {tpos : Pos} {a b z TI TO i1 i2 : Addr} (S : ZipSep2 z TI TO i1 i2 [i1, a] [i2, b]) (ha : a ≠ i1) (hb : b ≠ i2) :
    Turn P w K (.Tuple elts kk tpos) (ItzM K a b) [z, TI, TO, i1, i2] z (fun i h => IsZip h z TI TO .none ∧ IsTupOf2 h TI (.ref i1) (.ref i2) ∧ (∃ x y, IsTupOf2 h TO x y) ∧ h.IsListIter i1 a i ∧ h.IsTupleIter i2 b i) where
  mem := List.mem_cons_self ..
  obj := fun i h ⟨hz, hTI, ⟨x, y, hTO⟩, ⟨o1, e1, _, d1⟩, ⟨o2, e2, _, d2⟩⟩ c hc => by
    simp only [List.mem_cons, List.not_mem_nil, or_false] at hc
    rcases hc with q | q | q | q | q <;> rw [q]
    · exact ⟨_, hz, fun v q => nomatch q⟩
    · exact ⟨_, hTI, fun v q => nomatch q⟩
    · exact ⟨_, hTO, fun v q => nomatch q⟩
    · exact ⟨o1, e1, fun v q => by rw [d1] at q; cases q⟩
    · exact ⟨o2, e2, fun v q => by rw [d2] at q; cases q⟩
  keep := fun i h h' ⟨hz, hTI, ⟨x, y, hTO⟩, h1, h2⟩ k => ⟨k z (by simp) _ hz, k TI (by simp) _ hTI, ⟨x, y, k TO (by simp) _ hTO⟩, h1.at fun o q => k i1 (by simp) o q, h2.at fun o q => k i2 (by simp) o q⟩
  item := by
    intro X hP hw hK hc i pins s σ H E I hf ⟨hz, hTI, hTO, h1, h2⟩ ⟨xs, ys, x, y, hqx, hqy, hx, hy⟩
    subst hP hw hK
    obtain ⟨its, rv, p, _⟩ := I.list hqx
    obtain ⟨its2, rv2, p2, _⟩ := I.tuple hqy
    obtain ⟨u, hu, ru⟩ := rv.get hx
    obtain ⟨u2, hu2, ru2⟩ := rv2.get hy
    have hi : i < min its.toArray.size its2.toArray.size := by
      rw [List.size_toArray, List.size_toArray]
      have := (List.getElem?_eq_some_iff.mp hu).1
      have := (List.getElem?_eq_some_iff.mp hu2).1
      omega
    have W := GoesN.zip2 (prog := X.prog) (w := X.w) (A := X.A) (elts := elts) (x1 := kk) (pos := tpos) S (Draws.list (A := X.A.in1) (I.ok.hd hc) i1 a ha its.toArray) (Draws.tuple (A := X.A.in1) (I.ok.hd hc) i2 b hb its2.toArray)
    refine wpAny_mono (W.goes i s (fun v s2 => ∃ x' H', Inv X pins σ H' s2 ∧ RelV x' v ∧ (ItzM X.K a b).yld i H x' H' ∧ (IsZip s2.heap z TI TO .none ∧ IsTupOf2 s2.heap TI (.ref i1) (.ref i2) ∧ (∃ x y, IsTupOf2 s2.heap TO x y) ∧ s2.heap.IsListIter i1 a (i + 1) ∧ s2.heap.IsTupleIter i2 b (i + 1)) ∧ ∀ c ∈ [z, TI, TO, i1, i2], H' c = none) E hi
      ⟨hz, hTI, hTO, ⟨h1, p.isList⟩, h2, p2⟩ fun v h' tk hY st' hk htk => ?_) (fun r s1 h1 => h1) fun _ _ z => z
    obtain ⟨T, v1, v2, rfl, hT, hv1, hv2, hT2⟩ := hY
    have e1 : v1 = u := by
      have : its.toArray[i]? = some u := by simpa using hu
      rw [this] at hv1
      exact (Option.some.inj hv1).symm
    have e2 : v2 = u2 := by
      have : its2.toArray[i]? = some u2 := by simpa using hu2
      rw [this] at hv2
      exact (Option.some.inj hv2).symm
    subst e1 e2
    have hTn : H T = none := I.hok.fresh hT
    have new : ObjOk X.prog X.w (upd H T (.tup [x, y])) h' T (.tup [x, y]) := ⟨by show 2 ≤ sizeLine; decide, [v1, v2], .cons ru (.cons ru2 .nil), hT2⟩
    refine ⟨.ref T, _, I.turnedNew (t' := tk) (ch := [z, TI, TO, i1, i2]) (fun c o hcm e => hk c o (fun q => hcm (by
      simp only [List.mem_cons, List.not_mem_nil, or_false] at q ⊢
      rcases q with q | q | q | q
      · exact .inl q
      · exact .inr (.inr (.inl q))
      · exact .inr (.inr (.inr (.inl q)))
      · exact .inr (.inr (.inr (.inr q))))) e) hf hT new, rfl, ⟨T, x, y, rfl, hTn, rfl, fun l hl => by rw [I.list_inj hl hqx]; exact hx, fun l hl => by rw [I.tuple_inj hl hqy]; exact hy⟩, ⟨st'.1, st'.2.1, st'.2.2.1, st'.2.2.2.1.1, st'.2.2.2.2.1⟩, fun c hcm => ?_⟩
    have hlt : c < s.heap.objs.size := by
      have e' := hcm
      simp only [List.mem_cons, List.not_mem_nil, or_false] at e'
      obtain ⟨x0, y0, hTO⟩ := hTO
      obtain ⟨_, f1, _⟩ := h1
      obtain ⟨_, f2, _⟩ := h2
      rcases e' with q | q | q | q | q <;> rw [q]
      · exact Heap.lt_size hz
      · exact Heap.lt_size hTI
      · exact Heap.lt_size hTO
      · exact Heap.lt_size f1
      · exact Heap.lt_size f2
    rw [upd_ne (Nat.ne_of_lt (Nat.lt_of_lt_of_le hlt hT))]
    exact (hf c hcm).1
  done := by
    intro X hP hw hK hc i pins s σ H E I hf ⟨hz, hTI, hTO, h1, h2⟩ ⟨xs, ys, hqx, hqy, hx, hy⟩
    subst hP hw hK
    obtain ⟨its, rv, p, _⟩ := I.list hqx
    obtain ⟨its2, rv2, p2, _⟩ := I.tuple hqy
    have l1 := rv.length
    have l2 := rv2.length
    have hn : min its.toArray.size its2.toArray.size = i := by
      rw [List.size_toArray, List.size_toArray]
      omega
    have W := GoesN.zip2 (prog := X.prog) (w := X.w) (A := X.A) (elts := elts) (x1 := kk) (pos := tpos) S (Draws.list (A := X.A.in1) (I.ok.hd hc) i1 a ha its.toArray) (Draws.tuple (A := X.A.in1) (I.ok.hd hc) i2 b hb its2.toArray)
    rw [hn] at W
    exact W.stops s _ E ⟨hz, hTI, hTO, ⟨h1, p.isList⟩, h2, p2⟩ fun h' tk hk htk => I.turnedL (t' := tk) (ch := [z, TI, TO, i1, i2]) (fun c o hcm e => hk c o (fun q => hcm (by
      simp only [List.mem_cons, List.not_mem_nil, or_false] at q ⊢
      rcases q with q | q | q | q
      · exact .inl q
      · exact .inr (.inr (.inl q))
      · exact .inr (.inr (.inr (.inl q)))
      · exact .inr (.inr (.inr (.inr q))))) e) hf
  self := fun A i s Q E st h => wpAny_pyIter_zip st.1 h
def iZipM (K : PySem.W.Frag) (ta : TA) : TI := fun σ H R => ta σ H fun vs H1 => ∃ a b xs ys, vs = [.ref a, .ref b] ∧ SqL K H1 a xs ∧ SqT K H1 b ys ∧ R (ItzM K a b) H1
theorem pi_zipM {X : Cx} {e e2 : Expr} {ta : TA} {p pos tpos : Pos} {elts : List Expr} {kk : Nat} (hg : Gl X "zip") (hm : X.mg "zip" = none) (ha : PA X [e, e2] ta)
    (hs : starEach [e, e2] X.env = (false, eval e X.env) :: starEach [e2] X.env := by rfl) (hpl : (backTo pos (starEach [e2] X.env)).any (·.1) = false := by rfl) :
    PI X (.Tuple elts kk tpos) (.Call (.Name "zip" p) [e, e2] [] pos) (iZipM X.K ta) := by
  refine ⟨fun pins s σ H R I h => Call_ (ld_blt I hg hm PyProof.Rows.boot_zip (PyProof.Rows.callWith_type1 (thn (ha.run pos pins s σ H _ I h) fun us s1 ⟨vs, H1, I1, r1, q1⟩ => ?_) hs hpl))⟩
  obtain ⟨a, b, xs, ys, rfl, hqx, hqy, q⟩ := q1
  obtain ⟨its, rv, p1, _⟩ := I1.list hqx
  obtain ⟨its2, rv2, p2, _⟩ := I1.tuple hqy
  obtain ⟨o2, ho2, _⟩ := id p2
  have la : a < s1.heap.objs.size := p1.lt
  have lb : b < s1.heap.objs.size := Heap.lt_size ho2
  have eu : us = [Value.ref a, Value.ref b] := by
    cases r1 with
    | cons r rr =>
      cases r
      obtain rfl := Vals.ref1 rr
      rfl
  subst eu
  refine zip_begins2 (begins_list a its.toArray) (begins_tuple b its2.toArray) p1.isList p2 fun h' hz hTI hTO g1 g2 hsz hk => wpAny_pyIter_zip hz ?_
  refine ⟨s1.heap.objs.size + 4, [s1.heap.objs.size + 4, s1.heap.objs.size + 2, s1.heap.objs.size + 3, s1.heap.objs.size, s1.heap.objs.size + 1], _, _, H1, rfl, I1.kept (t' := s1.toks) hk, turn_zipM (zip_sep2 (fp1 := [a]) (fp2 := [b]) (by simpa using la) (by simpa using lb)) (Nat.ne_of_lt la) (Nat.ne_of_lt (Nat.lt_succ_of_lt lb)),
    ⟨hz, hTI, ⟨_, _, hTO⟩, ⟨_, g1, rfl, rfl⟩, ⟨_, g2, rfl, rfl⟩⟩, fun c hc => ?_, q⟩
  have hle : s1.heap.objs.size ≤ c := by
    simp only [List.mem_cons, List.not_mem_nil, or_false] at hc
    rcases hc with q | q | q | q | q <;> rw [q]
    · exact Nat.le_add_right _ _
    · exact Nat.le_add_right _ _
    · exact Nat.le_add_right _ _
    · exact Nat.le_refl _
    · exact Nat.le_add_right _ _
  exact I1.fpOk hle (I1.hok.fresh hle)
end B
set_option Elab.async false
set_option autoImplicit false
set_option linter.all false
set_option maxRecDepth 100000
set_option maxHeartbeats 2000000
namespace B
open PySem PySem.Spec PyProof.Rows L2
section
variable {θ : Th} {δ : Dl} {m : Bool} {X : Cx} {E : XK} {ρ : Rho} {a b c e tg iter elt : Expr} {es ifs : List Expr} {Φ Φ' A C : D → Prop} {β β' : Bool → Prop} {pos : Pos} {rest : List Stmt} {O : Outs} {G0 H0 G G' H H' : Hp} {σ : L2.St} {scope : Scope} {own : List (Str × Nat)} {Ψ : D → Prop}

/-! ### walks -/
theorem ji_enumT (hK : X.K = θ.K) (hm : X.mg "enumerate" = none) {elts : List Expr} {kk : Nat} {tpos p px : Pos} {src : List D} (h : JE θ δ m X ρ e (Is (.tup src))) (hg : Gl X "enumerate" := by rfl) (hs : starEach [e] X.env = [(false, eval e X.env)] := by rfl)
    (hs2 : starEach [e] X.env = (false, eval e X.env) :: starEach [] X.env := by rfl) : JI θ δ m X ρ (.Tuple elts kk tpos) (.Call (.Name "enumerate" px) [e] [] p) (fun s => s = numbered src) := fun σ G H rs pr Rk q =>
  ⟨_, pi_enumT hg hm (pa_cons (pe_b X e) pa_nil hs2) hs, h σ G H rs pr _ fun v d G' H' po f rv => by
    cases f
    cases rv with
    | @tup a xs _ hs ra =>
      refine ⟨a, xs, rfl, SqT.of (po.gh _ _ hs), q _ _ G' H' po rfl ?_⟩
      exact pairs_walk ra (G1 := fun H => SqT X.K H a xs) walk_enumT fun H1 s => SqT.of (s _ _ hs)⟩
def zipD (xs ys : List D) : List D := List.zipWith (fun x y => D.tup [x, y]) xs ys
theorem zip_walk {xs ys : List V} {s1 s2 : List D} (r1 : RA θ δ G xs s1) (r2 : RA θ δ G ys s2) (hl : xs.length = ys.length) {J : It} {G1 : Hp → Prop} (w : Walk J xs.length G1 (YPair (fun i => xs[i]?) (fun i => ys[i]?))) (hG : ∀ H1, Same G H1 → G1 H1) :
    Walk J (zipD s1 s2).length (fun H1 => Same G H1) (YD θ δ G (zipD s1 s2)) := by
  have e : (zipD s1 s2).length = xs.length := by
    unfold zipD
    rw [List.length_zipWith, ← r1.length, ← r2.length]
    omega
  rw [e]
  refine w.mono hG fun i H x H' hi _ y => ?_
  obtain ⟨T, u, v, e1, e2, e3, e4, e5⟩ := y
  obtain ⟨d1, h1, h2⟩ := r1.getV e4
  obtain ⟨d2, h3, h4⟩ := r2.getV e5
  exact ⟨.tup [d1, d2], by unfold zipD; rw [List.getElem?_zipWith, h1, h3], .inr ⟨T, _, _, e2, e1, e3, .cons h2 (.cons h4 .nil), rfl⟩⟩
theorem ji_zip (hK : X.K = θ.K) (hm : X.mg "zip" = none) {e2 : Expr} {elts : List Expr} {kk : Nat} {tpos p px : Pos} {d : D} {s1 s2 : List D} (hd : seqD d = some s1) (hl : s1.length = s2.length) (h : JE θ δ m X ρ e (Is d)) (h2 : JE θ δ m X ρ e2 (Is (.tup s2))) (hg : Gl X "zip" := by rfl)
    (hs : starEach [e, e2] X.env = (false, eval e X.env) :: starEach [e2] X.env := by rfl) (hs2 : starEach [e2] X.env = (false, eval e2 X.env) :: starEach [] X.env := by rfl) (hpl : (backTo p (starEach [e2] X.env)).any (·.1) = false := by rfl) :
    JI θ δ m X ρ (.Tuple elts kk tpos) (.Call (.Name "zip" px) [e, e2] [] p) (fun s => s = zipD s1 s2) := fun σ G H rs pr Rk q => by
  cases d with
  | list xs =>
    cases hd
    refine ⟨_, pi_zipM hg hm (pa_cons (pe_b X e) (pa_cons (pe_b X e2) pa_nil hs2) hs) hs hpl, h σ G H rs pr _ fun v d G' H' po f rv => h2 σ G' H' (rs.post po) (po.pre pr) _ fun v2 d2 G2 H2 po2 f2 rv2 => ?_⟩
    cases f
    cases f2
    cases rv with
    | @lst a xs _ hs ra =>
      cases rv2 with
      | @tup b ys _ hs2 ra2 =>
        have ra' := ra.mono po2.gg
        have hs' := po2.gg _ _ hs
        have hxy : xs.length = ys.length := by rw [ra'.length, ra2.length]; exact hl
        exact ⟨a, b, xs, ys, rfl, SqL.of (po2.gh _ _ hs'), SqT.of (po2.gh _ _ hs2), q _ _ G2 H2 (po.trans po2) rfl (zip_walk ra' ra2 hxy (G1 := fun H => SqL X.K H a xs ∧ SqT X.K H b ys) (walk_zipM hxy) fun H1 s => ⟨SqL.of (s _ _ hs'), SqT.of (s _ _ hs2)⟩)⟩
  | tup xs =>
    cases hd
    refine ⟨_, RZ.pi_zipA hg hm (pa_cons (pe_b X e) (pa_cons (pe_b X e2) pa_nil hs2) hs) hs hpl, h σ G H rs pr _ fun v d G' H' po f rv => h2 σ G' H' (rs.post po) (po.pre pr) _ fun v2 d2 G2 H2 po2 f2 rv2 => ?_⟩
    cases f
    cases f2
    cases rv with
    | @tup a xs _ hs ra =>
      cases rv2 with
      | @tup b ys _ hs2 ra2 =>
        have ra' := ra.mono po2.gg
        have hs' := po2.gg _ _ hs
        have hxy : xs.length = ys.length := by rw [ra'.length, ra2.length]; exact hl
        have w : Walk (RZ.ItzT X.K a b) xs.length (fun H => SqT X.K H a xs ∧ SqT X.K H b ys) (YPair (fun i => xs[i]?) (fun i => ys[i]?)) :=
          ⟨fun i _ hi q => ⟨xs, ys, xs[i], ys[i]'(hxy ▸ hi), q.1, q.2, List.getElem?_eq_getElem hi, List.getElem?_eq_getElem (hxy ▸ hi)⟩, fun _ q => ⟨xs, ys, q.1, q.2, .inl (Nat.le_refl _)⟩, fun i H v H' _ q y => by
            obtain ⟨T, x, y, h1, h2, h3, h4, h5⟩ := y
            exact ⟨T, x, y, h1, h2, h3, h4 xs q.1, h5 ys q.2⟩⟩
        exact ⟨a, b, xs, ys, rfl, .inr ⟨SqT.of (po2.gh _ _ hs'), SqT.of (po2.gh _ _ hs2), q _ _ G2 H2 (po.trans po2) rfl (zip_walk ra' ra2 hxy (G1 := fun H => SqT X.K H a xs ∧ SqT X.K H b ys) w fun H1 s => ⟨SqT.of (s _ _ hs'), SqT.of (s _ _ hs2)⟩)⟩⟩
  | _ => cases hd

/-! ### sum of a tuple -/
def rSumT (K : PySem.W.Frag) : List V → Hp → VK → Prop := fun vs H Q => ∃ (a : Addr) (ns : List Int), vs = [V.ref a] ∧ SqT K H a (ns.map V.int) ∧ Q (.int ns.sum) H
theorem cr_sumT (hc : X.calm = true) : CallR X (.builtin "sum") (rSumT X.K) := by
  intro pins s σ H vs us Q I r h
  obtain ⟨a, ns, rfl, hs, q⟩ := h
  obtain ⟨its, rv, ht, _⟩ := I.tuple hs
  rw [Vals.ref1 r]
  obtain ⟨xs, ex⟩ := rv.ints.allInts.items
  have hn : numsOf (intItems xs).toList = ns := by rw [← ex]; exact rv.ints.numsOf
  rw [nums_intItems] at hn
  have ht' : s.heap.IsTuple a (intItems xs) := by rw [← ex]; exact ht
  refine PySem.W.ktm_sumG (I.ok.hd hc) ht' fun h' tk t' hk => ⟨.int _, H, I.kept hk, ⟨_, rfl⟩, ?_⟩
  rw [preSum_eq, List.take_of_length_le (by simp), hn]
  exact q
theorem ca_sumTD {ns : List Int} : CaD θ δ m (rSumT X.K) (fun ds => ds = [dti ns]) (Is (.int ns.sum)) := fun xs ds G H f ra p Q q => by
  subst f
  cases ra with
  | cons r1 ra =>
    cases ra
    cases r1 with
    | tup hs ra =>
      rw [ra.int] at hs
      exact ⟨_, ns, rfl, SqT.of (p.gh _ _ hs), q _ _ G H (.refl p) rfl (.int _)⟩
theorem je_sumL {ns : List Int} {px : Pos} (hm : X.mg "sum" = none) (ha : JE θ δ m X ρ a (Is (dli ns))) (hc : X.calm = true := by rfl) (hg : Gl X "sum" := by rfl) (h1 : starEach [a] X.env = (false, eval a X.env) :: starEach [] X.env := by rfl)
    (h3 : (backTo pos (starEach [] X.env)).any (·.1) = false := by rfl) : JE θ δ m X ρ (.Call (.Name "sum" px) [a] [] pos) (Is (.int ns.sum)) := je_callB (cr_sum hc) hm (ja_1 ha ja_nil h1) ca_sumL (by decide +kernel) hg (by decide) (by decide) h1 h3
theorem je_sumT {ns : List Int} {px : Pos} (hm : X.mg "sum" = none) (ha : JE θ δ m X ρ a (Is (dti ns))) (hc : X.calm = true := by rfl) (hg : Gl X "sum" := by rfl) (h1 : starEach [a] X.env = (false, eval a X.env) :: starEach [] X.env := by rfl)
    (h3 : (backTo pos (starEach [] X.env)).any (·.1) = false := by rfl) : JE θ δ m X ρ (.Call (.Name "sum" px) [a] [] pos) (Is (.int ns.sum)) := je_callB (cr_sumT hc) hm (ja_1 ha ja_nil h1) ca_sumTD (by decide +kernel) hg (by decide) (by decide) h1 h3
theorem je_sumS {d : D} {ns : List Int} {px : Pos} (hd : seqD d = some (di ns)) (hm : X.mg "sum" = none) (ha : JE θ δ m X ρ a (Is d)) (hc : X.calm = true := by rfl) (hg : Gl X "sum" := by rfl) (h1 : starEach [a] X.env = (false, eval a X.env) :: starEach [] X.env := by rfl)
    (h3 : (backTo pos (starEach [] X.env)).any (·.1) = false := by rfl) : JE θ δ m X ρ (.Call (.Name "sum" px) [a] [] pos) (Is (.int ns.sum)) := by
  cases d with
  | list xs => cases hd; exact je_sumL hm ha hc hg h1 h3
  | tup xs => cases hd; exact je_sumT hm ha hc hg h1 h3
  | _ => cases hd
theorem je_len {d : D} {n : Nat} {px : Pos} (hK : X.K = θ.K) (hn : lenD d = some n) (hm : X.mg "len" = none) (ha : JE θ δ m X ρ a (Is d)) (hg : Gl X "len" := by rfl) (h1 : starEach [a] X.env = (false, eval a X.env) :: starEach [] X.env := by rfl)
    (h3 : (backTo pos (starEach [] X.env)).any (·.1) = false := by rfl) : JE θ δ m X ρ (.Call (.Name "len" px) [a] [] pos) (Is (.int n)) := je_callB call_len_seq hm (ja_1 ha ja_nil h1) (ca_len hK hn) (by decide +kernel) hg (by decide) (by decide) h1 h3

/-! ### chains of comparisons of ints -/
theorem j_chain {r r' : R2} {k1 k2 : Bool} {A C A' : D → Prop} (ha : JE θ δ m X ρ a A) (hb : JE θ δ m X ρ b C) (hc : JE θ δ m X ρ c A') (h1 : OpD θ δ m r A C (Is (.bl k1))) (h2 : k1 = true → OpD θ δ m r' C A' (Is (.bl k2))) {σ : L2.St} {G H : Hp} (rs : RS θ δ m G H σ ρ) (p : Pre θ δ m G H) {Q : VK} (q : ∀ G' H', Post θ δ m G H G' H' → Q (.bl (k1 && k2)) H') :
    tChain r r' (bE X a) (bE X b) (bE X c) σ H Q :=
  ha σ G H rs p _ fun x da G1 H1 p1 fa rx => hb σ G1 H1 (rs.post p1) (p1.pre p) _ fun y db G2 H2 p2 fb ry => h1 x y da db G2 H2 fa fb (rx.mono p2.gg) ry (p2.pre (p1.pre p)) _ fun z dz G3 H3 p3 fz rz => by
    subst fz
    cases rz
    refine ⟨k1, rfl, ?_⟩
    cases k1 with
    | false => exact iteF (q G3 H3 ((p1.trans p2).trans p3))
    | true => exact iteT (hc σ G3 H3 (((rs.post p1).post p2).post p3) (p3.pre (p2.pre (p1.pre p))) _ fun w dw G4 H4 p4 fw rw' => h2 rfl y w db dw G4 H4 fb fw ((ry.mono p3.gg).mono p4.gg) rw' (p4.pre (p3.pre (p2.pre (p1.pre p)))) _ fun z dz G5 H5 p5 fz rz => by
        subst fz
        cases rz
        simpa using q G5 H5 ((((p1.trans p2).trans p3).trans p4).trans p5))
theorem jt_chain {op op' : CmpOp} {r r' : R2} {k1 k2 : Bool} {A C A' : D → Prop} (ho : OpR X (compareOp op) r) (ho' : OpR X (compareOp op') r') (ha : JE θ δ m X ρ a A) (hb : JE θ δ m X ρ b C) (hc : JE θ δ m X ρ c A') (h1 : OpD θ δ m r A C (Is (.bl k1))) (h2 : k1 = true → OpD θ δ m r' C A' (Is (.bl k2)))
    (hm : lastMarks [op, op'] [b, c] = false := by with_unfolding_all rfl) : JTI θ δ m X ρ (.Compare a [op, op'] [b, c] pos) (k1 && k2) := fun σ G H rs p Q q =>
  ⟨_, pt_chain ho ho' (pe_b X a) (pe_b X b) (pe_b X c) hm, j_chain ha hb hc h1 h2 rs p fun G' H' po => ⟨_, rfl, q _ G' H' po rfl⟩⟩
theorem je_chain {op op' : CmpOp} {r r' : R2} {k1 k2 : Bool} {A C A' : D → Prop} (ho : OpR X (compareOp op) r) (ho' : OpR X (compareOp op') r') (ha : JE θ δ m X ρ a A) (hb : JE θ δ m X ρ b C) (hc : JE θ δ m X ρ c A') (h1 : OpD θ δ m r A C (Is (.bl k1))) (h2 : k1 = true → OpD θ δ m r' C A' (Is (.bl k2)))
    (hm : lastMarks [op, op'] [b, c] = false := by with_unfolding_all rfl) : JE θ δ m X ρ (.Compare a [op, op'] [b, c] pos) (Is (.bl (k1 && k2))) := fun σ G H rs p Q q =>
  ⟨_, pe_chain ho ho' (pe_b X a) (pe_b X b) (pe_b X c) hm, j_chain ha hb hc h1 h2 rs p fun G' H' po => q _ _ G' H' po rfl (.bl _)⟩

/-! ### min of three, of a list -/
theorem nuMin2_int (i j : Int) : nuMin2 (.int i) (.int j) = some (.int (min i j)) := by
  show some (if decide (j < i) = true then V.int j else V.int i) = _
  rw [Int.min_def]
  by_cases h : j < i
  · rw [if_pos (by simpa using h), if_neg (by omega)]
  · rw [if_neg (by simpa using h), if_pos (by omega)]
theorem je_min3 {i j k : Int} {px : Pos} (hm : X.mg "min" = none) (ha : JE θ δ m X ρ a (Is (.int i))) (hb : JE θ δ m X ρ b (Is (.int j))) (hcc : JE θ δ m X ρ c (Is (.int k))) (hc : X.calm = true := by rfl) (hg : Gl X "min" := by rfl)
    (h1 : starEach [a, b, c] X.env = (false, eval a X.env) :: starEach [b, c] X.env := by rfl) (h2 : starEach [b, c] X.env = (false, eval b X.env) :: starEach [c] X.env := by rfl) (h4 : starEach [c] X.env = (false, eval c X.env) :: starEach [] X.env := by rfl)
    (h3 : (backTo pos (starEach [b, c] X.env)).any (·.1) = false := by rfl) : JE θ δ m X ρ (.Call (.Name "min" px) [a, b, c] [] pos) (Is (.int (min (min i j) k))) :=
  je_callB (call_min3Nu hc) hm (ja_1 ha (ja_1 hb (ja_1 hcc ja_nil h4) h2) h1) (fun xs ds G H f ra p Q q => by
    subst f
    cases ra with
    | cons r1 ra =>
      cases ra with
      | cons r2 ra =>
        cases ra with
        | cons r3 ra =>
          cases ra
          cases r1
          cases r2
          cases r3
          refine ⟨_, _, _, .int (min (min i j) k), rfl, ?_, q _ _ G H (.refl p) rfl (.int _)⟩
          unfold nuMin3
          rw [nuMin2_int]
          exact nuMin2_int _ _) (by decide +kernel) hg (by decide) (by decide) h1 h3
theorem je_minL {ns : List Int} {n : Int} {px : Pos} (hn : n ∈ ns) (hl : ∀ y ∈ ns, n ≤ y) (hK : X.K = θ.K) (hm : X.mg "min" = none) (ha : JE θ δ m X ρ a (Is (dli ns))) (hc : X.calm = true := by rfl) (hg : Gl X "min" := by rfl) (h1 : starEach [a] X.env = (false, eval a X.env) :: starEach [] X.env := by rfl)
    (h3 : (backTo pos (starEach [] X.env)).any (·.1) = false := by rfl) : JE θ δ m X ρ (.Call (.Name "min" px) [a] [] pos) (Is (.int n)) :=
  je_callB (cr_min hc) hm (ja_1 ha ja_nil h1) (fun xs ds G H f ra p Q q => by
    subst f
    cases ra with
    | cons r1 ra =>
      cases ra
      cases r1 with
      | lst hs ra =>
        rw [ra.int] at hs
        exact ⟨_, ns, rfl, SqL.of (p.gh _ _ hs), List.length_pos_of_mem hn, fun k h1 h2 => by
          have : k = n := Int.le_antisymm (h2 n hn) (hl k h1)
          rw [this]
          exact q _ _ G H (.refl p) rfl (.int _)⟩) (by decide +kernel) hg (by decide) (by decide) h1 h3
theorem je_maxL {ns : List Int} {n : Int} {px : Pos} (hn : n ∈ ns) (hl : ∀ y ∈ ns, y ≤ n) (hK : X.K = θ.K) (hm : X.mg "max" = none) (ha : JE θ δ m X ρ a (Is (dli ns))) (hc : X.calm = true := by rfl) (hg : Gl X "max" := by rfl) (h1 : starEach [a] X.env = (false, eval a X.env) :: starEach [] X.env := by rfl)
    (h3 : (backTo pos (starEach [] X.env)).any (·.1) = false := by rfl) : JE θ δ m X ρ (.Call (.Name "max" px) [a] [] pos) (Is (.int n)) :=
  je_callB (cr_max hc) hm (ja_1 ha ja_nil h1) (fun xs ds G H f ra p Q q => by
    subst f
    cases ra with
    | cons r1 ra =>
      cases ra
      cases r1 with
      | lst hs ra =>
        rw [ra.int] at hs
        exact ⟨_, ns, rfl, SqL.of (p.gh _ _ hs), List.length_pos_of_mem hn, fun k h1 h2 => by
          have : k = n := Int.le_antisymm (hl k h1) (h2 n hn)
          rw [this]
          exact q _ _ G H (.refl p) rfl (.int _)⟩) (by decide +kernel) hg (by decide) (by decide) h1 h3

/-! ### an int in a list, a tuple of ints -/
theorem inV_int (n : Int) : ∀ ns : List Int, inV (.int n) (ns.map V.int) = decide (n ∈ ns)
  | [] => by simp [inV]
  | k :: ns => by
    have ih := inV_int n ns
    unfold inV at ih ⊢
    rw [List.map_cons, List.any_cons, ih]
    show (k == n || decide (n ∈ ns)) = _
    by_cases h : n = k
    · subst h; simp
    · simp [h, Ne.symm h]
theorem flat_ints (ns : List Int) : (ns.map V.int).all flatV = true := by
  rw [List.all_map, List.all_eq_true]
  intro x _
  rfl
theorem od_inI (hK : X.K = θ.K) {neg : Bool} {n : Int} {d : D} {ns : List Int} (hd : seqD d = some (di ns)) : OpD θ δ m (rIn X.K neg) (Is (.int n)) (Is d) (Is (.bl (if neg then !decide (n ∈ ns) else decide (n ∈ ns)))) := fun x y da db G H fa fb rx ry p Q q => by
  subst fa fb
  cases rx
  cases db with
  | list xs =>
    cases hd
    cases ry with
    | lst hs ra =>
      rw [ra.int] at hs
      exact ⟨_, _, rfl, .inl (SqL.of (p.gh _ _ hs)), rfl, flat_ints ns, q _ _ G H (.refl p) (by rw [inV_int]) (.bl _)⟩
  | tup xs =>
    cases hd
    cases ry with
    | tup hs ra =>
      rw [ra.int] at hs
      exact ⟨_, _, rfl, .inr (SqT.of (p.gh _ _ hs)), rfl, flat_ints ns, q _ _ G H (.refl p) (by rw [inV_int]) (.bl _)⟩
  | _ => cases hd
theorem jt_notInI (hK : X.K = θ.K) {n : Int} {d : D} {ns : List Int} (hd : seqD d = some (di ns)) (ha : JE θ δ m X ρ a (Is (.int n))) (hb : JE θ δ m X ρ b (Is d)) (hmk : behindInMarks .NotIn b = false := by with_unfolding_all rfl) : JTI θ δ m X ρ (.Compare a [.NotIn] [b] pos) (!decide (n ∈ ns)) :=
  jt_cmp op_notIn_seq hmk ha hb (od_inI (neg := true) hK hd).bp
theorem jt_inI (hK : X.K = θ.K) {n : Int} {d : D} {ns : List Int} (hd : seqD d = some (di ns)) (ha : JE θ δ m X ρ a (Is (.int n))) (hb : JE θ δ m X ρ b (Is d)) (hmk : behindInMarks .In b = false := by with_unfolding_all rfl) : JTI θ δ m X ρ (.Compare a [.In] [b] pos) (decide (n ∈ ns)) :=
  jt_cmp op_in_seq hmk ha hb (od_inI (neg := false) hK hd).bp

/-! ### is None -/
theorem je_isNone {d : D} (ha : JE θ δ m X ρ a (Is d)) : JE θ δ m X ρ (.Compare a [.Is] [.Constant .none 0 pos] pos) (Is (.bl (match d with | .non => true | _ => false))) :=
  je_cmp op_isN (nomark _) ha je_non fun x y da db G H fa fb rx ry p Q q => by
    subst fa fb
    cases ry
    refine ⟨rfl, q _ _ G H (.refl p) ?_ (.bl _)⟩
    cases rx <;> simp

/-! ### parts -/
def cutD (xs : List D) (lo hi : Option Int) : List D := (xs.drop (HT.sIx xs.length 0 lo)).take (HT.sIx xs.length xs.length hi - HT.sIx xs.length 0 lo)
theorem RA.cut {vs : List V} {ds : List D} (r : RA θ δ G vs ds) (lo hi : Option Int) : RA θ δ G (cutV vs lo hi) (cutD ds lo hi) := by
  unfold cutV cutD
  rw [r.length]
  exact (r.drop _).take _
theorem cut_to (xs : List D) (k : Nat) : cutD xs none (some (k : Int)) = xs.take k := by
  unfold cutD
  rw [HT.sIx_none, HT.sIx_nat, List.drop_zero, Nat.sub_zero]
  rcases Nat.le_total k xs.length with h | h
  · rw [Nat.min_eq_left h]
  · rw [Nat.min_eq_right h, List.take_of_length_le (Nat.le_refl _), List.take_of_length_le h]
theorem cut_from (xs : List D) (k : Nat) : cutD xs (some (k : Int)) none = xs.drop k := by
  unfold cutD
  rw [HT.sIx_none, HT.sIx_nat]
  rcases Nat.le_total k xs.length with h | h
  · rw [Nat.min_eq_left h, List.take_of_length_le (by rw [List.length_drop]; omega)]
  · rw [Nat.min_eq_right h, List.drop_length, List.drop_of_length_le h, List.take_nil]
/-- a bound of a part -/
def JO (θ : Th) (δ : Dl) (m : Bool) (X : Cx) (ρ : Rho) (o : Option Expr) (k : Option Int) : Prop := ∃ t, PO X o t ∧ ∀ (σ : L2.St) (G H : Hp), RS θ δ m G H σ ρ → Pre θ δ m G H → ∀ Q : Option Int → Hp → Prop, (∀ G' H', Post θ δ m G H G' H' → Q k H') → t σ H Q
theorem jo_none : JO θ δ m X ρ none none := ⟨_, po_none, fun σ G H rs p Q q => q G H (.refl p)⟩
theorem jo_some {k : Int} (h : JE θ δ m X ρ e (Is (.int k))) : JO θ δ m X ρ (some e) (some k) := ⟨_, po_some (pe_b X e), fun σ G H rs p Q q => h σ G H rs p _ fun v d G' H' po f rv => by
  subst f
  cases rv
  exact ⟨k, rfl, q G' H' po⟩⟩
theorem je_cutL {lo hi : Option Expr} {l h : Option Int} {p2 : Pos} {ds : List D} (ha : JE θ δ m X ρ a (Is (.list ds))) (h1 : JO θ δ m X ρ lo l) (h2 : JO θ δ m X ρ hi h) : JE θ δ m X ρ (.Subscript a (.Slice lo hi none p2) pos) (Is (.list (cutD ds l h))) := fun σ G H rs p Q q => by
  obtain ⟨t1, p1, k1⟩ := h1
  obtain ⟨t2, p2, k2⟩ := h2
  refine ⟨_, pe_slice sl_list (pe_b X a) p1 p2, ha σ G H rs p _ fun v d G1 H1 po1 f rv => k1 σ G1 H1 (rs.post po1) (po1.pre p) _ fun G2 H2 po2 => k2 σ G2 H2 ((rs.post po1).post po2) (po2.pre (po1.pre p)) _ fun G3 H3 po3 => ?_⟩
  subst f
  have pr := po3.pre (po2.pre (po1.pre p))
  cases (rv.mono po2.gg).mono po3.gg with
  | lst hs ra => exact ⟨_, _, rfl, SqL.of (pr.gh _ _ hs), fun x hx => q _ _ _ _ (((po1.trans po2).trans po3).trans (.new pr hx fun ps z => by cases z)) rfl (.lst upd_same ((ra.cut l h).mono (Same.upd (pr.gnone hx))))⟩
theorem je_cutT {lo hi : Option Expr} {l h : Option Int} {p2 : Pos} {ds : List D} (ha : JE θ δ m X ρ a (Is (.tup ds))) (h1 : JO θ δ m X ρ lo l) (h2 : JO θ δ m X ρ hi h) : JE θ δ m X ρ (.Subscript a (.Slice lo hi none p2) pos) (Is (.tup (cutD ds l h))) := fun σ G H rs p Q q => by
  obtain ⟨t1, p1, k1⟩ := h1
  obtain ⟨t2, p2, k2⟩ := h2
  refine ⟨_, pe_slice sl_tupA (pe_b X a) p1 p2, ha σ G H rs p _ fun v d G1 H1 po1 f rv => k1 σ G1 H1 (rs.post po1) (po1.pre p) _ fun G2 H2 po2 => k2 σ G2 H2 ((rs.post po1).post po2) (po2.pre (po1.pre p)) _ fun G3 H3 po3 => ?_⟩
  subst f
  have pr := po3.pre (po2.pre (po1.pre p))
  cases (rv.mono po2.gg).mono po3.gg with
  | @tup a0 xs _ hs ra =>
    refine ⟨_, _, rfl, SqT.of (pr.gh _ _ hs), fun hw => q _ _ G3 H3 ((po1.trans po2).trans po3) ?_ (.tup hs ra), fun _ x hx => q _ _ _ _ (((po1.trans po2).trans po3).trans (.new pr hx fun ps z => by cases z)) rfl (.tup upd_same ((ra.cut l h).mono (Same.upd (pr.gnone hx))))⟩
    unfold cutD
    rw [ra.length] at hw
    rw [hw.1, hw.2, List.drop_zero, Nat.sub_zero, List.take_of_length_le (Nat.le_refl _)]
theorem je_revL {k : Nat} {p1 p2 p3 : Pos} {ds : List D} (ha : JE θ δ m X ρ a (Is (.list ds))) : JE θ δ m X ρ (.Subscript a (.Slice none none (some (.UnaryOp .USub (.Constant (.int 1) k p1) p2)) p3) pos) (Is (.list ds.reverse)) := fun σ G H rs p Q q =>
  ⟨_, pe_revL (pe_b X a), ha σ G H rs p _ fun v d G1 H1 po1 f rv => by
    subst f
    have pr := po1.pre p
    cases rv with
    | lst hs ra => exact ⟨_, _, rfl, SqL.of (pr.gh _ _ hs), fun x hx => q _ _ _ _ (po1.trans (.new pr hx fun ps z => by cases z)) rfl (.lst upd_same (ra.reverse.mono (Same.upd (pr.gnone hx))))⟩⟩

/-! ### joined -/
theorem od_catT {xs ys : List D} (hz : xs.length + ys.length ≤ 100000) : OpD θ δ m (rCatA X.K) (Is (.tup xs)) (Is (.tup ys)) (Is (.tup (xs ++ ys))) := fun x y da db G H fa fb rx ry p Q q => by
  subst fa fb
  cases rx with
  | @tup a vs _ hs ra =>
    cases ry with
    | @tup b ws _ hs2 ra2 =>
      refine ⟨a, b, vs, ws, rfl, rfl, SqT.of (p.gh _ _ hs), SqT.of (p.gh _ _ hs2), by rw [ra.length, ra2.length, sizeLine_eq]; omega, fun e => ?_, fun _ e => ?_, fun _ _ c hc => ?_⟩
      · subst e
        cases ra
        exact q _ _ G H (.refl p) rfl (.tup hs2 ra2)
      · subst e
        cases ra2
        exact q _ _ G H (.refl p) (by rw [List.append_nil]) (.tup hs ra)
      · exact q _ _ _ _ (.new p hc fun ps z => by cases z) rfl (.tup upd_same ((ra.append ra2).mono (Same.upd (p.gnone hc))))
theorem je_catT {xs ys : List D} (hz : xs.length + ys.length ≤ 100000) (ha : JE θ δ m X ρ a (Is (.tup xs))) (hb : JE θ δ m X ρ b (Is (.tup ys))) : JE θ δ m X ρ (.BinOp a .Add b pos) (Is (.tup (xs ++ ys))) := je_bin op_catA ha hb (od_catT hz)
theorem od_catL {xs ys : List D} (hz : xs.length + ys.length ≤ 100000) : OpD θ δ m rCat (Is (.list xs)) (Is (.list ys)) (Is (.list (xs ++ ys))) := fun x y da db G H fa fb rx ry p Q q => by
  subst fa fb
  cases rx with
  | @lst a vs _ hs ra =>
    cases ry with
    | @lst b ws _ hs2 ra2 =>
      exact ⟨a, b, vs, ws, rfl, rfl, p.gh _ _ hs, p.gh _ _ hs2, by rw [ra.length, ra2.length, sizeLine_eq]; omega, fun c hc => q _ _ _ _ (.new p hc fun ps z => by cases z) rfl (.lst upd_same ((ra.append ra2).mono (Same.upd (p.gnone hc))))⟩
theorem je_catL {xs ys : List D} (hz : xs.length + ys.length ≤ 100000) (ha : JE θ δ m X ρ a (Is (.list xs))) (hb : JE θ δ m X ρ b (Is (.list ys))) : JE θ δ m X ρ (.BinOp a .Add b pos) (Is (.list (xs ++ ys))) := je_bin op_cat ha hb (od_catL hz)
theorem RA.rep {vs : List V} {ds : List D} (r : RA θ δ G vs ds) : ∀ n : Nat, RA θ δ G (List.replicate n vs).flatten (List.replicate n ds).flatten
  | 0 => .nil
  | n + 1 => by
    rw [List.replicate_succ, List.replicate_succ, List.flatten_cons, List.flatten_cons]
    exact r.append (RA.rep r n)
theorem je_repL {xs : List D} {k : Nat} (hz : xs.length * k ≤ 100000) (hk : k ≤ 1000) (ha : JE θ δ m X ρ a (Is (.list xs))) (hb : JE θ δ m X ρ b (Is (.int k))) : JE θ δ m X ρ (.BinOp a .Mult b pos) (Is (.list (List.replicate k xs).flatten)) := je_bin op_rep ha hb fun x y da db G H fa fb rx ry p Q q => by
  subst fa fb
  cases ry
  cases rx with
  | @lst a vs _ hs ra =>
    exact ⟨a, k, vs, rfl, rfl, p.gh _ _ hs, by omega, by omega, by rw [ra.length, sizeLine_eq, Int.toNat_natCast]; omega, fun c hc => q _ _ _ _ (.new p hc fun ps z => by cases z) rfl (.lst upd_same (by rw [Int.toNat_natCast]; exact (ra.rep k).mono (Same.upd (p.gnone hc))))⟩
theorem ja_star {d : D} {xs ds : List D} {p0 : Pos} (hd : seqD d = some xs) (h : JE θ δ m X ρ e (Is d)) (hr : JA θ δ m X ρ es (fun r => r = ds)) (hs : starEach (.Starred e p0 :: es) X.env = (true, eval e X.env) :: starEach es X.env := by rfl) : JA θ δ m X ρ (.Starred e p0 :: es) (fun r => r = xs ++ ds) := fun σ G H rs p Q q =>
  ⟨_, StX.pa_star (pe_b X e) (pa_b X es) hs, h σ G H rs p _ fun v d' G1 H1 p1 f rv => by
    subst f
    have go : ∀ (a : Addr) (vs : List V), (SqT X.K H1 a vs ∨ SqL X.K H1 a vs) → RA θ δ G1 vs xs → v = .ref a → ∃ p xs, v = V.ref p ∧ (SqT X.K H1 p xs ∨ SqL X.K H1 p xs) ∧ bA X es σ H1 fun ys H2 => Q (xs ++ ys) H2 := fun a vs h ra e =>
      ⟨a, vs, e, h, hr σ G1 H1 (rs.post p1) (p1.pre p) _ fun ws es' G2 H2 p2 f2 r2 => q _ _ G2 H2 (p1.trans p2) (by rw [f2]) ((ra.mono p2.gg).append r2)⟩
    cases d' with
    | list ys =>
      cases hd
      cases rv with
      | lst hs ra => exact go _ _ (.inr (SqL.of (p1.gh _ _ hs))) ra rfl
    | tup ys =>
      cases hd
      cases rv with
      | tup hs ra => exact go _ _ (.inl (SqT.of (p1.gh _ _ hs))) ra rfl
    | _ => cases hd⟩
theorem je_listRange {n : Nat} {p0 p1 p2 : Pos} (hz : n ≤ 100000) (hm : X.mg "list" = none) (hm2 : X.mg "range" = none) (h : JE θ δ m X ρ e (Is (.int n))) (hc : X.calm = true := by rfl) (hg : Gl X "list" := by rfl) (hg2 : Gl X "range" := by rfl) (h1 : starEach [e] X.env = (false, eval e X.env) :: starEach [] X.env := by rfl)
    (h2 : starEach [.Call (.Name "range" p1) [e] [] p2] X.env = (false, eval (.Call (.Name "range" p1) [e] [] p2) X.env) :: starEach [] X.env := by rfl) : JE θ δ m X ρ (.Call (.Name "list" p0) [.Call (.Name "range" p1) [e] [] p2] [] pos) (Is (.list (rng n))) := fun σ G H rs p Q q =>
  ⟨_, pe_listRg hc hg hm (prg_1 hg2 hm2 (pe_b X e) h1) h2, h σ G H rs p _ fun v d G' H' po f rv => by
    subst f
    cases rv
    refine ⟨(n : Int), rfl, RgOk.of_le (Int.le_refl _) (by omega) (by omega) (by omega), fun x hx => ?_⟩
    refine q _ _ _ _ (po.trans (.new (po.pre p) hx fun ps z => by cases z)) rfl (.lst upd_same ?_)
    have : rgV 0 (n : Int) = (List.range n).map fun (i : Nat) => V.int (i : Int) := by
      unfold rgV
      rw [show ((n : Int) - 0).toNat = n by omega]
      refine List.map_congr_left fun i _ => ?_
      rw [Int.zero_add]
    rw [this]
    have e2 : rng n = di ((List.range n).map fun (i : Nat) => (i : Int)) := by
      unfold rng di
      rw [List.map_map]; rfl
    have e3 : (List.range n).map (fun (i : Nat) => V.int (i : Int)) = ((List.range n).map fun (i : Nat) => (i : Int)).map V.int := by rw [List.map_map]; rfl
    rw [e2, e3]
    exact RA.ofInt _⟩
end
end B
set_option Elab.async false
set_option autoImplicit false
set_option linter.all false
set_option maxRecDepth 100000
set_option maxHeartbeats 4000000
/-! The law's own errors: class E(PlanError), PlanError(ValueError), def __init__(self, at): super().__init__(text); self.at = at. -/
namespace BX
open PySem PySem.W PySem.Calls PyProof.Rows PySem.HandSPX
def xPar (p1 p2 : Pos) : Arguments := { posonlyargs := [], args := [{ arg := "self", annotation := none, pos := p1 }, { arg := "at", annotation := none, pos := p2 }], vararg := none, kwonlyargs := [], kw_defaults := [], kwarg := none, defaults := [] }
def xBody (text : Str) (q1 q2 q3 q4 q5 q6 q7 q8 q9 q10 : Pos) : List Stmt :=
  [.Expr (.Call (.Attribute (.Call (.Name "super" q1) [] [] q2) "__init__" q3) [.Constant (.str text) 0 q4] [] q5) q6, .Assign [.Attribute (.Name "self" q7) "at" q8] (.Name "at" q9) q10]
def xScope : Scope := { kind := .function, names := [("self", .local), ("at", .local), ("__class__", .free), ("super", .globalImplicit)], isGenerator := false, isCoroutine := false, more := [] }
/-- what the written part says of such a class, at C: its __init__ at fI, the cell of __class__ at cc, the code at cda -/
structure Txt (P : Program) (K : Frag) (mg : Str → Option Value) (nm : Str) (C fI cc cda : Addr) : Prop where
  gC : mg nm = some (.ref C)
  cls : ∃ n q N bs bm sn sub ab col dd k0 k1 k2 k3 k5, K.lookup C = some (excClassObj n q C N bs bm true sn sub ab col dd k0 k1 k2 k3 k5 "ValueError.__new__") ∧ refsVE bm = true
  sa : findIn K (.ref C) "__setattr__" = some (some (.builtin "object.__setattr__"))
  ga : findIn K (.ref C) "__getattribute__" = some (some (.builtin "BaseException.__getattribute__"))
  gg : findIn K (.ref C) "__getattr__" = some none
  noN : findIn K (.ref C) "at" = some none
  iC : findIn K (.ref C) "__init__" = some (some (.ref fI))
  tC : typeIn K (.ref fI) = some (.type "function")
  kC : keepIn K (.ref C) = true
  exC : subIn K (.ref C) (.type "BaseException") = some true
  veC : subIn K (.ref C) (.type "ValueError") = some true
  tyC : typeIn K (.ref C) = some (.type "type")
  hdC : hasDictIn K C = true
  mC : mroIn K C (.ref C) = some true
  sup : ks_superIn K C C "__init__" = some (some (.builtin "ValueError.__init__"))
  opq : nsIn K cStatics "thirdparty.any" = some none
  noS : mg "super" = none
  top : (P.main.scope.names.lookup ("super" : Str)).isSome = false
  cell : ∃ cl cld csl, K.lookup cc = some ⟨cl, cld, .cell (some (.ref C)), csl⟩
  code : ∃ ccl cdd vs ccs file tf, K.lookup cda = some ⟨ccl, cdd, .fields vs, ccs⟩ ∧ vs[2]? = some (.str file tf) ∧ ((P.main.file : Str) == file) = true
  fn : ∃ (oc : Value) (od : Option Addr) (q text : Str) (doc pm : Value) (an : Option Addr) (ct : Value) (osl : Array (Option Value)) (p1 p2 q1 q2 q3 q4 q5 q6 q7 q8 q9 q10 : Pos),
    K.lookup fI = some ⟨oc, od, .func (ksFn "__init__" q (xPar p1 p2) (xBody text q1 q2 q3 q4 q5 q6 q7 q8 q9 q10) xScope .none .none doc pm an (.ref cda) ct cc), osl⟩ ∧ codeIn K (.ref cda) q = true ∧ (q3.endLine == q5.line) = true
theorem sz1 (v : Value) : [v].length ≤ sizeLine := by show 1 ≤ sizeLine; decide
theorem up_arm {text : Str} {q1 q2 q3 q4 q5 : Pos} (hl : (q3.endLine == q5.line) = true) (env : Env) : ∃ pl, eval (.Call (.Attribute (.Call (.Name "super" q1) [] [] q2) "__init__" q3) [.Constant (.str text) 0 q4] [] q5) env = (do
      let z ← attributeBase (.Call (.Name "super" q1) [] [] q2) "__init__" env (eval (.Call (.Name "super" q1) [] [] q2) env)
      standAt q3.atName
      let (f, first) ← holding [z] (getMethod z "__init__" pl)
      callWith q5 f first (backTo q5 (starEach [.Constant (.str text) 0 q4] env)) []) := by
  have hf : ∀ e, methodCallForm 1 (backTo q5 (starEach [.Constant (.str text) 0 q4] e)) (backToKw q5 (keywordEach [] e)) = true := fun e => rfl
  have hp : ∀ o : Expr, methodCallPos true o env q3 q5 = pure q5 := fun o => by unfold methodCallPos; simp [hl]
  refine ⟨do return (← importBound (.Call (.Name "super" q1) [] [] q2) env).getD true, ?_⟩
  rw [arm_eval_Call]
  show (do let z ← _; standAt _; methodCall _ _ _ _ _ z 1 _ _) = _
  unfold methodCall
  simp only [hf, hp, pure_bind]
  rfl
/-- a made one: e, its class C, its dict d -/
structure Made (h h' : Heap) (e C d : Addr) (v : Value) : Prop where
  keep : ∀ b o, h.get? b = some o → h'.get? b = some o
  new : h.objs.size ≤ e
  obj : ∃ oe vs, h'.get? e = some oe ∧ oe.cls = .ref C ∧ oe.dict = some d ∧ oe.data = .fields vs ∧ vs[1]? = some .none
  dbig : h.objs.size ≤ d
  dne : d ≠ e
  ns : h'.Ns1 d (fun y => if y = "at" then some v else none)
section
variable {prog : Program} {w : World} {A : Around} {E : Value → Shared → Prop} {R : Result → Shared → Prop} {K : Frag} {mg : Str → Option Value} {nm : Str} {C fI cc cda : Addr} {g : Array GenState} {d : Drawn} {t : Nat} {os : OsState}
/-- ValueError.__init__ bound to the object at e, called -/
theorem call_up {h : Heap} {n q : Str} {N : Addr} {bs bm : List Value} {sn : List Str} {sub : List Value} {ab : Bool} {col : Option Bool} {dd : Option Addr} {k0 k1 k2 k3 k5 : Option Value} {u e t0 : Addr} {rest : List Value} {Q : Value → Shared → Prop}
    (hC : h.get? C = some (excClassObj n q C N bs bm true sn sub ab col dd k0 k1 k2 k3 k5 "ValueError.__new__")) (he : h.get? e = some (excO C t0)) (hu : h.get? u = some (kxs_mw "ValueError.__init__" e)) (hz : rest.length ≤ sizeLine)
    (hq : ∀ h' t1, (∀ b o, b ≠ e → h.get? b = some o → h'.get? b = some o) → h'.get? e = some (excO C t1) → Q .none ⟨h', g, d, t, os⟩) : wpAny (model prog w) A (call (.ref u) rest) Q E ⟨h, g, d, t, os⟩ := by
  refine wpAny_call (codeAny_of_tree ?_)
  show wpAny _ A.in1 (callAny (.ref u) ⟨rest, []⟩) _ _ _
  simp only [callAny]
  refine wpAny_bind (wpAny_load hu ?_)
  simp only [kxs_mw, show (Value.type "method-wrapper" == Value.type "method" || Value.type "method-wrapper" == Value.type "builtin_function_or_method" || Value.type "method-wrapper" == Value.type "method-wrapper") = true by decide, if_true]
  refine KFB.if_so (by decide) ?_
  refine wpAny_bind (check_bound_init PySem.F.excBase_ValueError.toExcCallFacts hC he rfl ?_)
  refine wpAny_bind (wpAny_pure (wpAny_pure ?_))
  refine ⟨plainId_quiet PySem.F.excBase_ValueError.init.plain _, codeAny_builtin PySem.F.excBase_ValueError.initEntry ?_⟩
  exact exc_init_tree (cls := .ref C) (t0 := t0) (dv := none) (c2 := .none) (c3 := .none) (b4 := .bool false) he hz fun h' k e' _ => hq h' _ k e'
theorem init_runs {base : Heap} (M : L2.Mod K mg base) (T : Txt prog K mg nm C fI cc cda) {h : Heap} {x t0 : Addr} {v : Value} (up : ∀ b o, base.get? b = some o → h.get? b = some o) (hlim : h.NoLimit) (hx : h.get? x = some (excO C t0)) (hnx : base.get? x = none) (hroom : A.depth < recursionLimit)
    (hq : ∀ h' tk dx t1, (∀ b o, b ≠ x → h.get? b = some o → h'.get? b = some o) → h'.get? x = some { cls := .ref C, dict := some dx, data := .fields #[.ref t1, .none, .none, .none, .bool false, .none] } → h.objs.size ≤ dx → dx ≠ x →
      h'.Ns1 dx (fun y => if y = "at" then some v else none) → R (.ok (.ret .none)) ⟨h', g, d, tk, os⟩) :
    codeAny (model prog w) A (.call (.ref fI) ⟨[.ref x, v], []⟩) R ⟨h, g, d, t, os⟩ := by
  obtain ⟨oc, od, q, text, doc, pm, an, ct, osl, p1, p2, q1, q2, q3, q4, q5, q6, q7, q8, q9, q10, ho, hcd, hln⟩ := T.fn
  obtain ⟨n, qn, N, bs, bm, sn, sub, ab, col, dd, k0, k1, k2, k3, k5, hC, hbm⟩ := T.cls
  obtain ⟨cl, cld, csl, hcell⟩ := T.cell
  obtain ⟨ccl, cdd, vs, ccs, file, tf, hcode, hvs, hfile⟩ := T.code
  obtain ⟨mb, hb1, hb2⟩ := M.blt
  have X : K.In h := M.kin.keeps up
  have hcl : clsIn K C = some { name := n, bases := bs, mro := .ref C :: bm, ns := N, qualname := qn, hasDict := true, slotNames := sn, subclasses := sub, abstract := ab, collection := col, hasDel := false } := by unfold clsIn; rw [hC] <;> rfl
  refine ks_codeAny_call_defAt (fd := ksFn "__init__" q (xPar p1 p2) (xBody text q1 q2 q3 q4 q5 q6 q7 q8 q9 q10) xScope .none .none doc pm an (.ref cda) ct cc) (binds := [("self", .ref x), ("at", v)]) hroom (X _ _ ho) rfl hlim (codeRec_of X hcd) rfl
    (BindsTo.of_eq rfl) (show ∀ y ∈ xScope.names, y.2 ≠ .cell by decide) (locs rfl) (fun h₁ hns k₁ => ?_) rfl rfl rfl
  have X₁ : K.In h₁ := X.keeps k₁
  have up₁ : ∀ b o, base.get? b = some o → h₁.get? b = some o := fun b o e => k₁ b o (up b o e)
  have hx₁ := k₁ _ _ hx
  have lv : (fun y => List.lookup y [(("self" : Str), Value.ref x), ("at", v)].reverse) ("self" : Str) = some (.ref x) := rfl
  obtain ⟨pl, he⟩ := up_arm (text := text) (q1 := q1) (q2 := q2) (q4 := q4) hln (ksEnv q xScope h.objs.size fI (.ref cda) cc)
  refine ks_wpAt_execs_cons (ks_wpAt_Expr_any (ks_wpAt_MethodCall (pl := pl) ?_ he))
  refine ks_wpAt_super_base (attr := "__init__") (env := ksEnv q xScope h.objs.size fI (.ref cda) cc) rfl rfl (by decide) rfl (X₁ _ _ ho) rfl rfl rfl (X₁ _ _ hcode) rfl hvs hfile T.top ?_
  refine ks_loadName_global rfl rfl (loadGlobal_builtin (env := ksEnv q xScope h.objs.size fI (.ref cda) cc) (M.glob.keeps up₁) T.noS (hb1.keeps up₁) ((hb2 _ (by decide)).trans (by first | boot_by_name | rfl | kernel_rfl)) ⟨rfl, ?_⟩)
  refine wpAny_loadName_free rfl rfl rfl ⟨_, X₁ _ _ hcell, rfl⟩ ?_
  refine wpAny_loadName_local rfl rfl hns lv ?_
  refine ks_wpAny_isType_cls (X₁ _ _ hC) rfl ⟨rfl, ?_⟩
  refine ks_wpAny_call_super (X₁ _ _ hC) rfl hx₁ rfl (fun c e => by cases e) (looks_mroIn X₁ T.mC) fun h₂ hso k₂ => ?_
  have X₂ := X₁.keeps k₂
  have hx₂ := k₂ _ _ hx₁
  have I₂ : InstAt h₂ x (excO C t0) C none := ⟨hx₂, rfl, rfl, trivial⟩
  have hs := T.sup
  unfold ks_superIn at hs
  rw [hcl] at hs
  refine kxs_getMethod kxs_ValueError hso (looks_opaque X₂ T.opq) (fun A Q E s k q => wpAny_bind ((looks_clsIn X₂ hcl) A _ E s k (wpAny_pure q))) rfl X₂ hs (I₂.type.andThen (looks_subIn X₂ T.veC)) (ks_ne X₂ I₂ hcl) (by decide) ?_
  have k₃ : ∀ b o, h₂.get? b = some o → (h₂.push (kxs_mw "ValueError.__init__" x)).get? b = some o := fun b o e => Heap.get?_push_of_some _ e
  have hu : (h₂.push (kxs_mw "ValueError.__init__" x)).get? h₂.objs.size = some (kxs_mw "ValueError.__init__" x) := Heap.get?_push_at rfl rfl
  refine kxs_callWith (i := "ValueError.__init__") (x := x) rfl (evalArgs_plain (args_cons (e := .Constant (.str text) 0 q4) (rest := []) (env := ksEnv q xScope h.objs.size fI (.ref cda) cc) (Calls.Constant_str (args_nil ⟨hu, ?_⟩)) rfl))
  refine call_up (k₃ _ _ (X₂ _ _ hC)) (k₃ _ _ hx₂) hu (sz1 _) fun h₄ t1 k₄ hx₄ => ?_
  have X₄ : K.In h₄ := fun b o e => k₄ b o (fun z => by
    have q := M.kin _ _ e
    rw [z, hnx] at q
    cases q) (k₃ b o (X₂ b o e))
  have nx : h.objs.size ≠ x := Nat.ne_of_gt (Heap.lt_size hx)
  have hns₄ : h₄.Ns h.objs.size (fun y => List.lookup y [(("self" : Str), Value.ref x), ("at", v)].reverse) := hns.at fun o e => k₄ _ o nx (k₃ _ o (k₂ _ o e))
  refine wpAt_of_wpAny ?_
  refine wpAny_execs_cons (plainObj_wpAny_Assign_Attribute ?_)
  refine wpAny_Name (wpAny_loadName_local (env := ksEnv q xScope h.objs.size fI (.ref cda) cc) rfl rfl hns₄ (v := v) rfl ?_) (by decide)
  refine wpAny_Name (wpAny_loadName_local (env := ksEnv q xScope h.objs.size fI (.ref cda) cc) rfl rfl hns₄ (v := .ref x) rfl ?_) (by decide)
  refine set_plain X₄ (ox := excO C t1) (od := none) ⟨hx₄, rfl, rfl, trivial⟩ T.sa ?_
  refine exc_osa X₄ hx₄ hcl (show refsVE (.ref C :: bm) = true from hbm) rfl T.noN (fun h₅ tk₅ dx k₅ dn dne hx₅ hn₅ => ?_)
  refine wpAny_execs_nil (hq h₅ tk₅ dx t1 (fun b o hb e => k₅ b o hb (k₄ b o hb (k₃ b o (k₂ b o (k₁ b o e))))) hx₅ ?_ dne hn₅)
  have z4 : h.objs.size < h₄.objs.size := by
    obtain ⟨o, _, _, e, _⟩ := hns₄
    exact Heap.lt_size e
  exact Nat.le_of_lt (Nat.lt_of_lt_of_le z4 dn)
/-- E(v) by the class -/
theorem made_runs {base : Heap} (M : L2.Mod K mg base) (T : Txt prog K mg nm C fI cc cda) {h : Heap} {v : Value} (up : ∀ b o, base.get? b = some o → h.get? b = some o) (hlim : h.NoLimit) (hroom : A.depth + 1 < recursionLimit)
    (hq : ∀ h' tk e d', Made h h' e C d' v → R (.ok (.ret (.ref e))) ⟨h', g, d, tk, os⟩) : codeAny (model prog w) A (.call (.ref C) ⟨[v], []⟩) R ⟨h, g, d, t, os⟩ := by
  obtain ⟨n, qn, N, bs, bm, sn, sub, ab, col, dd, k0, k1, k2, k3, k5, hC, hbm⟩ := T.cls
  have X : K.In h := M.kin.keeps up
  have k : ∀ b o, h.get? b = some o → ((h.push (kdv_tup [v])).push (excO C h.objs.size)).get? b = some o := fun b o e => Heap.get?_push_of_some _ (Heap.get?_push_of_some _ e)
  have hget : ((h.push (kdv_tup [v])).push (excO C h.objs.size)).get? (h.objs.size + 1) = some (excO C h.objs.size) := by heap_get
  have hnx : base.get? (h.objs.size + 1) = none := by
    cases e : base.get? (h.objs.size + 1) with
    | none => rfl
    | some o => exact absurd (Nat.lt_of_succ_lt (Heap.lt_size (up _ _ e))) (Nat.lt_irrefl _)
  refine call_own F.excBase_ValueError (fun X => refsVE_contains X bm hbm) (X _ _ hC) (looks_findIn X T.iC) (fun self => bind_fn X self T.tC) (sz1 v) ?_
  refine init_runs M T (fun b o e => k b o (up b o e)) (hlim.keeps k) hget hnx hroom fun h' tk' dx t1 k' hx dn dne hns => ?_
  have old : ∀ b o, h.get? b = some o → h'.get? b = some o := fun b o e => k' b o (Nat.ne_of_lt (Nat.lt_succ_of_lt (Heap.lt_size e))) (k b o e)
  have z : h.objs.size + 1 + 1 ≤ dx := by
    have q := dn
    rw [Heap.size_push, Heap.size_push] at q
    exact q
  exact ⟨rfl, hq h' tk' (h.objs.size + 1) dx ⟨old, Nat.le_succ _, ⟨_, _, hx, rfl, rfl, rfl, rfl⟩, Nat.le_trans (Nat.le_trans (Nat.le_succ _) (Nat.le_succ _)) z, dne, hns⟩⟩
end
end BX
namespace B
open PySem PySem.Spec PyProof.Rows L2
theorem relO_at {v : V} {v' : Value} (r : RelV v v') (f : Str) : RelO (List.lookup f [(("at" : Str), v)]) (if f = "at" then some v' else none) := by
  by_cases h : f = "at"
  · rw [if_pos h, show List.lookup f [(("at" : Str), v)] = some v by simp [List.lookup, h]]
    exact r
  · have q : (f == ("at" : Str)) = false := by simpa using h
    rw [if_neg h, show List.lookup f [(("at" : Str), v)] = none by simp [List.lookup, q]]
    trivial
section
variable {X : Cx} {C fI cc cda : Addr} {nm : Str}
def tMk (C : Addr) (ta : TA) : L2.St → Hp → XK → Prop := fun σ H Q => ta σ H fun vs H1 => ∃ v, vs = [v] ∧ ∀ d, H1 d = none → Q (.ref C) (some d) (upd H1 d (.xd [(("at" : Str), v)]))
theorem pmk_own {a : Expr} {ta : TA} {p pos : Pos} {k : Nat} (T : BX.Txt X.prog X.K X.mg nm C fI cc cda) (hr : Room k X.A) (ha : PA X [a] ta) (hg : Gl X nm) (hdb : (nm == ("__debug__" : Str)) = false)
    (he : starEach (a :: []) X.env = (false, eval a X.env) :: starEach [] X.env := by rfl) (hpl : (backTo pos (starEach [] X.env)).any (·.1) = false := by rfl) : PMk X (.Call (.Name nm p) [a] [] pos) (tMk C ta) := by
  intro pins s σ H Q I h
  refine wpAny_Call_Name_kw (ld_glob I hg T.gC ?_ hdb)
  refine PySem.W.callWith_K (h₀ := X.base) I.ok.mod.kin T.kC (thn (ha.run pos pins s σ H _ I h) fun us s1 hh => ?_) he hpl
  obtain ⟨vs, H1, I1, r1, v, rfl, q1⟩ := hh
  refine ⟨I1.kIn, ?_⟩
  obtain ⟨v', rfl, rv⟩ : ∃ v', us = [v'] ∧ RelV v v' := by
    cases r1 with
    | cons rv rn =>
      cases rn
      exact ⟨_, rfl, rv⟩
  have hlim := I1.nolimit
  have bk := I1.bk
  obtain ⟨hp, g, dr, tk, os⟩ := s1
  refine wpAny_call (BX.made_runs I1.ok.mod T (v := v') bk hlim (by have := hr.dp; omega) fun h' tk' e d M => ?_)
  show MkP X pins σ Q (.ref e) ⟨h', g, dr, tk', os⟩
  obtain ⟨oe, fv, hoe, hc, hd, hdat, h1⟩ := M.obj
  obtain ⟨G', g1, g2⟩ := restrict h' fun b => decide (b ≠ e)
  have gk : ∀ b, b ≠ e → G'.get? b = h'.get? b := fun b hb => g1 b (decide_eq_true hb)
  have ge : G'.get? e = none := g2 e (by simp)
  have old : ∀ b o, hp.get? b = some o → G'.get? b = some o := fun b o q => (gk b (Nat.ne_of_lt (Nat.lt_of_lt_of_le (Heap.lt_size q) M.new))).trans (M.keep b o q)
  have ob : ObjOk X.prog X.w (upd H1 d (.xd [(("at" : Str), v)])) G' d (.xd [(("at" : Str), v)]) := ⟨_, M.ns.at (fun o q => (gk d M.dne).trans q), fun f => relO_at rv f⟩
  have J : Inv X pins σ (upd H1 d (.xd [(("at" : Str), v)])) ⟨G', g, dr, tk', os⟩ := I1.laid (t' := tk') old M.dbig ob
  refine ⟨e, oe, fv, ⟨G', g, dr, tk', os⟩, _, .ref C, some d, rfl, J, fun b o q => ?_, ge, hoe, ⟨hc, hd⟩, hdat, h1, ?_, rfl, I1.bare, raises_own T.exC T.tyC, q1 d (I1.hok.fresh M.dbig)⟩
  · have hb : b ≠ e := fun z => by
      have q' : G'.get? b = some o := q
      rw [z, ge] at q'
      cases q'
    exact (gk b hb).symm.trans q
  · rw [upd_ne (Ne.symm M.dne)]
    exact I1.hok.fresh M.new
end
end B
set_option Elab.async false
set_option autoImplicit false
set_option linter.all false
set_option maxRecDepth 100000
set_option maxHeartbeats 2000000
namespace B
open PySem PySem.Spec PyProof.Rows L2
def ecN : EC → Str
  | .store => "InvalidStore"
  | .state => "InvalidState"
  | .refused => "Refused"
/-- what the written part says of the classes -/
structure ThOk (P : Program) (K : PySem.W.Frag) (mg : Str → Option Value) (θ : Th) : Prop where
  eK : θ.K = K
  st : ∃ fI cc cda, BX.Txt P K mg "InvalidState" (θ.cls .state) fI cc cda
  rf : ∃ fI cc cda, BX.Txt P K mg "Refused" (θ.cls .refused) fI cc cda
  C : Cls K θ.C
  key_count : NoAttr K θ.C "key_count"
  caps : NoAttr K θ.C "caps"
  low : NoAttr K θ.C "low"
  high : NoAttr K θ.C "high"
  gC : mg "Budget" = some (.ref θ.C)
section
variable {θ : Th} {δ : Dl} {m : Bool} {X : Cx} {E : XK} {ρ : Rho} {a b c e tg iter elt : Expr} {es ifs : List Expr} {Φ Φ' A C : D → Prop} {β β' : Bool → Prop} {pos : Pos} {rest : List Stmt} {O : Outs} {G0 H0 G G' H H' : Hp} {σ : L2.St} {scope : Scope} {own : List (Str × Nat)} {Ψ : D → Prop}

/-! ### raise -/
theorem js_raise {nm : Str} {px p1 p2 : Pos} {j : Nat} (cl : EC) {n : Int} {fI cc cda : Addr} (T : BX.Txt X.prog X.K X.mg nm (θ.cls cl) fI cc cda) (hr : Room j X.A) (tk : Takes X fun cls d _ H => E cls d H) (h : JE θ δ m X ρ a (Is (.int n))) (hO : O.ex cl n) (hc : X.calm = true := by rfl) (hg : Gl X nm := by rfl)
    (hdb : (nm == ("__debug__" : Str)) = false := by decide) (he : starEach (a :: []) X.env = (false, eval a X.env) :: starEach [] X.env := by rfl) (hpl : (backTo p1 (starEach [] X.env)).any (·.1) = false := by rfl) :
    JS θ δ m X E ρ (.Raise (some (.Call (.Name nm px) [a] [] p1)) none p2 :: rest) O := fun G0 H0 σ G H s D0 q =>
  ⟨_, pss_cons (ps_raise hc tk (pmk_own T hr (pa_cons (pe_b X a) pa_nil he) hg hdb he hpl)) (pss_b X rest), h σ G H s.rs s.pre _ fun v d G' H' p f rv => by
    subst f
    cases rv
    exact ⟨_, rfl, fun dx hd => q.ex cl n dx G' _ hO ((s.post.trans p).trans (.same (p.pre s.pre) (Same.upd hd))) upd_same⟩⟩

/-! ### values that may raise -/
def JXA (θ : Th) (δ : Dl) (m : Bool) (X : Cx) (E : XK) (ρ : Rho) (es : List Expr) (Φ : List D → Prop) (Ψ : EC → Int → Prop) : Prop :=
  ∀ (σ : L2.St) (G H : Hp), RS θ δ m G H σ ρ → Pre θ δ m G H → ∀ Q : List V → Hp → Prop, (∀ vs ds G' H', Post θ δ m G H G' H' → Φ ds → RA θ δ G' vs ds → Q vs H') →
    (∀ c n dx G' H', Post θ δ m G H G' H' → Ψ c n → H' dx = some (.xd [(("at" : Str), .int n)]) → E (.ref (θ.cls c)) (some dx) H') → bA X es σ H Q
theorem jxa_nil {Ψ : EC → Int → Prop} : JXA θ δ m X E ρ [] (fun ds => ds = []) Ψ := fun σ G H rs p Q q _ => ⟨_, pa_nil, q [] [] G H (.refl p) rfl .nil⟩
theorem jxa_cons {Ψ : EC → Int → Prop} {Θ : List D → Prop} (h : JX θ δ m X E ρ e A Ψ) (hr : (∃ d, A d) → JXA θ δ m X E ρ es Θ Ψ) (hs : starEach (e :: es) X.env = (false, eval e X.env) :: starEach es X.env := by rfl) : JXA θ δ m X E ρ (e :: es) (fun ds => ∃ d r, ds = d :: r ∧ A d ∧ Θ r) Ψ := fun σ G H rs p Q q q2 =>
  ⟨_, pa_cons (pe_b X e) (pa_b X es) hs, h σ G H rs p _ (fun v d G1 H1 p1 f rv => hr ⟨d, f⟩ σ G1 H1 (rs.post p1) (p1.pre p) _ (fun vs ds G' H' p2 f2 rvs => q _ _ G' H' (p1.trans p2) ⟨d, ds, rfl, f, f2⟩ (.cons (rv.mono p2.gg) rvs))
    fun c n dx G' H' p2 f2 ex => q2 c n dx G' H' (p1.trans p2) f2 ex) q2⟩
theorem jx_tup {Ψ : EC → Int → Prop} {Θ : List D → Prop} {k1 : Nat} (h : JXA θ δ m X E ρ es Θ Ψ) (hz : ∀ ds, Θ ds → ds.length ≤ 100000) (k : ∀ ds, Θ ds → Φ (.tup ds)) : JX θ δ m X E ρ (.Tuple es k1 pos) Φ Ψ := fun σ G H rs p Q q q2 =>
  ⟨_, pe_tup (pa_b X es), h σ G H rs p _ (fun vs ds G1 H1 p1 f rv => ⟨by have := rv.length; have := hz ds f; rw [sizeLine_eq]; omega, fun a ha =>
    q (.ref a) (.tup ds) _ _ (p1.trans (.new (p1.pre p) ha fun ps z => by cases z)) (k ds f) (.tup upd_same (rv.mono (Same.upd ((p1.pre p).gnone ha))))⟩) q2⟩
/-- a, b = x, y of which each may raise, with local names -/
theorem js_parX {x y : Str} {px py pt : Pos} {kt k2 : Nat} {pt2 : Pos} (i j : Nat) (hN : X.N.Nodup) {A C : D → Prop} {Ψ : EC → Int → Prop} (ha : JX θ δ m X E ρ a A Ψ) (hb : (∃ d, A d) → JX θ δ m X E ρ b C Ψ) (hO : ∀ c n, Ψ c n → O.ex c n) (hr : ∀ d d', A d → C d' → JS θ δ m X E ((ρ.set i (some (.dat d))).set j (some (.dat d'))) rest O)
    (hij : i ≠ j := by decide) (hc : X.calm = true := by rfl) (hi : X.N[i]? = some x := by rfl) (hj : X.N[j]? = some y := by rfl) (hx : X.env.scope.names.lookup x = some .local := by rfl) (hy : X.env.scope.names.lookup y = some .local := by rfl)
    (hw : swappedStores [.Tuple [.Name x px, .Name y py] kt pt] (.Tuple [a, b] k2 pt2) X.env = pure (some [x, y]) := by rfl)
    (hs : swapsWithSole [.Tuple [.Name x px, .Name y py] kt pt] (.Tuple [a, b] k2 pt2) pos.line X.env = pure false := by rfl)
    (e1 : starEach [a, b] X.env = (false, eval a X.env) :: starEach [b] X.env := by rfl) (e2 : starEach [b] X.env = (false, eval b X.env) :: starEach [] X.env := by rfl) :
    JS θ δ m X E ρ (.Assign [.Tuple [.Name x px, .Name y py] kt pt] (.Tuple [a, b] k2 pt2) pos :: rest) O := fun G0 H0 σ G H s D0 q =>
  ⟨_, pss_cons (ps_par (i := i) (j := j) hc hN hi hj hij hx hy (pa_b X _) hw hs) (pss_b X rest), jxa_cons ha (fun z => jxa_cons (hb z) (fun _ => jxa_nil) e2) e1 σ G H s.rs s.pre _ (fun vs ds G' H' p f rv => by
    obtain ⟨d, r, e1, fd, d', r', e2, fd', e3⟩ := f
    subst e1 e2 e3
    cases rv with
    | cons r1 rv =>
      cases rv with
      | cons r2 rv =>
        cases rv
        exact ⟨_, _, rfl, hr d d' fd fd' G0 H0 _ G' H' (((s.go p).set r1 i).set r2 j) D0 q⟩) fun c n dx G' H' p f ex => q.ex c n dx G' H' (hO c n f) (s.post.trans p) ex⟩
/-- target = value, that may raise -/
theorem js_asgX {tg : Expr} {act : D → Rho → Rho → Prop} {Ψ : EC → Int → Prop} (hg : JG θ δ m X tg act) (h : JX θ δ m X E ρ e Φ Ψ) (hO : ∀ c n, Ψ c n → O.ex c n) (tot : ∀ d, Φ d → ∃ ρ', act d ρ ρ') (hr : ∀ d ρ', Φ d → act d ρ ρ' → JS θ δ m X E ρ' rest O) (hs : swapsWithSole [tg] e pos.line X.env = pure false := by rfl) (hw : swappedStores [tg] e X.env = pure none := by rfl)
    (h1 : (assignEach [tg] X.env).map (·.2) = [assign tg X.env] := by rfl) : JS θ δ m X E ρ (.Assign [tg] e pos :: rest) O := fun G0 H0 σ G H s D0 q =>
  ⟨_, pss_cons (ps_asg (pe_b X e) (pg_b X tg) hs hw h1) (pss_b X rest), h σ G H s.rs s.pre _ (fun v d G' H' p f rv => hg v d σ ρ G' H' rv (s.go p).rs (s.go p).pre _ (tot d f) fun σ' ρ' ha rs' => hr d ρ' f ha G0 H0 σ' G' H' ⟨rs', (s.go p).pre, (s.go p).post, (s.go p).up⟩ D0 q)
    fun c n dx G' H' p f ex => q.ex c n dx G' H' (hO c n f) (s.post.trans p) ex⟩
/-- return e, that may raise -/
theorem js_retX {Ψ : EC → Int → Prop} (h : JX θ δ m X E ρ e Φ Ψ) (hO : ∀ c n, Ψ c n → O.ex c n) (k : ∀ d, Φ d → O.rt d) : JS θ δ m X E ρ (.Return (some e) pos :: rest) O := fun G0 H0 σ G H s D0 q =>
  ⟨_, pss_cons (ps_ret (pe_b X e)) (pss_b X rest), h σ G H s.rs s.pre _ (fun v d G' H' p f rv => q.rt v d G' H' (k d f) (s.post.trans p) rv) fun c n dx G' H' p f ex => q.ex c n dx G' H' (hO c n f) (s.post.trans p) ex⟩
/-- three at once, local names -/
theorem js_par3 {x y z : Str} {px py pz pt : Pos} {kt k2 : Nat} {pt2 : Pos} (i j l : Nat) (hN : X.N.Nodup) {A C B' : D → Prop} (ha : JE θ δ m X ρ a A) (hb : JE θ δ m X ρ b C) (hcc : JE θ δ m X ρ c B') (hr : ∀ d d' d'', A d → C d' → B' d'' → JS θ δ m X E (((ρ.set i (some (.dat d))).set j (some (.dat d'))).set l (some (.dat d''))) rest O)
    (hij : i ≠ j := by decide) (hil : i ≠ l := by decide) (hjl : j ≠ l := by decide) (hc : X.calm = true := by rfl) (hi : X.N[i]? = some x := by rfl) (hj : X.N[j]? = some y := by rfl) (hl : X.N[l]? = some z := by rfl) (hx : X.env.scope.names.lookup x = some .local := by rfl) (hy : X.env.scope.names.lookup y = some .local := by rfl) (hz : X.env.scope.names.lookup z = some .local := by rfl)
    (hw : swappedStores [.Tuple [.Name x px, .Name y py, .Name z pz] kt pt] (.Tuple [a, b, c] k2 pt2) X.env = pure (some [x, y, z]) := by rfl)
    (hs : swapsWithSole [.Tuple [.Name x px, .Name y py, .Name z pz] kt pt] (.Tuple [a, b, c] k2 pt2) pos.line X.env = pure false := by rfl)
    (e1 : starEach [a, b, c] X.env = (false, eval a X.env) :: starEach [b, c] X.env := by rfl) (e2 : starEach [b, c] X.env = (false, eval b X.env) :: starEach [c] X.env := by rfl) (e3 : starEach [c] X.env = (false, eval c X.env) :: starEach [] X.env := by rfl) :
    JS θ δ m X E ρ (.Assign [.Tuple [.Name x px, .Name y py, .Name z pz] kt pt] (.Tuple [a, b, c] k2 pt2) pos :: rest) O := fun G0 H0 σ G H s D0 q =>
  ⟨_, pss_cons (ps_par3 (i := i) (j := j) (l := l) hc hN hi hj hl hij hil hjl hx hy hz (pa_b X _) hw hs) (pss_b X rest), ja_cons ha (ja_cons hb (ja_cons hcc ja_nil e3) e2) e1 σ G H s.rs s.pre _ fun vs ds G' H' p f rv => by
    obtain ⟨d, r, e1, fd, d', r', e2, fd', d'', r'', e3, fd'', e4⟩ := f
    subst e1 e2 e3 e4
    cases rv with
    | cons r1 rv =>
      cases rv with
      | cons r2 rv =>
        cases rv with
        | cons r3 rv =>
          cases rv
          exact ⟨_, _, _, rfl, hr d d' d'' fd fd' fd'' G0 H0 _ G' H' ((((s.go p).set r1 i).set r2 j).set r3 l) D0 q⟩⟩

/-! ### the fields of a Budget -/
theorem je_fld {f : Str} {d : D} {caps : List Int} {lo hi : Int} (th : ThOk X.prog X.K X.mg θ) (hn : NoAttr X.K θ.C f) (h : JE θ δ m X ρ e (Is (.bud caps lo hi))) (hd : ∀ (G : Hp) (p dx t : Addr) (fs : List (Str × V)), G p = some (.ins θ.C dx fs) → fs.lookup ("key_count" : Str) = some (.int caps.length) → fs.lookup ("caps" : Str) = some (.ref t) → G t = some (.tup (caps.map V.int)) →
      fs.lookup ("low" : Str) = some (.int lo) → fs.lookup ("high" : Str) = some (.int hi) → ∃ v, fs.lookup f = some v ∧ R θ δ G v d) (hb : attributeBase e f X.env (eval e X.env) = eval e X.env := by rfl) : JE θ δ m X ρ (.Attribute e f pos) (Is d) := fun σ G H rs p Q q =>
  ⟨_, pe_fld (pe_b X e) hb, h σ G H rs p _ fun v d' G' H' po f rv => by
    subst f
    cases rv with
    | bud h1 h2 h3 h4 h5 h6 =>
      obtain ⟨v, e1, e2⟩ := hd _ _ _ _ _ h1 h2 h3 h4 h5 h6
      exact ⟨_, _, _, _, v, rfl, po.gh _ _ h1, th.C, hn, e1, q _ _ G' H' po rfl e2⟩⟩
theorem je_caps {caps : List Int} {lo hi : Int} (th : ThOk X.prog X.K X.mg θ) (h : JE θ δ m X ρ e (Is (.bud caps lo hi))) (hb : attributeBase e "caps" X.env (eval e X.env) = eval e X.env := by rfl) : JE θ δ m X ρ (.Attribute e "caps" pos) (Is (dti caps)) :=
  je_fld th th.caps h (fun G p dx t fs h1 h2 h3 h4 h5 h6 => ⟨_, h3, .tup h4 (RA.ofInt caps)⟩) hb
theorem je_count {caps : List Int} {lo hi : Int} (th : ThOk X.prog X.K X.mg θ) (h : JE θ δ m X ρ e (Is (.bud caps lo hi))) (hb : attributeBase e "key_count" X.env (eval e X.env) = eval e X.env := by rfl) : JE θ δ m X ρ (.Attribute e "key_count" pos) (Is (.int caps.length)) :=
  je_fld th th.key_count h (fun G p dx t fs h1 h2 h3 h4 h5 h6 => ⟨_, h2, .int _⟩) hb
theorem je_low {caps : List Int} {lo hi : Int} (th : ThOk X.prog X.K X.mg θ) (h : JE θ δ m X ρ e (Is (.bud caps lo hi))) (hb : attributeBase e "low" X.env (eval e X.env) = eval e X.env := by rfl) : JE θ δ m X ρ (.Attribute e "low" pos) (Is (.int lo)) :=
  je_fld th th.low h (fun G p dx t fs h1 h2 h3 h4 h5 h6 => ⟨_, h5, .int _⟩) hb
theorem je_high {caps : List Int} {lo hi : Int} (th : ThOk X.prog X.K X.mg θ) (h : JE θ δ m X ρ e (Is (.bud caps lo hi))) (hb : attributeBase e "high" X.env (eval e X.env) = eval e X.env := by rfl) : JE θ δ m X ρ (.Attribute e "high" pos) (Is (.int hi)) :=
  je_fld th th.high h (fun G p dx t fs h1 h2 h3 h4 h5 h6 => ⟨_, h6, .int _⟩) hb

/-! ### Budget(..) -/
/-- the promise of Budget.__init__ -/
def spInit (θ : Th) (pre : List Int → Int → Int → Prop) : Sp := fun vs H Q E => ∃ (δ : Dl) (G : Hp) (x dx : Addr) (v1 v2 v3 : V) (caps : List Int) (lo hi : Int), vs = [.ref x, v1, v2, v3] ∧ Pre θ δ false G H ∧ R θ δ G v1 (dli caps) ∧ R θ δ G v2 (.int lo) ∧ R θ δ G v3 (.int hi) ∧ pre caps lo hi ∧
  H x = some (.ins θ.C dx []) ∧ G x = none ∧
  (∀ (G' H' : Hp) (dx' t : Addr) (fs : List (Str × V)), Same G G' → G' x = none → (∀ b, G' b ≠ none → G b ≠ none ∨ H b = none) → (∀ b ps, G' b = some (.tbl ps) → G b = some (.tbl ps)) → (∀ b o, b ≠ x → H b = some o → H' b = some o) → (∀ b o, b ≠ x → G' b = some o → H' b = some o) →
    H' x = some (.ins θ.C dx' fs) → fs.lookup ("key_count" : Str) = some (.int caps.length) → fs.lookup ("caps" : Str) = some (.ref t) → G' t = some (.tup (caps.map V.int)) → fs.lookup ("low" : Str) = some (.int lo) → fs.lookup ("high" : Str) = some (.int (min hi caps.sum)) → Q .non H')
def CalI (P : Program) (w : World) (K : PySem.W.Frag) (mg : Str → Option Value) (base : Heap) (k : Nat) (θ : Th) (pre : List Int → Int → Int → Prop) : Prop :=
  ∃ f fd, FnOk P w K mg base (L2.CX P w) k f fd ["self", "caps", "low", "high"] (spInit θ pre) ∧ Mk K θ.C f ∧ Binds K fd ["self", "caps", "low", "high"] []
theorem je_budget {px : Pos} {j k : Nat} {a1 a2 a3 : Expr} {caps : List Int} {lo hi : Int} {pre : List Int → Int → Int → Prop} (th : ThOk X.prog X.K X.mg θ) (F : CalI X.prog X.w X.K X.mg X.base j θ pre) (hr : Room (k + 1) X.A) (hjk : j ≤ k) (hp : pre caps lo hi)
    (h1 : JE θ δ m X ρ a1 (Is (dli caps))) (h2 : JE θ δ m X ρ a2 (Is (.int lo))) (h3 : JE θ δ m X ρ a3 (Is (.int hi))) (hg : Gl X "Budget" := by rfl)
    (e1 : starEach [a1, a2, a3] X.env = (false, eval a1 X.env) :: starEach [a2, a3] X.env := by rfl) (e2 : starEach [a2, a3] X.env = (false, eval a2 X.env) :: starEach [a3] X.env := by rfl) (e3 : starEach [a3] X.env = (false, eval a3 X.env) :: starEach [] X.env := by rfl)
    (hpl : (backTo pos (starEach [a2, a3] X.env)).any (·.1) = false := by rfl) : JE θ δ m X ρ (.Call (.Name "Budget" px) [a1, a2, a3] [] pos) (Is (.bud caps lo (min hi caps.sum))) := fun σ G H rs p Q q => by
  obtain ⟨f, fd, Fo, M, hb⟩ := F
  refine ⟨_, pe_make M (Fo.mono hjk) hr hg th.gC hb .nil passL (pa_b X _) (by decide) e1 hpl, ja_1 h1 (ja_1 h2 (ja_1 h3 ja_nil e3) e2) e1 σ G H rs p _ fun vs ds G1 H1 p1 fa ra => ?_⟩
  subst fa
  cases ra with
  | cons r1 ra =>
    cases ra with
    | cons r2 ra =>
      cases ra with
      | cons r3 ra =>
        cases ra
        intro x dx hx hdx hne
        have pr := p1.pre p
        have prF := Pre.lower (m' := false) (.inr rfl) pr
        have hx2 : (upd H1 dx (.own x)) x = none := by rw [upd_ne (Ne.symm hne)]; exact hx
        have s1 : Same H1 (upd H1 dx (.own x)) := Same.upd hdx
        have s2 : Same (upd H1 dx (.own x)) (upd (upd H1 dx (.own x)) x (.ins θ.C dx [])) := Same.upd hx2
        refine ⟨δ, G1, x, dx, _, _, _, caps, lo, hi, rfl, ⟨(pr.gh.trans s1).trans s2, pr.nt, fun z => by cases z⟩, r1, r2, r3, hp, upd_same, pr.gnone hx, fun G' H' dx' t fs g1 g2 g3 g4 g5 g6 hfx l1 l2 l3 l4 l5 => ⟨rfl, ?_⟩⟩
        have po : Post θ δ m G1 H1 (upd G' x (.ins θ.C dx' fs)) H' := by
          refine .grow pr (g1.trans (Same.upd g2)) (fun b u e => ?_) (fun b o e => ?_) (fun b hb => ?_) fun b ps e => ?_
          · by_cases z : b = x
            · rw [z, upd_same] at e
              cases e
              rw [z]; exact hfx
            · rw [upd_ne z] at e
              exact g6 b u z e
          · have z : b ≠ x := ne_of_none e hx
            exact g5 b o z (s2 _ _ (s1 _ _ e))
          · by_cases z : b = x
            · exact .inr (by rw [z]; exact hx)
            · rw [upd_ne z] at hb
              rcases g3 b hb with h | h
              · exact .inl h
              · refine .inr ?_
                cases e : H1 b with
                | none => rfl
                | some o =>
                  rw [s2 _ _ (s1 _ _ e)] at h
                  cases h
          · by_cases z : b = x
            · rw [z, upd_same] at e
              cases e
            · rw [upd_ne z] at e
              exact g4 b ps e
        exact q _ _ _ _ (p1.trans po) rfl (.bud upd_same l1 l2 (Same.upd g2 _ _ l3) l4 l5)
end
end B
namespace B
open PySem PySem.Spec PyProof.Rows L2
def blkB (N : List Str) (sc scope : Scope) (own : List (Str × Nat)) : Bool :=
  (match scope.kind with | .function => true | _ => false) && scope.names.all (fun y => scope.names.lookup y.1 == some y.2) && own.all (fun p => N[p.2]? == some p.1) &&
  scope.names.all (fun y => !(y.2 == .free) || (sc.names.lookup y.1 == some .cell || sc.names.lookup y.1 == some .free)) && scope.names.all (fun y => !(y.2 == .local || y.2 == .cell) || (own.any (fun p => p.1 == y.1) || !(N.contains y.1)))
theorem blk_by {N : List Str} {sc scope : Scope} {own : List (Str × Nat)} (h : blkB N sc scope own = true) : BlkOk N sc scope own := by
  unfold blkB at h
  simp only [Bool.and_eq_true] at h
  obtain ⟨⟨⟨⟨h1, h2⟩, h3⟩, h4⟩, h5⟩ := h
  refine ⟨?_, fun y hy => ?_, fun p hp => ?_, fun y hy e => ?_, fun y hy e => ?_⟩
  · split at h1
    · assumption
    · cases h1
  · exact eq_of_beq (List.all_eq_true.mp h2 y hy)
  · exact eq_of_beq (List.all_eq_true.mp h3 p hp)
  · have := List.all_eq_true.mp h4 y hy
    rw [e] at this
    have e2 : (NameKind.free == NameKind.free) = true := by decide
    rw [e2, Bool.not_true, Bool.false_or, Bool.or_eq_true] at this
    rcases this with q | q
    · exact .inl (eq_of_beq q)
    · exact .inr (eq_of_beq q)
  · have := List.all_eq_true.mp h5 y hy
    have e2 : (y.2 == NameKind.local || y.2 == NameKind.cell) = true := by
      rcases e with e | e <;> rw [e] <;> decide
    rw [e2, Bool.not_true, Bool.false_or, Bool.or_eq_true] at this
    rcases this with q | q
    · refine .inl ?_
      obtain ⟨p, hp, e⟩ := List.any_eq_true.mp q
      exact List.mem_map.mpr ⟨p, hp, eq_of_beq e⟩
    · refine .inr fun z => ?_
      rw [Bool.not_eq_true'] at q
      rw [List.contains_iff_mem.mpr z] at q
      cases q
end B
set_option Elab.async false
set_option autoImplicit false
set_option linter.all false
set_option maxRecDepth 100000
set_option maxHeartbeats 4000000
namespace B
open PySem PySem.Spec PyProof.Rows L2
open PySem.W (EachIs dataLe AllAlike Sortable)
section
variable {θ : Th} {δ : Dl} {m : Bool} {X : Cx} {E : XK} {ρ : Rho} {a b c e tg iter elt : Expr} {es ifs : List Expr} {Φ Φ' A C : D → Prop} {β β' : Bool → Prop} {pos : Pos} {rest : List Stmt} {O : Outs} {G0 H0 G G' H H' : Hp} {σ : L2.St} {scope : Scope} {own : List (Str × Nat)} {Ψ : D → Prop}

/-! ### sorted(rows) -/
abbrev encR (r : List Int) : PyData := .tuple (r.map PyData.int)
/-- Python's order of tuples of ints -/
def leR : List Int → List Int → Bool := dataLe false encR
abbrev encP (p : V × List Int) : PyData := encR p.2
def rSortRows (K : PySem.W.Frag) : List V → Hp → VK → Prop := fun vs H Q => ∃ (a : Addr) (ps : List (V × List Int)), vs = [V.ref a] ∧ SqL K H a (ps.map (·.1)) ∧ (∀ p ∈ ps, Dp K H p.1 (encR p.2) ∧ p.2 ≠ []) ∧ ps.length ≤ 100000 ∧
  ∀ q, H q = none → Q (.ref q) (upd H q (.lst ((ps.mergeSort (dataLe false encP)).map (·.1))))
theorem vals_fst : ∀ {ps : List (V × List Int)} {us : List Value}, Vals (ps.map (·.1)) us → EachIs (fun u p => RelV p.1 u) us ps
  | [], _, r => by
    cases r
    exact .nil
  | p :: ps, _, r => by
    cases r with
    | cons h t => exact .cons h (vals_fst t)
theorem fst_vals : ∀ {ps : List (V × List Int)} {us : List Value}, EachIs (fun u p => RelV p.1 u) us ps → Vals (ps.map (·.1)) us
  | [], _, .nil => .nil
  | p :: ps, _, .cons h t => .cons h (fst_vals t)
theorem each_imp {α γ : Type} {R R' : α → γ → Prop} : ∀ {as : List α} {bs : List γ}, EachIs R as bs → (∀ a, ∀ b ∈ bs, R a b → R' a b) → EachIs R' as bs
  | _, _, .nil, _ => .nil
  | _, _, .cons h t, k => .cons (k _ _ List.mem_cons_self h) (each_imp t fun a b hb => k a b (List.mem_cons_of_mem _ hb))
theorem cr_sortRows (hu : X.A.units + 65 < cLine) : CallR X (.builtin "sorted") (rSortRows X.K) := by
  intro pins s σ H vs us Q I r h
  obtain ⟨a, ps, rfl, hs, hp, hz, q⟩ := h
  obtain ⟨its, rv, hl, _⟩ := I.list hs
  rw [Vals.ref1 r]
  have e0 := vals_fst rv
  have al : AllAlike (ps.map encP) := PySem.W.AllAlike.of fun b b' => by
    show PySem.W.alike (.tuple _) (.tuple _) = true
    unfold PySem.W.alike
    exact PySem.W.alike_ints b.2 b'.2
  have so : Sortable (ps.map encP) := .inl fun d hd => by
    obtain ⟨p, hpm, rfl⟩ := List.mem_map.mp hd
    have := (hp p hpm).2
    show ∃ x r, PyData.tuple (p.2.map PyData.int) = .tuple (x :: r)
    cases e : p.2 with
    | nil => exact absurd e this
    | cons x r => exact ⟨_, _, rfl⟩
  have er : EachIs (fun v p => ∃ as, Reads s.heap v (encP p) as) its ps := each_imp e0 fun u p hpm hr => Dp.reads I _ _ _ (hp p hpm).1 hr
  refine PySem.W.sorted_data (enc := encP) (R := fun u p => RelV p.1 u) hl.isList e0 er al so (by rw [sizeLine_eq]; omega) (fun p _ => ?_) fun out ho eo => ?_
  · have : (encP p).depth ≤ 1 := by
      show (PyData.tuple (p.2.map PyData.int)).depth ≤ 1
      rw [PyData.depth, PySem.W.depth_ints]
      exact Nat.le_refl _
    omega
  · obtain ⟨ep, he'⟩ := PyProof.Rows.sortedAll_at s.heap its (List.toArray out)
    refine ⟨.ref _, upd H (s.heap.objs.size + 1) (.lst ((ps.mergeSort (dataLe false encP)).map (·.1))), I.laid (t' := s.toks) (fun _ _ => PyProof.Rows.sortedAll_old) (Nat.le_succ _) ⟨?_, out, ep, fst_vals eo, he'⟩, rfl, q _ (I.hok.fresh (Nat.le_succ _))⟩
    rw [List.length_map, List.length_mergeSort, sizeLine_eq]
    omega
theorem RA.rows : ∀ {vs : List V} {rs : List (List Int)}, RA θ δ G vs (rs.map dti) → ∃ ps : List (V × List Int), ps.map (·.1) = vs ∧ ps.map (·.2) = rs ∧ ∀ p ∈ ps, R θ δ G p.1 (dti p.2)
  | _, [], .nil => ⟨[], rfl, rfl, fun _ h => absurd h List.not_mem_nil⟩
  | _, r :: rs, .cons h t => by
    obtain ⟨ps, e1, e2, e3⟩ := RA.rows t
    refine ⟨(_, r) :: ps, by rw [List.map_cons, e1], by rw [List.map_cons, e2], fun p hp => ?_⟩
    rcases List.mem_cons.mp hp with rfl | hp
    · exact h
    · exact e3 p hp
theorem RA.ofRows : ∀ {ps : List (V × List Int)}, (∀ p ∈ ps, R θ δ G p.1 (dti p.2)) → RA θ δ G (ps.map (·.1)) ((ps.map (·.2)).map dti)
  | [], _ => .nil
  | p :: ps, h => .cons (h p List.mem_cons_self) (RA.ofRows fun q hq => h q (List.mem_cons_of_mem _ hq))
theorem sort_snd (ps : List (V × List Int)) : (ps.mergeSort (dataLe false encP)).map (·.2) = (ps.map (·.2)).mergeSort leR := List.map_mergeSort fun a _ b _ => rfl
theorem ca_sortRows (hK : X.K = θ.K) {rs : List (List Int)} (hne : ∀ r ∈ rs, r ≠ []) (hz : rs.length ≤ 100000) : CaD θ δ m (rSortRows X.K) (fun ds => ds = [drows rs]) (Is (drows (rs.mergeSort leR))) := fun xs ds G H f ra p Q q => by
  subst f
  cases ra with
  | cons r1 ra =>
    cases ra
    cases r1 with
    | lst hs ra =>
      obtain ⟨ps, e1, e2, e3⟩ := ra.rows
      subst e1 e2
      refine ⟨_, ps, rfl, SqL.of (p.gh _ _ hs), fun z hz => ⟨?_, hne _ (List.mem_map.mpr ⟨z, hz, rfl⟩)⟩, by simpa using hz, fun l hl => ?_⟩
      · have := (e3 z hz).dp p.gh (isPy_dti _)
        rw [py_dti, ← hK] at this
        exact this
      · refine q _ _ _ _ (.new p hl fun ps z => by cases z) rfl (.lst upd_same ?_)
        rw [← sort_snd]
        exact (RA.ofRows fun z hz => e3 z ((List.mergeSort_perm _ _).mem_iff.mp hz)).mono (Same.upd (p.gnone hl))
theorem je_sortRows {px : Pos} (hK : X.K = θ.K) {rs : List (List Int)} (hne : ∀ r ∈ rs, r ≠ []) (hz : rs.length ≤ 100000) (hu : X.A.units + 65 < cLine) (hm : X.mg "sorted" = none) (ha : JE θ δ m X ρ a (Is (drows rs))) (hg : Gl X "sorted" := by rfl) (h1 : starEach [a] X.env = (false, eval a X.env) :: starEach [] X.env := by rfl)
    (h3 : (backTo pos (starEach [] X.env)).any (·.1) = false := by rfl) : JE θ δ m X ρ (.Call (.Name "sorted" px) [a] [] pos) (Is (drows (rs.mergeSort leR))) :=
  je_callB (cr_sortRows hu) hm (ja_1 ha ja_nil h1) (ca_sortRows hK hne hz) (by decide +kernel) hg (by decide) (by decide) h1 h3

/-! ### repr, where no repr is under way -/
def rRepr (K : PySem.W.Frag) : List V → Hp → VK → Prop := fun vs H Q => ∃ (x : V) (d : PyData), vs = [x] ∧ Dp K H x d ∧ d.showable = true ∧ d.hasDict = false ∧ d.depth ≤ 10 ∧ d.shown.length ≤ sizeLine ∧ Q (.str d.shown) H
theorem cr_repr (hg : X.A.guards = some []) (hu : X.A.units + 65 < cLine) : CallR X (.builtin "repr") (rRepr X.K) := by
  intro pins s σ H vs us Q I r h
  obtain ⟨x, d, rfl, hx, h1, h2, h3, h4, q⟩ := h
  obtain ⟨u, rfl, ru⟩ := vals1 r
  obtain ⟨as, rd⟩ := Dp.reads I d x u hx ru
  have ref : ∀ a, u = .ref a → wpAny (model X.prog X.w) X.A (call (.builtin "repr") [u]) (EP X pins σ Q) X.xe s := fun a e => by
    subst e
    exact repr_of_reads' rd h1 (fun z => by rw [h2] at z; cases z) hg (by omega) (fun _ _ e => e) (fun h' t tk k => ⟨.str _, H, I.kept k, ⟨_, rfl⟩, q⟩) h4
  cases rd with
  | none => exact P.repr_of_none ⟨.str _, H, I.tok _, ⟨_, rfl⟩, by rw [PyData.shown_none] at q; exact q⟩
  | bool b => exact P.repr_of_bool ⟨.str _, H, I.tok _, ⟨_, rfl⟩, by rw [PyData.shown_bool] at q; exact q⟩
  | int i t => exact P.repr_of_int (by simpa [PyData.showable] using h1) ⟨.str _, H, I.tok _, ⟨_, rfl⟩, by rw [PyData.shown_int] at q; exact q⟩
  | str z t => exact P.repr_of_str ⟨.str _, H, I.tok _, ⟨_, rfl⟩, by rw [PyData.shown_str] at q; exact q⟩ (by rw [PyData.shown_str] at h4; exact h4)
  | _ => exact ref _ rfl
/-- data whose repr is known -/
structure Rp (d : D) : Prop where
  ok : isPy d = true
  sh : (py d).showable = true
  nd : (py d).hasDict = false
  dp : (py d).depth ≤ 10
  sz : (py d).shown.length ≤ sizeLine
theorem je_repr {d : D} {px : Pos} (hK : X.K = θ.K) (h : Rp d) (hgd : X.A.guards = some []) (hu : X.A.units + 65 < cLine) (hm : X.mg "repr" = none) (ha : JE θ δ m X ρ a (Is d)) (hg : Gl X "repr" := by rfl) (h1 : starEach [a] X.env = (false, eval a X.env) :: starEach [] X.env := by rfl)
    (h3 : (backTo pos (starEach [] X.env)).any (·.1) = false := by rfl) : JE θ δ m X ρ (.Call (.Name "repr" px) [a] [] pos) (Is (.str (py d).shown)) :=
  je_callB (cr_repr hgd hu) hm (ja_1 ha ja_nil h1) (fun xs ds G H f ra p Q q => by
    subst f
    cases ra with
    | cons r1 ra =>
      cases ra
      exact ⟨_, py d, rfl, by rw [hK]; exact r1.dp p.gh h.ok, h.sh, h.nd, h.dp, h.sz, q _ _ G H (.refl p) rfl (.str _)⟩) (by decide +kernel) hg (by decide) (by decide) h1 h3
end
end B
set_option Elab.async false
set_option autoImplicit false
set_option linter.all false
set_option maxRecDepth 100000
set_option maxHeartbeats 2000000
/-! Lists of one's own: made in the def, changed there, known to nobody else. -/
namespace B
open PySem PySem.Spec PyProof.Rows L2
section
variable {θ : Th} {δ : Dl} {m : Bool} {X : Cx} {E : XK} {ρ : Rho} {a b c e tg iter elt : Expr} {es ifs : List Expr} {Φ Φ' A C : D → Prop} {β β' : Bool → Prop} {pos : Pos} {rest : List Stmt} {O : Outs} {G0 H0 G G' H H' : Hp} {σ : L2.St} {scope : Scope} {own : List (Str × Nat)} {Ψ : D → Prop}
/-- e makes a new list -/
def JEO (θ : Th) (δ : Dl) (m : Bool) (X : Cx) (ρ : Rho) (e : Expr) (Φ : List D → Prop) : Prop :=
  ∀ (σ : L2.St) (G H : Hp), RS θ δ m G H σ ρ → Pre θ δ m G H → ∀ Q : VK, (∀ (l : Addr) (xs : List V) (ds : List D) (G' H' : Hp), Post θ δ m G H G' H' → Φ ds → H l = none → H' l = some (.lst xs) → G' l = none → RA θ δ G' xs ds → Q (.ref l) H') → bE X e σ H Q
theorem Post.lay (p : Pre θ δ m G H) {l : Addr} {o : HO} (h : H l = none) : Post θ δ m G H G (upd H l o) := .same p (Same.upd h)
theorem jeo_nil : JEO θ δ m X ρ (.List [] pos) (fun ds => ds = []) := fun σ G H rs p Q q =>
  ⟨_, pe_lst pa_nil, ⟨by show 0 ≤ sizeLine; exact Nat.zero_le _, fun l hl => q l [] [] G _ (.lay p hl) rfl hl upd_same (p.gnone hl) .nil⟩⟩
theorem jeo_list {d : D} {ds : List D} {px : Pos} (hd : seqD d = some ds) (hm : X.mg "list" = none) (h : JE θ δ m X ρ e (Is d)) (hg : Gl X "list" := by rfl) (h1 : starEach [e] X.env = (false, eval e X.env) :: starEach [] X.env := by rfl)
    (h3 : (backTo pos (starEach [] X.env)).any (·.1) = false := by rfl) : JEO θ δ m X ρ (.Call (.Name "list" px) [e] [] pos) (fun r => r = ds) := fun σ G H rs p Q q =>
  ⟨_, pe_callTy call_list_of hg hm (by decide +kernel) (pa_cons (pe_b X e) pa_nil h1) (by decide) (by decide) h1 h3, h σ G H rs p _ fun v d' G' H' po f rv => by
    subst f
    have go : ∀ (a : Addr) (vs : List V), (SqL X.K H' a vs ∨ SqT X.K H' a vs) → RA θ δ G' vs ds → ∃ p ys, [V.ref a] = [.ref p] ∧ (SqL X.K H' p ys ∨ SqT X.K H' p ys) ∧ ∀ l, H' l = none → Q (.ref l) (upd H' l (.lst ys)) := fun a vs h ra =>
      ⟨a, vs, rfl, h, fun l hl => q l vs ds G' _ (po.trans (.lay (po.pre p) hl)) rfl (by
        cases z : H l with
        | none => rfl
        | some o =>
          have := po.dm l (by rw [z]; simp)
          exact absurd hl this) upd_same ((po.pre p).gnone hl) ra⟩
    cases d' with
    | list ys =>
      cases hd
      cases rv with
      | lst hs ra => exact go _ _ (.inl (SqL.of (po.gh _ _ hs))) ra
    | tup ys =>
      cases hd
      cases rv with
      | tup hs ra => exact go _ _ (.inr (SqT.of (po.gh _ _ hs))) ra
    | _ => cases hd⟩
theorem StOk.setOwn (s : StOk θ δ m G0 H0 ρ σ G H) {i : Nat} (hn : noOwn (ρ.set i none) = true) {l : Addr} {xs : List V} {ds : List D} (h0 : δ.b l = none) (hH : H l = some (.lst xs)) (hG : G l = none) (hr : RA θ δ G xs ds) (hm : m = true → ¬ Mut θ δ l) :
    StOk θ δ m G0 H0 (ρ.set i (some (.own ds))) (σ.set i (some (.ref l))) G H := ⟨s.rs.setOwn hn hH hG hr hm h0, s.pre, s.post, s.up⟩
theorem StOk.bNone (s : StOk θ δ m G0 H0 ρ σ G H) {l : Addr} (h : H l = none) : δ.b l = none := by
  cases z : δ.b l with
  | none => rfl
  | some o => exact absurd h (s.post.dm l (by rw [z]; simp))
theorem Pre.notMut (p : Pre θ δ m G H) {l : Addr} (h : H l = none) (hm : m = true) : ¬ Mut θ δ l := fun z => (p.wd hm).mutDom z h
/-- x = a new list -/
theorem js_setOwn {x : Str} {px : Pos} {Φ : List D → Prop} (i : Nat) (hN : X.N.Nodup) (h : JEO θ δ m X ρ e Φ) (hn : noOwn (ρ.set i none) = true) (hr : ∀ ds, Φ ds → JS θ δ m X E (ρ.set i (some (.own ds))) rest O) (hi : X.N[i]? = some x := by rfl) (hx : Loc X.env.scope x := by first | exact Or.inl rfl | exact Or.inr rfl)
    (hs : swapsWith e (some (.Name x px)) pos.line X.env = pure false := by rfl) (hf : X.fn x = true ∨ X.env.scope.names.lookup x = some .local := by first | exact .inl rfl | exact .inr rfl | assumption) : JS θ δ m X E ρ (.Assign [.Name x px] e pos :: rest) O := fun G0 H0 σ G H s D0 q =>
  ⟨_, pss_cons (ps_set (i := i) hN hi hx (pe_b X e) hs hf) (pss_b X rest), h σ G H s.rs s.pre _ fun l xs ds G' H' p f h0 hH hG ra => hr ds f G0 H0 _ G' H' ((s.go p).setOwn hn (s.bNone h0) hH hG ra (s.pre.notMut h0)) D0 q⟩
/-- x, y = value, a new list -/
theorem js_parOwn {x y : Str} {px py pt : Pos} {kt k2 : Nat} {pt2 : Pos} {Φ : List D → Prop} (i j : Nat) (hN : X.N.Nodup) {A : D → Prop} (ha : JE θ δ m X ρ a A) (hb : JEO θ δ m X ρ b Φ) (hn : ∀ d, noOwn ((ρ.set i (some (.dat d))).set j none) = true) (hr : ∀ d ds, A d → Φ ds → JS θ δ m X E ((ρ.set i (some (.dat d))).set j (some (.own ds))) rest O)
    (hij : i ≠ j := by decide) (hc : X.calm = true := by rfl) (hi : X.N[i]? = some x := by rfl) (hj : X.N[j]? = some y := by rfl) (hx : X.env.scope.names.lookup x = some .local := by rfl) (hy : X.env.scope.names.lookup y = some .local := by rfl)
    (hw : swappedStores [.Tuple [.Name x px, .Name y py] kt pt] (.Tuple [a, b] k2 pt2) X.env = pure (some [x, y]) := by rfl)
    (hs : swapsWithSole [.Tuple [.Name x px, .Name y py] kt pt] (.Tuple [a, b] k2 pt2) pos.line X.env = pure false := by rfl)
    (e1 : starEach [a, b] X.env = (false, eval a X.env) :: starEach [b] X.env := by rfl) (e2 : starEach [b] X.env = (false, eval b X.env) :: starEach [] X.env := by rfl) :
    JS θ δ m X E ρ (.Assign [.Tuple [.Name x px, .Name y py] kt pt] (.Tuple [a, b] k2 pt2) pos :: rest) O := fun G0 H0 σ G H s D0 q =>
  ⟨_, pss_cons (ps_par (i := i) (j := j) hc hN hi hj hij hx hy (pa_cons (pe_b X a) (pa_cons (pe_b X b) pa_nil e2) e1) hw hs) (pss_b X rest), ha σ G H s.rs s.pre _ fun v d G1 H1 p1 f rv => hb σ G1 H1 (s.rs.post p1) (p1.pre s.pre) _ fun l xs ds G2 H2 p2 f2 h0 hH hG ra =>
    ⟨_, _, rfl, hr d ds f f2 G0 H0 _ G2 H2 ((((s.go p1).go p2).set (rv.mono p2.gg) i).setOwn (hn d) ((s.go p1).bNone h0) hH hG ra ((p1.pre s.pre).notMut h0)) D0 q⟩⟩
/-- it is changed -/
theorem StOk.updOwn (s : StOk θ δ m G0 H0 ρ σ G H) {i : Nat} (hn : noOwn (ρ.set i none) = true) {l : Addr} {xs ys : List V} {ds es : List D} (hi : ρ[i]? = some (some (.own ds))) (hl : σ[i]? = some (some (.ref l))) (hH : H l = some (.lst xs)) (hr : RA θ δ G ys es) :
    StOk θ δ m G0 H0 (ρ.set i (some (.own es))) σ G (upd H l (.lst ys)) := by
  obtain ⟨l', xs', e1, e2, e3, e4, e5, e6⟩ := s.rs.own i ds hi
  have : l' = l := by
    rw [hl] at e1
    cases e1
    rfl
  subst this
  have gh : Same G (upd H l' (.lst ys)) := fun b u z => by
    rw [upd_ne (ne_of_none z e3)]
    exact s.pre.gh b u z
  have wd : m = true → Wld θ δ G (upd H l' (.lst ys)) := fun hm => by
    have w := s.pre.wd hm
    have nd : ∀ c, Mut θ δ c → c ≠ l' := fun c hc z => e5 hm (z ▸ hc)
    refine ⟨w.ne, let ⟨bl, e, r⟩ := w.dl; ⟨bl, by rw [upd_ne (nd _ (.inl rfl))]; exact e, r⟩, let ⟨cs, e, r⟩ := w.d0; ⟨cs, by rw [upd_ne (nd _ (.inr (.inl rfl)))]; exact e, r⟩, fun pp hp => ?_, w.tm, w.gn⟩
    obtain ⟨ps, f1, f2, f3⟩ := w.tb pp hp
    refine ⟨ps, by rw [upd_ne (nd _ (.inr (.inr ⟨pp, hp, rfl⟩)))]; exact f1, f2, f3⟩
  have hs : ρ.set i (some (.own es)) = (ρ.set i (some (.own es))) := rfl
  refine ⟨?_, ⟨gh, s.pre.nt, wd⟩, ⟨s.post.gg, gh, s.post.nw, s.post.nt, fun b o z k => ?_, fun b z => ?_, wd⟩, s.up⟩
  · -- the names
    refine ⟨by simp [s.rs.len], fun j d hj => ?_, fun j fs hj => ?_, fun x y ds' es' hx hy => ?_⟩
    · rcases set_cases hj with ⟨_, e, _⟩ | ⟨_, hj⟩
      · cases e
      · exact s.rs.dat j d hj
    · rcases set_cases hj with ⟨rfl, e, _⟩ | ⟨n, hj⟩
      · cases e
        exact ⟨l', ys, hl, upd_same, e3, hr, e5, e6⟩
      · have : (ρ.set i none)[j]? = some (some (.own fs)) := by rw [List.getElem?_set_ne n]; exact hj
        exact absurd this (noOwn_none hn)
    · have key : ∀ z fs, (ρ.set i (some (Sl.own es)))[z]? = some (some (.own fs)) → i = z := fun z fs hz => by
        rcases set_cases hz with ⟨h1, _, _⟩ | ⟨n, hz⟩
        · exact h1
        · have : (ρ.set i none)[z]? = some (some (.own fs)) := by rw [List.getElem?_set_ne n]; exact hz
          exact absurd this (noOwn_none hn)
      exact (key x _ hx).symm.trans (key y _ hy)
  · have : b ≠ l' := fun y => by
      rw [y, e6] at z
      cases z
    rw [upd_ne this]
    exact s.post.fr b o z k
  · by_cases y : b = l'
    · rw [y, upd_same]; simp
    · rw [upd_ne y]
      exact s.post.dm b z
/-- x.append(e) -/
theorem js_append {x : Str} {px p1 p2 : Pos} (i : Nat) {ds : List D} (hi : ρ[i]? = some (some (.own ds))) (hn : noOwn (ρ.set i none) = true) (hz : ds.length ≤ 100000) (h : JE θ δ m X ρ e Φ) (hr : ∀ d, Φ d → JS θ δ m X E (ρ.set i (some (.own (ds ++ [d])))) rest O) (hN : X.N[i]? = some x := by rfl) (hv : Vis X.env.scope x := by first | exact Or.inl rfl | exact Or.inr (Or.inl rfl) | exact Or.inr (Or.inr rfl))
    (hd : (x == ("__debug__" : Str)) = false := by decide) (hcd : (x == ("__classdict__" : Str)) = false := by decide) (hbase : attributeBase (.Name x px) "append" X.env (eval (.Name x px) X.env) = eval (.Name x px) X.env := by rfl) (hline : (p1.endLine == p2.line) = true := by rfl) (h1 : starEach [e] X.env = (false, eval e X.env) :: starEach [] X.env := by rfl)
    (hfew : ((backTo p2 (starEach [e] X.env)).all (fun x => !x.1) && (backToKw p2 (keywordEach [] X.env)).all (fun x => x.1.isSome) && decide ([e].length + ([] : List Keyword).length + (if ([] : List Keyword).isEmpty then 0 else 1) < 30)) = true := by rfl)
    (hpl : (backTo p2 (starEach [] X.env)).any (·.1) = false := by rfl) (hs : swapsWith (.Call (.Attribute (.Name x px) "append" p1) [e] [] p2) none pos.line X.env = pure false := by rfl) :
    JS θ δ m X E ρ (.Expr (.Call (.Attribute (.Name x px) "append" p1) [e] [] p2) pos :: rest) O := fun G0 H0 σ G H s D0 q => by
  obtain ⟨l, xs, e1, e2, e3, e4, e5, e6⟩ := s.rs.own i ds hi
  refine ⟨_, pss_cons (ps_expr (pe_bm PySem.F.plainAttrs_list PySem.F.slot_list_append PySem.F.type_list_append mt_append (pe_var (i := i) hN hv hd hcd) (pa_cons (pe_b X e) pa_nil h1) hbase hfew hline h1 hpl) hs) (pss_b X rest), .ref l, e1, ?_⟩
  refine ⟨.inl ⟨rfl, xs, SqL.of e2⟩, h σ G H s.rs s.pre _ fun v d G' H' po f rv => ?_⟩
  have e2' := po.fr l _ e2 e5
  have hl := e4.length
  exact ⟨l, xs, v, rfl, rfl, e2', by rw [hl, sizeLine_eq]; omega, hr d f G0 H0 σ G' _ ((s.go po).updOwn hn hi e1 e2' ((e4.mono po.gg).append (.cons rv .nil))) D0 q⟩
/-- from here on it is data -/
theorem js_freeze (i : Nat) {ds : List D} (hi : ρ[i]? = some (some (.own ds))) {st : List Stmt} (h : JS θ δ m X E (ρ.set i (some (.dat (.list ds)))) st O) : JS θ δ m X E ρ st O := fun G0 H0 σ G H s D0 q => by
  obtain ⟨l, xs, e1, e2, e3, e4, e5, e6⟩ := s.rs.own i ds hi
  have k : Post θ δ m δ.g δ.b (upd G l (.lst xs)) H := by
    have po := s.post
    refine ⟨po.gg.trans (Same.upd e3), fun b u e => ?_, fun b hb => ?_, fun b ps hb => ?_, po.fr, po.dm, fun hm => ?_⟩
    · by_cases hb : b = l
      · rw [hb, upd_same] at e
        cases e
        rw [hb]; exact e2
      · rw [upd_ne hb] at e
        exact po.gh b u e
    · by_cases e : b = l
      · exact .inr (by rw [e]; exact e6)
      · rw [upd_ne e] at hb
        exact po.nw b hb
    · by_cases e : b = l
      · rw [e, upd_same] at hb
        cases hb
      · rw [upd_ne e] at hb
        exact po.nt b ps hb
    · have w := po.wd hm
      refine ⟨w.ne, w.dl, w.d0, w.tb.ext (Same.upd e3) (Same.refl _), w.tm, fun b hb => ?_⟩
      have : b ≠ l := fun e => e5 hm (e ▸ hb)
      rw [upd_ne this]
      exact w.gn b hb
  have sg : Same G (upd G l (.lst xs)) := Same.upd e3
  refine h G0 H0 σ (upd G l (.lst xs)) H ⟨⟨by simp [s.rs.len], fun j d hj => ?_, fun j fs hj => ?_, fun x y ds' es' hx hy => ?_⟩, ⟨k.gh, fun b ps hb => ?_, k.wd⟩, k, s.up.trans sg⟩ D0 q
  · rcases set_cases hj with ⟨rfl, e, _⟩ | ⟨_, hj⟩
    · cases e
      exact ⟨_, e1, .lst upd_same (e4.mono sg)⟩
    · obtain ⟨v, f1, f2⟩ := s.rs.dat j d hj
      exact ⟨v, f1, f2.mono sg⟩
  · rcases set_cases hj with ⟨_, e, _⟩ | ⟨n, hj⟩
    · cases e
    · exact absurd (s.rs.one i j _ _ hi hj) n
  · rcases set_cases hx with ⟨_, e, _⟩ | ⟨n, hx⟩
    · cases e
    · exact absurd (s.rs.one i x _ _ hi hx) n
  · by_cases e : b = l
    · rw [e, upd_same] at hb
      cases hb
    · rw [upd_ne e] at hb
      exact s.pre.nt b ps hb
/-- x[k] read off it -/
theorem je_ixOwn {x : Str} {px : Pos} (i : Nat) {ds : List D} {k : Nat} {d : D} (hi : ρ[i]? = some (some (.own ds))) (hk : ds[k]? = some d) (hb : JE θ δ m X ρ b (Is (.int k))) (hN : X.N[i]? = some x := by rfl) (hv : Vis X.env.scope x := by first | exact Or.inl rfl | exact Or.inr (Or.inl rfl) | exact Or.inr (Or.inr rfl))
    (hd : (x == ("__debug__" : Str)) = false := by decide) (hcd : (x == ("__classdict__" : Str)) = false := by decide) (hp : PlainIx b := by exact fun _ _ => rfl) : JE θ δ m X ρ (.Subscript (.Name x px) b pos) (Is d) := fun σ G H rs p Q q => by
  obtain ⟨l, xs, e1, e2, e3, e4, e5, e6⟩ := rs.own i ds hi
  refine ⟨_, pe_ix ix_list (pe_var (i := i) hN hv hd hcd) (pe_b X b) hp, .ref l, e1, hb σ G H rs p _ fun v d' G' H' po f rv => ?_⟩
  subst f
  cases rv
  obtain ⟨w, h1, h2⟩ := atI_natD (e4.mono po.gg) hk
  exact ⟨l, xs, k, w, rfl, rfl, SqL.of (po.fr l _ e2 e5), h1, q w d G' H' po rfl h2⟩
/-- x[k] = e -/
theorem js_store {x : Str} {px p1 : Pos} (i : Nat) {ds : List D} {K : Nat → Prop} (hi : ρ[i]? = some (some (.own ds))) (hn : noOwn (ρ.set i none) = true) (hk : ∀ k, K k → k < ds.length) (h : JE θ δ m X ρ e Φ) (hb : JE θ δ m X ρ b (fun d => ∃ k : Nat, d = .int k ∧ K k)) (hr : ∀ d k, Φ d → K k → JS θ δ m X E (ρ.set i (some (.own (ds.set k d)))) rest O) (hN : X.N[i]? = some x := by rfl)
    (hv : Vis X.env.scope x := by first | exact Or.inl rfl | exact Or.inr (Or.inl rfl) | exact Or.inr (Or.inr rfl)) (hd : (x == ("__debug__" : Str)) = false := by decide) (hcd : (x == ("__classdict__" : Str)) = false := by decide)
    (ha : ∀ v, assign (.Subscript (.Name x px) b p1) X.env v = (do
      let ov ← holding [v] (eval (.Name x px) X.env)
      let iv ← holding [v, ov] (eval b X.env)
      standAt p1
      holding [v, ov, iv] (setItem ov iv v)
      release [v, ov, iv] []) := by intro _; rfl) (hs : swapsWithSole [.Subscript (.Name x px) b p1] e pos.line X.env = pure false := by rfl) (hw : swappedStores [.Subscript (.Name x px) b p1] e X.env = pure none := by rfl)
    (h1 : (assignEach [.Subscript (.Name x px) b p1] X.env).map (·.2) = [assign (.Subscript (.Name x px) b p1) X.env] := by rfl) : JS θ δ m X E ρ (.Assign [.Subscript (.Name x px) b p1] e pos :: rest) O := fun G0 H0 σ G H s D0 q => by
  refine ⟨_, pss_cons (ps_asg (pe_b X e) (pg_sub (pe_var (i := i) hN hv hd hcd) (pe_b X b) set_list ha) hs hw h1) (pss_b X rest), h σ G H s.rs s.pre _ fun v d G1 H1 p1 f rv => ?_⟩
  have s1 := s.go p1
  obtain ⟨l, xs, e1, e2, e3, e4, e5, e6⟩ := s1.rs.own i ds hi
  refine ⟨.ref l, e1, hb σ G1 H1 s1.rs s1.pre _ fun iv dk G2 H2 p2 fk rk => ?_⟩
  obtain ⟨k, rfl, hK⟩ := fk
  cases rk
  have s2 := s1.go p2
  have hlt := hk k hK
  have hl := e4.length
  have e2' := p2.fr l _ e2 e5
  exact ⟨l, xs, k, k, rfl, rfl, e2', by simp [ixN, hl, hlt], hr d k f hK G0 H0 σ G2 _ (s2.updOwn hn hi e1 e2' ((e4.mono p2.gg).set (rv.mono p2.gg) k)) D0 q⟩
end
end B
set_option Elab.async false
set_option autoImplicit false
set_option linter.all false
set_option maxRecDepth 100000
set_option maxHeartbeats 4000000
/-! sorted(rows, key=len); lists made in a tuple assignment with a cell. -/
namespace B
open PySem PySem.Spec PyProof.Rows L2
open PySem.W (EachIs dataLe AllAlike Sortable)
section
variable {θ : Th} {δ : Dl} {m : Bool} {X : Cx} {E : XK} {ρ : Rho} {a b c e tg iter elt : Expr} {es ifs : List Expr} {Φ Φ' A C : D → Prop} {β β' : Bool → Prop} {pos : Pos} {rest : List Stmt} {O : Outs} {G0 H0 G G' H H' : Hp} {σ : L2.St} {scope : Scope} {own : List (Str × Nat)} {Ψ : D → Prop}
abbrev keyR (r : List Int) : PyData := .int (r.length : Int)
def leN : List Int → List Int → Bool := dataLe false keyR
abbrev keyP (p : V × List Int) : PyData := keyR p.2
def tSortLen (K : PySem.W.Frag) (te : TE) : TE := fun σ H Q => te σ H fun x H1 => ∃ (a : Addr) (ps : List (V × List Int)), x = V.ref a ∧ SqL K H1 a (ps.map (·.1)) ∧ (∀ p ∈ ps, ∃ t, p.1 = V.ref t ∧ SqT K H1 t (p.2.map V.int)) ∧ ps.length ≤ 100000 ∧
  ∀ q, H1 q = none → Q (.ref q) (upd H1 q (.lst ((ps.mergeSort (dataLe false keyP)).map (·.1))))
theorem pe_sortLen {te : TE} {p kp kpos : Pos} (hc : X.calm = true) (hu : X.A.units + 65 < cLine) (hm : X.mg "sorted" = none) (hm2 : X.mg "len" = none) (he : PE X e te) (hg : Gl X "sorted" := by rfl) (hg2 : Gl X "len" := by rfl) (h1 : starEach [e] X.env = (false, eval e X.env) :: starEach [] X.env := by rfl)
    (hb : backTo pos (starEach [e] X.env) = (false, eval e X.env) :: backTo pos (starEach [] X.env) := by rfl) (hpl : (backTo pos (starEach [e] X.env)).any (·.1) = false := by rfl) (hall : (backToKw pos (keywordEach [⟨some "key", .Name "len" kp, kpos⟩] X.env)).all (·.1.isSome) = true := by rfl)
    (hnone : (backToKw pos (keywordEach [⟨some "key", .Name "len" kp, kpos⟩] X.env)).any (·.1.isNone) = false := by rfl) (hks : (backToKw pos (keywordEach [⟨some "key", .Name "len" kp, kpos⟩] X.env)).filterMap (·.1) = [Str.ofString "key"] := by rfl) :
    PE X (.Call (.Name "sorted" p) [e] [⟨some "key", .Name "len" kp, kpos⟩] pos) (tSortLen X.K te) := by
  refine ⟨fun pins s σ H Q I h => ?_⟩
  refine wpAny_Call_Name_kw (ld_blt (u := .builtin "sorted") I hg hm (by decide +kernel) ?_ (by decide) (by decide))
  refine PyProof.Rows.callWith_kw (args_cons (thn (he.run pins s σ H _ I h) fun u s1 ⟨x, H1, I1, rx, q1⟩ => args_nil ?_) h1) hb hpl hall hnone
  show wpAny _ _ (evalAll ((do let v ← eval (.Name "len" kp) X.env; standAt pos; pure v) :: [])) _ _ s1
  refine wpAny_evalAll_cons (wpAny_bind (ld_blt (u := .builtin "len") I1 hg2 hm2 (by decide +kernel) (wpAny_bind (wpAny_standAt (wpAny_pure (wpAny_evalAll_nil ?_)))) (by decide) (by decide)))
  rw [hks]
  obtain ⟨a, ps, rfl, hs, hp, hz, q⟩ := q1
  cases rx
  obtain ⟨its, rv, hl, _⟩ := I1.list hs
  have e0 := vals_fst rv
  have al : AllAlike (ps.map keyP) := PySem.W.AllAlike.of fun b b' => by
    show PySem.W.alike (.int _) (.int _) = true
    simp [PySem.W.alike]
  have so : Sortable (ps.map keyP) := PySem.W.Sortable.others fun b => ⟨(fun z => by cases z), fun xs z => by cases z⟩
  refine PySem.W.sorted_key_data (f := .builtin "len") (kw := [(Str.ofString "key", .builtin "len")]) (b := false) (R := fun u p => RelV p.1 u) keyP hl.isList e0 al so (by rw [sizeLine_eq]; omega) (fun p _ => ?_) (PyProof.Rows.ksk_s1 _ _) (fun _ => PyProof.Rows.ksk_l1 _ _) (fun _ => PyProof.Rows.ksk_t4 _ _) (fun v x hv hx h tk hk => ?_) fun out c h' tk hk hn hn2 ho eo => ?_
  · have : (keyP p).depth = 0 := by simp [PyData.depth]
    omega
  · obtain ⟨t, e1, e2⟩ := hp x hx
    rw [e1] at hv
    cases hv
    obtain ⟨its2, r2, p2, hz2⟩ := I1.tuple e2
    have hl2 := r2.length
    rw [List.length_map] at hl2 hz2
    have p3 : IsTup h t its2.toArray := by
      obtain ⟨o, ho, r⟩ := p2
      exact ⟨o, hk _ _ ho, r⟩
    refine len_tuple (s := { s1 with heap := h, toks := tk }) p3 (by rw [List.size_toArray]; have := line63; omega) ⟨h, tk + 1 + 1, rfl, fun _ _ e => e, ?_⟩
    have e4 : (its2.toArray.size : Int) = (x.2.length : Int) := by rw [List.size_toArray, ← hl2]
    show Reads h (.int its2.toArray.size (tk + 1)) (.int (x.2.length : Int)) []
    rw [e4]
    exact .int _ _
  · refine ⟨.ref _, upd H1 (s1.heap.objs.size + 1) (.lst ((ps.mergeSort (dataLe false keyP)).map (·.1))), I1.laid (t' := tk) hk (Nat.le_succ _) ⟨?_, out, c, fst_vals eo, hn2⟩, rfl, q _ (I1.hok.fresh (Nat.le_succ _))⟩
    rw [List.length_map, List.length_mergeSort, sizeLine_eq]
    omega
theorem sort_sndN (ps : List (V × List Int)) : (ps.mergeSort (dataLe false keyP)).map (·.2) = (ps.map (·.2)).mergeSort leN := List.map_mergeSort fun a _ b _ => rfl
theorem je_sortLen {p kp kpos : Pos} {rs : List (List Int)} (hK : X.K = θ.K) (hz : rs.length ≤ 100000) (hu : X.A.units + 65 < cLine) (hm : X.mg "sorted" = none) (hm2 : X.mg "len" = none) (h : JE θ δ m X ρ e (Is (drows rs))) (hc : X.calm = true := by rfl) (hg : Gl X "sorted" := by rfl) (hg2 : Gl X "len" := by rfl) (h1 : starEach [e] X.env = (false, eval e X.env) :: starEach [] X.env := by rfl)
    (hb : backTo pos (starEach [e] X.env) = (false, eval e X.env) :: backTo pos (starEach [] X.env) := by rfl) (hpl : (backTo pos (starEach [e] X.env)).any (·.1) = false := by rfl) (hall : (backToKw pos (keywordEach [⟨some "key", .Name "len" kp, kpos⟩] X.env)).all (·.1.isSome) = true := by rfl)
    (hnone : (backToKw pos (keywordEach [⟨some "key", .Name "len" kp, kpos⟩] X.env)).any (·.1.isNone) = false := by rfl) (hks : (backToKw pos (keywordEach [⟨some "key", .Name "len" kp, kpos⟩] X.env)).filterMap (·.1) = [Str.ofString "key"] := by rfl) :
    JE θ δ m X ρ (.Call (.Name "sorted" p) [e] [⟨some "key", .Name "len" kp, kpos⟩] pos) (Is (drows (rs.mergeSort leN))) := fun σ G H rst pr Q q =>
  ⟨_, pe_sortLen hc hu hm hm2 (pe_b X e) hg hg2 h1 hb hpl hall hnone hks, h σ G H rst pr _ fun v d G' H' po f rv => by
    subst f
    have p' := po.pre pr
    cases rv with
    | lst hs ra =>
      obtain ⟨ps, e1, e2, e3⟩ := ra.rows
      subst e1 e2
      refine ⟨_, ps, rfl, SqL.of (p'.gh _ _ hs), fun z hz => ?_, by simpa using hz, fun l hl => ?_⟩
      · have := e3 z hz
        generalize hv : z.1 = v1 at this
        cases this with
        | tup h1 r1 =>
          rw [r1.int] at h1
          exact ⟨_, rfl, SqT.of (p'.gh _ _ h1)⟩
      · refine q _ _ _ _ (po.trans (.new p' hl fun ps z => by cases z)) rfl (.lst upd_same ?_)
        rw [← sort_sndN]
        exact (RA.ofRows fun z hz => e3 z ((List.mergeSort_perm _ _).mem_iff.mp hz)).mono (Same.upd (p'.gnone hl))⟩
/-- x, y = value, a new list, where x is a cell -/
theorem js_asgOwn {x y : Str} {px py pt : Pos} {kt k2 : Nat} {pt2 : Pos} {Φ : List D → Prop} (i j : Nat) (hN : X.N.Nodup) {A : D → Prop} (ha : JE θ δ m X ρ a A) (hb : JEO θ δ m X ρ b Φ) (hn : ∀ d, noOwn ((ρ.set i (some (.dat d))).set j none) = true) (hr : ∀ d ds, A d → Φ ds → JS θ δ m X E ((ρ.set i (some (.dat d))).set j (some (.own ds))) rest O)
    (hc : X.calm = true := by rfl) (hi : X.N[i]? = some x := by rfl) (hj : X.N[j]? = some y := by rfl) (hx : Loc X.env.scope x := by first | exact Or.inl rfl | exact Or.inr rfl) (hy : Loc X.env.scope y := by first | exact Or.inl rfl | exact Or.inr rfl)
    (hf : X.fn x = true ∨ X.env.scope.names.lookup x = some .local := by first | exact .inl rfl | exact .inr rfl | assumption) (hf2 : X.fn y = true ∨ X.env.scope.names.lookup y = some .local := by first | exact .inl rfl | exact .inr rfl | assumption)
    (h1 : (assignEach [.Name x px, .Name y py] X.env).map (·.2) = assign (.Name x px) X.env :: (assignEach [.Name y py] X.env).map (·.2) := by rfl) (h2 : (assignEach [.Name y py] X.env).map (·.2) = assign (.Name y py) X.env :: (assignEach [] X.env).map (·.2) := by rfl)
    (hl : (assignEach [.Name x px, .Name y py] X.env).length = 2 := by rfl) (hst : (assignEach [.Name x px, .Name y py] X.env).findIdx? (·.1) = none := by rfl)
    (hs : swapsWithSole [.Tuple [.Name x px, .Name y py] kt pt] (.Tuple [a, b] k2 pt2) pos.line X.env = pure false := by rfl) (hw : swappedStores [.Tuple [.Name x px, .Name y py] kt pt] (.Tuple [a, b] k2 pt2) X.env = pure none := by rfl)
    (h3 : (assignEach [.Tuple [.Name x px, .Name y py] kt pt] X.env).map (·.2) = [assign (.Tuple [.Name x px, .Name y py] kt pt) X.env] := by rfl)
    (e1 : starEach [a, b] X.env = (false, eval a X.env) :: starEach [b] X.env := by rfl) (e2 : starEach [b] X.env = (false, eval b X.env) :: starEach [] X.env := by rfl) :
    JS θ δ m X E ρ (.Assign [.Tuple [.Name x px, .Name y py] kt pt] (.Tuple [a, b] k2 pt2) pos :: rest) O := fun G0 H0 σ G H s D0 q =>
  ⟨_, pss_cons (ps_asg (pe_tup (pa_cons (pe_b X a) (pa_cons (pe_b X b) pa_nil e2) e1)) (pg_tup hc (pgs_cons (pg_name hN hi hx hf) (pgs_cons (pg_name hN hj hy hf2) pgs_nil h2) h1) hl hst) hs hw h3) (pss_b X rest), ha σ G H s.rs s.pre _ fun v d G1 H1 p1 f rv => hb σ G1 H1 (s.rs.post p1) (p1.pre s.pre) _ fun l xs ds G2 H2 p2 f2 h0 hH hG ra => by
    refine ⟨by show 2 ≤ sizeLine; decide, fun T hT => ?_⟩
    have s2 := (s.go p1).go p2
    have pT : Post θ δ m G2 H2 G2 (upd H2 T (.tup [v, .ref l])) := .lay s2.pre hT
    have nT : l ≠ T := fun z => by
      rw [z, hT] at hH
      cases hH
    have s3 := s2.go pT
    refine ⟨T, _, rfl, SqT.of upd_same, rfl, _, _, rfl, _, _, rfl, rfl, hr d ds f f2 G0 H0 _ G2 _ ((s3.set (rv.mono p2.gg) i).setOwn (hn d) ((s.go p1).bNone h0) (by rw [upd_ne nT]; exact hH) hG ra ((p1.pre s.pre).notMut h0)) D0 q⟩⟩
end
end B
set_option Elab.async false
set_option autoImplicit false
set_option linter.all false
set_option maxRecDepth 100000
set_option maxHeartbeats 2000000
namespace B
open PySem PySem.Spec PyProof.Rows L2
section
variable {θ : Th} {δ : Dl} {m : Bool} {X : Cx} {E : XK} {ρ : Rho} {a b c e tg iter elt : Expr} {es ifs : List Expr} {Φ Φ' A C : D → Prop} {β β' : Bool → Prop} {pos : Pos} {rest : List Stmt} {O : Outs} {G0 H0 G G' H H' : Hp} {σ : L2.St} {scope : Scope} {own : List (Str × Nat)}
/-! A comprehension's list as a list of one's own. -/
theorem lc_own {elt : Expr} {ifs : List Expr} {scope : Scope} {vs ts : List Nat} {S : List D → Prop} {act : D → Rho → Rho → Prop} {Ψ : List D → Prop} {Fi : List D → D → Option D → Prop} (hi : JI θ δ m X ρ tg iter S) (hts : ∀ j ∈ ts, j ∈ vs)
    (hg : ∀ (s : Shared) (H : Hp) (C : Addr) (cl : List (Str × Addr)) (fp : List Addr), Wr (θ := θ) (δ := δ) (m := m) (X.blk s H scope (compEnvC scope cl C X.env) fp) tg ts act)
    (tot : ∀ src d, S src → d ∈ src → ∃ ρ', act d (wipeR ρ vs) ρ') (hz : ∀ src, S src → src.length ≤ 100000)
    (hβ : ∀ src d ρ', S src → d ∈ src → act d (wipeR ρ vs) ρ' → ∃ β : Bool → Prop, (∀ (s : Shared) (H : Hp) (C : Addr) (cl : List (Str × Addr)) (fp : List Addr), JF θ δ m (X.blk s H scope (compEnvC scope cl C X.env) fp) ρ' ifs β) ∧ (β false → Fi src d none) ∧
      (β true → ∀ (s : Shared) (H : Hp) (C : Addr) (cl : List (Str × Addr)) (fp : List Addr), JE θ δ m (X.blk s H scope (compEnvC scope cl C X.env) fp) ρ' elt (fun x => Fi src d (some x))))
    (k : ∀ src es, S src → Made src (Fi src) es → Ψ es) {σ : L2.St} {G H : Hp} (rs : RS θ δ m G H σ ρ) (p : Pre θ δ m G H) {Q : VK} (q : ∀ (l : Addr) (xs : List V) (ds : List D) (G' H' : Hp), Post θ δ m G H G' H' → Ψ ds → H l = none → H' l = some (.lst xs) → G' l = none → RA θ δ G' xs ds → Q (.ref l) H') :
    tLc (bI X tg iter) (blkTG X scope tg) (blkTT X scope ifs) (blkTE X scope elt) vs σ H Q := by
  refine hi σ G H rs p _ fun J src G1 H1 p1 hS w Dl hD => ?_
  have pr1 := p1.pre p
  have gD : G1 Dl = none := pr1.gnone hD
  have p2 : Post θ δ m G1 H1 G1 (L2.upd H1 Dl (.lst [])) := .same pr1 (Same.upd hD)
  have rs1 := rs.post p1
  have rs2 := rs1.post p2
  have nmD : m = true → ¬ Mut θ δ Dl := fun hm z => (pr1.wd hm).mutDom z hD
  refine lc_it w (fun i H' => ∃ (xs : List V) (os : List (Option D)) (G' : Hp), H' Dl = some (.lst xs) ∧ G' Dl = none ∧ Post θ δ m G1 H1 G' H' ∧ RS θ δ m G' H' σ ρ ∧ RA θ δ G' xs (os.filterMap id) ∧ os.length = i ∧ xs.length ≤ i ∧ ∀ (j : Nat) d, j < i → src[j]? = some d → ∃ o, os[j]? = some o ∧ Fi src d o)
    ⟨[], [], G1, upd_same, gD, p2, rs2, .nil, rfl, Nat.le_refl _, fun j d hj => absurd hj (Nat.not_lt_zero _)⟩ (fun i H' _ ⟨_, _, G', _, _, po, _⟩ => po.gg.trans po.gh) ?_ ?_
  · rintro i x H2 H2' hlt ⟨xs, os, G2, h1, h2, h3, h4, h5, h6, h7, h8⟩ ⟨d, hd, y⟩
    have hmem : d ∈ src := List.mem_of_getElem? hd
    -- the item as data in the heap behind the draw
    obtain ⟨G3, pz, rv⟩ : ∃ G3, Post θ δ m G2 H2 G3 H2' ∧ R θ δ G3 x d := by
      rcases y with ⟨eH, rv⟩ | ⟨T, ys, ds, hT, rfl, eH, ra, rfl⟩
      · rw [eH]
        exact ⟨G2, .refl (h3.pre pr1), rv.mono h3.gg⟩
      · rw [eH]
        have pn : Post θ δ m G2 H2 (L2.upd G2 T (.tup ys)) (L2.upd H2 T (.tup ys)) := .new (h3.pre pr1) hT fun ps z => by cases z
        exact ⟨_, pn, .tup upd_same (ra.mono (h3.gg.trans pn.gg))⟩
    have h3' := h3.trans pz
    have h4' := h4.post pz
    have h5' := h5.mono pz.gg
    have h1' : H2' Dl = some (.lst xs) := pz.fr Dl _ h1 nmD
    have h2' : G3 Dl = none := by
      cases e : G3 Dl with
      | none => rfl
      | some o =>
        rcases pz.nw Dl (by rw [e]; simp) with z | z
        · exact absurd h2 z
        · rw [h1] at z; cases z
    have rw' := h4'.wipe vs
    have pr3 := h3'.pre pr1
    refine fun s0 HH C cl fp => hg s0 HH C cl fp x d _ _ G3 H2' rv rw' pr3 _ (tot src d hS hmem) fun σ4 ρ4 ha rs4 hl4 hj4 => ?_
    refine ⟨wipe_set vs ts hts (by rw [hl4, wipe_length]) hj4, ?_⟩
    obtain ⟨β, hF, hn, hy⟩ := hβ src d ρ4 hS hmem ha
    have back : ∀ {G5 H5 : Hp}, Post θ δ m G3 H2' G5 H5 → RS θ δ m G5 H5 σ ρ := fun po => h4'.post po
    have keepD : ∀ {G5 H5 : Hp}, Post θ δ m G3 H2' G5 H5 → H5 Dl = some (.lst xs) ∧ G5 Dl = none := fun {G5 H5} po => by
      refine ⟨po.fr Dl _ h1' nmD, ?_⟩
      cases e : G5 Dl with
      | none => rfl
      | some o =>
        rcases po.nw Dl (by rw [e]; simp) with z | z
        · exact absurd h2' z
        · rw [h1'] at z; cases z
    have next : ∀ {o : Option D} {j : Nat} {d' : D}, Fi src d o → j < i + 1 → src[j]? = some d' → ∃ o', (os ++ [o])[j]? = some o' ∧ Fi src d' o' := fun {o j d'} hf hj hd' => by
      by_cases e : j = i
      · subst e
        rw [hd] at hd'
        cases hd'
        exact ⟨o, by rw [← h6]; simp, hf⟩
      · obtain ⟨o', h1, h2⟩ := h8 j d' (by omega) hd'
        refine ⟨o', ?_, h2⟩
        rw [List.getElem?_append_left (by omega)]
        exact h1
    refine fun s0 HH C cl fp => hF s0 HH C cl fp σ4 G3 H2' rs4 pr3 _ fun bb G5 H5 p5 fb => ?_
    cases bb with
    | false =>
      obtain ⟨k1, k2⟩ := keepD p5
      refine iteF ⟨xs, os ++ [none], G5, k1, k2, h3'.trans p5, back p5, ?_, by simp [h6], by omega, fun j d' hj hd' => next (hn fb) hj hd'⟩
      rw [List.filterMap_append]
      simpa using h5'.mono p5.gg
    | true =>
      refine iteT fun s0 HH C cl fp => hy fb s0 HH C cl fp σ4 G5 H5 (rs4.post p5) (p5.pre pr3) _ fun yv yd G6 H6 p6 fy ry => ?_
      have p56 := p5.trans p6
      obtain ⟨k1, k2⟩ := keepD p56
      refine ⟨xs, k1, ?_, xs ++ [yv], os ++ [some yd], G6, upd_same, k2, ?_, ?_, ?_, by simp [h6], by simp; omega, fun j d' hj hd' => next fy hj hd'⟩
      · have := hz src hS
        rw [sizeLine_eq]
        omega
      · -- the list grows: nothing known is touched
        have po := h3'.trans p56
        refine ⟨po.gg, fun b u e => ?_, po.nw, po.nt, fun b u e hm => ?_, fun b e => ?_, fun hm => ?_⟩
        · rw [upd_ne (ne_of_none e k2)]
          exact po.gh b u e
        · rw [upd_ne (ne_of_none e hD)]
          exact po.fr b u e hm
        · by_cases hb : b = Dl
          · rw [hb, upd_same]; simp
          · rw [upd_ne hb]; exact po.dm b e
        · have wd := po.wd hm
          have nd : ∀ c, Mut θ δ c → c ≠ Dl := fun c hc z => nmD hm (z ▸ hc)
          refine ⟨wd.ne, let ⟨bl, e, r⟩ := wd.dl; ⟨bl, by rw [upd_ne (nd _ (.inl rfl))]; exact e, r⟩, let ⟨cs, e, r⟩ := wd.d0; ⟨cs, by rw [upd_ne (nd _ (.inr (.inl rfl)))]; exact e, r⟩, fun pp hp => ?_, wd.tm, wd.gn⟩
          obtain ⟨ps, e1, e2, e3⟩ := wd.tb pp hp
          refine ⟨ps, by rw [upd_ne (nd _ (.inr (.inr ⟨pp, hp, rfl⟩)))]; exact e1, e2, e3⟩
      · have r6 := back p56
        refine ⟨r6.len, r6.dat, fun j ds hj => ?_, r6.one⟩
        obtain ⟨a, ys, e1, e2, e3, e4, e5, e6⟩ := r6.own j ds hj
        obtain ⟨a0, ys0, f1, f2, _⟩ := rs1.own j ds hj
        have : a = a0 := by
          rw [e1] at f1
          cases f1
          rfl
        have na : a ≠ Dl := by
          rw [this]
          exact ne_of_none f2 hD
        exact ⟨a, ys, e1, by rw [upd_ne na]; exact e2, e3, e4, e5, e6⟩
      · rw [List.filterMap_append]
        exact RA.append ((h5'.mono p56.gg)) (by simpa using RA.cons ry .nil)
  · rintro H2 ⟨xs, os, G2, h1, h2, h3, h4, h5, h6, h7, h8⟩
    have h0 : H Dl = none := by
      cases e : H Dl with
      | none => rfl
      | some o => exact absurd hD (p1.dm Dl (by rw [e]; simp))
    exact q Dl xs _ G2 H2 (p1.trans h3) (k src _ hS ⟨os, h6, fun j d hd => h8 j d (List.getElem?_eq_some_iff.mp hd).1 hd, rfl⟩) h0 h1 h2 h5
/-- [x for _ in src], x a known thing: a new list -/
theorem jeo_const {x : Str} {px : Pos} {src : List D} {d0 : D} (hN : X.N.Nodup) (i : Nat) (own : List (Str × Nat)) (ho : own.map (·.2) = [i]) (ok : BlkOk X.N X.env.scope scope own) (hi : JI θ δ m X ρ (.Name x px) iter (fun s => s = src))
    (hg : ∀ (s : Shared) (H : Hp) (C : Addr) (cl : List (Str × Addr)) (fp : List Addr), Wr (θ := θ) (δ := δ) (m := m) (X.blk s H scope (compEnvC scope cl C X.env) fp) (.Name x px) [i] (NameT i)) (hz : src.length ≤ 100000)
    (hE : ∀ d ∈ src, ∀ (s : Shared) (H : Hp) (C : Addr) (cl : List (Str × Addr)) (fp : List Addr), JE θ δ m (X.blk s H scope (compEnvC scope cl C X.env) fp) (ρ.set i (some (.dat d))) elt (Is d0)) (hc : X.calm = true := by rfl) (hs : ∀ x, foldedSetIterable iter X.env x = pure x := by intro _; rfl) :
    JEO θ δ m X ρ (.ListComp elt [⟨.Name x px, iter, [], 0⟩] scope pos) (fun ds => ds = src.map fun _ => d0) := fun σ G H rs p Q q =>
  ⟨_, pe_lc hc hN (pi_b X (.Name x px) iter) ok blk_tg blk_tt blk_te hs, by
    rw [ho]
    refine lc_own (Fi := fun _ d o => o = some d0) hi (fun j hj => hj) hg (fun _ d _ _ => ⟨_, rfl⟩) (fun s hs => hs ▸ hz) (fun s d ρ' hs hd hρ => ?_) (fun s es hs hm => ?_) rs p q
    · subst hs
      have e : ρ' = ρ.set i (some (.dat d)) := by rw [hρ]; simp [wipeR]
      subst e
      exact ⟨fun k => k = true, fun _ _ _ _ _ => jf_nil, fun hb => (by cases hb), fun _ s1 H C cl fp => (hE d hd s1 H C cl fp).mono fun x hx => by rw [hx]⟩
    · rw [made_map (f := fun _ => d0) hm, hs]⟩
/-- x, y, z = a new list, values; local names -/
theorem js_par3Own {x y z : Str} {px py pz pt : Pos} {kt k2 : Nat} {pt2 : Pos} {Φ : List D → Prop} (i j l : Nat) (hN : X.N.Nodup) {C B' : D → Prop} (ha : JEO θ δ m X ρ a Φ) (hb : JE θ δ m X ρ b C) (hcc : JE θ δ m X ρ c B') (hn : ∀ d d', noOwn ((((ρ.set j (some (.dat d))).set l (some (.dat d'))).set i none)) = true) (hr : ∀ ds d' d'', Φ ds → C d' → B' d'' → JS θ δ m X E (((ρ.set i (some (.own ds))).set j (some (.dat d'))).set l (some (.dat d''))) rest O)
    (hij : i ≠ j := by decide) (hil : i ≠ l := by decide) (hjl : j ≠ l := by decide) (hc : X.calm = true := by rfl) (hi : X.N[i]? = some x := by rfl) (hj : X.N[j]? = some y := by rfl) (hl : X.N[l]? = some z := by rfl) (hx : X.env.scope.names.lookup x = some .local := by rfl) (hy : X.env.scope.names.lookup y = some .local := by rfl) (hz : X.env.scope.names.lookup z = some .local := by rfl)
    (hw : swappedStores [.Tuple [.Name x px, .Name y py, .Name z pz] kt pt] (.Tuple [a, b, c] k2 pt2) X.env = pure (some [x, y, z]) := by rfl)
    (hs : swapsWithSole [.Tuple [.Name x px, .Name y py, .Name z pz] kt pt] (.Tuple [a, b, c] k2 pt2) pos.line X.env = pure false := by rfl)
    (e1 : starEach [a, b, c] X.env = (false, eval a X.env) :: starEach [b, c] X.env := by rfl) (e2 : starEach [b, c] X.env = (false, eval b X.env) :: starEach [c] X.env := by rfl) (e3 : starEach [c] X.env = (false, eval c X.env) :: starEach [] X.env := by rfl) :
    JS θ δ m X E ρ (.Assign [.Tuple [.Name x px, .Name y py, .Name z pz] kt pt] (.Tuple [a, b, c] k2 pt2) pos :: rest) O := fun G0 H0 σ G H s D0 q =>
  ⟨_, pss_cons (ps_par3 (i := i) (j := j) (l := l) hc hN hi hj hl hij hil hjl hx hy hz (pa_cons (pe_b X a) (pa_cons (pe_b X b) (pa_cons (pe_b X c) pa_nil e3) e2) e1) hw hs) (pss_b X rest), ha σ G H s.rs s.pre _ fun t xs ds G1 H1 p1 f h0 hH hG ra => hb σ G1 H1 (s.rs.post p1) (p1.pre s.pre) _ fun v2 d2 G2 H2 p2 f2 r2 => hcc σ G2 H2 ((s.rs.post p1).post p2) (p2.pre (p1.pre s.pre)) _ fun v3 d3 G3 H3 p3 f3 r3 => by
    have nm : m = true → ¬ Mut θ δ t := s.pre.notMut h0
    have p23 := p2.trans p3
    have hH3 := p23.fr t _ hH nm
    have hG3 : G3 t = none := by
      cases e : G3 t with
      | none => rfl
      | some o =>
        rcases p23.nw t (by rw [e]; simp) with z | z
        · exact absurd hG z
        · rw [hH] at z; cases z
    have s3 := ((s.go p1).go p2).go p3
    have s4 := ((s3.set (r2.mono p3.gg) j).set r3 l).setOwn (i := i) (hn d2 d3) (s.bNone h0) hH3 hG3 (ra.mono p23.gg) nm
    have e4 : (((ρ.set j (some (Sl.dat d2))).set l (some (.dat d3))).set i (some (.own ds))) = (((ρ.set i (some (.own ds))).set j (some (.dat d2))).set l (some (.dat d3))) := by
      rw [List.set_comm _ _ (Ne.symm hil), List.set_comm _ _ (Ne.symm hij)]
    have e5 : (((σ.set j (some v2)).set l (some v3)).set i (some (V.ref t))) = (((σ.set i (some (V.ref t))).set j (some v2)).set l (some v3)) := by
      rw [List.set_comm _ _ (Ne.symm hil), List.set_comm _ _ (Ne.symm hij)]
    rw [e4, e5] at s4
    exact ⟨_, _, _, rfl, hr ds d2 d3 f f2 f3 G0 H0 _ G3 H3 s4 D0 q⟩⟩
/-- x[k], y = values -/
theorem js_storePar {x y : Str} {px py p1 pt : Pos} {kt k2 : Nat} {pt2 : Pos} (i j : Nat) (hN : X.N.Nodup) {ds : List D} {k : Nat} {d1 d2 : D} (hi0 : ρ[i]? = some (some (.own ds))) (hn : ∀ d, noOwn ((ρ.set i none).set j (some (.dat d))) = true) (hn0 : noOwn (ρ.set i none) = true) (hij : i ≠ j) (hk : k < ds.length) (ha : JE θ δ m X ρ a (Is d1)) (hb : JE θ δ m X ρ b (Is d2)) (hkey : JE θ δ m X (ρ) c (Is (.int k)))
    (hr : JS θ δ m X E ((ρ.set i (some (.own (ds.set k d1)))).set j (some (.dat d2))) rest O) (hc : X.calm = true := by rfl) (hNi : X.N[i]? = some x := by rfl) (hNj : X.N[j]? = some y := by rfl) (hv : Vis X.env.scope x := by first | exact Or.inl rfl | exact Or.inr (Or.inl rfl) | exact Or.inr (Or.inr rfl)) (hd : (x == ("__debug__" : Str)) = false := by decide) (hcd : (x == ("__classdict__" : Str)) = false := by decide)
    (hy : Loc X.env.scope y := by first | exact Or.inl rfl | exact Or.inr rfl) (hf2 : X.fn y = true ∨ X.env.scope.names.lookup y = some .local := by first | exact .inl rfl | exact .inr rfl | assumption)
    (hs0 : ∀ v, assign (.Subscript (.Name x px) c p1) X.env v = (do
      let ov ← holding [v] (eval (.Name x px) X.env)
      let iv ← holding [v, ov] (eval c X.env)
      standAt p1
      holding [v, ov, iv] (setItem ov iv v)
      release [v, ov, iv] []) := by intro _; rfl)
    (h1 : (assignEach [.Subscript (.Name x px) c p1, .Name y py] X.env).map (·.2) = assign (.Subscript (.Name x px) c p1) X.env :: (assignEach [.Name y py] X.env).map (·.2) := by rfl) (h2 : (assignEach [.Name y py] X.env).map (·.2) = assign (.Name y py) X.env :: (assignEach [] X.env).map (·.2) := by rfl)
    (hl : (assignEach [.Subscript (.Name x px) c p1, .Name y py] X.env).length = 2 := by rfl) (hst : (assignEach [.Subscript (.Name x px) c p1, .Name y py] X.env).findIdx? (·.1) = none := by rfl)
    (hs : swapsWithSole [.Tuple [.Subscript (.Name x px) c p1, .Name y py] kt pt] (.Tuple [a, b] k2 pt2) pos.line X.env = pure false := by rfl) (hw : swappedStores [.Tuple [.Subscript (.Name x px) c p1, .Name y py] kt pt] (.Tuple [a, b] k2 pt2) X.env = pure none := by rfl)
    (h3 : (assignEach [.Tuple [.Subscript (.Name x px) c p1, .Name y py] kt pt] X.env).map (·.2) = [assign (.Tuple [.Subscript (.Name x px) c p1, .Name y py] kt pt) X.env] := by rfl)
    (e1 : starEach [a, b] X.env = (false, eval a X.env) :: starEach [b] X.env := by rfl) (e2 : starEach [b] X.env = (false, eval b X.env) :: starEach [] X.env := by rfl) :
    JS θ δ m X E ρ (.Assign [.Tuple [.Subscript (.Name x px) c p1, .Name y py] kt pt] (.Tuple [a, b] k2 pt2) pos :: rest) O := fun G0 H0 σ G H s D0 q =>
  ⟨_, pss_cons (ps_asg (pe_tup (pa_cons (pe_b X a) (pa_cons (pe_b X b) pa_nil e2) e1)) (pg_tup hc (pgs_cons (pg_sub (pe_var (i := i) hNi hv hd hcd) (pe_b X c) set_list hs0) (pgs_cons (pg_name hN hNj hy hf2) pgs_nil h2) h1) hl hst) hs hw h3) (pss_b X rest), ha σ G H s.rs s.pre _ fun v1 d G1 H1 p1 f1 r1 => hb σ G1 H1 (s.rs.post p1) (p1.pre s.pre) _ fun v2 d' G2 H2 p2 f2 r2 => by
    subst f1 f2
    refine ⟨by show 2 ≤ sizeLine; decide, fun T hT => ?_⟩
    have s2 := (s.go p1).go p2
    have pT : Post θ δ m G2 H2 G2 (upd H2 T (.tup [v1, v2])) := .lay s2.pre hT
    have s3 := s2.go pT
    obtain ⟨l, xs, q1, q2, q3, q4, q5, q6⟩ := s3.rs.own i ds hi0
    refine ⟨T, _, rfl, SqT.of upd_same, rfl, _, _, rfl, .ref l, q1, hkey σ G2 _ s3.rs s3.pre _ fun kv dk G4 H4 p4 fk rk => ?_⟩
    subst fk
    cases rk
    have s4 := s3.go p4
    have q2' := p4.fr l _ q2 q5
    have hlen := q4.length
    have s5 := s4.updOwn hn0 hi0 q1 q2' ((q4.mono p4.gg).set ((r1.mono p2.gg).mono p4.gg) k)
    refine ⟨l, xs, k, k, rfl, rfl, q2', by simp [ixN, hlen, hk], _, _, rfl, rfl, hr G0 H0 _ G4 _ (s5.set (r2.mono p4.gg) j) D0 q⟩⟩
end
end B
set_option Elab.async false
set_option autoImplicit false
set_option linter.all false
set_option maxRecDepth 100000
set_option maxHeartbeats 2000000
/-! try with two clauses, each with a name: every exception of the body is met by one of them. -/
namespace B
open PySem PySem.Spec PyProof.Rows L2
/-- a clause: its name's slot, its class, what its suite does -/
structure Cla where
  i : Nat
  c : Value
  ts : Addr → Value → Option Addr → TS
def Ends.cut (i : Nat) (D0 : Ends) : Ends := { nx := fun s h => D0.nx (s.set i none) h, rt := D0.rt, bk := fun s h => D0.bk (s.set i none) h, ct := fun s h => D0.ct (s.set i none) h }
def meets (K : PySem.W.Frag) (n : Nat) (D0 : Ends) : List Cla → WX
  | [] => fun _ _ _ _ => False
  | q :: r => fun cls d σ H => ∃ t, PySem.W.exmOne K cls q.c = some t ∧ (t = true → ∀ a, H a = none → σ.length = n → q.ts a cls d (Ends.cut q.i D0) (σ.set q.i (some (.ref a))) H) ∧ (t = false → meets K n D0 r cls d σ H)
inductive Clauses (X : Cx) : List ExceptHandler → List Cla → Prop
  | nil : Clauses X [] []
  | cons {x n : Str} {q : Cla} {st : Stmt} {sts : List Stmt} {p1 p2 : Pos} {hds : List ExceptHandler} {qs : List Cla} (nm : Names X x q.c) (hi : X.N[q.i]? = some n) (hl : X.env.kindOf n = some .local)
      (hsu : ∀ (a : Addr) (oe : Obj) (cls : Value) (d : Option Addr) (pn : List (Addr × Obj)), Zc cls d oe → (∃ us, oe.data = .fields us) → PSs (X.suite a ((a, oe) :: pn)) (st :: sts) (q.ts a cls d)) (more : Clauses X hds qs) :
      Clauses X (.ExceptHandler (some (.Name x p1)) (some n) (st :: sts) p2 :: hds) (q :: qs)
section
variable {X : Cx} {body : List Stmt} {hd : ExceptHandler} {hds : List ExceptHandler} {qs : List Cla} {pos : Pos} {tb : WX → TS}
theorem ps_try_named (e1 : X.stack = X.env :: X.outer) (e2 : X.env.frame = some X.env.locals) (nd : X.N.Nodup)
    (hb : ∀ (W : WX) (pn : List (Addr × Obj)) (xe : Value → Shared → Prop), Takes (X.tr pn xe) W → PassesOwn (model X.prog X.w) X.A X.env xe → PSs (X.tr pn xe) body (tb W)) (cl : Clauses X (hd :: hds) qs) :
    PS X (.Try body (hd :: hds) [] [] pos) (fun D0 σ H => tb (meets X.K X.N.length D0 qs) D0 σ H) := by
  refine ⟨fun pp s0 σ0 Hp0 D0 I h => ?_⟩
  have okX := I.ok
  have frX : X.A.frames = some (X.env :: X.outer) := by rw [okX.frames, e1]
  refine wpAny_Try_except ?_
  refine wpAny_mono ((hb (meets X.K X.N.length D0 qs) (X.pn ++ pp) (fun z y => wpAny (model X.prog X.w) X.A (noteFrame z X.env) (fun _ y2 => wpAny (model X.prog X.w) X.A (setFlight z none) (fun _ y3 =>
    wpAny (model X.prog X.w) X.A (handleBy z X.env (hd :: hds)) (SP X pp D0) X.xe y3) X.xe y2) X.xe y) (fun u s9 thrown => ?_) PassesOwn.looking).run [] s0 σ0 Hp0 D0 (I.toTry _) h) (fun fl s1 done => ?_) (fun _ _ q => q)
  · -- the clauses
    obtain ⟨a, B0, sA, _, σ1, H1, cls, d, rfl, K0, bare, kept, air, fresh, osq, agq, wish⟩ := thrown
    have K1 : Inv X pp σ1 H1 sA := K0.ofTry okX
    have air1 : Sky B0 (X.env :: X.outer) a (Zc cls d) X.env.locals s9.heap := by rw [← e1]; exact air
    refine Sky.land Zc.steady frX e2 air1 fun g3 f3 k3 => ?_
    have K3 : Inv X pp σ1 H1 { s9 with heap := g3 } := K1.landed bare f3.1 (kept.trans k3) osq agq
    obtain ⟨o3, us3, l3, z3, d3⟩ := f3.there
    have off : a ∉ frs (X.env :: X.outer) := fun hm => by
      obtain ⟨_, o', q', nf⟩ := f3.2.2.1.mem hm
      rw [l3] at q'
      cases q'
      exact nf _ d3
    have offL : a ≠ X.env.locals := fun z => off (List.mem_filterMap.mpr ⟨X.env, List.mem_cons_self, by rw [e2, z]⟩)
    have offF : a ∉ X.fs := fun hm => by
      obtain ⟨v, hv, q⟩ := List.mem_filterMap.mp hm
      exact off (List.mem_filterMap.mpr ⟨v, List.mem_cons_of_mem _ hv, q⟩)
    have S3 := K3.suite l3 d3 fresh offL offF
    suffices walk : ∀ {hs2 : List ExceptHandler} {qs2 : List Cla}, Clauses X hs2 qs2 → meets X.K X.N.length D0 qs2 cls d σ1 H1 → wpAny (model X.prog X.w) X.A (handleBy (.ref a) X.env hs2) (SP X pp D0) X.xe { s9 with heap := g3 } from walk cl wish
    intro hs2 qs2 c2
    induction c2 with
    | nil => exact fun z => z.elim
    | @cons x n q st sts p1 p2 hs3 qs3 nm hi hl hsu more ih =>
      rintro ⟨t, ht, yes, no⟩
      have LT : PySem.W.Looks (model X.prog X.w) g3 (typeOf (.ref a)) cls := fun A Q E s k r => wpAny_typeOf_ref (k _ _ l3) (by rw [z3.1]; exact r)
      have named : ∀ {Q : Value → Shared → Prop} {E : Value → Shared → Prop}, Q q.c { s9 with heap := g3 } → wpAny (model X.prog X.w) (X.A.mark (some (.ref a))) (eval (.Name x p1) X.env) Q E { s9 with heap := g3 } := fun {Q E} r => by
        obtain ⟨m1, m2, m3 | ⟨m3, m4, m5⟩⟩ := nm
        · exact ld_glob (X := X.suite a ((a, o3) :: (X.pn ++ pp))) S3 m1 m3 r m2
        · exact ld_blt (X := X.suite a ((a, o3) :: (X.pn ++ pp))) S3 m1 m3 m4 r m5 m2
      refine wpAny_handleBy_cons (codeAny_handlers_test (named ((PySem.W.exm_one (M := model X.prog X.w) K3.kIn LT ht).here ?_))) (by intro z; cases z)
      cases t with
      | false => exact ih (no rfl)
      | true =>
        refine codeAny_handlers_suite_as (HandSPX.lands_againZ f3 fun g4 f4 k4 => ?_)
        have K4 : Inv X pp σ1 H1 { s9 with heap := g4 } := K1.landed bare f4.1 ((kept.trans k3).trans k4) osq agq
        obtain ⟨o4, us4, l4, z4, d4⟩ := f4.there
        refine store_ok (X := X.suite a ((a, o4) :: (X.pn ++ pp))) (v := .ref a) (K4.suite l4 d4 fresh offL offF) nd hi (.inl hl) rfl (fun s5 S5 => ?_) (.inr hl)
        refine wpAny_mono ((hsu a o4 cls d (X.pn ++ pp) z4 ⟨_, d4⟩).run [] s5 _ H1 _ S5 (yes rfl a fresh K1.len)) (fun fl s6 r6 => ?_) (fun _ _ z => z.elim)
        have leave : ∀ {σ6 : L2.St} {H6 : Hp} {Q : Shared → Prop}, Inv (X.suite a ((a, o4) :: (X.pn ++ pp))) [] σ6 H6 s6 → (∀ s7, Inv X pp (σ6.set q.i none) H6 s7 → Q s7) → wpAny (model X.prog X.w) X.A (do bindName X.env n .none; unbindBehindTheSuite X.env n p2) (fun _ s7 => Q s7) X.xe s6 :=
          fun {σ6 H6 Q} S6 r => gone_ok (S6.unsuite okX) nd hi hl r
        cases fl with
        | ret u =>
          obtain ⟨v6, σ6, H6, S6, rv, w6⟩ := r6
          exact leave S6 fun s7 K7 => ⟨_, _, _, K7, rv, w6⟩
        | next =>
          obtain ⟨σ6, H6, S6, w6⟩ := r6
          exact leave S6 fun s7 K7 => ⟨_, _, K7, w6⟩
        | brk =>
          obtain ⟨σ6, H6, S6, w6⟩ := r6
          exact leave S6 fun s7 K7 => ⟨_, _, K7, w6⟩
        | cont =>
          obtain ⟨σ6, H6, S6, w6⟩ := r6
          exact leave S6 fun s7 K7 => ⟨_, _, K7, w6⟩
  · cases fl with
    | ret u =>
      obtain ⟨v, σ2, H2, K2, rv, w2⟩ := done
      exact ⟨v, σ2, H2, K2.ofTry okX, rv, w2⟩
    | next =>
      obtain ⟨σ2, H2, K2, w2⟩ := done
      exact wpAny_execs_nil ⟨σ2, H2, K2.ofTry okX, w2⟩
    | brk =>
      obtain ⟨σ2, H2, K2, w2⟩ := done
      exact ⟨σ2, H2, K2.ofTry okX, w2⟩
    | cont =>
      obtain ⟨σ2, H2, K2, w2⟩ := done
      exact ⟨σ2, H2, K2.ofTry okX, w2⟩
end
end B
set_option Elab.async false
set_option autoImplicit false
set_option linter.all false
set_option maxRecDepth 100000
set_option maxHeartbeats 4000000
namespace B
open PySem PySem.Spec PyProof.Rows L2
def top (i : Nat) : Stmt := PySem.Challenge.pw_bothplans_k31_whole_changes_of_budgets.main.body.getD i (.Pass ⟨0, 0, 0, 0⟩)
abbrev sIsInteger : Stmt := top 6
abbrev sIsNumber : Stmt := top 7
abbrev sIsIndex : Stmt := top 8
abbrev sIsSequence : Stmt := top 9
/-- the built-ins' names are free -/
structure Nb (mg : Str → Option Value) : Prop where
  isinstance : mg "isinstance" = none
  int : mg "int" = none
  bool : mg "bool" = none
  list : mg "list" = none
  tuple : mg "tuple" = none
  len : mg "len" = none
  all : mg "all" = none
  sum : mg "sum" = none
  min : mg "min" = none
  max : mg "max" = none
  range : mg "range" = none
  enumerate : mg "enumerate" = none
  zip : mg "zip" = none
  sorted : mg "sorted" = none
  repr : mg "repr" = none
  abs : mg "abs" = none
/-- a def's promise by a function on data -/
abbrev spF (θ : Th) (pre : List D → Prop) (fn : List D → Ou) : Sp := spD θ false pre (fun ds o => o = fn ds)
def isIntD : D → Bool
  | .int _ => true
  | _ => false
def isNumD : D → Bool
  | .int i => decide (0 ≤ i)
  | _ => false
def isIdxD : D → Int → Bool
  | .int i, n => decide (0 ≤ i ∧ i < n)
  | _, _ => false
def isSeqD : D → Bool
  | .list _ => true
  | .tup _ => true
  | _ => false
def hasTy (d : D) : Prop := ∃ T, tyD d = some T
theorem sc_isInteger : FnScope ["value"] ["value"] (defScope sIsInteger) := ⟨rfl, rfl, rfl, by decide +kernel, rfl, by decide +kernel, by decide +kernel⟩
theorem sc_isNumber : FnScope ["value"] ["value"] (defScope sIsNumber) := ⟨rfl, rfl, rfl, by decide +kernel, rfl, by decide +kernel, by decide +kernel⟩
theorem sc_isIndex : FnScope ["value", "many"] ["value", "many"] (defScope sIsIndex) := ⟨rfl, rfl, rfl, by decide +kernel, rfl, by decide +kernel, by decide +kernel⟩
theorem sc_isSequence : FnScope ["value"] ["value"] (defScope sIsSequence) := ⟨rfl, rfl, rfl, by decide +kernel, rfl, by decide +kernel, by decide +kernel⟩
def preV (ds : List D) : Prop := ∃ d, ds = [d] ∧ hasTy d
def v1 (f : D → Bool) (ds : List D) : Ou := match ds with
  | [d] => .ret (.bl (f d))
  | _ => .ret .non
def preIdx (ds : List D) : Prop := ∃ d n, ds = [d, .int n] ∧ hasTy d
def fIdx (ds : List D) : Ou := match ds with
  | [d, .int n] => .ret (.bl (isIdxD d n))
  | _ => .ret .non
section
variable {P : Program} {w : PySem.World} {K : PySem.W.Frag} {mg : Str → Option Value} {base : Heap} {θ : Th} {f : Addr} {fd : FuncData}
theorem ok_isInteger (D0 : Df K mg "is_integer" sIsInteger ["value"] f fd) (hK : θ.K = K) (nb : Nb mg) : Cal P w K mg base 1 "is_integer" ["value"] (spF θ preV (v1 isIntD)) := by
  refine calD (k := 0) D0 sc_isInteger (fun ds h => ?_) fun cdv A outer s H E hr δ ds hp => ?_
  · obtain ⟨d, rfl, _⟩ := h
    rfl
  · obtain ⟨d, rfl, T, hT⟩ := hp
    have go : ∀ b1 b2, kitB T "int" = some b1 → kitB T "bool" = some b2 → (b1 && !b2) = isIntD d → JS θ δ false (cxOf (L2.CX P w) P w K mg base ["value"] "is_integer" (defScope sIsInteger) f cdv A outer s H E) E (startR ["value"] [d]) (defBody sIsInteger) (outsOf (fun ds o => o = v1 isIntD ds) [d]) := fun b1 b2 h1 h2 h3 => by
      refine js_ret (Φ := Is (.bl (isIntD d))) (je_andI (je_callB call_isi nb.isinstance (ja_1 (je_var 0) (ja_1 (je_bltn nb.int) ja_nil)) (ca_isi hK.symm hT h1)) (fun e => je_and1 ((je_notI (je_callB call_isi nb.isinstance (ja_1 (je_var 0) (ja_1 (je_bltn nb.bool) ja_nil)) (ca_isi hK.symm hT h2))).to ?_)) fun e => ?_) fun d' e => by rw [e]; rfl
      · rw [← h3, e]
        simp
      · rw [← h3, e]
        rfl
    cases d <;> cases hT
    all_goals first
      | exact go true false (by decide +kernel) (by decide +kernel) rfl
      | exact go true true (by decide +kernel) (by decide +kernel) rfl
      | exact go false false (by decide +kernel) (by decide +kernel) rfl
theorem ok_isNumber (D0 : Df K mg "is_number" sIsNumber ["value"] f fd) (c1 : Cal P w K mg base 1 "is_integer" ["value"] (spF θ preV (v1 isIntD))) : Cal P w K mg base 2 "is_number" ["value"] (spF θ preV (v1 isNumD)) := by
  refine calD (k := 1) D0 sc_isNumber (fun ds h => ?_) fun cdv A outer s H E hr δ ds hp => ?_
  · obtain ⟨d, rfl, _⟩ := h
    rfl
  · obtain ⟨d, rfl, hT⟩ := hp
    refine js_ret (Φ := Is (.bl (isNumD d))) (je_andI (je_callI c1 hr (Nat.le_refl _) (ja_1 (je_var 0) ja_nil) ⟨d, rfl, hT⟩ fun o e => e) (fun e => je_and1 ?_) fun e => ?_) fun d' e => by rw [e]; rfl
    · cases d <;> cases e
      exact je_ge (je_var 0) je_int
    · cases d <;> first | rfl | cases e
theorem ok_isIndex (D0 : Df K mg "is_index" sIsIndex ["value", "many"] f fd) (c1 : Cal P w K mg base 2 "is_number" ["value"] (spF θ preV (v1 isNumD))) : Cal P w K mg base 3 "is_index" ["value", "many"] (spF θ preIdx fIdx) := by
  refine calD (k := 2) D0 sc_isIndex (fun ds h => ?_) fun cdv A outer s H E hr δ ds hp => ?_
  · obtain ⟨d, n, rfl, _⟩ := h
    rfl
  · obtain ⟨d, n, rfl, hT⟩ := hp
    refine js_ret (Φ := Is (.bl (isIdxD d n))) (je_andI (je_callI c1 hr (Nat.le_refl _) (ja_1 (je_var 0) ja_nil) ⟨d, rfl, hT⟩ fun o e => e) (fun e => je_and1 ?_) fun e => ?_) fun d' e => by rw [e]; rfl
    · cases d with
      | int i =>
        have h0 : 0 ≤ i := by simpa [isNumD] using e
        refine (je_lt (je_var 0) (je_var 1)).to ?_
        simp [isIdxD, h0]
      | _ => cases e
    · cases d with
      | int i =>
        have h0 : ¬ 0 ≤ i := by simpa [isNumD] using e
        simp [isIdxD, h0]
      | _ => rfl
theorem kit_seq {T : String} {b : Bool} (h1 : kitB T "list" = some b) (b2 : Bool) (h2 : b = false → kitB T "tuple" = some b2) (hb : b = false → b2 = (b || b2)) : PySem.W.kitAny K (.type T) [.type "list", .type "tuple"] = some (b || b2) := by
  refine kitAny_cons (kit_ty h1) (fun e => ?_) (fun e => by rw [e]; rfl)
  subst e
  refine kitAny_cons (kit_ty (h2 rfl)) (fun e => ?_) (fun e => by rw [e]; rfl)
  rw [e]
  exact kitAny_nil
theorem ok_isSequence (D0 : Df K mg "is_sequence" sIsSequence ["value"] f fd) (hK : θ.K = K) (nb : Nb mg) : Cal P w K mg base 1 "is_sequence" ["value"] (spF θ preV (v1 isSeqD)) := by
  refine calD (k := 0) D0 sc_isSequence (fun ds h => ?_) fun cdv A outer s H E hr δ ds hp => ?_
  · obtain ⟨d, rfl, _⟩ := h
    rfl
  · obtain ⟨d, rfl, T, hT⟩ := hp
    have go : PySem.W.kitAny θ.K (.type T) [.type "list", .type "tuple"] = some (isSeqD d) → JS θ δ false (cxOf (L2.CX P w) P w K mg base ["value"] "is_sequence" (defScope sIsSequence) f cdv A outer s H E) E (startR ["value"] [d]) (defBody sIsSequence) (outsOf (fun ds o => o = v1 isSeqD ds) [d]) := fun h1 => by
      exact js_ret (Φ := Is (.bl (isSeqD d))) (je_callB call_isiT nb.isinstance (ja_1 (je_var 0) (ja_1 (je_tup (ja_1 (je_bltn nb.list) (ja_1 (je_bltn nb.tuple) ja_nil))) ja_nil)) (ca_isiSeq hK.symm hT h1)) fun d' e => by rw [e]; rfl
    cases d <;> cases hT
    · exact go (kit_seq (b := false) (by decide +kernel) false (fun _ => by decide +kernel) (fun _ => rfl))
    · exact go (kit_seq (b := false) (by decide +kernel) false (fun _ => by decide +kernel) (fun _ => rfl))
    · exact go (kit_seq (b := false) (by decide +kernel) false (fun _ => by decide +kernel) (fun _ => rfl))
    · exact go (kit_seq (b := false) (by decide +kernel) false (fun _ => by decide +kernel) (fun _ => rfl))
    · exact go (kit_seq (b := true) (by decide +kernel) false (fun e => by cases e) (fun e => by cases e))
    · exact go (kit_seq (b := false) (by decide +kernel) true (fun _ => by decide +kernel) (fun _ => rfl))
    · exact go (kit_seq (b := false) (by decide +kernel) false (fun _ => by decide +kernel) (fun _ => rfl))
end
end B
set_option Elab.async false
set_option autoImplicit false
set_option linter.all false
set_option maxRecDepth 100000
set_option maxHeartbeats 4000000
namespace B
open PySem PySem.Spec PyProof.Rows L2
def clsBody : Stmt → List Stmt
  | .ClassDef _ _ _ body .. => body
  | _ => []
def sInit : Stmt := (clsBody (top 11)).getD 0 (.Pass ⟨0, 0, 0, 0⟩)
abbrev sRowBelow : Stmt := top 12
abbrev sBudgetRow : Stmt := top 13
abbrev sSpanOf : Stmt := top 14
abbrev sFreeKeys : Stmt := top 15
abbrev nInit : List Str := ["self", "caps", "low", "high", "cap"]
theorem sc_init : FnScope nInit ["self", "caps", "low", "high"] (defScope sInit) := ⟨rfl, rfl, rfl, by decide +kernel, rfl, by decide +kernel, by decide +kernel⟩
abbrev nRowBelow : List Str := ["caps", "value", "one", "cap"]
theorem sc_rowBelow : FnScope nRowBelow ["caps", "value"] (defScope sRowBelow) := ⟨rfl, rfl, rfl, by decide +kernel, rfl, by decide +kernel, by decide +kernel⟩
theorem sc_budgetRow : FnScope ["budget", "value", "at"] ["budget", "value", "at"] (defScope sBudgetRow) := ⟨rfl, rfl, rfl, by decide +kernel, rfl, by decide +kernel, by decide +kernel⟩
theorem sc_spanOf : FnScope ["budget", "key", "cap"] ["budget", "key"] (defScope sSpanOf) := ⟨rfl, rfl, rfl, by decide +kernel, rfl, by decide +kernel, by decide +kernel⟩
abbrev nFreeKeys : List Str := ["budget", "spans", "key", "least", "most"]
theorem sc_freeKeys : FnScope nFreeKeys ["budget"] (defScope sFreeKeys) := ⟨rfl, rfl, rfl, by decide +kernel, rfl, by decide +kernel, by decide +kernel⟩

/-- the ints of data -/
def nOf : D → Int
  | .int i => i
  | _ => 0
theorem nOf_di (ns : List Int) : (di ns).map nOf = ns := by
  unfold di
  rw [List.map_map]
  exact List.map_id _
/-! ### is_row_below -/
def rowBelow (caps : List Int) (ds : List D) : Bool := (List.zipWith (fun d c => isIdxD d (c + 1)) ds caps).all id
def isRowD (caps : List Int) (d : D) : Bool := match seqD d with
  | some ds => decide (ds.length = caps.length) && rowBelow caps ds
  | none => false
def smallSeq (d : D) : Prop := hasTy d ∧ ∀ ds, seqD d = some ds → ds.length ≤ 1000 ∧ ∀ x ∈ ds, hasTy x
def preRow (ds : List D) : Prop := ∃ caps d, ds = [dti caps, d] ∧ caps.length ≤ 1000 ∧ smallSeq d
def fRow (ds : List D) : Ou := match ds with
  | [.tup cs, d] => .ret (.bl (isRowD (cs.map nOf) d))
  | _ => .ret .non
theorem fRow_is (caps : List Int) (d : D) : fRow [dti caps, d] = .ret (.bl (isRowD caps d)) := by
  show Ou.ret (.bl (isRowD ((di caps).map nOf) d)) = _
  rw [nOf_di]
section
variable {P : Program} {w : PySem.World} {K : PySem.W.Frag} {mg : Str → Option Value} {base : Heap} {θ : Th} {f : Addr} {fd : FuncData}
theorem isSeq_none {d : D} (h : hasTy d) (e : isSeqD d = false) : seqD d = none := by
  cases d <;> first | rfl | cases e
theorem isSeq_some {d : D} (e : isSeqD d = true) : ∃ ds, seqD d = some ds := by
  cases d <;> first | exact ⟨_, rfl⟩ | cases e
theorem lenD_seq {d : D} {ds : List D} (e : seqD d = some ds) : lenD d = some ds.length := by
  cases d <;> cases e <;> rfl
theorem lenD_dti (ns : List Int) : lenD (dti ns) = some ns.length := by simp [lenD]
theorem ok_rowBelow (D0 : Df K mg "is_row_below" sRowBelow ["caps", "value"] f fd) (hK : θ.K = K) (nb : Nb mg) (c1 : Cal P w K mg base 1 "is_sequence" ["value"] (spF θ preV (v1 isSeqD))) (c2 : Cal P w K mg base 3 "is_index" ["value", "many"] (spF θ preIdx fIdx)) :
    Cal P w K mg base 4 "is_row_below" ["caps", "value"] (spF θ preRow fRow) := by
  refine calD (k := 3) D0 sc_rowBelow (fun ds h => ?_) fun cdv A outer s H E hr δ ds hp => ?_
  · obtain ⟨caps, d, rfl, _⟩ := h
    rfl
  obtain ⟨caps, d, rfl, hz, hT, hS⟩ := hp
  have eF := fRow_is caps d
  have mid : ∀ k : Bool, k = (match seqD d with | some ds => decide (ds.length = caps.length) | none => false) → JTI θ δ false (cxOf (L2.CX P w) P w K mg base nRowBelow "is_row_below" (defScope sRowBelow) f cdv A outer s H E) (startR nRowBelow [dti caps, d]) (match defBody sRowBelow with | .If c .. :: _ => c | _ => .Constant .none 0 ⟨0, 0, 0, 0⟩) (!k) := fun k hk => by
    refine jt_pw ?_
    by_cases hq : isSeqD d = true
    · obtain ⟨ds, hds⟩ := isSeq_some hq
      have e2 : (!k) = (!isSeqD d || !decide ((ds.length : Int) = caps.length)) := by
        rw [hk, hds, hq]
        have : decide ((ds.length : Int) = caps.length) = decide (ds.length = caps.length) := decide_eq_decide.mpr (by omega)
        rw [this]
        rfl
      rw [e2]
      exact jw_orI (jt_notI (jt_valI (je_callI c1 hr (by decide) (ja_1 (je_var 1) ja_nil) ⟨d, rfl, hT⟩ fun o e => e))) fun _ => jw_or1 (jt_ne (je_len hK.symm (lenD_seq hds) nb.len (je_var 1)) (je_len hK.symm (lenD_dti caps) nb.len (je_var 0)))
    · have hq' : isSeqD d = false := by simpa using hq
      have e2 : (!k) = (!isSeqD d || true) := by
        rw [hk, isSeq_none hT hq', hq']
        rfl
      rw [e2]
      exact jw_orI (jt_notI (jt_valI (je_callI c1 hr (by decide) (ja_1 (je_var 1) ja_nil) ⟨d, rfl, hT⟩ fun o e => e))) fun e => by rw [hq'] at e; cases e
  refine js_ifRet (mid _ rfl) (fun e => ?_) fun e => ?_
  · refine js_ret (je_bl (b := false)) fun d' e' => ?_
    show Ou.ret d' = fRow _
    rw [eF, e']
    unfold isRowD
    cases hs : seqD d with
    | none => rfl
    | some ds =>
      rw [hs] at e
      have : decide (ds.length = caps.length) = false := by simpa using e
      show _ = Ou.ret (D.bl (decide (ds.length = caps.length) && rowBelow caps ds))
      rw [this]
      rfl
  · cases hs : seqD d with
    | none =>
      rw [hs] at e
      cases e
    | some ds =>
      rw [hs] at e
      have hl : ds.length = caps.length := by simpa using e
      obtain ⟨hz2, hty⟩ := hS ds hs
      have zl : (zipD ds (di caps)).length ≤ 100000 := by
        unfold zipD
        rw [List.length_zipWith]
        omega
      have mem : ∀ u v, D.tup [u, v] ∈ zipD ds (di caps) → (∃ c : Int, v = .int c) ∧ hasTy u := fun u v h => by
        obtain ⟨i, hi⟩ := List.mem_iff_getElem?.mp h
        unfold zipD at hi
        rw [List.getElem?_zipWith] at hi
        cases e1 : ds[i]? with
        | none => rw [e1] at hi; cases hi
        | some d1 =>
          cases e2 : (di caps)[i]? with
          | none => rw [e1, e2] at hi; cases hi
          | some d2 =>
            rw [e1, e2] at hi
            have e3 : D.tup [d1, d2] = .tup [u, v] := Option.some.inj hi
            injection e3 with e3
            injection e3 with e3 e4
            injection e4 with e4 _
            subst e3 e4
            refine ⟨?_, hty _ (List.mem_of_getElem? e1)⟩
            rw [List.getElem?_map] at e2
            cases e5 : caps[i]? with
            | none => rw [e5] at e2; cases e2
            | some c =>
              rw [e5] at e2
              exact ⟨c, (Option.some.inj e2).symm⟩
      refine js_ret (Φ := Is (.bl (isRowD caps d))) ?_ fun d' e' => by
        show Ou.ret d' = fRow _
        rw [eF, e']
      have e6 : (zipD ds (di caps)).filterMap (pairG fun u v => match v with | .int c => some (.bl (isIdxD u (c + 1))) | _ => none) = (List.zipWith (fun d c => isIdxD d (c + 1)) ds caps).map D.bl := by
        clear mem zl hl hty hs e eF mid hS hT hz2
        induction ds generalizing caps with
        | nil => rfl
        | cons d ds ih =>
          cases caps with
          | nil => rfl
          | cons c caps =>
            have := ih caps (by simp at hz; omega)
            unfold zipD di at this ⊢
            simp only [List.map_cons, List.zipWith_cons_cons, List.filterMap_cons, pairG]
            rw [this]
      have e7 : isRowD caps d = (List.zipWith (fun d c => isIdxD d (c + 1)) ds caps).all id := by
        unfold isRowD
        rw [hs]
        show (decide (ds.length = caps.length) && rowBelow caps ds) = _
        rw [decide_eq_true hl]
        rfl
      rw [e7]
      exact je_callB (cr_all rfl) nb.all (ja_1 ((je_lc sc_rowBelow.nd [("one", 2), ("cap", 3)] (blk_by (by kernel_rfl)) (jl_two 2 3 (fun u v => match v with | .int c => some (.bl (isIdxD u (c + 1))) | _ => none)
        (ji_zip hK.symm nb.zip hs (by simpa using hl) (je_var 1) (je_var 0)) (by decide) (fun _ _ _ _ _ => wr_two hK.symm 2 3 sc_rowBelow.nd) zl (fun d' hd' => by
          unfold zipD at hd'
          obtain ⟨i, hi⟩ := List.mem_iff_getElem?.mp hd'
          rw [List.getElem?_zipWith] at hi
          cases e1 : ds[i]? <;> cases e2 : (di caps)[i]? <;> rw [e1, e2] at hi
          · cases hi
          · cases hi
          · cases hi
          · exact ⟨_, _, (Option.some.inj hi).symm⟩)
        (fun u v h _ _ _ _ _ => by
          obtain ⟨⟨c, rfl⟩, _⟩ := mem u v h
          exact jf_nil)
        (fun u v h r hr' _ _ _ _ _ => by
          obtain ⟨⟨c, rfl⟩, hu⟩ := mem u v h
          cases hr'
          exact je_callI c2 hr (by decide) (ja_1 (je_var 2) (ja_1 (je_add (je_var 3) je_int) ja_nil)) ⟨u, c + 1, rfl, hu⟩ fun o e => e))).to (congrArg D.list e6)) ja_nil) ca_all
end
end B
set_option Elab.async false
set_option autoImplicit false
set_option linter.all false
set_option maxRecDepth 100000
set_option maxHeartbeats 4000000
namespace B
open PySem PySem.Spec PyProof.Rows L2
/-- a state that a budget holds -/
def rowOf (caps : List Int) (lo hi : Int) (d : D) : Option (List Int) :=
  if isRowD caps d = true ∧ lo ≤ (((seqD d).getD []).map nOf).sum ∧ (((seqD d).getD []).map nOf).sum ≤ hi then some (((seqD d).getD []).map nOf) else none
theorem idx_int {d : D} {n : Int} (h : isIdxD d n = true) : ∃ i, d = .int i ∧ 0 ≤ i ∧ i < n := by
  cases d with
  | int i => exact ⟨i, rfl, by simpa [isIdxD] using h⟩
  | _ => cases h
theorem rowBelow_ints : ∀ {caps : List Int} {ds : List D}, ds.length = caps.length → rowBelow caps ds = true → ds = di (ds.map nOf)
  | [], [], _, _ => rfl
  | c :: caps, d :: ds, hl, h => by
    unfold rowBelow at h
    simp only [List.zipWith_cons_cons, List.all_cons, id, Bool.and_eq_true] at h
    obtain ⟨i, rfl, _⟩ := idx_int h.1
    have := rowBelow_ints (caps := caps) (ds := ds) (by simpa using hl) h.2
    show _ :: ds = _ :: di (ds.map nOf)
    rw [← this]
    rfl
  | [], _ :: _, hl, _ => by simp at hl
  | _ :: _, [], hl, _ => by simp at hl
theorem isRow_ints {caps : List Int} {d : D} (h : isRowD caps d = true) : ∃ ns : List Int, seqD d = some (di ns) ∧ ns.length = caps.length := by
  unfold isRowD at h
  cases e : seqD d with
  | none => rw [e] at h; cases h
  | some ds =>
    rw [e] at h
    have h' : decide (ds.length = caps.length) = true ∧ rowBelow caps ds = true := by simpa using h
    have hl : ds.length = caps.length := by simpa using h'.1
    exact ⟨ds.map nOf, by rw [← rowBelow_ints hl h'.2], by simpa using hl⟩
def preBR (ds : List D) : Prop := ∃ caps lo hi d n, ds = [.bud caps lo hi, d, .int n] ∧ caps.length ≤ 1000 ∧ smallSeq d
def fBR (ds : List D) : Ou := match ds with
  | [.bud caps lo hi, d, .int n] => match rowOf caps lo hi d with
    | some r => .ret (dti r)
    | none => .exc .state n
  | _ => .ret .non
section
variable {P : Program} {w : PySem.World} {K : PySem.W.Frag} {mg : Str → Option Value} {base : Heap} {θ : Th} {f : Addr} {fd : FuncData}
theorem ok_budgetRow (D0 : Df K mg "budget_row" sBudgetRow ["budget", "value", "at"] f fd) (th : ThOk P K mg θ) (nb : Nb mg) (c1 : Cal P w K mg base 4 "is_row_below" ["caps", "value"] (spF θ preRow fRow)) :
    Cal P w K mg base 5 "budget_row" ["budget", "value", "at"] (spF θ preBR fBR) := by
  refine calD (k := 4) D0 sc_budgetRow (fun ds h => ?_) fun cdv A outer s H E hr δ ds hp => ?_
  · obtain ⟨caps, lo, hi, d, n, rfl, _⟩ := h
    rfl
  obtain ⟨caps, lo, hi, d, n, rfl, hz, hS⟩ := hp
  have hK := th.eK
  obtain ⟨fI, cc, cda, T⟩ := th.st
  have tk : Takes (cxOf (L2.CX P w) P w K mg base ["budget", "value", "at"] "budget_row" (defScope sBudgetRow) f cdv A outer s H E) (fun cls d _ H => E cls d H) := takes_of rfl rfl rfl rfl
  have eF := fRow_is caps d
  by_cases hrow : isRowD caps d = true
  · obtain ⟨ns, hns, hl⟩ := isRow_ints hrow
    have er : rowOf caps lo hi d = if lo ≤ ns.sum ∧ ns.sum ≤ hi then some ns else none := by
      unfold rowOf
      rw [hns, Option.getD_some, nOf_di, hrow]
      simp only [true_and]
    refine js_ifRet (β := fun k => k = (!isRowD caps d || !(decide (lo ≤ ns.sum) && decide (ns.sum ≤ hi)))) (jt_pw (jw_orI (jt_notI (jt_valI (je_callI c1 hr (by decide) (ja_1 (je_caps th (je_var 0)) (ja_1 (je_var 1) ja_nil)) ⟨caps, d, rfl, hz, hS⟩ fun o e => e.trans eF))) fun _ =>
      jw_or1 (jt_notI (jt_chain op_le op_le (je_low th (je_var 0)) (je_sumS hns nb.sum (je_var 1)) (je_high th (je_var 0)) od_le fun _ => od_le)))) (fun e => ?_) fun e => ?_
    · refine js_raise .state T hr tk (je_var 2) ?_
      show Ou.exc .state n = fBR _
      unfold fBR
      have : ¬ (lo ≤ ns.sum ∧ ns.sum ≤ hi) := fun z => by
        rw [hrow, decide_eq_true z.1, decide_eq_true z.2] at e
        cases e
      simp only [er, if_neg this]
    · refine js_ret (Φ := Is (dti ns)) (je_callTy call_tuple_of nb.tuple (ja_1 (je_var 1) ja_nil) (ca_tuple hns)) fun d' e' => ?_
      show Ou.ret d' = fBR _
      rw [e']
      unfold fBR
      have : lo ≤ ns.sum ∧ ns.sum ≤ hi := by
        rw [hrow] at e
        simpa using e.symm
      simp only [er, if_pos this]
  · have hrow' : isRowD caps d = false := by simpa using hrow
    have er : rowOf caps lo hi d = none := by
      unfold rowOf
      rw [hrow']
      simp
    refine js_ifRet (β := fun k => k = true) ((jt_pw (jw_orI (k' := true) (jt_notI (jt_valI (je_callI c1 hr (by decide) (ja_1 (je_caps th (je_var 0)) (ja_1 (je_var 1) ja_nil)) ⟨caps, d, rfl, hz, hS⟩ fun o e => e.trans eF))) fun e => ?_)).mono fun b e => ?_) (fun e => ?_) fun e => ?_
    · rw [hrow'] at e
      cases e
    · rw [e, hrow']
      rfl
    · refine js_raise .state T hr tk (je_var 2) ?_
      show Ou.exc .state n = fBR _
      unfold fBR
      simp only [er]
    · cases e
/-! ### span_of -/
def preSpan (ds : List D) : Prop := ∃ caps lo hi k, ds = [.bud caps lo hi, .int (k : Nat)] ∧ k < caps.length
def spanOf (caps : List Int) (lo hi : Int) (k : Nat) : Int × Int := (max 0 (lo + caps.getD k 0 - caps.sum), min (caps.getD k 0) hi)
def fSpan (ds : List D) : Ou := match ds with
  | [.bud caps lo hi, .int k] => .ret (.tup [.int (spanOf caps lo hi k.toNat).1, .int (spanOf caps lo hi k.toNat).2])
  | _ => .ret .non
theorem di_get {ns : List Int} {k : Nat} (h : k < ns.length) : (di ns)[k]? = some (.int (ns.getD k 0)) := by
  rw [List.getElem?_map, List.getElem?_eq_getElem h, List.getD_eq_getElem?_getD, List.getElem?_eq_getElem h]
  rfl
theorem ok_spanOf (D0 : Df K mg "span_of" sSpanOf ["budget", "key"] f fd) (th : ThOk P K mg θ) (nb : Nb mg) : Cal P w K mg base 1 "span_of" ["budget", "key"] (spF θ preSpan fSpan) := by
  refine calD (k := 0) D0 sc_spanOf (fun ds h => ?_) fun cdv A outer s H E hr δ ds hp => ?_
  · obtain ⟨caps, lo, hi, k, rfl, _⟩ := h
    rfl
  obtain ⟨caps, lo, hi, k, rfl, hk⟩ := hp
  refine js_set (Φ := Is (.int (caps.getD k 0))) 2 sc_spanOf.nd (je_ixT (di_get hk) (je_caps th (je_var 0)) (je_var 1)) fun d e => ?_
  subst e
  refine js_ret (je_tup (ja_1 (je_max nb.max je_int (je_sub (je_add (je_low th (je_var 0)) (je_var 2)) (je_sumT nb.sum (je_caps th (je_var 0))))) (ja_1 (je_min nb.min (je_var 2) (je_high th (je_var 0))) ja_nil))) fun d e => ?_
  show Ou.ret d = fSpan _
  rw [e]
  rfl
end
end B
set_option Elab.async false
set_option autoImplicit false
set_option linter.all false
set_option maxRecDepth 100000
set_option maxHeartbeats 4000000
namespace B
open PySem PySem.Spec PyProof.Rows L2
section
variable {θ : Th} {δ : Dl} {m : Bool} {X : Cx} {E : XK} {ρ : Rho} {a b c e tg iter elt : Expr} {es ifs : List Expr} {Φ Φ' A C : D → Prop} {β β' : Bool → Prop} {pos : Pos} {rest : List Stmt} {O : Outs} {G0 H0 G G' H H' : Hp} {σ : L2.St} {scope : Scope} {own : List (Str × Nat)} {Ψ : D → Prop}
/-- x, (y, z) -/
def Nest (i j k : Nat) (d : D) (ρ ρ' : Rho) : Prop := ∃ x y z, d = .tup [x, .tup [y, z]] ∧ ρ' = ((ρ.set i (some (.dat x))).set j (some (.dat y))).set k (some (.dat z))
theorem wr_nest (i j k : Nat) {x y z : Str} {px py pz p2 : Pos} {k1 k2 : Nat} (hN : X.N.Nodup) (hc : X.calm = true := by rfl) (hi : X.N[i]? = some x := by rfl) (hj : X.N[j]? = some y := by rfl) (hk : X.N[k]? = some z := by rfl)
    (hx : Loc X.env.scope x := by first | exact Or.inl rfl | exact Or.inr rfl) (hy : Loc X.env.scope y := by first | exact Or.inl rfl | exact Or.inr rfl) (hz : Loc X.env.scope z := by first | exact Or.inl rfl | exact Or.inr rfl)
    (hf : X.fn x = true ∨ X.env.scope.names.lookup x = some .local := by first | exact .inl rfl | exact .inr rfl | assumption) (hf2 : X.fn y = true ∨ X.env.scope.names.lookup y = some .local := by first | exact .inl rfl | exact .inr rfl | assumption) (hf3 : X.fn z = true ∨ X.env.scope.names.lookup z = some .local := by first | exact .inl rfl | exact .inr rfl | assumption)
    (h1 : (assignEach [.Name x px, .Tuple [.Name y py, .Name z pz] k1 p2] X.env).map (·.2) = assign (.Name x px) X.env :: (assignEach [.Tuple [.Name y py, .Name z pz] k1 p2] X.env).map (·.2) := by rfl)
    (h2 : (assignEach [.Tuple [.Name y py, .Name z pz] k1 p2] X.env).map (·.2) = assign (.Tuple [.Name y py, .Name z pz] k1 p2) X.env :: (assignEach [] X.env).map (·.2) := by rfl)
    (h3 : (assignEach [.Name y py, .Name z pz] X.env).map (·.2) = assign (.Name y py) X.env :: (assignEach [.Name z pz] X.env).map (·.2) := by rfl) (h4 : (assignEach [.Name z pz] X.env).map (·.2) = assign (.Name z pz) X.env :: (assignEach [] X.env).map (·.2) := by rfl)
    (hn : (assignEach [.Name x px, .Tuple [.Name y py, .Name z pz] k1 p2] X.env).length = 2 := by rfl) (hst : (assignEach [.Name x px, .Tuple [.Name y py, .Name z pz] k1 p2] X.env).findIdx? (·.1) = none := by rfl)
    (hn2 : (assignEach [.Name y py, .Name z pz] X.env).length = 2 := by rfl) (hst2 : (assignEach [.Name y py, .Name z pz] X.env).findIdx? (·.1) = none := by rfl) :
    Wr (θ := θ) (δ := δ) (m := m) X (.Tuple [.Name x px, .Tuple [.Name y py, .Name z pz] k1 p2] k2 pos) [i, j, k] (Nest i j k) := fun v d σ ρ G H rv rs p Q t q => by
  refine ⟨_, pg_tup hc (pgs_cons (pg_name hN hi hx hf) (pgs_cons (pg_tup hc (pgs_cons (pg_name hN hj hy hf2) (pgs_cons (pg_name hN hk hz hf3) pgs_nil h4) h3) hn2 hst2) pgs_nil h2) h1) hn hst, ?_⟩
  obtain ⟨_, u, w, r, rfl, _⟩ := t
  cases rv with
  | tup hs ra =>
    cases ra with
    | cons r1 ra =>
      cases ra with
      | cons r2 ra =>
        cases ra
        cases r2 with
        | tup hs2 rb =>
          cases rb with
          | cons r3 rb =>
            cases rb with
            | cons r4 rb =>
              cases rb
              refine ⟨_, _, rfl, SqT.of (p.gh _ _ hs), rfl, _, _, rfl, _, _, rfl, ⟨_, _, rfl, SqT.of (p.gh _ _ hs2), rfl, _, _, rfl, _, _, rfl, rfl, ?_⟩⟩
              refine ⟨rfl, q _ _ ⟨u, w, r, rfl, rfl⟩ (((rs.set r1 i).set r3 j).set r4 k) (by simp) fun n hn => ?_⟩
              have e1 : n ≠ i := fun z => hn (by simp [z])
              have e2 : n ≠ j := fun z => hn (by simp [z])
              have e3 : n ≠ k := fun z => hn (by simp [z])
              rw [List.getElem?_set_ne (Ne.symm e3), List.getElem?_set_ne (Ne.symm e2), List.getElem?_set_ne (Ne.symm e1)]
/-- [elt for x, (y, z) in src if ..] -/
def nestG (g : D → D → D → Option D) : D → Option D
  | .tup [u, .tup [v, r]] => g u v r
  | _ => none
theorem jl_nest {tg : Expr} {src : List D} (i j k : Nat) (g : D → D → D → Option D) (hi : JI θ δ m X ρ tg iter (fun s => s = src)) (hij : i ≠ j) (hik : i ≠ k) (hjk : j ≠ k)
    (hg : ∀ (s : Shared) (H : Hp) (C : Addr) (cl : List (Str × Addr)) (fp : List Addr), Wr (θ := θ) (δ := δ) (m := m) (X.blk s H scope (compEnvC scope cl C X.env) fp) tg [i, j, k] (Nest i j k)) (hz : src.length ≤ 100000)
    (hs2 : ∀ d ∈ src, ∃ u v r, d = .tup [u, .tup [v, r]])
    (hT : ∀ u v r, .tup [u, .tup [v, r]] ∈ src → ∀ (s : Shared) (H : Hp) (C : Addr) (cl : List (Str × Addr)) (fp : List Addr), JF θ δ m (X.blk s H scope (compEnvC scope cl C X.env) fp) (((ρ.set i (some (.dat u))).set j (some (.dat v))).set k (some (.dat r))) ifs (fun q => q = (g u v r).isSome))
    (hE : ∀ u v r, .tup [u, .tup [v, r]] ∈ src → ∀ o, g u v r = some o → ∀ (s : Shared) (H : Hp) (C : Addr) (cl : List (Str × Addr)) (fp : List Addr), JE θ δ m (X.blk s H scope (compEnvC scope cl C X.env) fp) (((ρ.set i (some (.dat u))).set j (some (.dat v))).set k (some (.dat r))) elt (Is o)) :
    JL θ δ m X ρ elt tg iter ifs scope [i, j, k] (Is (.list (src.filterMap (nestG g)))) := fun σ G H rs p Q q => by
  refine lc_data (Fi := fun _ d o => o = nestG g d) hi (fun j hj => hj) hg (fun s d hs hd => ?_) (fun s hs => hs ▸ hz) (fun s d ρ' hs hd hρ => ?_) (fun s es hs hm => ?_) rs p q
  · obtain ⟨u, v, r, rfl⟩ := hs2 d (hs ▸ hd)
    exact ⟨_, u, v, r, rfl, rfl⟩
  · subst hs
    obtain ⟨u, v, r, rfl, e1⟩ := hρ
    have e : ρ' = ((ρ.set i (some (.dat u))).set j (some (.dat v))).set k (some (.dat r)) := by
      rw [e1]
      refine List.ext_getElem? fun n => ?_
      simp only [wipeR, List.getElem?_set, List.length_set]
      by_cases a1 : k = n <;> by_cases a2 : j = n <;> by_cases a3 : i = n <;> simp_all
    subst e
    refine ⟨_, hT u v r hd, fun hb => ?_, fun hb s H C cl fp => ?_⟩
    · cases hgd : g u v r with
      | none => exact hgd.symm
      | some r => rw [hgd] at hb; cases hb
    · cases hgd : g u v r with
      | none => rw [hgd] at hb; cases hb
      | some o =>
        refine (hE u v r hd o hgd s H C cl fp).mono fun x hx => ?_
        show some x = g u v r
        rw [hx, hgd]
  · rw [made_fn hm, hs]
end
/-! ### free_keys -/
def freeK (caps : List Int) (lo hi : Int) : List Int := (List.range caps.length).filterMap fun k => if (spanOf caps lo hi k).1 < (spanOf caps lo hi k).2 then some (k : Int) else none
def preBud (ds : List D) : Prop := ∃ caps lo hi, ds = [.bud caps lo hi] ∧ caps.length ≤ 1000
def fFree (ds : List D) : Ou := match ds with
  | [.bud caps lo hi] => .ret (dti (freeK caps lo hi))
  | _ => .ret .non
section
variable {P : Program} {w : PySem.World} {K : PySem.W.Frag} {mg : Str → Option Value} {base : Heap} {θ : Th} {f : Addr} {fd : FuncData}
theorem mem_rng {n : Nat} {d : D} (h : d ∈ rng n) : ∃ k : Nat, d = .int k ∧ k < n := by
  unfold rng at h
  obtain ⟨k, hk, rfl⟩ := List.mem_map.mp h
  exact ⟨k, rfl, List.mem_range.mp hk⟩
theorem rng_map (n : Nat) (g : D → D) : (rng n).map g = (List.range n).map fun (k : Nat) => g (.int k) := by
  unfold rng
  rw [List.map_map]
  rfl
theorem rng_filterMap (n : Nat) (g : D → Option D) : (rng n).filterMap g = (List.range n).filterMap fun (k : Nat) => g (.int k) := by
  unfold rng
  rw [List.filterMap_map]
  rfl
theorem numbered_map {α : Type} (f : Nat → α) (g : α → D) (n : Nat) : numbered (((List.range n).map f).map g) = (List.range n).map fun (k : Nat) => .tup [.int k, g (f k)] := by
  refine List.ext_getElem? fun i => ?_
  rw [numbered_get]
  simp only [List.getElem?_map]
  by_cases h : i < n
  · rw [List.getElem?_range h]
    rfl
  · rw [List.getElem?_eq_none (by simpa using h)]
    rfl
theorem fm_congr {α γ : Type} {f g : α → Option γ} (h : ∀ x, f x = g x) (l : List α) : l.filterMap f = l.filterMap g := by
  rw [funext h]
theorem ok_freeKeys (D0 : Df K mg "free_keys" sFreeKeys ["budget"] f fd) (th : ThOk P K mg θ) (nb : Nb mg) (c1 : Cal P w K mg base 1 "span_of" ["budget", "key"] (spF θ preSpan fSpan)) : Cal P w K mg base 2 "free_keys" ["budget"] (spF θ preBud fFree) := by
  refine calD (k := 1) D0 sc_freeKeys (fun ds h => ?_) fun cdv A outer s H E hr δ ds hp => ?_
  · obtain ⟨caps, lo, hi, rfl, _⟩ := h
    rfl
  obtain ⟨caps, lo, hi, rfl, hz⟩ := hp
  have hK := th.eK
  refine js_lc 1 sc_freeKeys.nd [("key", 2)] (blk_by (by kernel_rfl)) (jl_map 2 (fun d => .tup [.int (spanOf caps lo hi (nOf d).toNat).1, .int (spanOf caps lo hi (nOf d).toNat).2]) (ji_rangeI nb.range (je_count th (je_var 0)) (by omega)) (fun _ _ _ _ _ => wr_name 2 sc_freeKeys.nd) (by rw [rng_length]; omega)
    fun d hd _ _ _ _ _ => ?_) (fun d e => ?_) (sw_true rfl rfl rfl (by decide +kernel))
  · obtain ⟨k, rfl, hk⟩ := mem_rng hd
    exact je_callI c1 hr (Nat.le_refl _) (ja_1 (je_var 0) (ja_1 (je_var 2) ja_nil)) ⟨caps, lo, hi, k, rfl, hk⟩ fun o e => e
  subst e
  have e1 : (rng caps.length).map (fun d => D.tup [.int (spanOf caps lo hi (nOf d).toNat).1, .int (spanOf caps lo hi (nOf d).toNat).2]) = ((List.range caps.length).map fun k => spanOf caps lo hi k).map fun p => D.tup [.int p.1, .int p.2] := by
    rw [rng_map, List.map_map]
    rfl
  rw [e1]
  have e2 : (numbered (((List.range caps.length).map fun k => spanOf caps lo hi k).map fun p => D.tup [.int p.1, .int p.2])).filterMap (nestG fun u v r => if nOf v < nOf r then some u else none) = di (freeK caps lo hi) := by
    rw [numbered_map (fun k => spanOf caps lo hi k) (fun p => D.tup [.int p.1, .int p.2]), List.filterMap_map]
    unfold freeK di
    rw [List.map_filterMap]
    refine fm_congr (fun k => ?_) _
    show (if (spanOf caps lo hi k).1 < (spanOf caps lo hi k).2 then some (D.int k) else none) = Option.map D.int (if (spanOf caps lo hi k).1 < (spanOf caps lo hi k).2 then some (k : Int) else none)
    split <;> rfl
  have hmem : ∀ d ∈ numbered (((List.range caps.length).map fun k => spanOf caps lo hi k).map fun p => D.tup [.int p.1, .int p.2]), ∃ k : Nat, d = .tup [.int k, .tup [.int (spanOf caps lo hi k).1, .int (spanOf caps lo hi k).2]] := fun d hd => by
    rw [numbered_map (fun k => spanOf caps lo hi k) (fun p => D.tup [.int p.1, .int p.2])] at hd
    obtain ⟨k, _, rfl⟩ := List.mem_map.mp hd
    exact ⟨k, rfl⟩
  refine js_ret (Φ := Is (dti (freeK caps lo hi))) (je_callTy call_tuple_of nb.tuple (ja_1 ((je_lc sc_freeKeys.nd [("key", 2), ("least", 3), ("most", 4)] (blk_by (by kernel_rfl)) (jl_nest 2 3 4 (fun u v r => if nOf v < nOf r then some u else none) (ji_enum hK.symm nb.enumerate (je_var 1)) (by decide) (by decide) (by decide)
    (fun _ _ _ _ _ => wr_nest 2 3 4 sc_freeKeys.nd) (by rw [numbered_length]; simp; omega) (fun d hd => ?_) (fun u v r h _ _ _ _ _ => ?_) fun u v r h o ho _ _ _ _ _ => ?_)).to (congrArg D.list e2)) ja_nil) (ca_tuple rfl)) fun d e => by rw [e]; rfl
  · obtain ⟨k, rfl⟩ := hmem d hd
    exact ⟨_, _, _, rfl⟩
  · obtain ⟨k, e⟩ := hmem _ h
    injection e with e
    injection e with e3 e4
    injection e4 with e4 _
    injection e4 with e4
    injection e4 with e5 e6
    injection e6 with e6 _
    subst e3 e5 e6
    refine jf_one ((jt_lt (je_var 3) (je_var 4)).to ?_)
    show decide ((spanOf caps lo hi k).1 < (spanOf caps lo hi k).2) = (if (spanOf caps lo hi k).1 < (spanOf caps lo hi k).2 then some (D.int k) else none).isSome
    by_cases hl : (spanOf caps lo hi k).1 < (spanOf caps lo hi k).2 <;> simp [hl]
  · have : o = u := by
      split at ho
      · exact (Option.some.inj ho).symm
      · cases ho
    subst this
    exact je_var 2
end
end B
set_option Elab.async false
set_option autoImplicit false
set_option linter.all false
set_option maxRecDepth 100000
set_option maxHeartbeats 4000000
namespace B
open PySem PySem.Spec PyProof.Rows L2
abbrev sBundles : Stmt := top 17
abbrev sStep : Stmt := top 18
abbrev sParts : Stmt := top 19
abbrev sNeeded : Stmt := top 20
abbrev nBundles : List Str := ["budget", "tied", "alone", "key"]
theorem sc_bundles : FnScope nBundles ["budget"] (defScope sBundles) := ⟨rfl, rfl, rfl, by decide +kernel, rfl, by decide +kernel, by decide +kernel⟩
abbrev nStep : List Str := ["budget", "one", "other", "first", "last", "up", "down", "key", "value", "changed"]
theorem sc_step : FnScope nStep ["budget", "one", "other"] (defScope sStep) := ⟨rfl, rfl, rfl, by decide +kernel, rfl, by decide +kernel, by decide +kernel⟩
theorem sc_parts : FnScope ["amount", "size"] ["amount", "size"] (defScope sParts) := ⟨rfl, rfl, rfl, by decide +kernel, rfl, by decide +kernel, by decide +kernel⟩
abbrev nNeeded : List Str := ["budget", "one", "other", "first", "last", "keys", "rise", "fall", "slack", "counts", "up", "down", "key"]
theorem sc_needed : FnScope nNeeded ["budget", "one", "other"] (defScope sNeeded) := ⟨rfl, rfl, rfl, by decide +kernel, rfl, by decide +kernel, by decide +kernel⟩
theorem Room_u65 {k : Nat} {A : Around} (r : Room k A) : A.units + 65 < cLine := by
  have := r.un
  omega
theorem u64 {A : Around} (h : A.units + 65 < cLine) : A.units + 64 < cLine := by omega
/-! ### budget_bundles -/
def tiedK (caps : List Int) (lo hi : Int) : List Int := if lo = hi then freeK caps lo hi else []
def aloneK (caps : List Int) (tied : List Int) : List (List Int) := (List.range caps.length).filterMap fun (k : Nat) => if (k : Int) ∈ tied then none else some [(k : Int)]
def bundleL (caps : List Int) (lo hi : Int) : List (List Int) := if tiedK caps lo hi = [] then aloneK caps (tiedK caps lo hi) else tiedK caps lo hi :: aloneK caps (tiedK caps lo hi)
def bundles (caps : List Int) (lo hi : Int) : List (List Int) := (bundleL caps lo hi).mergeSort leR
def fBund (ds : List D) : Ou := match ds with
  | [.bud caps lo hi] => .ret (.tup ((bundles caps lo hi).map dti))
  | _ => .ret .non
theorem filterMap_len {α γ : Type} (f : α → Option γ) : ∀ l : List α, (l.filterMap f).length ≤ l.length
  | [] => Nat.le_refl _
  | x :: l => by
    have := filterMap_len f l
    rw [List.filterMap_cons]
    split
    · simp; omega
    · simp; omega
theorem alone_len (caps : List Int) (tied : List Int) : (aloneK caps tied).length ≤ caps.length := by
  have := filterMap_len (fun k : Nat => if (k : Int) ∈ tied then none else some [(k : Int)]) (List.range caps.length)
  unfold aloneK
  simpa using this
theorem bundle_ne {caps : List Int} {lo hi : Int} : ∀ r ∈ bundleL caps lo hi, r ≠ [] := by
  intro r hr
  have al : ∀ r ∈ aloneK caps (tiedK caps lo hi), r ≠ [] := fun r h => by
    unfold aloneK at h
    obtain ⟨k, _, e⟩ := List.mem_filterMap.mp h
    split at e
    · cases e
    · cases e
      simp
  unfold bundleL at hr
  split at hr
  · exact al r hr
  · rename_i hne
    rcases List.mem_cons.mp hr with rfl | h
    · exact hne
    · exact al r h
theorem bundle_len {caps : List Int} {lo hi : Int} : (bundleL caps lo hi).length ≤ caps.length + 1 := by
  have := alone_len caps (tiedK caps lo hi)
  unfold bundleL
  split
  · omega
  · simp; omega
section
variable {P : Program} {w : PySem.World} {K : PySem.W.Frag} {mg : Str → Option Value} {base : Heap} {θ : Th} {f : Addr} {fd : FuncData}
theorem ok_bundles (D0 : Df K mg "budget_bundles" sBundles ["budget"] f fd) (th : ThOk P K mg θ) (nb : Nb mg) (c1 : Cal P w K mg base 2 "free_keys" ["budget"] (spF θ preBud fFree)) : Cal P w K mg base 3 "budget_bundles" ["budget"] (spF θ preBud fBund) := by
  refine calD (k := 2) D0 sc_bundles (fun ds h => ?_) fun cdv A outer s H E hr δ ds hp => ?_
  · obtain ⟨caps, lo, hi, rfl, _⟩ := h
    rfl
  obtain ⟨caps, lo, hi, rfl, hz⟩ := hp
  have hK := th.eK
  refine js_set (Φ := Is (dti (tiedK caps lo hi))) 1 sc_bundles.nd (je_if (jt_eq (je_low th (je_var 0)) (je_high th (je_var 0))) (fun e => ?_) fun e => ?_) fun d e => ?_
  · have e' : tiedK caps lo hi = freeK caps lo hi := if_pos (by simpa using e.symm)
    rw [e']
    exact je_callI c1 hr (Nat.le_refl _) (ja_1 (je_var 0) ja_nil) ⟨caps, lo, hi, rfl, hz⟩ fun o e => e
  · have e' : tiedK caps lo hi = [] := if_neg (by simpa using e.symm)
    rw [e']
    exact je_tup ja_nil
  subst e
  have e1 : (rng caps.length).filterMap (fun d => if nOf d ∈ tiedK caps lo hi then none else some (D.tup [d])) = (aloneK caps (tiedK caps lo hi)).map dti := by
    rw [rng_filterMap]
    unfold aloneK
    rw [List.map_filterMap]
    refine fm_congr (fun k => ?_) _
    show (if (k : Int) ∈ tiedK caps lo hi then none else some (D.tup [.int k])) = Option.map dti (if (k : Int) ∈ tiedK caps lo hi then none else some [(k : Int)])
    by_cases h : (k : Int) ∈ tiedK caps lo hi
    · rw [if_pos h, if_pos h]; rfl
    · rw [if_neg h, if_neg h]; rfl
  refine js_lc 2 sc_bundles.nd [("key", 3)] (blk_by (by kernel_rfl)) (jl_filter 3 (fun d => if nOf d ∈ tiedK caps lo hi then none else some (D.tup [d])) (ji_rangeI nb.range (je_count th (je_var 0)) (by omega)) (fun _ _ _ _ _ => wr_name 3 sc_bundles.nd) (by rw [rng_length]; omega)
    (fun d hd _ _ _ _ _ => ?_) fun d hd r hr' _ _ _ _ _ => ?_) (fun d e => ?_) (sw_true rfl rfl rfl (by decide +kernel))
  · obtain ⟨k, rfl, hk⟩ := mem_rng hd
    refine jf_one ((jt_notInI hK.symm rfl (je_var 3) (je_var 1)).to ?_)
    show (!decide ((k : Int) ∈ tiedK caps lo hi)) = (if (k : Int) ∈ tiedK caps lo hi then none else some (D.tup [.int k])).isSome
    by_cases h : (k : Int) ∈ tiedK caps lo hi <;> simp [h]
  · have : r = .tup [d] := by
      split at hr'
      · cases hr'
      · exact (Option.some.inj hr').symm
    subst this
    exact je_tup (ja_1 (je_var 3) ja_nil)
  subst e
  rw [e1]
  have hu := Room_u65 hr
  refine js_ret (Φ := Is (.tup ((bundles caps lo hi).map dti))) (je_callTy call_tuple_of nb.tuple (ja_1 (je_sortRows (rs := bundleL caps lo hi) hK.symm bundle_ne (by have := @bundle_len caps lo hi; omega) hu nb.sorted (je_if (jt_cmp (op_eqD (u64 hu)) (nomark _) (je_var 1) (je_tup ja_nil) (od_eqD hK.symm (ok_dti _) (ok_dti []) (eqv_dti _ _)).bp) (fun e => ?_) fun e => ?_)) ja_nil) (ca_tuple rfl)) fun d e => by rw [e]; rfl
  · have e' : bundleL caps lo hi = aloneK caps (tiedK caps lo hi) := if_pos (by simpa using e.symm)
    rw [e']
    exact je_var 2
  · have e' : bundleL caps lo hi = tiedK caps lo hi :: aloneK caps (tiedK caps lo hi) := if_neg (by simpa using e.symm)
    rw [e']
    have hl := alone_len caps (tiedK caps lo hi)
    exact j_lst (ja_cons (A := Is (dti (tiedK caps lo hi))) (je_var 1) (ja_star (xs := (aloneK caps (tiedK caps lo hi)).map dti) rfl (je_var 2) ja_nil)) (fun ds ⟨d, r, e1, e2, e3⟩ => by rw [e1, e3]; simp; omega) fun ds ⟨d, r, e1, e2, e3⟩ => by rw [e1, e2, e3]; simp
/-! ### parts_above -/
def partsOf (a s : Int) : Int := (max a 0 + s - 1) / s
def preParts (ds : List D) : Prop := ∃ a s : Int, ds = [.int a, .int s] ∧ CDivW (max a 0 + s - 1) s
def fParts (ds : List D) : Ou := match ds with
  | [.int a, .int s] => .ret (.int (partsOf a s))
  | _ => .ret .non
theorem ok_parts (D0 : Df K mg "parts_above" sParts ["amount", "size"] f fd) (nb : Nb mg) : Cal P w K mg base 1 "parts_above" ["amount", "size"] (spF θ preParts fParts) := by
  refine calD (k := 0) D0 sc_parts (fun ds h => ?_) fun cdv A outer s H E hr δ ds hp => ?_
  · obtain ⟨a, s, rfl, _⟩ := h
    rfl
  obtain ⟨a, s, rfl, hd⟩ := hp
  exact js_ret (je_div hd (je_sub (je_add (je_max nb.max (je_var 0) je_int) (je_var 1)) je_int) (je_var 1)) fun d e => by rw [e]; rfl
end
end B
set_option Elab.async false
set_option autoImplicit false
set_option linter.all false
set_option maxRecDepth 100000
set_option maxHeartbeats 4000000
namespace B
open PySem PySem.Spec PyProof.Rows L2
/-! ### step_towards -/
def chg (lo hi : Int) (a b : List Int) (k : Nat) : Int := min (max (b.getD k 0) (a.getD k 0 - (a.sum - lo))) (a.getD k 0 + (hi - a.sum))
def stepAt (lo hi : Int) (a b : List Int) : Option Nat := (List.range a.length).find? fun k => decide (chg lo hi a b k ≠ a.getD k 0)
def stepTo (lo hi : Int) (a b : List Int) : Option (List Int) := (stepAt lo hi a b).map fun k => a.set k (chg lo hi a b k)
def stepOu (lo hi : Int) (a b : List Int) : Ou := if a = b then .ret .non else match stepTo lo hi a b with
  | some r => .ret (dti r)
  | none => .exc .refused 0
/-- first the states, then g -/
def twoRows (g : List Int → Int → Int → List Int → List Int → Ou) (ds : List D) : Ou := match ds with
  | [.bud caps lo hi, x, y] => match rowOf caps lo hi x with
    | none => .exc .state 0
    | some a => match rowOf caps lo hi y with
      | none => .exc .state 1
      | some b => g caps lo hi a b
  | _ => .ret .non
def pre3 (ok : List Int → Int → Int → Prop) (ds : List D) : Prop := ∃ caps lo hi x y, ds = [.bud caps lo hi, x, y] ∧ caps.length ≤ 1000 ∧ ok caps lo hi ∧ smallSeq x ∧ smallSeq y
theorem rowOf_len {caps : List Int} {lo hi : Int} {d : D} {a : List Int} (h : rowOf caps lo hi d = some a) : a.length = caps.length ∧ lo ≤ a.sum ∧ a.sum ≤ hi := by
  unfold rowOf at h
  split at h
  · rename_i hc
    cases h
    obtain ⟨ns, e1, e2⟩ := isRow_ints hc.1
    rw [e1, Option.getD_some, nOf_di] at hc ⊢
    exact ⟨e2, hc.2.1, hc.2.2⟩
  · cases h
section
variable {P : Program} {w : PySem.World} {K : PySem.W.Frag} {mg : Str → Option Value} {base : Heap} {θ : Th} {f : Addr} {fd : FuncData}
theorem set_cut {a : List Int} {k : Nat} (c : Int) (h : k < a.length) : (di a).take k ++ (.int c :: (di a).drop (k + 1)) = di (a.set k c) := by
  unfold di
  rw [← List.map_take, ← List.map_drop, ← List.map_cons, ← List.map_append, List.set_eq_take_append_cons_drop, if_pos h]
theorem two_rows {X : Cx} {E : XK} {ρ : Rho} {δ : Dl} {m : Bool} {caps : List Int} {lo hi : Int} {x y : D} {k : Nat} (g : List Int → Int → Int → List Int → List Int → Ou) (c1 : Cal X.prog X.w X.K X.mg X.base 5 "budget_row" ["budget", "value", "at"] (spF θ preBR fBR)) (hr : Room k X.A) (hk : 5 ≤ k) (hp : Passes (L2.CX X.prog X.w) X E) (hz : caps.length ≤ 1000) (hx : smallSeq x) (hy : smallSeq y) :
    (∀ {px pos : Pos} {e1 e2 : Expr} {j : Nat} {p0 : Pos}, JE θ δ m X ρ e1 (Is (.bud caps lo hi)) → JE θ δ m X ρ e2 (Is x) → (hg : Gl X "budget_row" := by rfl) → (h1 : starEach [e1, e2, .Constant (.int 0) j p0] X.env = (false, eval e1 X.env) :: starEach [e2, .Constant (.int 0) j p0] X.env := by rfl) → (h2 : starEach [e2, .Constant (.int 0) j p0] X.env = (false, eval e2 X.env) :: starEach [.Constant (.int 0) j p0] X.env := by rfl) →
      (h3 : starEach [.Constant (.int 0) j p0] X.env = (false, eval (.Constant (.int 0) j p0) X.env) :: starEach [] X.env := by rfl) → (h4 : (backTo pos (starEach [e2, .Constant (.int 0) j p0] X.env)).any (·.1) = false := by rfl) →
      JX θ δ m X E ρ (.Call (.Name "budget_row" px) [e1, e2, .Constant (.int 0) j p0] [] pos) (fun d => ∃ a, rowOf caps lo hi x = some a ∧ d = dti a) (fun c n => twoRows g [.bud caps lo hi, x, y] = .exc c n)) ∧
    ((∃ d, ∃ a, rowOf caps lo hi x = some a ∧ d = dti a) → ∀ {px pos : Pos} {e1 e2 : Expr} {j : Nat} {p0 : Pos}, JE θ δ m X ρ e1 (Is (.bud caps lo hi)) → JE θ δ m X ρ e2 (Is y) → (hg : Gl X "budget_row" := by rfl) → (h1 : starEach [e1, e2, .Constant (.int 1) j p0] X.env = (false, eval e1 X.env) :: starEach [e2, .Constant (.int 1) j p0] X.env := by rfl) → (h2 : starEach [e2, .Constant (.int 1) j p0] X.env = (false, eval e2 X.env) :: starEach [.Constant (.int 1) j p0] X.env := by rfl) →
      (h3 : starEach [.Constant (.int 1) j p0] X.env = (false, eval (.Constant (.int 1) j p0) X.env) :: starEach [] X.env := by rfl) → (h4 : (backTo pos (starEach [e2, .Constant (.int 1) j p0] X.env)).any (·.1) = false := by rfl) →
      JX θ δ m X E ρ (.Call (.Name "budget_row" px) [e1, e2, .Constant (.int 1) j p0] [] pos) (fun d => ∃ a, rowOf caps lo hi y = some a ∧ d = dti a) (fun c n => twoRows g [.bud caps lo hi, x, y] = .exc c n)) := by
  have eF : ∀ z n, fBR [.bud caps lo hi, z, .int n] = match rowOf caps lo hi z with | some r => .ret (dti r) | none => .exc .state n := fun z n => rfl
  refine ⟨fun h1 h2 hg a1 a2 a3 a4 => jx_call (CX := L2.CX X.prog X.w) c1 hr hk hp (ja_1 h1 (ja_1 h2 (ja_1 je_int ja_nil a3) a2) a1) (fun ds e => e ▸ ⟨caps, lo, hi, x, 0, rfl, hz, hx⟩) (fun ds d e f => ?_) (fun ds c n e f => ?_) (.inr rfl) hg (by decide) a1 a4,
    fun hxs => fun {px pos e1 e2 j p0} h1 h2 hg a1 a2 a3 a4 => jx_call (CX := L2.CX X.prog X.w) c1 hr hk hp (ja_1 h1 (ja_1 h2 (ja_1 je_int ja_nil a3) a2) a1) (fun ds e => e ▸ ⟨caps, lo, hi, y, 1, rfl, hz, hy⟩) (fun ds d e f => ?_) (fun ds c n e f => ?_) (.inr rfl) hg (by decide) a1 a4⟩
  · rw [e, eF] at f
    cases ez : rowOf caps lo hi x with
    | none => rw [ez] at f; cases f
    | some r =>
      rw [ez] at f
      cases f
      exact ⟨r, rfl, rfl⟩
  · rw [e, eF] at f
    cases ez : rowOf caps lo hi x with
    | none =>
      rw [ez] at f
      unfold twoRows
      simp only [ez]
      exact f.symm
    | some r => rw [ez] at f; cases f
  · rw [e, eF] at f
    cases ez : rowOf caps lo hi y with
    | none => rw [ez] at f; cases f
    | some r =>
      rw [ez] at f
      cases f
      exact ⟨r, rfl, rfl⟩
  · obtain ⟨_, r0, er, _⟩ := hxs
    rw [e, eF] at f
    cases ez : rowOf caps lo hi y with
    | none =>
      rw [ez] at f
      unfold twoRows
      simp only [er, ez]
      exact f.symm
    | some r => rw [ez] at f; cases f
theorem ok_step (D0 : Df K mg "step_towards" sStep ["budget", "one", "other"] f fd) (th : ThOk P K mg θ) (nb : Nb mg) (c1 : Cal P w K mg base 5 "budget_row" ["budget", "value", "at"] (spF θ preBR fBR)) :
    Cal P w K mg base 6 "step_towards" ["budget", "one", "other"] (spF θ (pre3 fun _ _ _ => True) (twoRows fun _ lo hi a b => stepOu lo hi a b)) := by
  refine calD (k := 5) D0 sc_step (fun ds h => ?_) fun cdv A outer s H E hr δ ds hp => ?_
  · obtain ⟨caps, lo, hi, x, y, rfl, _⟩ := h
    rfl
  obtain ⟨caps, lo, hi, x, y, rfl, hz, _, hx, hy⟩ := hp
  have hK := th.eK
  have hu := Room_u65 hr
  obtain ⟨fI, cc, cda, T⟩ := th.rf
  have tk : Takes (cxOf (L2.CX P w) P w K mg base nStep "step_towards" (defScope sStep) f cdv A outer s H E) (fun cls d _ H => E cls d H) := takes_of rfl rfl rfl rfl
  have two := two_rows (X := cxOf (L2.CX P w) P w K mg base nStep "step_towards" (defScope sStep) f cdv A outer s H E) (E := E) (ρ := startR nStep [.bud caps lo hi, x, y]) (δ := δ) (m := false) (lo := lo) (hi := hi) (fun _ lo hi a b => stepOu lo hi a b) c1 hr (Nat.le_refl _) (passes_call tk fun _ _ _ _ h => h) hz hx hy
  refine js_parX 3 4 sc_step.nd (two.1 (je_var 0) (je_var 1)) (fun z => two.2 z (je_var 0) (je_var 2)) (fun c n h => h.symm) fun d d' hd hd' => ?_
  obtain ⟨a, ea, rfl⟩ := hd
  obtain ⟨b, eb, rfl⟩ := hd'
  obtain ⟨la, sa1, sa2⟩ := rowOf_len ea
  obtain ⟨lb, sb1, sb2⟩ := rowOf_len eb
  have eT : twoRows (fun _ lo hi a b => stepOu lo hi a b) [.bud caps lo hi, x, y] = stepOu lo hi a b := by
    unfold twoRows
    simp only [ea, eb]
  refine js_ifRet (jt_cmp (op_eqD (u64 hu)) (nomark _) (je_var 3) (je_var 4) (od_eqD hK.symm (ok_dti _) (ok_dti _) (eqv_dti _ _)).bp) (fun e => ?_) fun e => ?_
  · have hab : a = b := by simpa using e.symm
    refine js_ret je_non fun d e => ?_
    show Ou.ret d = _
    rw [eT, e]
    unfold stepOu
    rw [if_pos hab]
  have hab : a ≠ b := by simpa using e.symm
  refine js_par 5 6 sc_step.nd (je_sub (je_high th (je_var 0)) (je_sumT nb.sum (je_var 3))) (je_sub (je_sumT nb.sum (je_var 3)) (je_low th (je_var 0))) fun d d' hd hd' => ?_
  subst hd hd'
  have eS : stepOu lo hi a b = match stepTo lo hi a b with | some r => .ret (dti r) | none => .exc .refused 0 := by
    unfold stepOu
    rw [if_neg hab]
  refine js_for (S := fun s => s = numbered (di a)) (act := Two 7 8)
    (Inv := fun src i ρ => (∃ u v r, ρ = [some (.dat (.bud caps lo hi)), some (.dat x), some (.dat y), some (.dat (dti a)), some (.dat (dti b)), some (.dat (.int (hi - a.sum))), some (.dat (.int (a.sum - lo))), u, v, r]) ∧ ∀ j < i, chg lo hi a b j = a.getD j 0)
    (Mid := fun ρ => (∃ u v r, ρ = [some (.dat (.bud caps lo hi)), some (.dat x), some (.dat y), some (.dat (dti a)), some (.dat (dti b)), some (.dat (.int (hi - a.sum))), some (.dat (.int (a.sum - lo))), u, v, r]) ∧ ∀ j < a.length, chg lo hi a b j = a.getD j 0)
    (ji_enumT hK.symm nb.enumerate (je_var 3)) (jg_two hK.symm 7 8 sc_step.nd) (fun _ _ => ⟨⟨_, _, _, rfl⟩, fun j hj => absurd hj (Nat.not_lt_zero _)⟩) (fun src i d ρ1 hS hd _ => ?_) (fun src i d ρ1 ρ2 hS hd hI hA => ?_) (fun src ρ1 hS hI => ?_) (fun ρ' hM => ?_)
  · subst hS
    rw [numbered_get] at hd
    cases e : (di a)[i]? with
    | none => rw [e] at hd; cases hd
    | some z =>
      rw [e] at hd
      cases hd
      exact ⟨_, _, _, rfl, rfl⟩
  · subst hS
    obtain ⟨⟨u, v, r, rfl⟩, hj⟩ := hI
    rw [numbered_get] at hd
    have hi' : i < a.length := by
      cases e : (di a)[i]? with
      | none => rw [e] at hd; cases hd
      | some z => simpa using (List.getElem?_eq_some_iff.mp e).1
    rw [di_get hi'] at hd
    cases hd
    obtain ⟨_, _, ed, rfl⟩ := hA
    cases ed
    have hb' : i < b.length := by omega
    refine js_set (Φ := Is (.int (chg lo hi a b i))) 9 sc_step.nd (je_min nb.min (je_max nb.max (je_ixT (di_get hb') (je_var 4) (je_var 7)) (je_sub (je_var 8) (je_var 6))) (je_add (je_var 8) (je_var 5))) fun d e => ?_
    subst e
    refine js_ifRet (jt_ne (je_var 9) (je_var 8)) (fun e => ?_) fun e => ?_
    · have hne : chg lo hi a b i ≠ a.getD i 0 := by simpa using e.symm
      have ei : stepAt lo hi a b = some i := by
        unfold stepAt
        rw [List.find?_range_eq_some]
        refine ⟨by simpa using hne, List.mem_range.mpr hi', fun j hji => by simpa using hj j hji⟩
      refine js_ret (Φ := Is (dti (a.set i (chg lo hi a b i)))) (j_tup (ja_star (xs := (di a).take i) rfl ((je_cutT (je_var 3) jo_none (jo_some (je_var 7))).to (by rw [cut_to])) (ja_1 (je_var 9) (ja_star (xs := (di a).drop (i + 1)) rfl ((je_cutT (je_var 3) (jo_some ((je_add (je_var 7) je_int).to (by rw [show (i : Int) + 1 = ((i + 1 : Nat) : Int) by omega]))) jo_none).to (by rw [cut_from])) ja_nil)))
        (fun ds e => ?_) fun ds e => ?_) fun d e => ?_
      · rw [e]
        simp
        omega
      · rw [e, List.append_nil, set_cut _ hi']
      · show Ou.ret d = _
        rw [eT, eS, e]
        unfold stepTo
        rw [ei]
        rfl
    · have heq : chg lo hi a b i = a.getD i 0 := by simpa using e.symm
      refine js_nil ⟨⟨_, _, _, rfl⟩, fun j hji => ?_⟩
      rcases Nat.lt_succ_iff_lt_or_eq.mp hji with h | h
      · exact hj j h
      · rw [h]; exact heq
  · subst hS
    rw [numbered_length] at hI
    simpa using hI
  · obtain ⟨⟨u, v, r, rfl⟩, hj⟩ := hM
    have ei : stepAt lo hi a b = none := by
      unfold stepAt
      rw [List.find?_eq_none]
      intro k hk
      simpa using hj k (List.mem_range.mp hk)
    refine js_raise .refused T hr tk je_int ?_
    show Ou.exc .refused 0 = _
    rw [eT, eS]
    unfold stepTo
    rw [ei]
    rfl
end
end B
set_option Elab.async false
set_option autoImplicit false
set_option linter.all false
set_option maxRecDepth 100000
set_option maxHeartbeats 4000000
namespace B
open PySem PySem.Spec PyProof.Rows L2
/-! ### changes_needed -/
def keysD (a b : List Int) : List Nat := (List.range a.length).filter fun k => decide (a.getD k 0 ≠ b.getD k 0)
def riseOf (a b : List Int) : Int := ((keysD a b).map fun k => max (b.getD k 0 - a.getD k 0) 0).sum
def countUp (lo hi s rise fall : Int) : List Int := if 0 < hi - s then [min (2 * (1 + partsOf (rise - (hi - s)) (hi - lo))) (2 * partsOf fall (hi - lo) + 1)] else []
def countDn (lo hi s rise fall : Int) : List Int := if 0 < s - lo then [min (2 * (1 + partsOf (fall - (s - lo)) (hi - lo))) (2 * partsOf rise (hi - lo) + 1)] else []
def leastD : List Int → D
  | [] => .non
  | x :: xs => .int (xs.foldl min x)
def neededD (lo hi : Int) (a b : List Int) : D :=
  if (keysD a b).length < 2 ∨ riseOf a b = 0 ∨ riseOf b a = 0 then .int (keysD a b).length
  else leastD (countUp lo hi a.sum (riseOf a b) (riseOf b a) ++ countDn lo hi a.sum (riseOf a b) (riseOf b a))
def neededOu (lo hi : Int) (a b : List Int) : Ou := if 2 < (keysD a b).length then .exc .refused 0 else .ret (neededD lo hi a b)
theorem fm_filter (p : Nat → Bool) : ∀ l : List Nat, (l.filterMap fun k => if p k = true then some (D.int k) else none) = di ((l.filter p).map fun (k : Nat) => (k : Int))
  | [] => rfl
  | k :: l => by
    have ih := fm_filter p l
    rw [List.filterMap_cons, List.filter_cons]
    by_cases h : p k = true
    · rw [if_pos h, if_pos h]
      simp only [ih]
      rfl
    · rw [if_neg h, if_neg h]
      exact ih
theorem lenD_keys (l : List Nat) : lenD (.list (di (l.map fun (k : Nat) => (k : Int)))) = some l.length := by
  show some (di (l.map fun (k : Nat) => (k : Int))).length = _
  simp
theorem ne_some (u v : Int) (x : D) : (!decide (u = v)) = (if decide (u ≠ v) = true then some x else none).isSome := by
  by_cases h : u = v
  · simp [h]
  · simp [h]
theorem keysD_comm {a b : List Int} (h : a.length = b.length) : keysD b a = keysD a b := by
  unfold keysD
  rw [h]
  refine List.filter_congr fun k _ => ?_
  simp [ne_comm]
theorem keysD_lt {a b : List Int} {k : Nat} (h : k ∈ keysD a b) : k < a.length := by
  unfold keysD at h
  exact List.mem_range.mp (List.mem_filter.mp h).1
section
variable {P : Program} {w : PySem.World} {K : PySem.W.Frag} {mg : Str → Option Value} {base : Heap} {θ : Th} {f : Addr} {fd : FuncData}
section
variable {δ : Dl} {m : Bool} {X : Cx} {ρ : Rho} {a b : Expr} {pos : Pos}
theorem je_mulS {i j : Int} (hc : CMul i j) (ha : JE θ δ m X ρ a (Is (.int i))) (hb : JE θ δ m X ρ b (Is (.int j))) : JE θ δ m X ρ (.BinOp a .Mult b pos) (Is (.int (i * j))) :=
  (je_mulP (N := fun k => k = i) (M := fun k => k = j) (fun i' j' hi hj => by rw [hi, hj]; exact hc) ha.ip hb.ip).mono fun d ⟨k, e1, i', j', e2, e3, e4⟩ => by rw [e1, e4, e2, e3]
end
theorem cmul2 (x : Int) : CMul 2 x := .inl ⟨by decide, by decide⟩
theorem least_mem : ∀ (xs : List Int) (x : Int), xs.foldl min x ∈ x :: xs ∧ ∀ y ∈ x :: xs, xs.foldl min x ≤ y
  | [], x => ⟨List.mem_cons_self, fun y hy => by rw [List.mem_singleton.mp hy]; exact Int.le_refl _⟩
  | z :: xs, x => by
    obtain ⟨h1, h2⟩ := least_mem xs (min x z)
    refine ⟨?_, fun y hy => ?_⟩
    · show xs.foldl min (min x z) ∈ _
      rcases List.mem_cons.mp h1 with h | h
      · rw [h]
        rcases Int.le_total x z with q | q
        · rw [Int.min_eq_left q]; exact List.mem_cons_self
        · rw [Int.min_eq_right q]; exact List.mem_cons_of_mem _ List.mem_cons_self
      · exact List.mem_cons_of_mem _ (List.mem_cons_of_mem _ h)
    · show xs.foldl min (min x z) ≤ y
      have h3 := h2 (min x z) List.mem_cons_self
      rcases List.mem_cons.mp hy with h | hy
      · rw [h]
        exact Int.le_trans h3 (Int.min_le_left _ _)
      · rcases List.mem_cons.mp hy with h | hy
        · rw [h]
          exact Int.le_trans h3 (Int.min_le_right _ _)
        · exact h2 y (List.mem_cons_of_mem _ hy)
theorem ok_needed (D0 : Df K mg "changes_needed" sNeeded ["budget", "one", "other"] f fd) (th : ThOk P K mg θ) (nb : Nb mg) (c1 : Cal P w K mg base 5 "budget_row" ["budget", "value", "at"] (spF θ preBR fBR)) (c2 : Cal P w K mg base 1 "parts_above" ["amount", "size"] (spF θ preParts fParts)) :
    Cal P w K mg base 6 "changes_needed" ["budget", "one", "other"] (spF θ (pre3 fun _ lo hi => (hi - lo).natAbs.log2 < 9000) (twoRows fun _ lo hi a b => neededOu lo hi a b)) := by
  refine calD (k := 5) D0 sc_needed (fun ds h => ?_) fun cdv A outer s H E hr δ ds hp => ?_
  · obtain ⟨caps, lo, hi, x, y, rfl, _⟩ := h
    rfl
  obtain ⟨caps, lo, hi, x, y, rfl, hz, hbits, hx, hy⟩ := hp
  have hK := th.eK
  have hu := Room_u65 hr
  obtain ⟨fI, cc, cda, T⟩ := th.rf
  have tk : Takes (cxOf (L2.CX P w) P w K mg base nNeeded "changes_needed" (defScope sNeeded) f cdv A outer s H E) (fun cls d _ H => E cls d H) := takes_of rfl rfl rfl rfl
  have two := two_rows (X := cxOf (L2.CX P w) P w K mg base nNeeded "changes_needed" (defScope sNeeded) f cdv A outer s H E) (E := E) (ρ := startR nNeeded [.bud caps lo hi, x, y]) (δ := δ) (m := false) (lo := lo) (hi := hi) (fun _ lo hi a b => neededOu lo hi a b) c1 hr (Nat.le_refl _) (passes_call tk fun _ _ _ _ h => h) hz hx hy
  refine js_asgX (act := Two 3 4) (jg_two hK.symm 3 4 sc_needed.nd) (jx_tup (jxa_cons (two.1 (je_var 0) (je_var 1)) (fun z => jxa_cons (two.2 z (je_var 0) (je_var 2)) fun _ => jxa_nil)) (fun ds ⟨d, r, e1, _, d2, r2, e2, _, e3⟩ => by rw [e1, e2, e3]; simp) (Φ := fun d => ∃ a b, rowOf caps lo hi x = some a ∧ rowOf caps lo hi y = some b ∧ d = .tup [dti a, dti b])
    (fun ds ⟨d, r, e1, ⟨a, ea, e5⟩, d2, r2, e2, ⟨b, eb, e6⟩, e3⟩ => ⟨a, b, ea, eb, by rw [e1, e2, e3, e5, e6]⟩)) (fun c n h => h.symm) (fun d ⟨a, b, _, _, e⟩ => ⟨_, _, _, e, rfl⟩) fun d ρ' hd hA => ?_
  obtain ⟨a, b, ea, eb, rfl⟩ := hd
  obtain ⟨_, _, ed, rfl⟩ := hA
  cases ed
  obtain ⟨la, sa1, sa2⟩ := rowOf_len ea
  obtain ⟨lb, sb1, sb2⟩ := rowOf_len eb
  have hab : a.length = b.length := by omega
  have eT : twoRows (fun _ lo hi a b => neededOu lo hi a b) [.bud caps lo hi, x, y] = neededOu lo hi a b := by
    unfold twoRows
    simp only [ea, eb]
  have eK : (rng caps.length).filterMap (fun d => if decide (a.getD (nOf d).toNat 0 ≠ b.getD (nOf d).toNat 0) = true then some d else none) = di ((keysD a b).map fun (k : Nat) => (k : Int)) := by
    rw [rng_filterMap, ← la]
    exact fm_filter _ _
  refine js_lc 5 sc_needed.nd [("key", 12)] (blk_by (by kernel_rfl)) (jl_filter 12 (fun d => if decide (a.getD (nOf d).toNat 0 ≠ b.getD (nOf d).toNat 0) = true then some d else none) (ji_rangeI nb.range (je_count th (je_var 0)) (by omega)) (fun _ _ _ _ _ => wr_name 12 sc_needed.nd) (by rw [rng_length]; omega)
    (fun d hd _ _ _ _ _ => ?_) fun d hd r hr' _ _ _ _ _ => ?_) (fun d e => ?_) (sw_true rfl rfl rfl (by decide +kernel))
  · obtain ⟨k, rfl, hk⟩ := mem_rng hd
    refine jf_one ((jt_ne (je_ixT (di_get (ns := a) (k := k) (by omega)) (je_var 3) (je_var 12)) (je_ixT (di_get (ns := b) (k := k) (by omega)) (je_var 4) (je_var 12))).to ?_)
    exact ne_some (a.getD k 0) (b.getD k 0) (D.int k)
  · have : r = d := by
      split at hr'
      · exact (Option.some.inj hr').symm
      · cases hr'
    subst this
    exact je_var 12
  subst e
  rw [eK]
  have hkl : (keysD a b).length ≤ caps.length := by
    rw [← la]
    unfold keysD
    exact Nat.le_trans (List.length_filter_le _ _) (by simp)
  refine js_ifRet (jt_gt (je_len (n := (keysD a b).length) hK.symm (lenD_keys _) nb.len (je_var 5)) je_int) (fun e => ?_) fun e => ?_
  · refine js_raise .refused T hr tk je_int ?_
    show Ou.exc .refused 0 = _
    rw [eT]
    unfold neededOu
    rw [if_pos (by have : (2 : Int) < ((keysD a b).length : Int) := by simpa using e.symm
                   omega)]
  have hk2 : ¬ 2 < (keysD a b).length := by
    have : ¬ (2 : Int) < ((keysD a b).length : Int) := by simpa using e.symm
    omega
  refine js_set (Φ := Is (.int (riseOf a b))) 6 sc_needed.nd (je_sumL (ns := (keysD a b).map fun k => max (b.getD k 0 - a.getD k 0) 0) nb.sum ((je_lc sc_needed.nd [("key", 12)] (blk_by (by kernel_rfl)) (jl_map 12 (fun d => .int (max (b.getD (nOf d).toNat 0 - a.getD (nOf d).toNat 0) 0)) (ji_list hK.symm (je_var 5)) (fun _ _ _ _ _ => wr_name 12 sc_needed.nd) (by simp; omega)
    fun d hd _ _ _ _ _ => ?_)).to ?_)) fun d e => ?_
  · obtain ⟨k, hk, rfl⟩ : ∃ k ∈ keysD a b, d = .int (k : Nat) := by
      obtain ⟨i, hi, rfl⟩ := List.mem_map.mp hd
      obtain ⟨k, hk, rfl⟩ := List.mem_map.mp hi
      exact ⟨k, hk, rfl⟩
    have := keysD_lt hk
    exact je_max nb.max (je_sub (je_ixT (di_get (ns := b) (k := k) (by omega)) (je_var 4) (je_var 12)) (je_ixT (di_get (ns := a) (k := k) (by omega)) (je_var 3) (je_var 12))) je_int
  · unfold dli di
    rw [List.map_map, List.map_map, List.map_map]
    rfl
  subst e
  refine js_set (Φ := Is (.int (riseOf b a))) 7 sc_needed.nd (je_sumL (ns := (keysD a b).map fun k => max (a.getD k 0 - b.getD k 0) 0) nb.sum ((je_lc sc_needed.nd [("key", 12)] (blk_by (by kernel_rfl)) (jl_map 12 (fun d => .int (max (a.getD (nOf d).toNat 0 - b.getD (nOf d).toNat 0) 0)) (ji_list hK.symm (je_var 5)) (fun _ _ _ _ _ => wr_name 12 sc_needed.nd) (by simp; omega)
    fun d hd _ _ _ _ _ => ?_)).to ?_) |>.to ?_) fun d e => ?_
  · obtain ⟨k, hk, rfl⟩ : ∃ k ∈ keysD a b, d = .int (k : Nat) := by
      obtain ⟨i, hi, rfl⟩ := List.mem_map.mp hd
      obtain ⟨k, hk, rfl⟩ := List.mem_map.mp hi
      exact ⟨k, hk, rfl⟩
    have := keysD_lt hk
    exact je_max nb.max (je_sub (je_ixT (di_get (ns := a) (k := k) (by omega)) (je_var 3) (je_var 12)) (je_ixT (di_get (ns := b) (k := k) (by omega)) (je_var 4) (je_var 12))) je_int
  · unfold dli di
    rw [List.map_map, List.map_map, List.map_map]
    rfl
  · unfold riseOf
    rw [keysD_comm hab]
  subst e
  refine js_ifRet (β := fun z => z = (decide ((((keysD a b).length : Nat) : Int) < 2) || (decide (riseOf a b = 0) || decide (riseOf b a = 0)))) (jt_pw (jw_orI (jt_lt (je_len (n := (keysD a b).length) hK.symm (lenD_keys _) nb.len (je_var 5)) je_int) fun _ => jw_orI (jt_eq (je_var 6) je_int) fun _ => jw_or1 (jt_eq (je_var 7) je_int))) (fun e => ?_) fun e => ?_
  · refine js_ret (je_len (n := (keysD a b).length) hK.symm (lenD_keys _) nb.len (je_var 5)) fun d e' => ?_
    show Ou.ret d = _
    rw [eT, e']
    unfold neededOu neededD
    rw [if_neg hk2, if_pos]
    have := e.symm
    simp only [Bool.or_eq_true, decide_eq_true_eq] at this
    rcases this with h | h | h
    · exact .inl (by omega)
    · exact .inr (.inl h)
    · exact .inr (.inr h)
  have hn : ¬ ((keysD a b).length < 2 ∨ riseOf a b = 0 ∨ riseOf b a = 0) := fun z => by
    have q : (decide ((((keysD a b).length : Nat) : Int) < 2) || (decide (riseOf a b = 0) || decide (riseOf b a = 0))) = true := by
      simp only [Bool.or_eq_true, decide_eq_true_eq]
      rcases z with h | h | h
      · exact .inl (by omega)
      · exact .inr (.inl h)
      · exact .inr (.inr h)
    rw [q] at e
    cases e
  have eN : neededOu lo hi a b = .ret (leastD (countUp lo hi a.sum (riseOf a b) (riseOf b a) ++ countDn lo hi a.sum (riseOf a b) (riseOf b a))) := by
    unfold neededOu neededD
    rw [if_neg hk2, if_neg hn]
  refine js_parOwn 8 9 sc_needed.nd (je_sub (je_high th (je_var 0)) (je_low th (je_var 0))) jeo_nil (fun _ => rfl) fun d ds hd hds => ?_
  subst hd hds
  refine js_par 10 11 sc_needed.nd (je_sub (je_high th (je_var 0)) (je_sumT nb.sum (je_var 3))) (je_sub (je_sumT nb.sum (je_var 3)) (je_low th (je_var 0))) fun d d' hd hd' => ?_
  subst hd hd'
  have parts : ∀ (z : Int), 0 < hi - lo → preParts [.int z, .int (hi - lo)] := fun z hp => ⟨z, hi - lo, rfl, hp, hbits⟩
  refine js_if (Mid := fun ρ => ρ = [some (.dat (.bud caps lo hi)), some (.dat x), some (.dat y), some (.dat (dti a)), some (.dat (dti b)), some (.dat (.list (di ((keysD a b).map fun (k : Nat) => (k : Int))))), some (.dat (.int (riseOf a b))), some (.dat (.int (riseOf b a))), some (.dat (.int (hi - lo))), some (.own (di (countUp lo hi a.sum (riseOf a b) (riseOf b a)))), some (.dat (.int (hi - a.sum))), some (.dat (.int (a.sum - lo))), none]) (jt_gt (je_var 10) je_int) (fun e => ?_) (fun e => ?_) fun ρ' hρ => ?_
  · have hpos : 0 < hi - a.sum := by simpa using e.symm
    have hsl : 0 < hi - lo := by omega
    refine js_append 9 rfl rfl (Nat.zero_le _) (je_min nb.min (je_mulS (cmul2 _) je_int (je_add je_int (je_callI c2 hr (by decide) (ja_1 (je_sub (je_var 6) (je_var 10)) (ja_1 (je_var 8) ja_nil)) (parts _ hsl) fun o e => e))) (je_add (je_mulS (cmul2 _) je_int (je_callI c2 hr (by decide) (ja_1 (je_var 7) (ja_1 (je_var 8) ja_nil)) (parts _ hsl) fun o e => e)) je_int)) fun d e => ?_
    subst e
    refine js_nil ?_
    unfold countUp
    rw [if_pos hpos]
    rfl
  · have hpos : ¬ 0 < hi - a.sum := by simpa using e.symm
    refine js_nil ?_
    unfold countUp
    rw [if_neg hpos]
    rfl
  subst hρ
  refine js_if (Mid := fun ρ => ρ = [some (.dat (.bud caps lo hi)), some (.dat x), some (.dat y), some (.dat (dti a)), some (.dat (dti b)), some (.dat (.list (di ((keysD a b).map fun (k : Nat) => (k : Int))))), some (.dat (.int (riseOf a b))), some (.dat (.int (riseOf b a))), some (.dat (.int (hi - lo))), some (.own (di (countUp lo hi a.sum (riseOf a b) (riseOf b a) ++ countDn lo hi a.sum (riseOf a b) (riseOf b a)))), some (.dat (.int (hi - a.sum))), some (.dat (.int (a.sum - lo))), none]) (jt_gt (je_var 11) je_int) (fun e => ?_) (fun e => ?_) fun ρ' hρ => ?_
  · have hpos : 0 < a.sum - lo := by simpa using e.symm
    have hsl : 0 < hi - lo := by omega
    refine js_append 9 rfl rfl (by unfold countUp; split <;> simp) (je_min nb.min (je_mulS (cmul2 _) je_int (je_add je_int (je_callI c2 hr (by decide) (ja_1 (je_sub (je_var 7) (je_var 11)) (ja_1 (je_var 8) ja_nil)) (parts _ hsl) fun o e => e))) (je_add (je_mulS (cmul2 _) je_int (je_callI c2 hr (by decide) (ja_1 (je_var 6) (ja_1 (je_var 8) ja_nil)) (parts _ hsl) fun o e => e)) je_int)) fun d e => ?_
    subst e
    refine js_nil ?_
    have e2 : countDn lo hi a.sum (riseOf a b) (riseOf b a) = [min (2 * (1 + partsOf (riseOf b a - (a.sum - lo)) (hi - lo))) (2 * partsOf (riseOf a b) (hi - lo) + 1)] := if_pos hpos
    rw [e2]
    unfold di
    rw [List.map_append]
    rfl
  · have hpos : ¬ 0 < a.sum - lo := by simpa using e.symm
    refine js_nil ?_
    have e2 : countDn lo hi a.sum (riseOf a b) (riseOf b a) = [] := if_neg hpos
    rw [e2, List.append_nil]
  subst hρ
  refine js_freeze 9 rfl ?_
  generalize hC : countUp lo hi a.sum (riseOf a b) (riseOf b a) ++ countDn lo hi a.sum (riseOf a b) (riseOf b a) = cs at eN
  refine js_ret (Φ := Is (leastD cs)) (je_if (jt_cmp (op_neD (u64 hu)) (nomark _) (je_var 9) (je_lst ja_nil) (od_neD hK.symm (ok_dli cs) (ok_dli []) (eqv_nilL _)).bp) (fun e => ?_) fun e => ?_) fun d e => by rw [e]; exact (eT.trans eN).symm
  · cases cs with
    | nil => simp at e
    | cons c cs =>
      obtain ⟨h1, h2⟩ := least_mem cs c
      exact je_minL h1 h2 hK.symm nb.min (je_var 9)
  · cases cs with
    | nil => exact je_non
    | cons c cs => simp at e
end
end B
set_option Elab.async false
set_option autoImplicit false
set_option linter.all false
set_option maxRecDepth 100000
set_option maxHeartbeats 4000000
namespace B
open PySem PySem.Spec PyProof.Rows L2
/-! ### Budget.__init__ -/
/-- the object at x is being made: from G, H to G', H', its fields fs -/
structure Mkg (θ : Th) (x : Addr) (G H G' H' : Hp) (fs : List (Str × V)) : Prop where
  gg : Same G G'
  gx : G' x = none
  nw : ∀ b, G' b ≠ none → G b ≠ none ∨ H b = none
  nt : ∀ b ps, G' b = some (.tbl ps) → G b = some (.tbl ps)
  fr : ∀ b o, b ≠ x → H b = some o → H' b = some o
  gh : Same G' H'
  dm : ∀ b, H b ≠ none → H' b ≠ none
  at_ : ∃ dx, H' x = some (.ins θ.C dx fs)
section
variable {θ : Th} {δ : Dl} {X : Cx} {E : XK} {ρ : Rho} {G H G' H' G1 H1 : Hp} {x : Addr} {fs : List (Str × V)} {σ : L2.St} {Φ : D → Prop}
theorem Mkg.pre (k : Mkg θ x G H G' H' fs) (nt : ∀ a ps, G a ≠ some (.tbl ps)) : Pre θ δ false G' H' := ⟨k.gh, fun a ps h => nt a ps (k.nt a ps h), fun z => by cases z⟩
theorem Mkg.go (k : Mkg θ x G H G' H' fs) (p : Post θ δ false G' H' G1 H1) : Mkg θ x G H G1 H1 fs := by
  obtain ⟨dx, hx⟩ := k.at_
  refine ⟨k.gg.trans p.gg, ?_, fun b hb => ?_, fun b ps hb => k.nt b ps (p.nt b ps hb), fun b o hb h => p.fr b o (k.fr b o hb h) (fun z => Bool.noConfusion z), p.gh, fun b h => p.dm b (k.dm b h), dx, p.fr x _ hx (fun z => Bool.noConfusion z)⟩
  · cases e : G1 x with
    | none => rfl
    | some o =>
      rcases p.nw x (by rw [e]; simp) with z | z
      · exact absurd k.gx z
      · rw [hx] at z; cases z
  · rcases p.nw b hb with z | z
    · exact k.nw b z
    · refine .inr ?_
      cases e : H b with
      | none => rfl
      | some o => exact absurd z (k.dm b (by rw [e]; simp))
theorem Mkg.put (k : Mkg θ x G H G' H' fs) {fs' : List (Str × V)} {dx : Addr} : Mkg θ x G H G' (upd H' x (.ins θ.C dx fs')) fs' := by
  refine ⟨k.gg, k.gx, k.nw, k.nt, fun b o hb h => ?_, fun b u h => ?_, fun b h => ?_, dx, upd_same⟩
  · rw [upd_ne hb]
    exact k.fr b o hb h
  · rw [upd_ne (ne_of_none h k.gx)]
    exact k.gh b u h
  · by_cases e : b = x
    · rw [e, upd_same]; simp
    · rw [upd_ne e]
      exact k.dm b h
theorem RS.free (rs : RS θ δ false G H σ ρ) (hn : noOwn ρ = true) {H' : Hp} (gg : Same G G') : RS θ δ false G' H' σ ρ :=
  ⟨rs.len, fun i d h => let ⟨v, h1, h2⟩ := rs.dat i d h; ⟨v, h1, h2.mono gg⟩, fun i ds h => absurd h (noOwn_none hn), fun i j a b h _ => absurd h (noOwn_none hn)⟩
/-- self.f = e -/
theorem fld_store {f x0 : Str} {px p1 pos : Pos} {e : Expr} {D0 : Ends} (hC : Cls X.K θ.C) (hn : NoAttr X.K θ.C f) (rs : RS θ δ false G' H' σ ρ) (ho : noOwn ρ = true) (nt : ∀ a ps, G a ≠ some (.tbl ps)) (k : Mkg θ x G H G' H' fs) (hl : fs.length < 1000) (h0 : ρ[0]? = some (some (.dat (.self x)))) (h : JE θ δ false X ρ e Φ)
    (hnx : ∀ v d G1 H1, Φ d → R θ δ G1 v d → Same G' G1 → Mkg θ x G H G1 H1 (putF f v fs) → D0.nx σ H1) (hN : X.N[0]? = some x0) (hv : Vis X.env.scope x0) (hd : (x0 == ("__debug__" : Str)) = false) (hcd : (x0 == ("__classdict__" : Str)) = false)
    (hs : swapsWith e (some (.Attribute (.Name x0 px) f p1)) pos.line X.env = pure false) : bS1 X (.Assign [.Attribute (.Name x0 px) f p1] e pos) D0 σ H' := by
  refine ⟨_, ps_fld (pe_var hN hv hd hcd) (pe_b X e) hs, h σ G' H' rs (k.pre nt) _ fun v d G1 H1 po fd rv => ?_⟩
  obtain ⟨u, e1, ru⟩ := rs.dat 0 _ h0
  cases ru
  have k1 := k.go po
  obtain ⟨dx, hx⟩ := k1.at_
  exact ⟨_, e1, x, θ.C, dx, fs, rfl, hx, hC, hn, hl, hnx v d G1 _ fd rv po.gg k1.put⟩
/-- an if that does not hold -/
theorem raw_if {c : Expr} {p1 rest : List Stmt} {pos : Pos} {D0 : Ends} {β : Bool → Prop} (rs : RS θ δ false G' H' σ ρ) (nt : ∀ a ps, G a ≠ some (.tbl ps)) (k : Mkg θ x G H G' H' fs) (hc : JT θ δ false X ρ c β) (hf : ∀ b, β b → b = false)
    (hr : ∀ G1 H1, Same G' G1 → Mkg θ x G H G1 H1 fs → bS X rest D0 σ H1) : bS X (.If c p1 [] pos :: rest) D0 σ H' :=
  ⟨_, pss_cons (ps_if (pt_b X c) (pss_b X p1) (pss_b X [])) (pss_b X rest), hc σ G' H' rs (k.pre nt) _ fun b G1 H1 po f => by
    rw [hf b f]
    exact iteF ⟨_, pss_nil, hr G1 H1 po.gg (k.go po)⟩⟩
end
theorem lenD_dli (ns : List Int) : lenD (dli ns) = some ns.length := by simp [lenD]
def preI (caps : List Int) (lo hi : Int) : Prop := (∀ c ∈ caps, 0 ≤ c) ∧ caps ≠ [] ∧ caps.length ≤ 1000 ∧ 0 ≤ lo ∧ lo ≤ hi ∧ lo ≤ caps.sum
section
variable {P : Program} {w : PySem.World} {K : PySem.W.Frag} {mg : Str → Option Value} {base : Heap} {θ : Th} {f : Addr} {fd : FuncData}
theorem ok_init (F : L2.Fun K "__init__" "Budget.__init__" sInit f fd) (M : Mk K θ.C f) (hb : L2.Binds K fd ["self", "caps", "low", "high"] []) (th : ThOk P K mg θ) (nb : Nb mg) (c1 : Cal P w K mg base 1 "is_sequence" ["value"] (spF θ preV (v1 isSeqD))) (c2 : Cal P w K mg base 2 "is_number" ["value"] (spF θ preV (v1 isNumD))) :
    CalI P w K mg base 3 θ preI := by
  refine ⟨f, fd, F.okX (k := 2) sc_init (fun vs H Q E h => ?_) (fun cdv A outer s H vs Q E hr h => ?_), M, hb⟩
  · obtain ⟨_, _, _, _, _, _, _, _, _, _, rfl, _⟩ := h
    rfl
  obtain ⟨δ, G, x, dx, v1', v2, v3, caps, lo, hi, rfl, p, r1, r2, r3, ⟨hc, hne, hz, hlo, hlh, hls⟩, hx, gx, fin⟩ := h
  have hK := th.eK
  have e1 : δ.d = (Dl.mk δ.d δ.d0 G H).d := rfl
  have e2 : δ.d0 = (Dl.mk δ.d δ.d0 G H).d0 := rfl
  have ra : RA θ (Dl.mk δ.d δ.d0 G H) G [.ref x, v1', v2, v3] [.self x, dli caps, .int lo, .int hi] := .cons (.self x) (.cons (r1.base e1) (.cons (r2.base e1) (.cons (r3.base e1) .nil)))
  generalize hδ : Dl.mk δ.d δ.d0 G H = δ1 at ra
  have p1 : Pre θ δ1 false G H := by rw [← hδ]; exact p.base e1 e2
  have hg1 : δ1.g = G := by rw [← hδ]
  have hb1 : δ1.b = H := by rw [← hδ]
  clear hg1 hb1
  have rs0 : RS θ δ1 false G H (L2.start nInit [.ref x, v1', v2, v3]) (startR nInit [.self x, dli caps, .int lo, .int hi]) := rs_start ra
  have nt0 := p.nt
  have k0 : Mkg θ x G H G H [] := ⟨Same.refl _, gx, fun b h => .inl h, fun b ps h => h, fun b o _ h => h, p.gh, fun b h => h, dx, hx⟩
  have ho : noOwn (startR nInit [.self x, dli caps, .int lo, .int hi]) = true := rfl
  have eA : (rng 0) = [] := rfl
  have cap : ∀ d ∈ di caps, ∃ c : Int, d = .int c ∧ 0 ≤ c := fun d hd => by
    obtain ⟨c, h1, rfl⟩ := List.mem_map.mp hd
    exact ⟨c, rfl, hc c h1⟩
  have hall : ((di caps).map fun d => D.bl (isNumD d)) = (caps.map fun _ => true).map D.bl := by
    unfold di
    rw [List.map_map, List.map_map]
    refine List.map_congr_left fun c h => ?_
    show D.bl (decide (0 ≤ c)) = .bl true
    rw [decide_eq_true (hc c h)]
  have hlen : caps.length ≠ 0 := fun z => hne (List.length_eq_zero_iff.mp z)
  refine raw_if (δ := δ1) (β := fun b => b = (!true || (decide (((caps.length : Nat) : Int) = 0) || !(caps.map fun _ => true).all id))) rs0 nt0 k0 (jt_pw (jw_orI (jt_notI (jt_valI (je_callI c1 hr (by decide) (ja_1 (je_var 1) ja_nil) ⟨dli caps, rfl, _, rfl⟩ fun o e => e))) fun _ => jw_orI (jt_eq (je_len hK.symm (lenD_dli caps) nb.len (je_var 1)) je_int) fun _ => jw_or1 (jt_notI (jt_valI (je_callB (cr_all rfl) nb.all (ja_1 ((je_lc sc_init.nd [("cap", 4)] (blk_by (by kernel_rfl)) (jl_map 4 (fun d => .bl (isNumD d)) (ji_list hK.symm (je_var 1)) (fun _ _ _ _ _ => wr_name 4 sc_init.nd) (by simp; omega)
    fun d hd _ _ _ _ _ => ?_)).to (congrArg D.list hall)) ja_nil) ca_all))))) (fun b e => ?_) fun G1 H1 g1 k1 => ?_
  · obtain ⟨c, rfl, _⟩ := cap d hd
    exact je_callI c2 hr (by decide) (ja_1 (je_var 4) ja_nil) ⟨.int c, rfl, _, rfl⟩ fun o e => e
  · rw [e]
    have : decide (((caps.length : Nat) : Int) = 0) = false := decide_eq_false (by omega)
    rw [this]
    simp
  have rs1 := rs0.free ho (H' := H1) g1
  refine raw_if (δ := δ1) rs1 nt0 k1 (jt_notI (jt_valI (je_callI c2 hr (by decide) (ja_1 (je_var 2) ja_nil) ⟨.int lo, rfl, _, rfl⟩ fun o e => e))) (fun b e => by rw [e]; show (!decide (0 ≤ lo)) = false; simp [hlo]) fun G2 H2 g2 k2 => ?_
  have rs2 := rs1.free ho (H' := H2) g2
  have hhi : 0 ≤ hi := by omega
  refine raw_if (δ := δ1) rs2 nt0 k2 (jt_notI (jt_valI (je_callI c2 hr (by decide) (ja_1 (je_var 3) ja_nil) ⟨.int hi, rfl, _, rfl⟩ fun o e => e))) (fun b e => by rw [e]; show (!decide (0 ≤ hi)) = false; simp [hhi]) fun G3 H3 g3 k3 => ?_
  have rs3 := rs2.free ho (H' := H3) g3
  refine raw_if (δ := δ1) rs3 nt0 k3 (jt_pw (jw_orI (jt_gt (je_var 2) (je_var 3)) fun _ => jw_or1 (jt_gt (je_var 2) (je_sumL nb.sum (je_var 1))))) (fun b e => by rw [e, decide_eq_false (by omega), decide_eq_false (by omega)]; rfl) fun G4 H4 g4 k4 => ?_
  have rs4 := rs3.free ho (H' := H4) g4
  refine ⟨_, pss_cons (ps_b _ _) (pss_b _ _), fld_store (δ := δ1) th.C th.key_count rs4 ho nt0 k4 (by decide) rfl (je_len hK.symm (lenD_dli caps) nb.len (je_var 1)) (fun v d G5 H5 hd rv g5 k5 => ?_) rfl (Or.inl rfl) (by decide) (by decide) rfl⟩
  subst hd
  cases rv
  have rs5 := rs4.free ho (H' := H5) g5
  refine ⟨_, pss_cons (ps_b _ _) (pss_b _ _), fld_store (δ := δ1) th.C th.caps rs5 ho nt0 k5 (show 1 < 1000 by decide) rfl (je_callTy call_tuple_of nb.tuple (ja_1 (je_var 1) ja_nil) (ca_tuple (ds := di caps) rfl)) (fun v d G6 H6 hd rv g6 k6 => ?_) rfl (Or.inl rfl) (by decide) (by decide) rfl⟩
  subst hd
  obtain ⟨t, rfl, ht⟩ : ∃ t, v = .ref t ∧ G6 t = some (.tup (caps.map V.int)) := by
    cases rv with
    | tup hs ra => rw [ra.int] at hs; exact ⟨_, rfl, hs⟩
  have rs6 := rs5.free ho (H' := H6) g6
  refine ⟨_, pss_cons (ps_b _ _) (pss_b _ _), fld_store (δ := δ1) th.C th.low rs6 ho nt0 k6 (show 2 < 1000 by decide) rfl (je_var 2) (fun v d G7 H7 hd rv g7 k7 => ?_) rfl (Or.inl rfl) (by decide) (by decide) rfl⟩
  subst hd
  cases rv
  have rs7 := rs6.free ho (H' := H7) g7
  refine ⟨_, pss_cons (ps_b _ _) (pss_b _ _), fld_store (δ := δ1) th.C th.high rs7 ho nt0 k7 (show 3 < 1000 by decide) rfl (je_min nb.min (je_var 3) (je_sumL nb.sum (je_var 1))) (fun v d G8 H8 hd rv g8 k8 => ?_) rfl (Or.inl rfl) (by decide) (by decide) rfl⟩
  subst hd
  cases rv
  obtain ⟨dx', h8⟩ := k8.at_
  refine ⟨_, pss_nil, fin G8 H8 dx' t _ k8.gg k8.gx k8.nw k8.nt k8.fr (fun b o hb h => k8.gh b o h) h8 rfl rfl (g8 _ _ (g7 _ _ ht)) rfl rfl⟩
end
end B
set_option Elab.async false
set_option autoImplicit false
set_option linter.all false
set_option maxRecDepth 100000
set_option maxHeartbeats 4000000
namespace B
open PySem PySem.Spec PyProof.Rows L2
/-! ### draws -/
/-- the source of draws stands so -/
structure DS (θ : Th) (δ : Dl) (G H : Hp) (cs : List Int) (bl : Int) : Prop where
  po : Post θ δ true δ.g δ.b G H
  nt : ∀ a ps, G a ≠ some (.tbl ps)
  dl : H δ.d = some (.lst [.ref δ.d0, .int bl])
  d0 : H δ.d0 = some (.lst (cs.map V.int))
  nn : ∀ c ∈ cs, 0 ≤ c
  le : cs.length ≤ 100
  b0 : 0 ≤ bl
  b1 : bl < 2147483647
section
variable {θ : Th} {δ : Dl} {G H : Hp} {cs cs' : List Int} {bl bl' : Int}
theorem ds_of (po : Post θ δ true δ.g δ.b G H) (p : Pre θ δ true G H) : ∃ cs bl, DS θ δ G H cs bl := by
  have w := p.wd rfl
  obtain ⟨bl, h1, h2, h3⟩ := w.dl
  obtain ⟨cs, h4, h5, h6⟩ := w.d0
  exact ⟨cs, bl, po, p.nt, h1, h4, h5, h6, h2, h3⟩
theorem Post.mut {G0 H0 : Hp} (p : Post θ δ true G0 H0 G H) {a : Addr} {xs : List V} (ha : Mut θ δ a) (hd : H a ≠ none) (w : Wld θ δ G (upd H a (.lst xs))) : Post θ δ true G0 H0 G (upd H a (.lst xs)) := by
  have hg := (p.wd rfl).gn a ha
  refine ⟨p.gg, fun b u e => ?_, p.nw, p.nt, fun b o e k => ?_, fun b h => ?_, fun _ => w⟩
  · rw [upd_ne (ne_of_none e hg)]
    exact p.gh b u e
  · have : b ≠ a := fun z => k rfl (z ▸ ha)
    rw [upd_ne this]
    exact p.fr b o e k
  · by_cases e : b = a
    · rw [e, upd_same]; simp
    · rw [upd_ne e]
      exact p.dm b h
theorem tabs_upd {a : Addr} {xs ys : List V} {T : List (Addr × Str)} (t : TabsG T G H) (hn : ∀ p ∈ T, p.1 ≠ a) (ha : H a = some (.lst xs)) : TabsG T G (upd H a (.lst ys)) := fun p hp => by
  obtain ⟨ps, e1, e2, e3⟩ := t p hp
  refine ⟨ps, by rw [upd_ne (hn p hp)]; exact e1, e2, e3⟩
theorem DS.set0 (s : DS θ δ G H cs bl) (h : ∀ c ∈ cs', 0 ≤ c) (hl : cs'.length ≤ 100) : DS θ δ G (upd H δ.d0 (.lst (cs'.map V.int))) cs' bl := by
  have w := s.po.wd rfl
  have e1 : (upd H δ.d0 (.lst (cs'.map V.int))) δ.d = some (.lst [.ref δ.d0, .int bl]) := by rw [upd_ne w.ne]; exact s.dl
  refine ⟨s.po.mut (.inr (.inl rfl)) (by rw [s.d0]; simp) ⟨w.ne, ⟨bl, e1, s.b0, s.b1⟩, ⟨cs', upd_same, h, hl⟩, tabs_upd w.tb (fun p hp => (w.tm p hp).2) s.d0, w.tm, w.gn⟩, s.nt, e1, upd_same, h, hl, s.b0, s.b1⟩
theorem DS.set1 (s : DS θ δ G H cs bl) (h0 : 0 ≤ bl') (h1 : bl' < 2147483647) : DS θ δ G (upd H δ.d (.lst [.ref δ.d0, .int bl'])) cs bl' := by
  have w := s.po.wd rfl
  have e1 : (upd H δ.d (.lst [.ref δ.d0, .int bl'])) δ.d0 = some (.lst (cs.map V.int)) := by rw [upd_ne (Ne.symm w.ne)]; exact s.d0
  refine ⟨s.po.mut (.inl rfl) (by rw [s.dl]; simp) ⟨w.ne, ⟨bl', upd_same, h0, h1⟩, ⟨cs, e1, s.nn, s.le⟩, tabs_upd w.tb (fun p hp => (w.tm p hp).1) s.dl, w.tm, w.gn⟩, s.nt, upd_same, e1, s.nn, s.le, h0, h1⟩
theorem DS.pre (s : DS θ δ G H cs bl) : Pre θ δ true G H := ⟨s.po.gh, s.nt, s.po.wd⟩
theorem DS.new (s : DS θ δ G H cs bl) {l : Addr} {o : HO} (h : H l = none) : DS θ δ G (upd H l o) cs bl := by
  have e := Same.upd (o := o) h
  exact ⟨s.po.trans (.same s.pre e), s.nt, e _ _ s.dl, e _ _ s.d0, s.nn, s.le, s.b0, s.b1⟩
theorem dpAll_ints {K : PySem.W.Frag} (cs : List Int) : DpAll K H (cs.map V.int) (cs.map PyData.int) := by
  induction cs with
  | nil => exact .nil
  | cons c cs ih => exact .cons (.int c) ih
theorem DS.dp (s : DS θ δ G H cs bl) {K : PySem.W.Frag} : Dp K H (.ref δ.d0) (.list (cs.map PyData.int)) := .lst (SqL.of s.d0) (dpAll_ints cs)
end
theorem shaped_ints (cs : List Int) : SeqAt.shaped (.list (cs.map PyData.int)) = true := by
  have := (ok_dli cs).2
  rw [py_dli] at this
  exact this
theorem eqv_nil (cs : List Int) : PyData.eqv (.list (cs.map PyData.int)) (.list []) = cs.isEmpty := by
  cases cs <;> simp [PyData.eqv, PyData.eqvAll]
section
variable {X : Cx} {θ : Th} {δ : Dl} {G H : Hp} {cs : List Int} {bl : Int} {σ : L2.St} {x : Str} {px p1 pos : Pos} {j : Nat}
/-- deal[0], deal[1] -/
theorem pe_deal (i : Nat) (hN : X.N[i]? = some x) (hv : Vis X.env.scope x) (hd : (x == ("__debug__" : Str)) = false) (hcd : (x == ("__classdict__" : Str)) = false) {k : Int} (hp : PlainIx (.Constant (.int k) j p1)) : PE X (.Subscript (.Name x px) (.Constant (.int k) j p1) pos) (tOp (rIxL X.K) (tVar i) (tC (.int k))) :=
  pe_ix ix_list (pe_var (i := i) hN hv hd hcd) pe_int hp
theorem deal0 (s : DS θ δ G H cs bl) {i : Nat} (hσ : σ[i]? = some (some (.ref δ.d))) {Q : VK} (q : Q (.ref δ.d0) H) : tOp (rIxL X.K) (tVar i) (tC (.int 0)) σ H Q :=
  ⟨_, hσ, _, _, 0, _, rfl, rfl, SqL.of s.dl, rfl, q⟩
theorem deal1 (s : DS θ δ G H cs bl) {i : Nat} (hσ : σ[i]? = some (some (.ref δ.d))) {Q : VK} (q : Q (.int bl) H) : tOp (rIxL X.K) (tVar i) (tC (.int 1)) σ H Q :=
  ⟨_, hσ, _, _, 1, _, rfl, rfl, SqL.of s.dl, rfl, q⟩
end
theorem lpos {α : Type} : ∀ {l : List α}, l ≠ [] → 0 < l.length
  | [], h => absurd rfl h
  | _ :: _, _ => Nat.succ_pos _
def preAny (ds : List D) : Prop := ∃ b : Int, ds = [.deal, .int b] ∧ 0 < b ∧ b.natAbs.log2 < 9000
def postAny (ds : List D) (o : Ou) : Prop := ∃ b r : Int, ds = [.deal, .int b] ∧ 0 ≤ r ∧ r < b ∧ o = .ret (.int r)
abbrev sAny : Stmt := top 23
abbrev nAny : List Str := ["_law_deal", "_law_bound", "_law_rest"]
theorem sc_any : FnScope nAny ["_law_deal", "_law_bound"] (defScope sAny) := ⟨rfl, rfl, rfl, by decide +kernel, rfl, by decide +kernel, by decide +kernel⟩
section
variable {P : Program} {w : PySem.World} {K : PySem.W.Frag} {mg : Str → Option Value} {base : Heap} {θ : Th} {f : Addr} {fd : FuncData}
theorem ok_any (D0 : Df K mg "_law_any" sAny ["_law_deal", "_law_bound"] f fd) (th : ThOk P K mg θ) (nb : Nb mg) : Cal P w K mg base 1 "_law_any" ["_law_deal", "_law_bound"] (spD θ true preAny postAny) := by
  refine calD (k := 0) D0 sc_any (fun ds h => ?_) fun cdv A outer s H E hr δ ds hp => ?_
  · obtain ⟨b, rfl, _⟩ := h
    rfl
  obtain ⟨b, rfl, hb, hbits⟩ := hp
  have hu := Room_u65 hr
  intro G0 H0 σ G H1 st D1 q
  obtain ⟨v0, e0, r0⟩ := st.rs.dat 0 .deal rfl
  cases r0
  obtain ⟨v1', e1, r1⟩ := st.rs.dat 1 (.int b) rfl
  cases r1
  obtain ⟨cs, bl, d1⟩ := ds_of st.post st.pre
  have ret : ∀ (r : Int) {H2 : Hp} {cs2 : List Int} {bl2 : Int}, DS θ δ G H2 cs2 bl2 → 0 ≤ r → r < b → D1.rt (.int r) H2 := fun r H2 cs2 bl2 d2 h1 h2 => q.rt (.int r) (.int r) G H2 ⟨b, r, rfl, h1, h2, rfl⟩ d2.po (.int r)
  have ne0 : ∀ {H2 : Hp} {cs2 : List Int} {bl2 : Int} {Q : VK}, DS θ δ G H2 cs2 bl2 → (∀ H3, DS θ δ G H3 cs2 bl2 → Q (.bl (!cs2.isEmpty)) H3) → tOp (rNeD K) (tOp (rIxL K) (tVar 0) (tC (.int 0))) (tLst tNil) σ H2 Q := fun {H2 cs2 bl2 Q} d2 k => by
    refine deal0 (X := cxOf (L2.CX P w) P w K mg base nAny "_law_any" (defScope sAny) f cdv A outer s H E) d2 e0 ⟨by show 0 ≤ sizeLine; exact Nat.zero_le _, fun l hl => ?_⟩
    refine ⟨_, _, (d2.new hl).dp, .lst (SqL.of upd_same) .nil, shaped_ints _, by decide, ?_⟩
    rw [eqv_nil]
    exact k _ (d2.new hl)
  have pop : ∀ {H2 : Hp} {cs2 : List Int} {bl2 : Int} {Q : VK}, DS θ δ G H2 cs2 bl2 → cs2 ≠ [] → (∀ H3, DS θ δ G H3 cs2.dropLast bl2 → ∀ y, 0 ≤ y → Q (.int y) H3) → tBM0 K "list" rPop (tOp (rIxL K) (tVar 0) (tC (.int 0))) σ H2 Q := fun {H2 cs2 bl2 Q} d2 hne k => by
    refine deal0 (X := cxOf (L2.CX P w) P w K mg base nAny "_law_any" (defScope sAny) f cdv A outer s H E) d2 e0 ⟨.inl ⟨rfl, _, SqL.of d2.d0⟩, ?_⟩
    have hl : cs2.length - 1 < cs2.length := Nat.sub_lt (lpos hne) Nat.one_pos
    refine ⟨_, _, .int (cs2[cs2.length - 1]), rfl, rfl, d2.d0, ?_, ?_⟩
    · rw [List.length_map, List.getElem?_map, List.getElem?_eq_getElem hl]
      rfl
    · rw [← List.map_dropLast]
      exact k _ (d2.set0 (fun c hc => d2.nn c (List.dropLast_subset _ hc)) (by rw [List.length_dropLast]; have := d2.le; omega)) _ (d2.nn _ (List.getElem_mem hl))
  -- behind the loop
  have after : ∀ {H2 : Hp} {cs2 : List Int} {bl2 : Int}, DS θ δ G H2 cs2 bl2 → bS (cxOf (L2.CX P w) P w K mg base nAny "_law_any" (defScope sAny) f cdv A outer s H E) ((defBody sAny).drop 1) D1 σ H2 := fun {H2 cs2 bl2} d2 => by
    refine ⟨_, (pss_cons (ps_if (pt_cmpR (op_neD (u64 hu)) (pe_deal 0 rfl (Or.inl rfl) (by decide) (by decide) (by exact fun _ _ => rfl)) (pe_lst pa_nil) (nomark _))
      (pss_cons (ps_set (i := 2) sc_any.nd rfl (Or.inl rfl) (pe_callTy call_int1 rfl nb.int (by decide +kernel) (pa_cons (pe_bm0 PySem.F.plainAttrs_list PySem.F.slot_list_pop PySem.F.type_list_pop mt_pop (pe_deal 0 rfl (Or.inl rfl) (by decide) (by decide) (by exact fun _ _ => rfl))) pa_nil)) rfl (.inl rfl))
        (pss_cons (ps_expr (pe_bm PySem.F.plainAttrs_list PySem.F.slot_list_append PySem.F.type_list_append mt_append (pe_deal 0 rfl (Or.inl rfl) (by decide) (by decide) (by exact fun _ _ => rfl)) (pa_cons (pe_op op_fdivW (pe_var (i := 2) rfl (Or.inl rfl)) (pe_var (i := 1) rfl (Or.inl rfl))) pa_nil)))
          (pss_cons (ps_ret (pe_op op_mod (pe_var (i := 2) rfl (Or.inl rfl)) (pe_var (i := 1) rfl (Or.inl rfl)))) pss_nil))) pss_nil)
      (pss_cons (ps_asg (pe_op op_mod (pe_callTy call_int1 rfl nb.int (by decide +kernel) (pa_cons (pe_op op_add (pe_op op_mul (pe_deal 0 rfl (Or.inl rfl) (by decide) (by decide) (by exact fun _ _ => rfl)) pe_int) pe_int) pa_nil)) pe_int) (pg_sub (pe_var (i := 0) rfl (Or.inl rfl)) pe_int set_list))
        (pss_cons (ps_ret (pe_op op_mod (pe_callTy call_int1 rfl nb.int (by decide +kernel) (pa_cons (pe_op op_fdivW (pe_deal 0 rfl (Or.inl rfl) (by decide) (by decide) (by exact fun _ _ => rfl)) pe_int) pa_nil)) (pe_var (i := 1) rfl (Or.inl rfl)))) pss_nil))), ?_⟩
    refine ne0 d2 fun H3 d3 => ⟨_, rfl, ?_⟩
    by_cases he : cs2 = []
    · subst he
      refine iteF ?_
      have h5 : 0 ≤ (bl2 * 40693 + 71) % 2147483647 := Int.emod_nonneg _ (by decide)
      have h6 : (bl2 * 40693 + 71) % 2147483647 < 2147483647 := Int.emod_lt_of_pos _ (by decide)
      refine deal1 (X := cxOf (L2.CX P w) P w K mg base nAny "_law_any" (defScope sAny) f cdv A outer s H E) d3 e0 ⟨bl2, 40693, rfl, rfl, .inr ⟨by decide, by decide⟩, _, 71, rfl, rfl, .inl ⟨_, rfl, _, _, rfl, rfl, (by decide : (0 : Int) < 2147483647), ?_⟩⟩
      refine ⟨_, e0, _, _, 1, 1, rfl, rfl, d3.dl, rfl, ?_⟩
      have d4 := d3.set1 h5 h6
      refine deal1 (X := cxOf (L2.CX P w) P w K mg base nAny "_law_any" (defScope sAny) f cdv A outer s H E) d4 e0 ⟨_, 64, rfl, rfl, ⟨by decide, by decide⟩, .inl ⟨_, rfl, _, e1, _, b, rfl, rfl, hb, ?_⟩⟩
      exact ret _ d4 (Int.emod_nonneg _ (by omega)) (Int.emod_lt_of_pos _ hb)
    · have : (!cs2.isEmpty) = true := by
        cases cs2
        · exact absurd rfl he
        · rfl
      rw [this]
      refine iteT (pop d3 he fun H4 d4 y hy => .inl ⟨y, rfl, ?_⟩)
      have g2 : (σ.set 2 (some (.int y)))[2]? = some (some (.int y)) := List.getElem?_set_self (by rw [st.rs.len]; show 2 < 3; decide)
      have g0 : (σ.set 2 (some (.int y)))[0]? = some (some (.ref δ.d)) := by rw [List.getElem?_set_ne (by decide)]; exact e0
      have g1 : (σ.set 2 (some (.int y)))[1]? = some (some (.int b)) := by rw [List.getElem?_set_ne (by decide)]; exact e1
      refine deal0 (X := cxOf (L2.CX P w) P w K mg base nAny "_law_any" (defScope sAny) f cdv A outer s H E) d4 g0 ⟨.inl ⟨rfl, _, SqL.of d4.d0⟩, ?_⟩
      refine ⟨_, g2, _, g1, y, b, rfl, rfl, ⟨hb, hbits⟩, _, _, _, rfl, rfl, d4.d0, ?_, ?_⟩
      · have := d4.le
        rw [List.length_map, sizeLine_eq]
        omega
      · have e7 : cs2.dropLast.map V.int ++ [V.int (y / b)] = (cs2.dropLast ++ [y / b]).map V.int := by rw [List.map_append]; rfl
        have d5 := d4.set0 (cs' := cs2.dropLast ++ [y / b]) (fun c hc => by
          rcases List.mem_append.mp hc with h | h
          · exact d4.nn c h
          · rw [List.mem_singleton.mp h]
            exact Int.ediv_nonneg hy (by omega)) (by
          have := d3.le
          have h3 := lpos he
          rw [List.length_append, List.length_dropLast, List.length_singleton]
          omega)
        rw [← e7] at d5
        exact ⟨_, g2, _, g1, y, b, rfl, rfl, hb, ret _ d5 (Int.emod_nonneg _ (by omega)) (Int.emod_lt_of_pos _ hb)⟩
  refine ⟨_, pss_cons (ps_while (passes_of rfl) (PW.pt (pw_and (pt_cmpR (op_neD (u64 hu)) (pe_deal 0 rfl (Or.inl rfl) (by decide) (by decide) (by exact fun _ _ => rfl)) (pe_lst pa_nil) (nomark _)) (pw_and1 (pt_cmpR op_eq (pe_ix ix_list (pe_deal 0 rfl (Or.inl rfl) (by decide) (by decide) (by exact fun _ _ => rfl)) (pe_un un_neg pe_int) (by exact fun _ _ => rfl)) pe_int (nomark _))))) (pss_cons (ps_expr (pe_bm0 PySem.F.plainAttrs_list PySem.F.slot_list_pop PySem.F.type_list_pop mt_pop (pe_deal 0 rfl (Or.inl rfl) (by decide) (by decide) (by exact fun _ _ => rfl)))) pss_nil)) (pss_b _ ((defBody sAny).drop 1)), ?_⟩
  refine ⟨fun m σ' H' => σ' = σ ∧ ∃ cs2 bl2, DS θ δ G H' cs2 bl2 ∧ m = cs2.length, ⟨cs.length, rfl, cs, bl, d1, rfl⟩, ?_⟩
  rintro m σ' H2 ⟨hσ, cs2, bl2, d2, rfl⟩
  subst hσ
  refine ne0 d2 fun H3 d3 => ⟨_, rfl, ?_⟩
  by_cases he : cs2 = []
  · subst he
    exact iteF (iteF (after d3))
  · have : (!cs2.isEmpty) = true := by
      cases cs2
      · exact absurd rfl he
      · rfl
    rw [this]
    have hl : cs2.length - 1 < cs2.length := Nat.sub_lt (lpos he) Nat.one_pos
    refine iteT (deal0 (X := cxOf (L2.CX P w) P w K mg base nAny "_law_any" (defScope sAny) f cdv A outer s H E) d3 e0 ⟨1, rfl, _, _, -1, .int (cs2[cs2.length - 1]), rfl, rfl, SqL.of d3.d0, ?_, rfl, _, rfl, ?_⟩)
    · have h2 : ¬ (0 : Int) ≤ -1 := by decide
      have h3 : -((cs2.map V.int).length : Int) ≤ -1 := by rw [List.length_map]; omega
      show (ixN (cs2.map V.int).length (-1)).bind _ = _
      unfold ixN
      rw [if_neg h2, if_pos h3]
      show (cs2.map V.int)[((-1 : Int) + ((cs2.map V.int).length : Int)).toNat]? = _
      rw [show ((-1 : Int) + ((cs2.map V.int).length : Int)).toNat = cs2.length - 1 by rw [List.length_map]; omega, List.getElem?_map, List.getElem?_eq_getElem hl]
      rfl
    · refine ite2 (fun _ => ⟨fun σ2 H4 => σ2 = σ' ∧ ∃ cs3 bl3, DS θ δ G H4 cs3 bl3 ∧ cs3.length < cs2.length, fun σ2 H4 ⟨e, cs3, bl3, d4, hl⟩ => ⟨_, hl, e, cs3, bl3, d4, rfl⟩, ?_⟩) (fun _ => after d3)
      exact pop d3 he fun H4 d4 y _ => ⟨rfl, _, _, d4, by rw [List.length_dropLast]; omega⟩
end
end B
set_option Elab.async false
set_option autoImplicit false
set_option linter.all false
set_option maxRecDepth 100000
set_option maxHeartbeats 4000000
namespace B
open PySem PySem.Spec PyProof.Rows L2
abbrev sOf : Stmt := top 24
abbrev sGreat : Stmt := top 25
theorem sc_of : FnScope ["_law_deal", "_law_some"] ["_law_deal", "_law_some"] (defScope sOf) := ⟨rfl, rfl, rfl, by decide +kernel, rfl, by decide +kernel, by decide +kernel⟩
abbrev nGreat : List Str := ["_law_deal", "_law_bound", "_law_number", "_law_turn"]
theorem sc_great : FnScope nGreat ["_law_deal", "_law_bound"] (defScope sGreat) := ⟨rfl, rfl, rfl, by decide +kernel, rfl, by decide +kernel, by decide +kernel⟩
def preOf (ds : List D) : Prop := ∃ xs, ds = [.deal, .list xs] ∧ xs ≠ [] ∧ xs.length ≤ 100000
def postOf (ds : List D) (o : Ou) : Prop := ∃ xs d, ds = [.deal, .list xs] ∧ d ∈ xs ∧ o = .ret d
def preGreat (ds : List D) : Prop := ∃ b : Int, ds = [.deal, .int b] ∧ 0 < b
theorem log2_small {n : Nat} (h : n ≤ 100000) : n.log2 < 9000 := by
  rcases Nat.eq_zero_or_pos n with h0 | h0
  · subst h0; decide
  · rw [Nat.log2_lt (by omega)]
    exact Nat.lt_of_le_of_lt h (Nat.lt_of_lt_of_le (by decide : 100000 < 2 ^ 17) (Nat.pow_le_pow_right (by decide) (by decide)))
section
variable {P : Program} {w : PySem.World} {K : PySem.W.Frag} {mg : Str → Option Value} {base : Heap} {θ : Th} {f : Addr} {fd : FuncData}
section
variable {X : Cx} {ρ : Rho} {δ : Dl} {a e : Expr} {px pos : Pos}
/-- _law_any(deal, n): a number below n -/
theorem je_any {k j : Nat} {b : Int} (c1 : Cal X.prog X.w X.K X.mg X.base j "_law_any" ["_law_deal", "_law_bound"] (spD θ true preAny postAny)) (hr : Room k X.A) (hjk : j ≤ k) (hb : 0 < b) (hl : b.natAbs.log2 < 9000) (h1 : JE θ δ true X ρ a (Is .deal)) (h2 : JE θ δ true X ρ e (Is (.int b))) (hg : Gl X "_law_any" := by rfl)
    (e1 : starEach [a, e] X.env = (false, eval a X.env) :: starEach [e] X.env := by rfl) (e2 : starEach [e] X.env = (false, eval e X.env) :: starEach [] X.env := by rfl) (e3 : (backTo pos (starEach [e] X.env)).any (·.1) = false := by rfl) :
    JE θ δ true X ρ (.Call (.Name "_law_any" px) [a, e] [] pos) (Ip fun r => 0 ≤ r ∧ r < b) :=
  je_call c1 hr hjk (ja_1 h1 (ja_1 h2 ja_nil e2) e1) (fun ds e => e ▸ ⟨b, rfl, hb, hl⟩) (fun ds d e f => by
    obtain ⟨b', r, f1, f2, f3, f4⟩ := f
    rw [e] at f1
    cases f1
    cases f4
    exact ⟨r, rfl, f2, f3⟩) (fun ds c n e f => by
    obtain ⟨b', r, f1, f2, f3, f4⟩ := f
    cases f4) (.inl rfl) hg (by decide) e1 e3
theorem je_of {k j : Nat} {xs : List D} (c1 : Cal X.prog X.w X.K X.mg X.base j "_law_of" ["_law_deal", "_law_some"] (spD θ true preOf postOf)) (hr : Room k X.A) (hjk : j ≤ k) (hn : xs ≠ []) (hl : xs.length ≤ 100000) (h1 : JE θ δ true X ρ a (Is .deal)) (h2 : JE θ δ true X ρ e (Is (.list xs))) (hg : Gl X "_law_of" := by rfl)
    (e1 : starEach [a, e] X.env = (false, eval a X.env) :: starEach [e] X.env := by rfl) (e2 : starEach [e] X.env = (false, eval e X.env) :: starEach [] X.env := by rfl) (e3 : (backTo pos (starEach [e] X.env)).any (·.1) = false := by rfl) :
    JE θ δ true X ρ (.Call (.Name "_law_of" px) [a, e] [] pos) (fun d => d ∈ xs) :=
  je_call c1 hr hjk (ja_1 h1 (ja_1 h2 ja_nil e2) e1) (fun ds e => e ▸ ⟨xs, rfl, hn, hl⟩) (fun ds d e f => by
    obtain ⟨b', r, f1, f2, f3⟩ := f
    rw [e] at f1
    cases f1
    cases f3
    exact f2) (fun ds c n e f => by
    obtain ⟨b', r, f1, f2, f3⟩ := f
    cases f3) (.inl rfl) hg (by decide) e1 e3
/-- of a list itself drawn -/
theorem je_ofP {k j : Nat} {L : List D → Prop} {Φ : D → Prop} (c1 : Cal X.prog X.w X.K X.mg X.base j "_law_of" ["_law_deal", "_law_some"] (spD θ true preOf postOf)) (hr : Room k X.A) (hjk : j ≤ k) (hn : ∀ xs, L xs → xs ≠ [] ∧ xs.length ≤ 100000 ∧ ∀ d ∈ xs, Φ d) (h1 : JE θ δ true X ρ a (Is .deal)) (h2 : JE θ δ true X ρ e (fun d => ∃ xs, d = .list xs ∧ L xs)) (hg : Gl X "_law_of" := by rfl)
    (e1 : starEach [a, e] X.env = (false, eval a X.env) :: starEach [e] X.env := by rfl) (e2 : starEach [e] X.env = (false, eval e X.env) :: starEach [] X.env := by rfl) (e3 : (backTo pos (starEach [e] X.env)).any (·.1) = false := by rfl) :
    JE θ δ true X ρ (.Call (.Name "_law_of" px) [a, e] [] pos) Φ :=
  je_call c1 hr hjk (ja_cons h1 (ja_cons h2 ja_nil e2) e1) (fun ds ⟨d, r, z1, z2, d2, r2, z3, ⟨xs, z4, z5⟩, z6⟩ => ⟨xs, by rw [z1, z2, z3, z4, z6], (hn xs z5).1, (hn xs z5).2.1⟩) (fun ds d ⟨d1, r, z1, z2, d2, r2, z3, ⟨xs, z4, z5⟩, z6⟩ f => by
    obtain ⟨b', r, f1, f2, f3⟩ := f
    rw [z1, z2, z3, z4, z6] at f1
    cases f1
    cases f3
    exact (hn _ z5).2.2 _ f2) (fun ds c n e f => by
    obtain ⟨b', r, f1, f2, f3⟩ := f
    cases f3) (.inl rfl) hg (by decide) e1 e3
theorem je_great {k j : Nat} {b : Int} (c1 : Cal X.prog X.w X.K X.mg X.base j "_law_great" ["_law_deal", "_law_bound"] (spD θ true preGreat postAny)) (hr : Room k X.A) (hjk : j ≤ k) (hb : 0 < b) (h1 : JE θ δ true X ρ a (Is .deal)) (h2 : JE θ δ true X ρ e (Is (.int b))) (hg : Gl X "_law_great" := by rfl)
    (e1 : starEach [a, e] X.env = (false, eval a X.env) :: starEach [e] X.env := by rfl) (e2 : starEach [e] X.env = (false, eval e X.env) :: starEach [] X.env := by rfl) (e3 : (backTo pos (starEach [e] X.env)).any (·.1) = false := by rfl) :
    JE θ δ true X ρ (.Call (.Name "_law_great" px) [a, e] [] pos) (Ip fun r => 0 ≤ r ∧ r < b) :=
  je_call c1 hr hjk (ja_1 h1 (ja_1 h2 ja_nil e2) e1) (fun ds e => e ▸ ⟨b, rfl, hb⟩) (fun ds d e f => by
    obtain ⟨b', r, f1, f2, f3, f4⟩ := f
    rw [e] at f1
    cases f1
    cases f4
    exact ⟨r, rfl, f2, f3⟩) (fun ds c n e f => by
    obtain ⟨b', r, f1, f2, f3, f4⟩ := f
    cases f4) (.inl rfl) hg (by decide) e1 e3
end
theorem ok_of (D0 : Df K mg "_law_of" sOf ["_law_deal", "_law_some"] f fd) (th : ThOk P K mg θ) (nb : Nb mg) (c1 : Cal P w K mg base 1 "_law_any" ["_law_deal", "_law_bound"] (spD θ true preAny postAny)) : Cal P w K mg base 2 "_law_of" ["_law_deal", "_law_some"] (spD θ true preOf postOf) := by
  refine calD (k := 1) D0 sc_of (fun ds h => ?_) fun cdv A outer s H E hr δ ds hp => ?_
  · obtain ⟨b, rfl, _⟩ := h
    rfl
  obtain ⟨xs, rfl, hne, hl⟩ := hp
  have h0 := lpos hne
  refine js_ret (Φ := fun d => d ∈ xs) (je_ixOf (je_var 1) (je_any c1 hr (Nat.le_refl _) (b := xs.length) (by omega) (by rw [Int.natAbs_natCast]; exact log2_small hl) (je_var 0) (je_len th.eK.symm rfl nb.len (je_var 1)))) fun d hd => ⟨xs, d, rfl, hd, rfl⟩
theorem ok_great (D0 : Df K mg "_law_great" sGreat ["_law_deal", "_law_bound"] f fd) (nb : Nb mg) (c1 : Cal P w K mg base 1 "_law_any" ["_law_deal", "_law_bound"] (spD θ true preAny postAny)) : Cal P w K mg base 2 "_law_great" ["_law_deal", "_law_bound"] (spD θ true preGreat postAny) := by
  refine calD (k := 1) D0 sc_great (fun ds h => ?_) fun cdv A outer s H E hr δ ds hp => ?_
  · obtain ⟨b, rfl, _⟩ := h
    rfl
  obtain ⟨b, rfl, hb⟩ := hp
  refine js_set (Φ := Is (.int 0)) 2 sc_great.nd je_int fun d e => ?_
  subst e
  refine js_for (S := fun s => s = rng 6) (act := NameT 3) (Inv := fun src i ρ => ∃ (n : Int) (u : Option Sl), 0 ≤ n ∧ ρ = [some (.dat .deal), some (.dat (.int b)), some (.dat (.int n)), u]) (Mid := fun ρ => ∃ (n : Int) (u : Option Sl), 0 ≤ n ∧ ρ = [some (.dat .deal), some (.dat (.int b)), some (.dat (.int n)), u])
    (ji_rangeI (n := 6) nb.range je_int (by decide)) (jg_name 3 sc_great.nd) (fun _ _ => ⟨0, none, Int.le_refl _, rfl⟩) (fun _ _ _ _ _ _ _ => ⟨_, rfl⟩) (fun src i d ρ1 ρ2 _ _ hI hA => ?_) (fun src ρ1 _ hI => hI) (fun ρ' hM => ?_)
  · obtain ⟨n, u, hn, rfl⟩ := hI
    subst hA
    refine js_set (Φ := Ip fun k => ∃ i j, (∃ i' j', i' = n ∧ j' = 100000 ∧ i = i' * j') ∧ (0 ≤ j ∧ j < 100000) ∧ k = i + j) 2 sc_great.nd (je_addP (je_mulP (fun i j _ hj => .inr ⟨by rw [hj]; decide, by rw [hj]; decide⟩) (JE.ip (je_var 2)) (JE.ip je_int)) (je_any c1 hr (Nat.le_refl _) (by decide) (by decide +kernel) (je_var 0) je_int)) fun d hd => ?_
    obtain ⟨k, rfl, i, j, ⟨i', j', rfl, rfl, rfl⟩, hj, rfl⟩ := hd
    exact js_nil ⟨_, _, by omega, rfl⟩
  · obtain ⟨n, u, hn, rfl⟩ := hM
    refine js_ret (je_modP (N := fun k => k = n) (M := fun k => k = b) (fun i j _ hj => by rw [hj]; exact hb) (je_callTy call_int1 nb.int (ja_cons (JE.ip (je_var 2)) ja_nil) ca_int1) (JE.ip (je_var 1))) fun d hd => ?_
    obtain ⟨k, rfl, i, j, rfl, rfl, rfl⟩ := hd
    exact ⟨j, _, rfl, Int.emod_nonneg _ (by omega), Int.emod_lt_of_pos _ hb, rfl⟩
end
end B
set_option Elab.async false
set_option autoImplicit false
set_option linter.all false
set_option maxRecDepth 100000
set_option maxHeartbeats 4000000
namespace B
open PySem PySem.Spec PyProof.Rows L2
abbrev sRows : Stmt := top 26
abbrev sLots : Stmt := top 29
abbrev nRows : List Str := ["_law_caps", "_law_low", "_law_high", "_law_found", "_law_cap", "_law_longer", "_law_row", "_law_value"]
theorem sc_rows : FnScope nRows ["_law_caps", "_law_low", "_law_high"] (defScope sRows) := ⟨rfl, rfl, rfl, by decide +kernel, rfl, by decide +kernel, by decide +kernel⟩
abbrev nLots : List Str := ["_law_some", "_law_found", "_law_key", "_law_lot"]
theorem sc_lots : FnScope nLots ["_law_some"] (defScope sLots) := ⟨rfl, rfl, rfl, by decide +kernel, rfl, by decide +kernel, by decide +kernel⟩
/-! ### _law_rows -/
def extR (hi : Int) (c : Int) (r : List Int) : List (List Int) := (List.range (c + 1).toNat).filterMap fun (v : Nat) => if r.sum + (v : Int) ≤ hi then some (r ++ [(v : Int)]) else none
def rowsStep (hi : Int) (f : List (List Int)) (c : Int) : List (List Int) := f.flatMap (extR hi c)
def rowsF (hi : Int) (caps : List Int) : List (List Int) := caps.foldl (rowsStep hi) [[]]
def rowsL (caps : List Int) (lo hi : Int) : List (List Int) := (rowsF hi caps).filter fun r => decide (lo ≤ r.sum)
def smallCaps (caps : List Int) : Prop := caps.length ≤ 4 ∧ ∀ c ∈ caps, 0 ≤ c ∧ c ≤ 3
def preRows (ds : List D) : Prop := ∃ caps lo hi, ds = [dli caps, .int lo, .int hi] ∧ smallCaps caps
def fRows (ds : List D) : Ou := match ds with
  | [.list cs, .int lo, .int hi] => .ret (drows (rowsL (cs.map nOf) lo hi))
  | _ => .ret .non
theorem extR_len {hi c : Int} {r : List Int} (hc : c ≤ 3) : (extR hi c r).length ≤ 4 := by
  have := filterMap_len (fun (v : Nat) => if r.sum + (v : Int) ≤ hi then some (r ++ [(v : Int)]) else none) (List.range (c + 1).toNat)
  unfold extR
  rw [List.length_range] at this
  omega
theorem flatMap_len {f : List (List Int)} {g : List Int → List (List Int)} (h : ∀ r, (g r).length ≤ 4) : (f.flatMap g).length ≤ 4 * f.length := by
  induction f with
  | nil => exact Nat.zero_le _
  | cons r f ih =>
    rw [List.flatMap_cons, List.length_append, List.length_cons]
    have := h r
    omega
theorem rowsF_len {hi : Int} : ∀ (caps : List Int) (f : List (List Int)), (∀ c ∈ caps, c ≤ 3) → (caps.foldl (rowsStep hi) f).length ≤ 4 ^ caps.length * f.length
  | [], f, _ => by simp
  | c :: caps, f, h => by
    have h1 := rowsF_len (hi := hi) caps (rowsStep hi f c) fun z hz => h z (List.mem_cons_of_mem _ hz)
    have h2 : (rowsStep hi f c).length ≤ 4 * f.length := flatMap_len fun r => extR_len (h c List.mem_cons_self)
    rw [List.foldl_cons, List.length_cons, Nat.pow_succ, Nat.mul_assoc]
    exact Nat.le_trans h1 (Nat.mul_le_mul_left _ h2)
theorem rowsF_256 {hi : Int} {caps : List Int} (h : smallCaps caps) (i : Nat) : (rowsF hi (caps.take i)).length ≤ 256 := by
  have h1 := rowsF_len (hi := hi) (caps.take i) [[]] fun c hc => (h.2 c (List.mem_of_mem_take hc)).2
  have h2 : (caps.take i).length ≤ 4 := by rw [List.length_take]; have := h.1; omega
  have h3 : 4 ^ (caps.take i).length ≤ 4 ^ 4 := Nat.pow_le_pow_right (by decide) h2
  unfold rowsF
  simp only [List.length_singleton, Nat.mul_one] at h1
  exact Nat.le_trans h1 h3
theorem rowsF_rows (hi : Int) : ∀ (caps : List Int) (f : List (List Int)) (n : Nat), (∀ r ∈ f, r.length = n) → ∀ r ∈ caps.foldl (rowsStep hi) f, r.length = n + caps.length
  | [], f, n, h => h
  | c :: caps, f, n, h => by
    intro r hr
    have := rowsF_rows hi caps (rowsStep hi f c) (n + 1) (fun z hz => by
      obtain ⟨y, hy, hz⟩ := List.mem_flatMap.mp hz
      unfold extR at hz
      obtain ⟨v, _, e⟩ := List.mem_filterMap.mp hz
      split at e
      · rw [← Option.some.inj e, List.length_append, h y hy]
        rfl
      · cases e) r hr
    rw [this, List.length_cons]
    omega
theorem rowsF_row (hi : Int) (caps : List Int) : ∀ r ∈ rowsF hi caps, r.length = caps.length := fun r hr => by
  have := rowsF_rows hi caps [[]] 0 (fun z hz => by rw [List.mem_singleton.mp hz]; rfl) r hr
  rw [this, Nat.zero_add]
theorem take_get {α : Type} {l : List α} {i : Nat} {x : α} (h : l[i]? = some x) : l.take (i + 1) = l.take i ++ [x] := by
  rw [List.take_add_one, h]
  rfl
theorem rowsF_next {hi : Int} {caps : List Int} {i : Nat} {c : Int} (h : caps[i]? = some c) : rowsF hi (caps.take (i + 1)) = rowsStep hi (rowsF hi (caps.take i)) c := by
  unfold rowsF
  rw [take_get h, List.foldl_append]
  rfl
section
variable {P : Program} {w : PySem.World} {K : PySem.W.Frag} {mg : Str → Option Value} {base : Heap} {θ : Th} {f : Addr} {fd : FuncData}
theorem di_some {ns : List Int} {i : Nat} {d : D} (h : (di ns)[i]? = some d) : ∃ n, ns[i]? = some n ∧ d = .int n := by
  rw [List.getElem?_map] at h
  cases e : ns[i]? with
  | none => rw [e] at h; cases h
  | some n =>
    rw [e] at h
    exact ⟨n, rfl, (Option.some.inj h).symm⟩
theorem drow_some {rs : List (List Int)} {i : Nat} {d : D} (h : (rs.map dti)[i]? = some d) : ∃ r, rs[i]? = some r ∧ d = dti r := by
  rw [List.getElem?_map] at h
  cases e : rs[i]? with
  | none => rw [e] at h; cases h
  | some n =>
    rw [e] at h
    exact ⟨n, rfl, (Option.some.inj h).symm⟩
theorem ok_rows (D0 : Df K mg "_law_rows" sRows ["_law_caps", "_law_low", "_law_high"] f fd) (th : ThOk P K mg θ) (nb : Nb mg) : Cal P w K mg base 1 "_law_rows" ["_law_caps", "_law_low", "_law_high"] (spF θ preRows fRows) := by
  refine calD (k := 0) D0 sc_rows (fun ds h => ?_) fun cdv A outer s H E hr δ ds hp => ?_
  · obtain ⟨caps, lo, hi, rfl, _⟩ := h
    rfl
  obtain ⟨caps, lo, hi, rfl, hs⟩ := hp
  have hK := th.eK
  refine js_set (Φ := Is (drows [[]])) 3 sc_rows.nd (je_lst (ja_1 (je_tup ja_nil) ja_nil)) fun d e => ?_
  subst e
  refine js_for (S := fun s => s = di caps) (act := NameT 4) (Inv := fun src i ρ => ∃ u v x y, ρ = [some (.dat (dli caps)), some (.dat (.int lo)), some (.dat (.int hi)), some (.dat (drows (rowsF hi (caps.take i)))), u, v, x, y])
    (Mid := fun ρ => ∃ u v x y, ρ = [some (.dat (dli caps)), some (.dat (.int lo)), some (.dat (.int hi)), some (.dat (drows (rowsF hi caps))), u, v, x, y])
    (ji_list hK.symm (je_var 0)) (jg_name 4 sc_rows.nd) (fun _ _ => ⟨_, _, _, _, rfl⟩) (fun _ _ _ _ _ _ _ => ⟨_, rfl⟩) (fun src i d ρ1 ρ2 hS hd hI hA => ?_) (fun src ρ1 hS hI => ?_) (fun ρ' hM => ?_)
  · subst hS
    obtain ⟨u, v, x, y, rfl⟩ := hI
    subst hA
    obtain ⟨c, hc, rfl⟩ := di_some hd
    have hcb := hs.2 c (List.mem_of_getElem? hc)
    have hL := rowsF_256 (hi := hi) hs i
    generalize hF : rowsF hi (caps.take i) = F at hL
    refine js_set (Φ := Is (drows [])) 5 sc_rows.nd (je_lst ja_nil) fun d e => ?_
    subst e
    refine js_for (S := fun s => s = F.map dti) (act := NameT 6) (Inv := fun src j ρ => ∃ x y, ρ = [some (.dat (dli caps)), some (.dat (.int lo)), some (.dat (.int hi)), some (.dat (drows F)), some (.dat (.int c)), some (.dat (drows ((F.take j).flatMap (extR hi c)))), x, y])
      (Mid := fun ρ => ∃ x y, ρ = [some (.dat (dli caps)), some (.dat (.int lo)), some (.dat (.int hi)), some (.dat (drows F)), some (.dat (.int c)), some (.dat (drows (rowsStep hi F c))), x, y])
      (ji_list hK.symm (je_var 3)) (jg_name 6 sc_rows.nd) (fun _ _ => ⟨_, _, rfl⟩) (fun _ _ _ _ _ _ _ => ⟨_, rfl⟩) (fun src j d ρ1 ρ2 hS hd hI hA => ?_) (fun src ρ1 hS hI => ?_) (fun ρ' hM => ?_)
    · subst hS
      obtain ⟨x, y, rfl⟩ := hI
      subst hA
      obtain ⟨r, hr', rfl⟩ := drow_some hd
      have hlen : ((F.take j).flatMap (extR hi c)).length ≤ 4 * F.length := Nat.le_trans (flatMap_len fun r => extR_len hcb.2) (Nat.mul_le_mul_left _ (by rw [List.length_take]; omega))
      have hlen2 : (extR hi c r).length ≤ 4 := extR_len hcb.2
      have e1 : (rng (c + 1).toNat).filterMap (fun d => if r.sum + nOf d ≤ hi then some (dti (r ++ [nOf d])) else none) = (extR hi c r).map dti := by
        rw [rng_filterMap]
        unfold extR
        rw [List.map_filterMap]
        refine fm_congr (fun k => ?_) _
        show (if r.sum + (k : Int) ≤ hi then some (dti (r ++ [(k : Int)])) else none) = _
        by_cases h : r.sum + (k : Int) ≤ hi
        · rw [if_pos h, if_pos h]; rfl
        · rw [if_neg h, if_neg h]; rfl
      have hcn : c + 1 = ((c + 1).toNat : Int) := by omega
      refine js_set (Φ := Is (.list (((F.take j).flatMap (extR hi c)).map dti ++ (extR hi c r).map dti))) 5 sc_rows.nd (je_catL (by simp only [List.length_map]; omega) (je_var 5) ((je_lc sc_rows.nd [("_law_value", 7)] (blk_by (by kernel_rfl)) (jl_filter 7 (fun d => if r.sum + nOf d ≤ hi then some (dti (r ++ [nOf d])) else none) (ji_rangeI (n := (c + 1).toNat) nb.range ((je_add (je_var 4) je_int).to (by rw [← hcn])) (by omega)) (fun _ _ _ _ _ => wr_name 7 sc_rows.nd) (by rw [rng_length]; omega)
        (fun d hd _ _ _ _ _ => ?_) fun d hd z hz _ _ _ _ _ => ?_)).to (congrArg D.list e1))) fun d e => ?_
      · obtain ⟨k, rfl, hk⟩ := mem_rng hd
        refine jf_one ((jt_le (je_add (je_sumT nb.sum (je_var 6)) (je_var 7)) (je_var 2)).to ?_)
        show decide (r.sum + (k : Int) ≤ hi) = (if r.sum + (k : Int) ≤ hi then some (dti (r ++ [(k : Int)])) else none).isSome
        by_cases h : r.sum + (k : Int) ≤ hi
        · rw [if_pos h, decide_eq_true h]; rfl
        · rw [if_neg h, decide_eq_false h]; rfl
      · obtain ⟨k, rfl, hk⟩ := mem_rng hd
        have : z = .tup (di r ++ [.int k]) := by
          have hz' : (if r.sum + (k : Int) ≤ hi then some (dti (r ++ [(k : Int)])) else none) = some z := hz
          split at hz'
          · rw [← Option.some.inj hz']
            show D.tup (di (r ++ [(k : Int)])) = _
            unfold di
            rw [List.map_append]
            rfl
          · cases hz'
        subst this
        have hrl : r.length ≤ 4 := by
          have := rowsF_row hi (caps.take i) r (by rw [hF]; exact List.mem_of_getElem? hr')
          rw [this, List.length_take]
          have := hs.1
          omega
        exact je_catT (by simp; omega) (je_var 6) (je_tup (ja_1 (je_var 7) ja_nil))
      subst e
      refine js_nil ⟨some (.dat (dti r)), y, ?_⟩
      have e2 : (F.take (j + 1)).flatMap (extR hi c) = (F.take j).flatMap (extR hi c) ++ extR hi c r := by
        rw [take_get hr', List.flatMap_append]
        simp
      rw [e2]
      unfold drows
      rw [List.map_append]
      rfl
    · subst hS
      rw [List.length_map, List.take_length] at hI
      exact hI
    · obtain ⟨x, y, rfl⟩ := hM
      refine js_set 3 sc_rows.nd (je_var 5) fun d e => ?_
      subst e
      refine js_nil ⟨some (.dat (.int c)), some (.dat (drows (rowsStep hi F c))), x, y, ?_⟩
      rw [rowsF_next hc, hF]
      rfl
  · subst hS
    rw [List.length_map, List.take_length] at hI
    exact hI
  · obtain ⟨u, v, x, y, rfl⟩ := hM
    have hL := rowsF_256 (hi := hi) hs caps.length
    rw [List.take_length] at hL
    have e1 : ((rowsF hi caps).map dti).filterMap (fun d => if lo ≤ (((seqD d).getD []).map nOf).sum then some d else none) = (rowsL caps lo hi).map dti := by
      unfold rowsL
      rw [List.filterMap_map]
      generalize rowsF hi caps = F
      induction F with
      | nil => rfl
      | cons r F ih =>
        have e3 : (((seqD (dti r)).getD []).map nOf) = r := nOf_di r
        rw [List.filterMap_cons, List.filter_cons]
        simp only [Function.comp_apply, e3]
        by_cases h : lo ≤ r.sum
        · simp only [h, if_true, decide_true, List.map_cons]
          rw [← ih]
        · simp only [h, if_false, decide_false]
          exact ih
    refine js_ret (Φ := Is (drows (rowsL caps lo hi))) ((je_lc sc_rows.nd [("_law_row", 6)] (blk_by (by kernel_rfl)) (jl_filter 6 (fun d => if lo ≤ (((seqD d).getD []).map nOf).sum then some d else none) (ji_list hK.symm (je_var 3)) (fun _ _ _ _ _ => wr_name 6 sc_rows.nd) (by rw [List.length_map]; omega) (fun d hd _ _ _ _ _ => ?_) fun d hd z hz _ _ _ _ _ => ?_)).to (congrArg D.list e1)) fun d e => ?_
    · obtain ⟨r, _, rfl⟩ := List.mem_map.mp hd
      refine jf_one ((jt_ge (je_sumT nb.sum (je_var 6)) (je_var 1)).to ?_)
      have e3 : (((seqD (dti r)).getD []).map nOf) = r := nOf_di r
      rw [e3]
      by_cases h : lo ≤ r.sum <;> simp [h]
    · have : z = d := by
        split at hz
        · exact (Option.some.inj hz).symm
        · cases hz
      subst this
      exact je_var 6
    · rw [e]
      show Ou.ret _ = Ou.ret (drows (rowsL ((di caps).map nOf) lo hi))
      rw [nOf_di]
end
end B
set_option Elab.async false
set_option autoImplicit false
set_option linter.all false
set_option maxRecDepth 100000
set_option maxHeartbeats 4000000
namespace B
open PySem PySem.Spec PyProof.Rows L2
abbrev sLawBundles : Stmt := top 30
abbrev nLawBundles : List Str := ["_law_count", "_law_rows_here", "_law_left", "_law_found", "_law_lot", "_law_sums", "_law_key", "_law_row"]
theorem sc_lawBundles : FnScope nLawBundles ["_law_count", "_law_rows_here"] (defScope sLawBundles) := ⟨rfl, rfl, rfl, by decide +kernel, rfl, by decide +kernel, by decide +kernel⟩
/-! ### _law_lots -/
def lotsStep (f : List (List Int)) (k : Int) : List (List Int) := f ++ f.map fun r => r ++ [k]
def lotsF (ks : List Int) : List (List Int) := ks.foldl lotsStep [[]]
def preLots (ds : List D) : Prop := ∃ ks : List Int, ds = [dli ks] ∧ ks.length ≤ 4
def fLots (ds : List D) : Ou := match ds with
  | [.list cs] => .ret (drows (lotsF (cs.map nOf)))
  | _ => .ret .non
theorem lots_len : ∀ (ks : List Int) (f : List (List Int)), (ks.foldl lotsStep f).length = 2 ^ ks.length * f.length
  | [], f => by simp
  | k :: ks, f => by
    rw [List.foldl_cons, lots_len ks, List.length_cons, Nat.pow_succ]
    unfold lotsStep
    rw [List.length_append, List.length_map, Nat.mul_assoc, Nat.two_mul]
theorem lots_row : ∀ (ks : List Int) (f : List (List Int)) (n : Nat), (∀ r ∈ f, r.length ≤ n) → ∀ r ∈ ks.foldl lotsStep f, r.length ≤ n + ks.length
  | [], f, n, h => h
  | k :: ks, f, n, h => fun r hr => by
    have := lots_row ks (lotsStep f k) (n + 1) (fun z hz => by
      unfold lotsStep at hz
      rcases List.mem_append.mp hz with q | q
      · have := h z q; omega
      · obtain ⟨y, hy, rfl⟩ := List.mem_map.mp q
        have := h y hy
        rw [List.length_append, List.length_singleton]; omega) r hr
    rw [List.length_cons]
    omega
section
variable {P : Program} {w : PySem.World} {K : PySem.W.Frag} {mg : Str → Option Value} {base : Heap} {θ : Th} {f : Addr} {fd : FuncData}
theorem ok_lots (D0 : Df K mg "_law_lots" sLots ["_law_some"] f fd) (th : ThOk P K mg θ) (nb : Nb mg) : Cal P w K mg base 1 "_law_lots" ["_law_some"] (spF θ preLots fLots) := by
  refine calD (k := 0) D0 sc_lots (fun ds h => ?_) fun cdv A outer s H E hr δ ds hp => ?_
  · obtain ⟨ks, rfl, _⟩ := h
    rfl
  obtain ⟨ks, rfl, hk⟩ := hp
  have hK := th.eK
  refine js_set (Φ := Is (drows [[]])) 1 sc_lots.nd (je_lst (ja_1 (je_tup ja_nil) ja_nil)) fun d e => ?_
  subst e
  refine js_for (S := fun s => s = di ks) (act := NameT 2) (Inv := fun src i ρ => ∃ u v, ρ = [some (.dat (dli ks)), some (.dat (drows (lotsF (ks.take i)))), u, v]) (Mid := fun ρ => ∃ u v, ρ = [some (.dat (dli ks)), some (.dat (drows (lotsF ks))), u, v])
    (ji_list hK.symm (je_var 0)) (jg_name 2 sc_lots.nd) (fun _ _ => ⟨_, _, rfl⟩) (fun _ _ _ _ _ _ _ => ⟨_, rfl⟩) (fun src i d ρ1 ρ2 hS hd hI hA => ?_) (fun src ρ1 hS hI => ?_) (fun ρ' hM => ?_)
  · subst hS
    obtain ⟨u, v, rfl⟩ := hI
    subst hA
    obtain ⟨k, hk', rfl⟩ := di_some hd
    have hl : (lotsF (ks.take i)).length ≤ 16 := by
      unfold lotsF
      rw [lots_len, List.length_singleton, Nat.mul_one]
      exact Nat.le_trans (Nat.pow_le_pow_right (by decide) (by rw [List.length_take]; omega)) (by decide : 2 ^ 4 ≤ 16)
    have hrl : ∀ r ∈ lotsF (ks.take i), r.length ≤ 4 := fun r hr => by
      have := lots_row (ks.take i) [[]] 0 (fun z hz => by rw [List.mem_singleton.mp hz]; exact Nat.le_refl _) r hr
      rw [List.length_take] at this
      omega
    generalize hF : lotsF (ks.take i) = F at hl hrl
    refine js_set (Φ := Is (.list (F.map dti ++ (F.map dti).map fun d => D.tup ((seqD d).getD [] ++ [.int k])))) 1 sc_lots.nd (je_catL (by simp only [List.length_map]; omega) (je_var 1) (je_lc sc_lots.nd [("_law_lot", 3)] (blk_by (by kernel_rfl)) (jl_map 3 (fun d => D.tup ((seqD d).getD [] ++ [.int k])) (ji_list hK.symm (je_var 1)) (fun _ _ _ _ _ => wr_name 3 sc_lots.nd) (by rw [List.length_map]; omega) fun d hd _ _ _ _ _ => ?_))) fun d e => ?_
    · obtain ⟨r, hr', rfl⟩ := List.mem_map.mp hd
      have := hrl r hr'
      exact je_catT (by simp [seqD]; omega) (je_var 3) (je_tup (ja_1 (je_var 2) ja_nil))
    subst e
    refine js_nil ⟨some (.dat (.int k)), v, ?_⟩
    have e1 : lotsF (ks.take (i + 1)) = lotsStep F k := by
      unfold lotsF at hF ⊢
      rw [take_get hk', List.foldl_append, hF]
      rfl
    have e2 : (F.map dti).map (fun d => D.tup ((seqD d).getD [] ++ [.int k])) = (F.map fun r => r ++ [k]).map dti := by
      rw [List.map_map, List.map_map]
      refine List.map_congr_left fun r _ => ?_
      show D.tup (di r ++ [.int k]) = D.tup (di (r ++ [k]))
      unfold di
      rw [List.map_append]
      rfl
    rw [e1, e2]
    unfold lotsStep drows
    rw [List.map_append]
    rfl
  · subst hS
    rw [List.length_map, List.take_length] at hI
    exact hI
  · obtain ⟨u, v, rfl⟩ := hM
    refine js_ret (je_var 1) fun d e => ?_
    rw [e]
    show Ou.ret _ = Ou.ret (drows (lotsF ((di ks).map nOf)))
    rw [nOf_di]
/-! ### _law_bundles -/
def sumsOf (rows : List (List Int)) (lot : List Int) : List Int := rows.map fun r => (lot.map fun k => r.getD k.toNat 0).sum
def sameL : List Int → Bool
  | [] => true
  | x :: xs => xs.all fun y => decide (y = x)
def bStep (rows : List (List Int)) (st : List Int × List (List Int)) (lot : List Int) : List Int × List (List Int) :=
  if lot ≠ [] ∧ ∀ k ∈ lot, k ∈ st.1 then (if sameL (sumsOf rows lot) = true then (st.1.filter fun k => decide (k ∉ lot), st.2 ++ [lot]) else st) else st
def lotsOf (n : Nat) : List (List Int) := (lotsF ((List.range n).map fun (k : Nat) => (k : Int))).mergeSort leN
def bundF (n : Nat) (rows : List (List Int)) : List Int × List (List Int) := (lotsOf n).foldl (bStep rows) ((List.range n).map fun (k : Nat) => (k : Int), [])
def bundR (n : Nat) (rows : List (List Int)) : List (List Int) := (bundF n rows).2.mergeSort leR
def preLB (ds : List D) : Prop := ∃ (n : Nat) (rows : List (List Int)), ds = [.int n, drows rows] ∧ n ≤ 4 ∧ rows ≠ [] ∧ rows.length ≤ 256 ∧ ∀ r ∈ rows, r.length = n
def postLB (ds : List D) (o : Ou) : Prop := ∃ (n : Nat) (rows : List (List Int)), ds = [.int n, drows rows] ∧ o = .ret (.tup ((bundR n rows).map dti))
theorem lots_mem : ∀ (ks : List Int) (f : List (List Int)) (S : Int → Prop), (∀ r ∈ f, ∀ k ∈ r, S k) → (∀ k ∈ ks, S k) → ∀ r ∈ ks.foldl lotsStep f, ∀ k ∈ r, S k
  | [], f, S, h, _ => h
  | k :: ks, f, S, h, h2 => lots_mem ks (lotsStep f k) S (fun r hr z hz => by
      unfold lotsStep at hr
      rcases List.mem_append.mp hr with q | q
      · exact h r q z hz
      · obtain ⟨y, hy, rfl⟩ := List.mem_map.mp q
        rcases List.mem_append.mp hz with q2 | q2
        · exact h y hy z q2
        · rw [List.mem_singleton.mp q2]
          exact h2 k List.mem_cons_self) fun z hz => h2 z (List.mem_cons_of_mem _ hz)
theorem lotsOf_mem {n : Nat} {lot : List Int} (h : lot ∈ lotsOf n) : lot.length ≤ n ∧ ∀ k ∈ lot, ∃ j : Nat, k = j ∧ j < n := by
  have h' := (List.mergeSort_perm _ _).mem_iff.mp h
  refine ⟨?_, lots_mem _ [[]] (fun k => ∃ j : Nat, k = j ∧ j < n) (fun r hr => by rw [List.mem_singleton.mp hr]; exact fun k hk => absurd hk List.not_mem_nil) (fun k hk => ?_) lot h'⟩
  · have := lots_row _ [[]] 0 (fun z hz => by rw [List.mem_singleton.mp hz]; exact Nat.le_refl _) lot h'
    simpa using this
  · obtain ⟨j, hj, rfl⟩ := List.mem_map.mp hk
    exact ⟨j, rfl, List.mem_range.mp hj⟩
theorem lotsOf_len {n : Nat} (h : n ≤ 4) : (lotsOf n).length ≤ 16 := by
  unfold lotsOf lotsF
  rw [List.length_mergeSort, lots_len]
  simp only [List.length_map, List.length_range, List.length_singleton, Nat.mul_one]
  exact Nat.le_trans (Nat.pow_le_pow_right (by decide) h) (by decide : 2 ^ 4 ≤ 16)
theorem most_mem : ∀ (xs : List Int) (x : Int), xs.foldl max x ∈ x :: xs ∧ ∀ y ∈ x :: xs, y ≤ xs.foldl max x
  | [], x => ⟨List.mem_cons_self, fun y hy => by rw [List.mem_singleton.mp hy]; exact Int.le_refl _⟩
  | z :: xs, x => by
    obtain ⟨h1, h2⟩ := most_mem xs (max x z)
    refine ⟨?_, fun y hy => ?_⟩
    · show xs.foldl max (max x z) ∈ _
      rcases List.mem_cons.mp h1 with h | h
      · rw [h]
        rcases Int.le_total x z with q | q
        · rw [Int.max_eq_right q]; exact List.mem_cons_of_mem _ List.mem_cons_self
        · rw [Int.max_eq_left q]; exact List.mem_cons_self
      · exact List.mem_cons_of_mem _ (List.mem_cons_of_mem _ h)
    · show y ≤ xs.foldl max (max x z)
      have h3 := h2 (max x z) List.mem_cons_self
      rcases List.mem_cons.mp hy with h | hy
      · rw [h]
        exact Int.le_trans (Int.le_max_left _ _) h3
      · rcases List.mem_cons.mp hy with h | hy
        · rw [h]
          exact Int.le_trans (Int.le_max_right _ _) h3
        · exact h2 y (List.mem_cons_of_mem _ hy)
theorem same_minmax {lo hi : Int} {xs : List Int} (h1 : lo ∈ xs) (h2 : ∀ y ∈ xs, lo ≤ y) (h3 : hi ∈ xs) (h4 : ∀ y ∈ xs, y ≤ hi) : decide (lo = hi) = sameL xs := by
  cases xs with
  | nil => cases h1
  | cons x xs =>
    have hx1 := h2 x List.mem_cons_self
    have hx2 := h4 x List.mem_cons_self
    rw [Bool.eq_iff_iff, decide_eq_true_eq]
    constructor
    · intro e
      refine List.all_eq_true.mpr fun y hy => ?_
      have a1 := h2 y (List.mem_cons_of_mem _ hy)
      have a2 := h4 y (List.mem_cons_of_mem _ hy)
      exact decide_eq_true (by omega)
    · intro e
      have all : ∀ y ∈ x :: xs, y = x := fun y hy => by
        rcases List.mem_cons.mp hy with q | q
        · exact q
        · exact of_decide_eq_true (List.all_eq_true.mp e y q)
      rw [all lo h1, all hi h3]
theorem bundF_sub {rows : List (List Int)} {S : List (List Int)} : ∀ (ls : List (List Int)) (st : List Int × List (List Int)), (∀ l ∈ ls, l ∈ S) → (∀ l ∈ st.2, l ∈ S ∧ l ≠ []) → ∀ l ∈ (ls.foldl (bStep rows) st).2, l ∈ S ∧ l ≠ []
  | [], st, _, h => h
  | x :: ls, st, h1, h => bundF_sub ls _ (fun l hl => h1 l (List.mem_cons_of_mem _ hl)) fun l hl => by
      unfold bStep at hl
      split at hl
      · rename_i hc
        split at hl
        · rcases List.mem_append.mp hl with q | q
          · exact h l q
          · rw [List.mem_singleton.mp q]
            exact ⟨h1 x List.mem_cons_self, hc.1⟩
        · exact h l hl
      · exact h l hl
theorem bundF_len {rows : List (List Int)} : ∀ (ls : List (List Int)) (st : List Int × List (List Int)), (ls.foldl (bStep rows) st).2.length ≤ st.2.length + ls.length
  | [], st => Nat.le_refl _
  | x :: ls, st => by
    have := bundF_len (rows := rows) ls (bStep rows st x)
    have h2 : (bStep rows st x).2.length ≤ st.2.length + 1 := by
      unfold bStep
      split
      · split
        · simp
        · omega
      · omega
    rw [List.foldl_cons, List.length_cons]
    omega
theorem bundF_left {rows : List (List Int)} : ∀ (ls : List (List Int)) (st : List Int × List (List Int)), (ls.foldl (bStep rows) st).1.length ≤ st.1.length
  | [], st => Nat.le_refl _
  | x :: ls, st => by
    have := bundF_left (rows := rows) ls (bStep rows st x)
    have h2 : (bStep rows st x).1.length ≤ st.1.length := by
      unfold bStep
      split
      · split
        · exact List.length_filter_le _ _
        · exact Nat.le_refl _
      · exact Nat.le_refl _
    exact Nat.le_trans this h2
end
end B
set_option Elab.async false
set_option autoImplicit false
set_option linter.all false
set_option maxRecDepth 100000
set_option maxHeartbeats 4000000
namespace B
open PySem PySem.Spec PyProof.Rows L2
section
variable {P : Program} {w : PySem.World} {K : PySem.W.Frag} {mg : Str → Option Value} {base : Heap} {θ : Th} {f : Addr} {fd : FuncData}
abbrev rngI (n : Nat) : List Int := (List.range n).map fun (k : Nat) => (k : Int)
theorem rng_di (n : Nat) : rng n = di (rngI n) := by
  unfold rng di
  rw [List.map_map]
  rfl
theorem eqv_dtiNil (ns : List Int) : PyData.eqv (py (dti ns)) (py (.tup [])) = decide (ns = []) := eqv_dti ns []
theorem di_filter (p : Int → Prop) [DecidablePred p] (ns : List Int) : (di ns).filterMap (fun d => if p (nOf d) then none else some d) = di (ns.filter fun k => decide (¬ p k)) := by
  unfold di
  rw [List.filterMap_map]
  induction ns with
  | nil => rfl
  | cons n ns ih =>
    rw [List.filterMap_cons, List.filter_cons]
    by_cases h : p n
    · have e1 : ((fun d => if p (nOf d) then none else some d) ∘ D.int) n = none := if_pos h
      have e2 : decide (¬ p n) = false := by simp [h]
      rw [e1, e2, if_neg (by decide)]
      exact ih
    · have e1 : ((fun d => if p (nOf d) then none else some d) ∘ D.int) n = some (.int n) := if_neg h
      have e2 : decide (¬ p n) = true := by simp [h]
      rw [e1, e2, if_pos rfl, List.map_cons, ih]
theorem je_sumLx {δ : Dl} {m : Bool} {X : Cx} {ρ : Rho} {a : Expr} {pos px : Pos} {ns : List Int} (ha : JE θ δ m X ρ a (Is (dli ns))) (hm : X.mg "sum" = none) (hc : X.calm = true) (hg : Gl X "sum") (h1 : starEach [a] X.env = (false, eval a X.env) :: starEach [] X.env)
    (h3 : (backTo pos (starEach [] X.env)).any (·.1) = false) : JE θ δ m X ρ (.Call (.Name "sum" px) [a] [] pos) (Is (.int ns.sum)) := je_sumL hm ha hc hg h1 h3
theorem lawLot_len {left lot : List Int} : decide ((((lot.filter fun k => decide (¬ k ∈ left)).length : Nat) : Int) = 0) = decide (∀ k ∈ lot, k ∈ left) := by
  rw [decide_eq_decide]
  constructor
  · intro h k hk
    have : lot.filter (fun k => decide (¬ k ∈ left)) = [] := List.length_eq_zero_iff.mp (by omega)
    by_cases q : k ∈ left
    · exact q
    · have q2 : k ∈ lot.filter (fun k => decide (¬ k ∈ left)) := List.mem_filter.mpr ⟨hk, decide_eq_true q⟩
      rw [this] at q2
      cases q2
  · intro h
    have : lot.filter (fun k => decide (¬ k ∈ left)) = [] := by
      rw [List.filter_eq_nil_iff]
      intro k hk
      simpa using h k hk
    rw [this]
    rfl
theorem ok_lawBundles (D0 : Df K mg "_law_bundles" sLawBundles ["_law_count", "_law_rows_here"] f fd) (th : ThOk P K mg θ) (nb : Nb mg) (c1 : Cal P w K mg base 1 "_law_lots" ["_law_some"] (spF θ preLots fLots)) :
    Cal P w K mg base 2 "_law_bundles" ["_law_count", "_law_rows_here"] (spD θ false preLB postLB) := by
  refine calD (k := 1) D0 sc_lawBundles (fun ds h => ?_) fun cdv A outer s H E hr δ ds hp => ?_
  · obtain ⟨n, rows, rfl, _⟩ := h
    rfl
  obtain ⟨n, rows, rfl, hn, hne, hlen, hrow⟩ := hp
  have hK := th.eK
  have hu := Room_u65 hr
  refine js_asgOwn 2 3 sc_lawBundles.nd ((je_listRange (n := n) (by omega) nb.list nb.range (je_var 0)).to (congrArg D.list (rng_di n))) jeo_nil (fun _ => rfl) fun d ds hd hds => ?_
  subst hd hds
  have eLots : fLots [dli (rngI n)] = .ret (drows (lotsF (rngI n))) := by
    show Ou.ret (drows (lotsF ((di (rngI n)).map nOf))) = _
    rw [nOf_di]
  have hLL : (lotsF (rngI n)).length ≤ 100000 := by
    have := lotsOf_len hn
    unfold lotsOf at this
    rw [List.length_mergeSort] at this
    exact Nat.le_trans this (by decide)
  refine js_for (S := fun s => s = (lotsOf n).map dti) (act := NameT 4) (Inv := fun src i ρ => ∃ u v w' x, ρ = [some (.dat (.int n)), some (.dat (drows rows)), some (.dat (dli (((lotsOf n).take i).foldl (bStep rows) (rngI n, [])).1)), some (.own ((((lotsOf n).take i).foldl (bStep rows) (rngI n, [])).2.map dti)), u, v, w', x] ∧ noOwn [u, v, w', x] = true)
    (Mid := fun ρ => ∃ u v w' x, ρ = [some (.dat (.int n)), some (.dat (drows rows)), some (.dat (dli (bundF n rows).1)), some (.own ((bundF n rows).2.map dti)), u, v, w', x] ∧ noOwn [u, v, w', x] = true)
    ((ji_list hK.symm (je_sortLen (rs := lotsF (rngI n)) hK.symm hLL hu nb.sorted nb.len (je_callI c1 hr (Nat.le_refl _) (ja_1 ((je_listRange (n := n) (by omega) nb.list nb.range (je_var 0)).to (congrArg D.list (rng_di n))) ja_nil) ⟨rngI n, rfl, by simp; omega⟩ fun o e => e.trans eLots))).mono fun s e => e) (jg_name 4 sc_lawBundles.nd) (fun _ _ => ⟨none, none, none, none, rfl, rfl⟩) (fun _ _ _ _ _ _ _ => ⟨_, rfl⟩) (fun src i d ρ1 ρ2 hS hd hI hA => ?_) (fun src ρ1 hS hI => ?_) (fun ρ' hM => ?_)
  · subst hS
    obtain ⟨u, v, w', x, rfl, hno⟩ := hI
    subst hA
    obtain ⟨lot, hlot, rfl⟩ := drow_some hd
    obtain ⟨hll, hlk⟩ := lotsOf_mem (List.mem_of_getElem? hlot)
    have eN : ((lotsOf n).take (i + 1)).foldl (bStep rows) (rngI n, []) = bStep rows (((lotsOf n).take i).foldl (bStep rows) (rngI n, [])) lot := by
      rw [take_get hlot, List.foldl_append]
      rfl
    have hfl : (((lotsOf n).take i).foldl (bStep rows) (rngI n, [])).2.length ≤ 16 := by
      have h1 := bundF_len (rows := rows) ((lotsOf n).take i) (rngI n, [])
      have h2 := lotsOf_len hn
      rw [List.length_take] at h1
      simp only [List.length_nil] at h1
      omega
    have hle : (((lotsOf n).take i).foldl (bStep rows) (rngI n, [])).1.length ≤ 4 := by
      have h1 := bundF_left (rows := rows) ((lotsOf n).take i) (rngI n, [])
      simp only [List.length_map, List.length_range] at h1
      omega
    generalize hst : ((lotsOf n).take i).foldl (bStep rows) (rngI n, []) = st at eN hfl hle
    obtain ⟨left, found⟩ := st
    have hno' : noOwn [v, w', x] = true := by
      unfold noOwn at hno ⊢
      rw [List.all_cons, Bool.and_eq_true] at hno
      exact hno.2
    have no4 : ∀ z : Option Sl, (match z with | some (Sl.own _) => false | _ => true) = true → noOwn [some (.dat (.int n)), some (.dat (drows rows)), some (.dat (dli left)), none, some (.dat (dti lot)), z, w', x] = true := fun z hz => by
      unfold noOwn at hno' ⊢
      simp only [List.all_cons, List.all_nil, Bool.and_true, Bool.true_and, Bool.and_eq_true] at hno' ⊢
      exact ⟨hz, hno'.2⟩
    -- the sums of a lot
    have hsums : ∀ r ∈ rows, ∀ k ∈ lot, ∃ j : Nat, k = j ∧ j < r.length := fun r hr' k hk => by
      obtain ⟨j, e, hj⟩ := hlk k hk
      exact ⟨j, e, by rw [hrow r hr']; exact hj⟩
    have eC : (di lot).filterMap (fun d => if nOf d ∈ left then none else some d) = di (lot.filter fun k => decide (¬ k ∈ left)) := di_filter (fun k => k ∈ left) lot
    refine js_if (Mid := fun ρ => ∃ u v w' x, ρ = [some (.dat (.int n)), some (.dat (drows rows)), some (.dat (dli (bStep rows (left, found) lot).1)), some (.own ((bStep rows (left, found) lot).2.map dti)), u, v, w', x] ∧ noOwn [u, v, w', x] = true)
      (β := fun z => z = (!decide (lot = []) && decide (∀ k ∈ lot, k ∈ left))) (jt_pw (jw_andI (jt_cmp (op_neD (u64 hu)) (nomark _) (je_var 4) (je_tup ja_nil) (od_neD hK.symm (ok_dti _) (ok_dti []) (eqv_dtiNil _)).bp) fun _ => jw_and1 ((jt_eq (je_len (n := (lot.filter fun k => decide (¬ k ∈ left)).length) hK.symm (by show some (di _).length = _; simp) nb.len ((je_lc sc_lawBundles.nd [("_law_key", 6)] (blk_by (by kernel_rfl)) (jl_filter 6 (fun d => if nOf d ∈ left then none else some d) (ji_tup hK.symm (je_var 4)) (fun _ _ _ _ _ => wr_name 6 sc_lawBundles.nd) (by simp; omega) (fun d hd _ _ _ _ _ => ?_) fun d hd z hz _ _ _ _ _ => ?_)).to (congrArg D.list eC))) je_int).to lawLot_len)))
      (fun e => ?_) (fun e => ?_) fun ρ' hρ => ?_
    · obtain ⟨k, hk, rfl⟩ := List.mem_map.mp hd
      refine jf_one ((jt_notInI hK.symm (ns := left) rfl (je_var 6) (je_var 2)).to ?_)
      show (!decide (k ∈ left)) = (if k ∈ left then none else some (D.int k)).isSome
      by_cases h : k ∈ left
      · rw [if_pos h, decide_eq_true h]; rfl
      · rw [if_neg h, decide_eq_false h]; rfl
    · have : z = d := by
        split at hz
        · cases hz
        · exact (Option.some.inj hz).symm
      subst this
      exact je_var 6
    · have hc : lot ≠ [] ∧ ∀ k ∈ lot, k ∈ left := by
        have h' := e.symm
        rw [Bool.and_eq_true] at h'
        exact ⟨by simpa using h'.1, by simpa using h'.2⟩
      have eS : (rows.map dti).map (fun d => D.int ((lot.map fun k => ((((seqD d).getD []).map nOf)).getD k.toNat 0).sum)) = di (sumsOf rows lot) := by
        unfold sumsOf di
        rw [List.map_map, List.map_map]
        refine List.map_congr_left fun r _ => ?_
        show D.int ((lot.map fun k => ((di r).map nOf).getD k.toNat 0).sum) = _
        rw [nOf_di]
        rfl
      refine js_lc 5 sc_lawBundles.nd [("_law_row", 7)] (blk_by (by kernel_rfl)) (jl_map 7 (fun d => D.int ((lot.map fun k => ((((seqD d).getD []).map nOf)).getD k.toNat 0).sum)) (ji_list hK.symm (je_var 1)) (fun _ _ _ _ _ => wr_name 7 sc_lawBundles.nd) (by simp; omega) fun d hd _ _ _ _ _ => ?_) (fun d e => ?_) (sw_true rfl rfl rfl (by decide +kernel))
      · obtain ⟨r, hr', rfl⟩ := List.mem_map.mp hd
        have e3 : ((seqD (dti r)).getD []).map nOf = r := nOf_di r
        rw [e3]
        refine @je_sumLx _ _ _ _ _ _ _ _ (lot.map fun k => r.getD k.toNat 0) ?_ ?_ ?_ ?_ ?_ ?_
        rotate_left
        · exact nb.sum
        · rfl
        · rfl
        · rfl
        · rfl
        refine JE.to (d := .list ((di lot).map fun d => D.int (r.getD (nOf d).toNat 0))) ?_ ?_
        · refine je_lc sc_lawBundles.nd [("_law_key", 6)] (blk_by (by kernel_rfl)) ?_
          refine jl_map 6 (fun d => D.int (r.getD (nOf d).toNat 0)) (ji_tup hK.symm (je_var 4)) (fun _ _ _ _ _ => wr_name 6 sc_lawBundles.nd) (by simp; omega) fun d hd _ _ _ _ _ => ?_
          obtain ⟨k, hk, rfl⟩ := List.mem_map.mp hd
          obtain ⟨j, rfl, hj⟩ := hsums r hr' k hk
          exact je_ixT (di_get (ns := r) (k := j) hj) (je_var 7) (je_var 6)
        · unfold dli di
          rw [List.map_map, List.map_map]
          rfl
      subst e
      rw [eS]
      have hsn : sumsOf rows lot ≠ [] := by
        unfold sumsOf
        intro z
        exact hne (List.map_eq_nil_iff.mp z)
      generalize hSm : sumsOf rows lot = sm at hsn
      obtain ⟨y, ys, rfl⟩ : ∃ y ys, sm = y :: ys := by
        cases sm with
        | nil => exact absurd rfl hsn
        | cons y ys => exact ⟨y, ys, rfl⟩
      obtain ⟨m1, m2⟩ := least_mem ys y
      obtain ⟨m3, m4⟩ := most_mem ys y
      refine js_if (Mid := fun ρ => ∃ u v w' x, ρ = [some (.dat (.int n)), some (.dat (drows rows)), some (.dat (dli (bStep rows (left, found) lot).1)), some (.own ((bStep rows (left, found) lot).2.map dti)), u, v, w', x] ∧ noOwn [u, v, w', x] = true)
        ((jt_eq (je_minL m1 m2 hK.symm nb.min (je_var 5)) (je_maxL m3 m4 hK.symm nb.max (je_var 5))).to (same_minmax m1 m2 m3 m4)) (fun e => ?_) (fun e => ?_) fun ρ' hρ => js_nil hρ
      · have eB : bStep rows (left, found) lot = (left.filter fun k => decide (k ∉ lot), found ++ [lot]) := by
          unfold bStep
          rw [if_pos hc, hSm, if_pos e.symm]
        refine js_append 3 rfl (no4 _ rfl) (by rw [List.length_map]; omega) (je_var 4) fun d e => ?_
        subst e
        have eF : (di left).filterMap (fun d => if nOf d ∈ lot then none else some d) = di (left.filter fun k => decide (¬ k ∈ lot)) := di_filter (fun k => k ∈ lot) left
        refine js_set (Φ := Is (dli (left.filter fun k => decide (¬ k ∈ lot)))) 2 sc_lawBundles.nd ((je_lc sc_lawBundles.nd [("_law_key", 6)] (blk_by (by kernel_rfl)) (jl_filter 6 (fun d => if nOf d ∈ lot then none else some d) (ji_list hK.symm (je_var 2)) (fun _ _ _ _ _ => wr_name 6 sc_lawBundles.nd) (by rw [List.length_map]; have : left.length ≤ 4 := hle; omega) (fun d hd _ _ _ _ _ => ?_) fun d hd z hz _ _ _ _ _ => ?_)).to (congrArg D.list eF)) fun d e => ?_
        · obtain ⟨k, hk, rfl⟩ := List.mem_map.mp hd
          refine jf_one ((jt_notInI hK.symm (ns := lot) rfl (je_var 6) (je_var 4)).to ?_)
          show (!decide (k ∈ lot)) = (if k ∈ lot then none else some (D.int k)).isSome
          by_cases h : k ∈ lot
          · rw [if_pos h, decide_eq_true h]; rfl
          · rw [if_neg h, decide_eq_false h]; rfl
        · have : z = d := by
            split at hz
            · cases hz
            · exact (Option.some.inj hz).symm
          subst this
          exact je_var 6
        subst e
        refine js_nil ⟨some (.dat (dti lot)), some (.dat (.list (di (y :: ys)))), w', x, ?_, ?_⟩
        · rw [eB]
          show _ = [_, _, _, some (Sl.own ((found ++ [lot]).map dti)), _, _, _, _]
          rw [List.map_append]
          rfl
        · unfold noOwn at hno' ⊢
          simp only [List.all_cons, List.all_nil, Bool.and_true, Bool.true_and, Bool.and_eq_true] at hno' ⊢
          exact hno'.2
      · have eB : bStep rows (left, found) lot = (left, found) := by
          unfold bStep
          rw [if_pos hc, hSm, if_neg (by rw [← e]; decide)]
        refine js_nil ⟨some (.dat (dti lot)), some (.dat (.list (di (y :: ys)))), w', x, ?_, ?_⟩
        · rw [eB]
          rfl
        · unfold noOwn at hno' ⊢
          simp only [List.all_cons, List.all_nil, Bool.and_true, Bool.true_and, Bool.and_eq_true] at hno' ⊢
          exact hno'.2
    · have hc : ¬ (lot ≠ [] ∧ ∀ k ∈ lot, k ∈ left) := fun z => by
        rw [decide_eq_false z.1, decide_eq_true z.2] at e
        cases e
      have eB : bStep rows (left, found) lot = (left, found) := by
        unfold bStep
        rw [if_neg hc]
      refine js_nil ⟨some (.dat (dti lot)), v, w', x, ?_, ?_⟩
      · rw [eB]
        rfl
      · unfold noOwn at hno' ⊢
        rw [List.all_cons, Bool.and_eq_true]
        exact ⟨rfl, hno'⟩
    · obtain ⟨u, v, w', x, rfl, h⟩ := hρ
      refine js_nil ⟨u, v, w', x, ?_, h⟩
      rw [eN]
  · subst hS
    rw [List.length_map, List.take_length] at hI
    exact hI
  · obtain ⟨u, v, w', x, rfl, hno⟩ := hM
    refine js_freeze 3 rfl ?_
    have hsub := bundF_sub (rows := rows) (S := lotsOf n) (lotsOf n) (rngI n, []) (fun l h => h) (fun l h => absurd h List.not_mem_nil)
    have hl2 := bundF_len (rows := rows) (lotsOf n) (rngI n, [])
    have hl3 := lotsOf_len hn
    refine js_ret (Φ := Is (.tup ((bundR n rows).map dti))) (je_callTy call_tuple_of nb.tuple (ja_1 (je_sortRows (rs := (bundF n rows).2) hK.symm (fun r hr' => (hsub r hr').2) (by
      have : (bundF n rows).2.length ≤ 0 + (lotsOf n).length := hl2
      omega) hu nb.sorted (je_var 3)) ja_nil) (ca_tuple rfl)) fun d e => ⟨n, rows, rfl, by rw [e]⟩
end
end B
set_option Elab.async false
set_option autoImplicit false
set_option linter.all false
set_option maxRecDepth 100000
set_option maxHeartbeats 4000000
namespace B
open PySem PySem.Spec PyProof.Rows L2
abbrev sFewest : Stmt := top 31
abbrev sFarthest : Stmt := top 32
abbrev nFewest : List Str := ["_law_rows_here", "_law_one", "_law_other", "_law_agree", "_law_left", "_law_found", "_law_many", "_law_turn", "_law_key", "_law_row", "_law_near", "_law_k"]
theorem sc_fewest : FnScope nFewest ["_law_rows_here", "_law_one", "_law_other"] (defScope sFewest) := ⟨rfl, rfl, rfl, by decide +kernel, rfl, by decide +kernel, by decide +kernel⟩
abbrev nFarthest : List Str := ["_law_low", "_law_high", "_law_one", "_law_other", "_law_told", "_law_key", "_law_keys"]
theorem sc_farthest : FnScope nFarthest ["_law_low", "_law_high", "_law_one", "_law_other", "_law_told"] (defScope sFarthest) := ⟨rfl, rfl, rfl, by decide +kernel, rfl, by decide +kernel, by decide +kernel⟩
def rowD (d : D) : List Int := ((seqD d).getD []).map nOf
theorem rowD_dti (r : List Int) : rowD (dti r) = r := nOf_di r
theorem rows_filter (p : List Int → Bool) : ∀ rows : List (List Int), (rows.map dti).filterMap (fun d => if p (rowD d) = true then some d else none) = (rows.filter p).map dti
  | [] => rfl
  | r :: rows => by
    rw [List.map_cons, List.filterMap_cons, List.filter_cons, rowD_dti]
    by_cases h : p r = true
    · rw [if_pos h, if_pos h]
      show dti r :: _ = _
      rw [rows_filter p rows]
      rfl
    · rw [if_neg h, if_neg h]
      exact rows_filter p rows
theorem keys_filter (p : Nat → Bool) (ks : List Nat) : (di (ks.map fun (k : Nat) => (k : Int))).filterMap (fun d => if p (nOf d).toNat = true then some d else none) = di ((ks.filter p).map fun (k : Nat) => (k : Int)) := by
  unfold di
  rw [List.map_map, List.filterMap_map]
  exact fm_filter p ks
theorem rng_filter (p : Nat → Bool) (n : Nat) : (rng n).filterMap (fun d => if p (nOf d).toNat = true then some d else none) = di (((List.range n).filter p).map fun (k : Nat) => (k : Int)) := by
  rw [rng_filterMap]
  exact fm_filter p (List.range n)
theorem lenD_rows (rs : List (List Int)) : lenD (drows rs) = some rs.length := by simp [lenD]
/-! ### _law_fewest -/
def agreeK (a b : List Int) : List Nat := (List.range a.length).filter fun k => decide (a.getD k 0 = b.getD k 0)
def leftP (a b r : List Int) : Bool := (agreeK a b).all (fun k => decide (r.getD k 0 = a.getD k 0)) && !decide (r = a)
def nearP (found : List (List Int)) (r : List Int) : Bool := found.any fun s => decide ((keysD r s).length = 1)
def fewStep (st : List (List Int) × List (List Int)) : List (List Int) × List (List Int) := (st.1.filter (fun r => !decide (r ∈ st.1.filter (nearP st.2))), st.1.filter (nearP st.2))
def fewLoop (b : List Int) : Nat → List (List Int) × List (List Int) → Nat → Option Nat
  | 0, _, _ => none
  | n + 1, st, m => if b ∈ st.2 then some m else fewLoop b n (fewStep st) (m + 1)
def fewest (rows : List (List Int)) (a b : List Int) : Option Nat := fewLoop b (rows.length + 1) (rows.filter (leftP a b), [a]) 0
def optD : Option Nat → D
  | some m => .int m
  | none => .non
def preFew (ds : List D) : Prop := ∃ (n : Nat) (rows : List (List Int)) (a b : List Int), ds = [drows rows, dti a, dti b] ∧ n ≤ 4 ∧ rows.length ≤ 256 ∧ (∀ r ∈ rows, r.length = n) ∧ a.length = n ∧ b.length = n
def postFew (ds : List D) (o : Ou) : Prop := ∃ (rows : List (List Int)) (a b : List Int), ds = [drows rows, dti a, dti b] ∧ o = .ret (optD (fewest rows a b))
theorem opt_some {b : Bool} {x : D} : b = (if b = true then some x else none).isSome := by cases b <;> rfl
theorem opt_get {b : Bool} {x z : D} (h : (if b = true then some x else none) = some z) : z = x := by
  split at h
  · exact (Option.some.inj h).symm
  · cases h
theorem all_len {ks : List Nat} {p : Nat → Bool} : (di ((ks.filter p).map fun (k : Nat) => (k : Int))).isEmpty = ks.all fun k => !p k := by
  unfold di
  rw [List.isEmpty_map, List.isEmpty_map]
  induction ks with
  | nil => rfl
  | cons k ks ih =>
    rw [List.filter_cons, List.all_cons]
    cases h : p k
    · simpa using ih
    · simp
theorem any_len {α : Type} (f : α → D) (p : α → Bool) (xs : List α) : (!((xs.filter p).map f).isEmpty) = xs.any p := by
  rw [List.isEmpty_map]
  induction xs with
  | nil => rfl
  | cons x xs ih =>
    rw [List.filter_cons, List.any_cons]
    cases h : p x
    · simpa using ih
    · simp
section
variable {P : Program} {w : PySem.World} {K : PySem.W.Frag} {mg : Str → Option Value} {base : Heap} {θ : Th} {f : Addr} {fd : FuncData}
theorem ok_fewest (D0 : Df K mg "_law_fewest" sFewest ["_law_rows_here", "_law_one", "_law_other"] f fd) (th : ThOk P K mg θ) (nb : Nb mg) : Cal P w K mg base 1 "_law_fewest" ["_law_rows_here", "_law_one", "_law_other"] (spD θ false preFew postFew) := by
  refine calD (k := 0) D0 sc_fewest (fun ds h => ?_) fun cdv A outer s H E hr δ ds hp => ?_
  · obtain ⟨n, rows, a, b, rfl, _⟩ := h
    rfl
  obtain ⟨n, rows, a, b, rfl, hn, hlen, hrow, ha, hb⟩ := hp
  have hK := th.eK
  have hu := Room_u65 hr
  -- agree
  refine js_set (Φ := Is (dli ((agreeK a b).map fun (k : Nat) => (k : Int)))) 3 sc_fewest.nd (JE.to (d := .list ((rng a.length).filterMap fun d => if decide (a.getD (nOf d).toNat 0 = b.getD (nOf d).toNat 0) = true then some d else none)) (je_lc sc_fewest.nd [("_law_key", 8)] (blk_by (by kernel_rfl)) (jl_filter 8 _ (ji_rangeI nb.range (je_len (n := a.length) hK.symm (lenD_dti a) nb.len (je_var 1)) (by omega)) (fun _ _ _ _ _ => wr_name 8 sc_fewest.nd) (by rw [rng_length]; omega)
    (fun d hd _ _ _ _ _ => ?_) fun d hd z hz _ _ _ _ _ => ?_)) (congrArg D.list (rng_filter (fun k => decide (a.getD k 0 = b.getD k 0)) a.length))) fun d e => ?_
  · obtain ⟨k, rfl, hk⟩ := mem_rng hd
    exact jf_one ((jt_eq (je_ixT (di_get (ns := a) (k := k) hk) (je_var 1) (je_var 8)) (je_ixT (di_get (ns := b) (k := k) (by omega)) (je_var 2) (je_var 8))).to opt_some)
  · obtain rfl := opt_get hz
    exact je_var 8
  subst e
  have hag : ∀ k ∈ agreeK a b, k < n := fun k hk => by
    rw [← ha]
    exact List.mem_range.mp (List.mem_filter.mp hk).1
  have hagl : (agreeK a b).length ≤ 4 := by
    have := List.length_filter_le (fun k => decide (a.getD k 0 = b.getD k 0)) (List.range a.length)
    unfold agreeK
    rw [List.length_range] at this
    omega
  -- left
  refine js_lc 4 sc_fewest.nd [("_law_row", 9)] (blk_by (by kernel_rfl)) (jl_filter 9 (fun d => if leftP a b (rowD d) = true then some d else none) (ji_list hK.symm (je_var 0)) (fun _ _ _ _ _ => wr_name 9 sc_fewest.nd) (by simp; omega) (fun d hd _ _ _ _ _ => ?_) fun d hd z hz _ _ _ _ _ => ?_) (fun d e => ?_) (sw_true rfl rfl rfl (by decide +kernel))
  · obtain ⟨r, hr', rfl⟩ := List.mem_map.mp hd
    have hrl := hrow r hr'
    rw [rowD_dti]
    refine jf_one (JT.to ?_ opt_some)
    have e1 : leftP a b r = ((di (((agreeK a b).filter fun k => decide (r.getD k 0 ≠ a.getD k 0)).map fun (k : Nat) => (k : Int))).isEmpty && !decide (r = a)) := by
      rw [all_len]
      unfold leftP
      congr 1
      refine List.all_congr rfl fun k => ?_
      simp
    rw [e1]
    refine jt_pw (jw_andI ?_ fun _ => jw_and1 ?_)
    · refine jt_cmp (op_eqD (u64 hu)) (nomark _) (A := Is (.list (di (((agreeK a b).filter fun k => decide (r.getD k 0 ≠ a.getD k 0)).map fun (k : Nat) => (k : Int))))) ?_ (je_lst ja_nil) (od_eqD hK.symm (ok_dli _) (ok_dli []) (eqv_nilL _)).bp
      refine JE.to (d := .list ((di ((agreeK a b).map fun (k : Nat) => (k : Int))).filterMap fun d => if decide (r.getD (nOf d).toNat 0 ≠ a.getD (nOf d).toNat 0) = true then some d else none)) ?_ (congrArg D.list (keys_filter (fun k => decide (r.getD k 0 ≠ a.getD k 0)) (agreeK a b)))
      refine je_lc sc_fewest.nd [("_law_key", 8)] (blk_by (by kernel_rfl)) ?_
      refine jl_filter 8 _ (ji_list hK.symm (je_var 3)) (fun _ _ _ _ _ => wr_name 8 sc_fewest.nd) (by simp; omega) (fun d hd _ _ _ _ _ => ?_) fun d hd z hz _ _ _ _ _ => ?_
      · obtain ⟨i, hi, rfl⟩ := List.mem_map.mp hd
        obtain ⟨k, hk, rfl⟩ := List.mem_map.mp hi
        have := hag k hk
        refine jf_one ((jt_ne (je_ixT (di_get (ns := r) (k := k) (by omega)) (je_var 9) (je_var 8)) (je_ixT (di_get (ns := a) (k := k) (by omega)) (je_var 1) (je_var 8))).to ?_)
        exact ne_some (r.getD k 0) (a.getD k 0) _
      · obtain rfl := opt_get hz
        exact je_var 8
    · exact jt_cmp (op_neD (u64 hu)) (nomark _) (je_var 9) (je_var 1) (od_neD hK.symm (ok_dti _) (ok_dti _) (eqv_dti _ _)).bp
  · obtain rfl := opt_get hz
    exact je_var 9
  subst e
  rw [rows_filter]
  -- found, many
  refine js_asg (act := Two 5 6) (Φ := Is (.tup [drows [a], .int 0])) (jg_two hK.symm 5 6 sc_fewest.nd) (je_tup (ja_1 (je_lst (ja_1 (je_var 1) ja_nil)) (ja_1 je_int ja_nil))) (fun d e => ⟨_, _, _, e, rfl⟩) fun d ρ' hd hA => ?_
  subst hd
  obtain ⟨_, _, ed, rfl⟩ := hA
  cases ed
  refine js_for (S := fun s => s = rng (rows.length + 1)) (act := NameT 7) (Inv := fun src i ρ => ∃ left found u v w' x y, ρ = [some (.dat (drows rows)), some (.dat (dti a)), some (.dat (dti b)), some (.dat (dli ((agreeK a b).map fun (k : Nat) => (k : Int)))), some (.dat (drows left)), some (.dat (drows found)), some (.dat (.int (i : Nat))), u, v, w', x, y] ∧ i ≤ rows.length + 1 ∧ fewest rows a b = fewLoop b (rows.length + 1 - i) (left, found) i ∧ left.length ≤ 256 ∧ found.length ≤ 256 ∧ (∀ r ∈ left, r.length = n) ∧ (∀ r ∈ found, r.length = n))
    (Mid := fun ρ => fewest rows a b = none)
    ((ji_range nb.range (fun k => k = ((rows.length + 1 : Nat) : Int)) ((je_add (je_len (n := rows.length) hK.symm (lenD_rows rows) nb.len (je_var 0)) je_int).mono fun d e => ⟨_, e, by omega⟩) (fun k hk => by omega)).mono fun s ⟨k, e1, e2⟩ => by rw [e2, e1]; rfl) (jg_name 7 sc_fewest.nd)
    (fun src hS => ⟨rows.filter (leftP a b), [a], none, none, none, none, none, rfl, Nat.zero_le _, rfl, Nat.le_trans (List.length_filter_le _ _) hlen, (show 1 ≤ 256 by decide), fun r h => hrow r (List.mem_filter.mp h).1, fun r h => by rw [List.mem_singleton.mp h]; exact ha⟩) (fun _ _ _ _ _ _ _ => ⟨_, rfl⟩) (fun src i d ρ1 ρ2 hS hd hI hA => ?_) (fun src ρ1 hS hI => ?_) (fun ρ' hM => ?_)
  · subst hS
    obtain ⟨left, found, u, v, w', x, y, rfl, hi, hfew, hl1, hl2, hl3, hl4⟩ := hI
    subst hA
    rw [rng_get] at hd
    have hi' : i < rows.length + 1 := by
      split at hd
      · assumption
      · cases hd
    rw [if_pos hi'] at hd
    cases hd
    have ef : rows.length + 1 - i = (rows.length + 1 - (i + 1)) + 1 := by omega
    rw [ef] at hfew
    refine js_ifRet (jt_cmp (op_inD hu) (by with_unfolding_all rfl) (je_var 2) (je_var 5) (od_inD hK.symm (ok_dti b) (ok_drows found) (any_rows found b)).bp) (fun e => ?_) fun e => ?_
    · have hbf : b ∈ found := of_decide_eq_true e.symm
      refine js_ret (je_var 6) fun d e => ⟨rows, a, b, rfl, ?_⟩
      rw [hfew, e]
      unfold fewLoop
      rw [if_pos hbf]
      rfl
    · have hbf : ¬ b ∈ found := of_decide_eq_false e.symm
      have eS : fewest rows a b = fewLoop b (rows.length + 1 - (i + 1)) (fewStep (left, found)) (i + 1) := by
        rw [hfew]
        show (if b ∈ found then _ else _) = _
        rw [if_neg hbf]
      refine js_set (Φ := Is (drows (left.filter (nearP found)))) 5 sc_fewest.nd (JE.to (d := .list ((left.map dti).filterMap fun d => if nearP found (rowD d) = true then some d else none)) (je_lc sc_fewest.nd [("_law_row", 9)] (blk_by (by kernel_rfl)) (jl_filter 9 _ (ji_list hK.symm (je_var 4)) (fun _ _ _ _ _ => wr_name 9 sc_fewest.nd) (by simp; omega) (fun d hd _ _ _ _ _ => ?_) fun d hd z hz _ _ _ _ _ => ?_)) (congrArg D.list (rows_filter (nearP found) left))) fun d e => ?_
      · obtain ⟨r, hr', rfl⟩ := List.mem_map.mp hd
        have hrl := hl3 r hr'
        rw [rowD_dti]
        refine jf_one (JT.to ?_ opt_some)
        have e1 : nearP found r = !((found.filter fun s => decide ((keysD r s).length = 1)).map dti).isEmpty := (any_len dti _ _).symm
        rw [e1]
        refine jt_cmp (op_neD (u64 hu)) (nomark _) (A := Is (drows (found.filter fun s => decide ((keysD r s).length = 1)))) ?_ (je_lst ja_nil) (od_neD hK.symm (ok_drows _) (ok_dli []) (eqv_nilL _)).bp
        refine JE.to (d := .list ((found.map dti).filterMap fun d => if decide ((keysD r (rowD d)).length = 1) = true then some d else none)) ?_ (congrArg D.list (rows_filter (fun s => decide ((keysD r s).length = 1)) found))
        refine je_lc sc_fewest.nd [("_law_near", 10)] (blk_by (by kernel_rfl)) ?_
        refine jl_filter 10 _ (ji_list hK.symm (je_var 5)) (fun _ _ _ _ _ => wr_name 10 sc_fewest.nd) (by simp; omega) (fun d hd _ _ _ _ _ => ?_) fun d hd z hz _ _ _ _ _ => ?_
        · obtain ⟨q, hq, rfl⟩ := List.mem_map.mp hd
          have hql := hl4 q hq
          rw [rowD_dti]
          refine jf_one (JT.to ?_ opt_some)
          have e2 : decide ((keysD r q).length = 1) = decide (((keysD r q).length : Int) = 1) := decide_eq_decide.mpr (by omega)
          rw [e2]
          refine jt_eq (je_len (n := (keysD r q).length) hK.symm (lenD_keys _) nb.len ?_) je_int
          refine JE.to (d := .list ((rng r.length).filterMap fun d => if decide (r.getD (nOf d).toNat 0 ≠ q.getD (nOf d).toNat 0) = true then some d else none)) ?_ (congrArg D.list (rng_filter (fun k => decide (r.getD k 0 ≠ q.getD k 0)) r.length))
          refine je_lc sc_fewest.nd [("_law_k", 11)] (blk_by (by kernel_rfl)) ?_
          refine jl_filter 11 _ (ji_rangeI nb.range (je_len (n := r.length) hK.symm (lenD_dti r) nb.len (je_var 9)) (by omega)) (fun _ _ _ _ _ => wr_name 11 sc_fewest.nd) (by rw [rng_length]; omega) (fun d hd _ _ _ _ _ => ?_) fun d hd z hz _ _ _ _ _ => ?_
          · obtain ⟨k, rfl, hk⟩ := mem_rng hd
            refine jf_one ((jt_ne (je_ixT (di_get (ns := r) (k := k) hk) (je_var 9) (je_var 11)) (je_ixT (di_get (ns := q) (k := k) (by omega)) (je_var 10) (je_var 11))).to ?_)
            exact ne_some (r.getD k 0) (q.getD k 0) _
          · obtain rfl := opt_get hz
            exact je_var 11
        · obtain rfl := opt_get hz
          exact je_var 10
      · obtain rfl := opt_get hz
        exact je_var 9
      subst e
      refine js_par 4 6 sc_fewest.nd (A := Is (drows (left.filter fun r => !decide (r ∈ left.filter (nearP found))))) (JE.to (d := .list ((left.map dti).filterMap fun d => if (!decide (rowD d ∈ left.filter (nearP found))) = true then some d else none)) (je_lc sc_fewest.nd [("_law_row", 9)] (blk_by (by kernel_rfl)) (jl_filter 9 _ (ji_list hK.symm (je_var 4)) (fun _ _ _ _ _ => wr_name 9 sc_fewest.nd) (by simp; omega) (fun d hd _ _ _ _ _ => ?_) fun d hd z hz _ _ _ _ _ => ?_)) (congrArg D.list (rows_filter (fun r => !decide (r ∈ left.filter (nearP found))) left))) (je_add (je_var 6) je_int) fun d d' hd hd' => ?_
      · obtain ⟨r, hr', rfl⟩ := List.mem_map.mp hd
        rw [rowD_dti]
        exact jf_one (JT.to (jt_cmp (op_notInD hu) (by with_unfolding_all rfl) (je_var 9) (je_var 5) (od_notInD hK.symm (ok_dti r) (ok_drows _) (any_rows _ r)).bp) opt_some)
      · obtain rfl := opt_get hz
        exact je_var 9
      subst hd hd'
      refine js_nil ⟨left.filter (fun r => !decide (r ∈ left.filter (nearP found))), left.filter (nearP found), some (.dat (.int (i : Nat))), v, w', x, y, ?_, by omega, eS, Nat.le_trans (List.length_filter_le _ _) hl1, Nat.le_trans (List.length_filter_le _ _) hl1, fun r h => hl3 r (List.mem_filter.mp h).1, fun r h => hl3 r (List.mem_filter.mp h).1⟩
      rw [show ((i + 1 : Nat) : Int) = (i : Int) + 1 by omega]
      rfl
  · subst hS
    obtain ⟨left, found, u, v, w', x, y, _, hi, hfew, _⟩ := hI
    rw [hfew, rng_length, Nat.sub_self]
    rfl
  · exact js_ret je_non fun d e => ⟨rows, a, b, rfl, by rw [hM, e]; rfl⟩
end
end B
set_option Elab.async false
set_option autoImplicit false
set_option linter.all false
set_option maxRecDepth 100000
set_option maxHeartbeats 4000000
namespace B
open PySem PySem.Spec PyProof.Rows L2
/-! ### _law_farthest -/
def movedK (a t : List Int) : List Nat := (List.range a.length).filter fun k => decide (t.getD k 0 ≠ a.getD k 0)
def farAt (lo hi : Int) (a b t : List Int) (k : Nat) : Bool :=
  if a.getD k 0 < b.getD k 0 then decide (t.getD k 0 = min (b.getD k 0) (a.getD k 0 + hi - a.sum)) else decide (b.getD k 0 < a.getD k 0) && decide (t.getD k 0 = max (b.getD k 0) (a.getD k 0 - (a.sum - lo)))
def farP (lo hi : Int) (a b t : List Int) : Bool := match movedK a t with
  | [k] => farAt lo hi a b t k
  | _ => false
def preFar (ds : List D) : Prop := ∃ (lo hi : Int) (a b t : List Int), ds = [.int lo, .int hi, dti a, dti b, dti t] ∧ a.length ≤ 1000 ∧ b.length = a.length ∧ t.length = a.length
def postFar (ds : List D) (o : Ou) : Prop := ∃ (lo hi : Int) (a b t : List Int), ds = [.int lo, .int hi, dti a, dti b, dti t] ∧ o = .ret (.bl (farP lo hi a b t))
section
variable {P : Program} {w : PySem.World} {K : PySem.W.Frag} {mg : Str → Option Value} {base : Heap} {θ : Th} {f : Addr} {fd : FuncData}
theorem ok_farthest (D0 : Df K mg "_law_farthest" sFarthest ["_law_low", "_law_high", "_law_one", "_law_other", "_law_told"] f fd) (th : ThOk P K mg θ) (nb : Nb mg) : Cal P w K mg base 1 "_law_farthest" ["_law_low", "_law_high", "_law_one", "_law_other", "_law_told"] (spD θ false preFar postFar) := by
  refine calD (k := 0) D0 sc_farthest (fun ds h => ?_) fun cdv A outer s H E hr δ ds hp => ?_
  · obtain ⟨lo, hi, a, b, t, rfl, _⟩ := h
    rfl
  obtain ⟨lo, hi, a, b, t, rfl, hz, hb, ht⟩ := hp
  have hK := th.eK
  have fin : ∀ d, d = D.bl (farP lo hi a b t) → postFar [.int lo, .int hi, dti a, dti b, dti t] (.ret d) := fun d e => ⟨lo, hi, a, b, t, rfl, by rw [e]⟩
  refine js_lc 6 sc_farthest.nd [("_law_key", 5)] (blk_by (by kernel_rfl)) (jl_filter 5 (fun d => if decide (t.getD (nOf d).toNat 0 ≠ a.getD (nOf d).toNat 0) = true then some d else none) (ji_rangeI nb.range (je_len (n := a.length) hK.symm (lenD_dti a) nb.len (je_var 2)) (by omega)) (fun _ _ _ _ _ => wr_name 5 sc_farthest.nd) (by rw [rng_length]; omega)
    (fun d hd _ _ _ _ _ => ?_) fun d hd z hz _ _ _ _ _ => ?_) (fun d e => ?_) (sw_true rfl rfl rfl (by decide +kernel))
  · obtain ⟨k, rfl, hk⟩ := mem_rng hd
    refine jf_one ((jt_ne (je_ixT (di_get (ns := t) (k := k) (by omega)) (je_var 4) (je_var 5)) (je_ixT (di_get (ns := a) (k := k) hk) (je_var 2) (je_var 5))).to ?_)
    exact ne_some (t.getD k 0) (a.getD k 0) _
  · obtain rfl := opt_get hz
    exact je_var 5
  subst e
  rw [rng_filter (fun k => decide (t.getD k 0 ≠ a.getD k 0)) a.length]
  have hmk : ∀ k ∈ movedK a t, k < a.length := fun k hk => List.mem_range.mp (List.mem_filter.mp hk).1
  change JS _ _ _ _ _ (List.set _ 6 (some (.dat (.list (di ((movedK a t).map fun (k : Nat) => (k : Int))))))) _ _
  unfold farP at fin
  generalize movedK a t = mk at fin hmk
  refine js_ifRet (jt_ne (je_len (n := mk.length) hK.symm (lenD_keys _) nb.len (je_var 6)) je_int) (fun e => ?_) fun e => ?_
  · refine js_ret je_bl fun d e' => fin d ?_
    rw [e']
    have hl : mk.length ≠ 1 := fun z => by
      have h1 : decide (((mk.length : Nat) : Int) = 1) = true := decide_eq_true (by omega)
      rw [h1] at e
      cases e
    match mk, hl with
    | [], _ => rfl
    | [k], h => exact absurd rfl h
    | _ :: _ :: _, _ => rfl
  · have hl : mk.length = 1 := by
      have h1 : ((mk.length : Nat) : Int) = 1 := by simpa using e.symm
      omega
    obtain ⟨k, rfl⟩ := List.length_eq_one_iff.mp hl
    have hk := hmk k List.mem_cons_self
    refine js_set (Φ := Is (.int (k : Nat))) 5 sc_farthest.nd (je_ixL (ds := di [(k : Int)]) (i := 0) rfl (je_var 6) je_int) fun d e => ?_
    subst e
    have sl : ∀ {X : Cx} {ρ : Rho} {m : Bool} {δ : Dl} {q : Expr}, JE θ δ m X ρ q (Is (dti a)) → JE θ δ m X ρ q (Is (.tup (di a))) := fun h => h
    refine js_ifRet (jt_gt (je_ixT (di_get (ns := b) (k := k) (by omega)) (je_var 3) (je_var 5)) (je_ixT (di_get (ns := a) (k := k) hk) (je_var 2) (je_var 5))) (fun e => ?_) fun e => ?_
    · have hlt : a.getD k 0 < b.getD k 0 := of_decide_eq_true e.symm
      refine js_ret (je_eq (je_ixT (di_get (ns := t) (k := k) (by omega)) (je_var 4) (je_var 5)) (je_min nb.min (je_ixT (di_get (ns := b) (k := k) (by omega)) (je_var 3) (je_var 5)) (je_sub (je_add (je_ixT (di_get (ns := a) (k := k) hk) (je_var 2) (je_var 5)) (je_var 1)) (je_sumL (ns := a) nb.sum (je_callTy call_list_of nb.list (ja_1 (je_var 2) ja_nil) (ca_list rfl)))))) fun d e' => fin d ?_
      rw [e']
      show _ = D.bl (farAt lo hi a b t k)
      unfold farAt
      rw [if_pos hlt]
    · have hlt : ¬ a.getD k 0 < b.getD k 0 := of_decide_eq_false e.symm
      refine js_ret (Φ := Is (.bl (farAt lo hi a b t k))) (je_andI (je_lt (je_ixT (di_get (ns := b) (k := k) (by omega)) (je_var 3) (je_var 5)) (je_ixT (di_get (ns := a) (k := k) hk) (je_var 2) (je_var 5))) (fun e2 => je_and1 ((je_eq (je_ixT (di_get (ns := t) (k := k) (by omega)) (je_var 4) (je_var 5)) (je_max nb.max (je_ixT (di_get (ns := b) (k := k) (by omega)) (je_var 3) (je_var 5)) (je_sub (je_ixT (di_get (ns := a) (k := k) hk) (je_var 2) (je_var 5)) (je_sub (je_sumL (ns := a) nb.sum (je_callTy call_list_of nb.list (ja_1 (je_var 2) ja_nil) (ca_list rfl))) (je_var 0))))).to ?_)) fun e2 => ?_) fun d e' => fin d e'
      · unfold farAt
        rw [if_neg hlt, e2]
        rfl
      · unfold farAt
        rw [if_neg hlt, e2]
        rfl
end
end B
set_option Elab.async false
set_option autoImplicit false
set_option linter.all false
set_option maxRecDepth 100000
set_option maxHeartbeats 4000000
namespace B
open PySem PySem.Spec PyProof.Rows L2
section
variable {θ : Th} {δ : Dl} {m : Bool} {X : Cx} {ρ : Rho} {a b c e : Expr} {pos px : Pos} {N M : Int → Prop}
theorem call_min2P {N M : Int → Prop} : CaD θ δ m (fun xs H Q => ∃ i j, xs = [.int i, .int j] ∧ Q (.int (if j < i then j else i)) H) (fun ds => ∃ d r, ds = d :: r ∧ Ip N d ∧ ∃ d2 r2, r = d2 :: r2 ∧ Ip M d2 ∧ r2 = []) (Ip fun k => ∃ i j, N i ∧ M j ∧ k = min i j) := fun xs ds G H f ra p Q q => by
  obtain ⟨d, r, rfl, ⟨i, rfl, hi⟩, d2, r2, rfl, ⟨j, rfl, hj⟩, rfl⟩ := f
  cases ra with
  | cons r1 ra =>
    cases ra with
    | cons r2 ra =>
      cases ra
      cases r1
      cases r2
      refine ⟨i, j, rfl, q _ _ G H (.refl p) ⟨_, rfl, i, j, hi, hj, ?_⟩ (.int _)⟩
      rw [Int.min_def]
      split <;> split <;> omega
theorem je_minP (hm : X.mg "min" = none) (ha : JE θ δ m X ρ a (Ip N)) (hb : JE θ δ m X ρ b (Ip M)) (hc : X.calm = true := by rfl) (hg : Gl X "min" := by rfl) (h1 : starEach [a, b] X.env = (false, eval a X.env) :: starEach [b] X.env := by rfl) (h2 : starEach [b] X.env = (false, eval b X.env) :: starEach [] X.env := by rfl)
    (h3 : (backTo pos (starEach [b] X.env)).any (·.1) = false := by rfl) : JE θ δ m X ρ (.Call (.Name "min" px) [a, b] [] pos) (Ip fun k => ∃ i j, N i ∧ M j ∧ k = min i j) := je_callB (call_min2 hc) hm (ja_cons ha (ja_cons hb ja_nil h2) h1) call_min2P (by decide +kernel) hg (by decide) (by decide) h1 h3
end
/-! ### _law_small -/
abbrev sSmall : Stmt := top 28
abbrev nSmall : List Str := ["_law_deal", "_law_caps", "_law_low", "_law_key"]
theorem sc_small : FnScope nSmall ["_law_deal"] (defScope sSmall) := ⟨rfl, rfl, rfl, by decide +kernel, rfl, by decide +kernel, by decide +kernel⟩
def smallB (caps : List Int) (lo hi : Int) : Prop := smallCaps caps ∧ caps ≠ [] ∧ 0 ≤ lo ∧ lo ≤ hi ∧ hi ≤ caps.sum ∧ hi - lo ≤ 3
def preDeal (ds : List D) : Prop := ds = [.deal]
def postSmall (ds : List D) (o : Ou) : Prop := ∃ caps lo hi, smallB caps lo hi ∧ o = .ret (.tup [dli caps, .int lo, .int hi])
theorem sum_nonneg : ∀ {l : List Int}, (∀ x ∈ l, 0 ≤ x) → 0 ≤ l.sum
  | [], _ => Int.le_refl _
  | x :: l, h => by
    have h1 := h x List.mem_cons_self
    have h2 := sum_nonneg (l := l) fun y hy => h y (List.mem_cons_of_mem _ hy)
    rw [List.sum_cons]
    omega
theorem small_sum : ∀ {l : List Int}, (∀ x ∈ l, 0 ≤ x ∧ x ≤ 3) → l.sum ≤ 3 * l.length
  | [], _ => by simp
  | x :: l, h => by
    have h1 := h x List.mem_cons_self
    have h2 := small_sum (l := l) fun y hy => h y (List.mem_cons_of_mem _ hy)
    rw [List.sum_cons, List.length_cons]
    omega
/-- data that are all ints of a kind -/
theorem ints_of {S : Int → Prop} : ∀ {es : List D}, (∀ d ∈ es, ∃ i, d = .int i ∧ S i) → ∃ ns : List Int, es = di ns ∧ ∀ n ∈ ns, S n
  | [], _ => ⟨[], rfl, fun n h => absurd h List.not_mem_nil⟩
  | d :: es, h => by
    obtain ⟨i, rfl, hi⟩ := h d List.mem_cons_self
    obtain ⟨ns, rfl, hn⟩ := ints_of (es := es) fun z hz => h z (List.mem_cons_of_mem _ hz)
    refine ⟨i :: ns, rfl, fun n hn' => ?_⟩
    rcases List.mem_cons.mp hn' with rfl | q
    · exact hi
    · exact hn n q
section
variable {P : Program} {w : PySem.World} {K : PySem.W.Frag} {mg : Str → Option Value} {base : Heap} {θ : Th} {f : Addr} {fd : FuncData}
abbrev CalOf (P : Program) (w : PySem.World) (K : PySem.W.Frag) (mg : Str → Option Value) (base : Heap) (θ : Th) : Prop := Cal P w K mg base 2 "_law_of" ["_law_deal", "_law_some"] (spD θ true preOf postOf)
abbrev CalAny (P : Program) (w : PySem.World) (K : PySem.W.Frag) (mg : Str → Option Value) (base : Heap) (θ : Th) : Prop := Cal P w K mg base 1 "_law_any" ["_law_deal", "_law_bound"] (spD θ true preAny postAny)
abbrev CalGreat (P : Program) (w : PySem.World) (K : PySem.W.Frag) (mg : Str → Option Value) (base : Heap) (θ : Th) : Prop := Cal P w K mg base 2 "_law_great" ["_law_deal", "_law_bound"] (spD θ true preGreat postAny)
theorem ok_small (D0 : Df K mg "_law_small" sSmall ["_law_deal"] f fd) (th : ThOk P K mg θ) (nb : Nb mg) (c1 : CalAny P w K mg base θ) (c2 : CalOf P w K mg base θ) : Cal P w K mg base 3 "_law_small" ["_law_deal"] (spD θ true preDeal postSmall) := by
  refine calD (k := 2) D0 sc_small (fun ds h => by rw [h]; rfl) fun cdv A outer s H E hr δ ds hp => ?_
  subst hp
  have hK := th.eK
  refine js_lc 1 sc_small.nd [("_law_key", 3)] (blk_by (by kernel_rfl)) (Ψ := fun d => ∃ caps, d = dli caps ∧ smallCaps caps ∧ caps ≠ []) (jl_some (S := fun s => ∃ n : Nat, s = rng n ∧ 1 ≤ n ∧ n ≤ 4) 3 (fun _ _ x => ∃ i, x = .int i ∧ 0 ≤ i ∧ i ≤ 3)
    ((ji_range nb.range (fun n => 1 ≤ n ∧ n ≤ 4) ((je_of c2 hr (Nat.le_refl _) (xs := [.int 1, .int 2, .int 2, .int 3, .int 3, .int 4]) (by simp) (by simp) (je_var 0) (je_lst (ja_1 je_int (ja_1 je_int (ja_1 je_int (ja_1 je_int (ja_1 je_int (ja_1 je_int ja_nil)))))))).mono fun d hd => ?_) (fun n hn => by omega)).mono fun s ⟨n, hn, e⟩ => ⟨n.toNat, e, by omega, by omega⟩)
    (fun _ _ _ _ _ => wr_name 3 sc_small.nd) (fun src ⟨n, e, h1, h2⟩ => by rw [e, rng_length]; omega) (fun src hS d hd _ _ _ _ _ => (je_of c2 hr (Nat.le_refl _) (xs := [.int 0, .int 1, .int 1, .int 2, .int 2, .int 3]) (by simp) (by simp) (je_var 0) (je_lst (ja_1 je_int (ja_1 je_int (ja_1 je_int (ja_1 je_int (ja_1 je_int (ja_1 je_int ja_nil)))))))).mono fun d hd => ?_) fun src es hS hl he => ?_) (fun d hd => ?_) (sw_true rfl rfl rfl (by decide +kernel))
  · simp only [List.mem_cons, List.not_mem_nil, or_false] at hd
    rcases hd with rfl | rfl | rfl | rfl | rfl | rfl <;> exact ⟨_, rfl, by decide, by decide⟩
  · simp only [List.mem_cons, List.not_mem_nil, or_false] at hd
    rcases hd with rfl | rfl | rfl | rfl | rfl | rfl <;> exact ⟨_, rfl, by decide, by decide⟩
  · obtain ⟨n, rfl, h1, h2⟩ := hS
    rw [rng_length] at hl
    obtain ⟨ns, rfl, hn⟩ := ints_of (S := fun i => 0 ≤ i ∧ i ≤ 3) (es := es) fun d hd => by
      obtain ⟨j, hj⟩ := List.mem_iff_getElem?.mp hd
      have hjl := (List.getElem?_eq_some_iff.mp hj).1
      obtain ⟨x, e1, e2⟩ := he j (.int j) (by rw [rng_get, if_pos (by omega)])
      rw [hj] at e1
      cases e1
      exact e2
    rw [List.length_map] at hl
    exact ⟨ns, rfl, ⟨by omega, hn⟩, fun z => by rw [z] at hl; simp at hl; omega⟩
  obtain ⟨caps, rfl, hs, hne⟩ := hd
  have h0 := sum_nonneg fun x hx => (hs.2 x hx).1
  have h3 := small_sum hs.2
  have h4 := hs.1
  refine js_set (Φ := Ip fun r => 0 ≤ r ∧ r < caps.sum + 1) 2 sc_small.nd (je_any c1 hr (by decide) (by omega) (log2_small (by omega)) (je_var 0) (je_add (je_sumL nb.sum (je_var 1)) je_int)) fun d hd => ?_
  obtain ⟨lo, rfl, hlo, hlo2⟩ := hd
  refine js_ret (Φ := fun d => ∃ hi, d = .tup [dli caps, .int lo, .int hi] ∧ lo ≤ hi ∧ hi ≤ caps.sum ∧ hi - lo ≤ 3) (j_tup (ja_cons (A := Is (dli caps)) (je_var 1) (ja_cons (A := Is (.int lo)) (je_var 2) (ja_cons (A := Ip fun k => ∃ i j, i = caps.sum ∧ (∃ i' j', i' = lo ∧ (0 ≤ j' ∧ j' ≤ 3) ∧ j = i' + j') ∧ k = min i j) (je_minP nb.min (JE.ip (je_sumL nb.sum (je_var 1))) (je_addP (N := fun k => k = lo) (JE.ip (je_var 2)) (M := fun k => 0 ≤ k ∧ k ≤ 3) ((je_of c2 hr (Nat.le_refl _) (xs := [.int 0, .int 0, .int 0, .int 1, .int 1, .int 1, .int 2, .int 3]) (by simp) (by simp) (je_var 0) (je_lst (ja_1 je_int (ja_1 je_int (ja_1 je_int (ja_1 je_int (ja_1 je_int (ja_1 je_int (ja_1 je_int (ja_1 je_int ja_nil)))))))))).mono fun d hd => ?_))) ja_nil))) (fun ds ⟨d, r, e1, _, d2, r2, e2, _, d3, r3, e3, _, e4⟩ => by rw [e1, e2, e3, e4]; simp) (fun ds ⟨d, r, e1, f1, d2, r2, e2, f2, d3, r3, e3, ⟨k, f3, i, j, hi, ⟨i2, j2, h5, h6, h7⟩, h8⟩, e4⟩ => ?_)) fun d ⟨hi, e, h5, h6, h7⟩ => ⟨caps, lo, hi, ⟨hs, hne, hlo, h5, h6, h7⟩, by rw [e]⟩
  · simp only [List.mem_cons, List.not_mem_nil, or_false] at hd
    rcases hd with rfl | rfl | rfl | rfl | rfl | rfl | rfl | rfl <;> exact ⟨_, rfl, by decide, by decide⟩
  · exact ⟨k, by rw [e1, f1, e2, f2, e3, f3, e4], by omega, by omega, by omega⟩
end
end B
set_option Elab.async false
set_option autoImplicit false
set_option linter.all false
set_option maxRecDepth 100000
set_option maxHeartbeats 4000000
namespace B
open PySem PySem.Spec PyProof.Rows L2
abbrev sPair : Stmt := top 37
abbrev sOdd : Stmt := top 34
abbrev nPair : List Str := ["_law_deal", "_law_rows_here", "_law_one", "_law_near", "_law_apart", "_law_row", "_law_key"]
theorem sc_pair : FnScope nPair ["_law_deal", "_law_rows_here"] (defScope sPair) := ⟨rfl, rfl, rfl, by decide +kernel, rfl, by decide +kernel, by decide +kernel⟩
abbrev nOdd : List Str := ["_law_deal", "_law_row", "_law_at", "_law_bent"]
theorem sc_odd : FnScope nOdd ["_law_deal", "_law_row"] (defScope sOdd) := ⟨rfl, rfl, rfl, by decide +kernel, rfl, by decide +kernel, by decide +kernel⟩
def prePair (ds : List D) : Prop := ∃ (n : Nat) (rows : List (List Int)), ds = [.deal, drows rows] ∧ n ≤ 4 ∧ rows ≠ [] ∧ rows.length ≤ 256 ∧ ∀ r ∈ rows, r.length = n
def postPair (ds : List D) (o : Ou) : Prop := ∃ (rows : List (List Int)) (a b : List Int), ds = [.deal, drows rows] ∧ a ∈ rows ∧ b ∈ rows ∧ o = .ret (.tup [dti a, dti b])
theorem keysD_self (a : List Int) : keysD a a = [] := by
  unfold keysD
  rw [List.filter_eq_nil_iff]
  intro k _
  simp
/-- not a state: of the length n, whatever the caps -/
def OddD (n : Nat) (d : D) : Prop := smallSeq d ∧ ∀ caps : List Int, caps.length = n → isRowD caps d = false
def preOdd (ds : List D) : Prop := ∃ r : List Int, ds = [.deal, dti r] ∧ r ≠ [] ∧ r.length ≤ 900
def postOdd (ds : List D) (o : Ou) : Prop := ∃ (r : List Int) (d : D), ds = [.deal, dti r] ∧ OddD r.length d ∧ o = .ret d
theorem odd_flat {d : D} {n : Nat} (hT : hasTy d) (h : seqD d = none) : OddD n d := ⟨⟨hT, fun ds e => by rw [h] at e; cases e⟩, fun caps _ => by unfold isRowD; rw [h]⟩
theorem odd_len {d : D} {n : Nat} {ds : List D} (hT : hasTy d) (h : seqD d = some ds) (hl : ds.length ≤ 1000) (ht : ∀ x ∈ ds, hasTy x) (hn : ds.length ≠ n) : OddD n d :=
  ⟨⟨hT, fun es e => by rw [h] at e; cases e; exact ⟨hl, ht⟩⟩, fun caps hc => by
    unfold isRowD
    rw [h]
    show (decide (ds.length = caps.length) && rowBelow caps ds) = false
    rw [decide_eq_false (by omega)]
    rfl⟩
theorem rowBelow_at : ∀ {caps : List Int} {ds : List D} {k : Nat} {d : D}, ds[k]? = some d → k < caps.length → (∀ n, isIdxD d n = false) → rowBelow caps ds = false
  | [], _, _, _, _, h, _ => absurd h (Nat.not_lt_zero _)
  | c :: caps, [], _, _, h, _, _ => by simp at h
  | c :: caps, x :: ds, 0, d, h, _, hi => by
    have : x = d := by simpa using h
    subst this
    unfold rowBelow
    rw [List.zipWith_cons_cons, List.all_cons, hi]
    rfl
  | c :: caps, x :: ds, k + 1, d, h, hk, hi => by
    have := rowBelow_at (caps := caps) (ds := ds) (k := k) (by simpa using h) (by simpa using hk) hi
    unfold rowBelow at this ⊢
    rw [List.zipWith_cons_cons, List.all_cons, this, Bool.and_false]
theorem odd_at {d x : D} {n k : Nat} {ds : List D} (hT : hasTy d) (h : seqD d = some ds) (hl : ds.length ≤ 1000) (ht : ∀ x ∈ ds, hasTy x) (hx : ds[k]? = some x) (hi : ∀ n, isIdxD x n = false) (hk : k < n) : OddD n d :=
  ⟨⟨hT, fun es e => by rw [h] at e; cases e; exact ⟨hl, ht⟩⟩, fun caps hc => by
    unfold isRowD
    rw [h]
    show (decide (ds.length = caps.length) && rowBelow caps ds) = false
    rw [rowBelow_at hx (by omega) hi, Bool.and_false]⟩
section
variable {P : Program} {w : PySem.World} {K : PySem.W.Frag} {mg : Str → Option Value} {base : Heap} {θ : Th} {f : Addr} {fd : FuncData}
theorem ok_pair (D0 : Df K mg "_law_pair" sPair ["_law_deal", "_law_rows_here"] f fd) (th : ThOk P K mg θ) (nb : Nb mg) (c2 : CalOf P w K mg base θ) : Cal P w K mg base 3 "_law_pair" ["_law_deal", "_law_rows_here"] (spD θ true prePair postPair) := by
  refine calD (k := 2) D0 sc_pair (fun ds h => by obtain ⟨_, _, rfl, _⟩ := h; rfl) fun cdv A outer s H E hr δ ds hp => ?_
  obtain ⟨n, rows, rfl, hn, hne, hlen, hrow⟩ := hp
  have hK := th.eK
  have hu := Room_u65 hr
  refine js_set (Φ := fun d => ∃ a ∈ rows, d = dti a) 2 sc_pair.nd ((je_of c2 hr (Nat.le_refl _) (xs := rows.map dti) (fun z => hne (List.map_eq_nil_iff.mp z)) (by rw [List.length_map]; omega) (je_var 0) (je_var 1)).mono fun d hd => ?_) fun d hd => ?_
  · obtain ⟨a, ha, rfl⟩ := List.mem_map.mp hd
    exact ⟨a, ha, rfl⟩
  obtain ⟨a, ha, rfl⟩ := hd
  have hal := hrow a ha
  refine js_lc 3 sc_pair.nd [("_law_row", 5)] (blk_by (by kernel_rfl)) (jl_filter 5 (fun d => if decide ((keysD (rowD d) a).length < 3) = true then some d else none) (ji_list hK.symm (je_var 1)) (fun _ _ _ _ _ => wr_name 5 sc_pair.nd) (by rw [List.length_map]; omega) (fun d hd _ _ _ _ _ => ?_) fun d hd z hz _ _ _ _ _ => ?_) (fun d e => ?_) (sw_true rfl rfl rfl (by decide +kernel))
  · obtain ⟨r, hr', rfl⟩ := List.mem_map.mp hd
    have hrl := hrow r hr'
    rw [rowD_dti]
    refine jf_one (JT.to ?_ opt_some)
    have e2 : decide ((keysD r a).length < 3) = decide (((keysD r a).length : Int) < 3) := decide_eq_decide.mpr (by omega)
    rw [e2]
    refine jt_lt (je_len (n := (keysD r a).length) hK.symm (lenD_keys _) nb.len ?_) je_int
    refine JE.to (d := .list ((rng r.length).filterMap fun d => if decide (r.getD (nOf d).toNat 0 ≠ a.getD (nOf d).toNat 0) = true then some d else none)) ?_ (congrArg D.list (rng_filter (fun k => decide (r.getD k 0 ≠ a.getD k 0)) r.length))
    refine je_lc sc_pair.nd [("_law_key", 6)] (blk_by (by kernel_rfl)) ?_
    refine jl_filter 6 _ (ji_rangeI nb.range (je_len (n := r.length) hK.symm (lenD_dti r) nb.len (je_var 5)) (by omega)) (fun _ _ _ _ _ => wr_name 6 sc_pair.nd) (by rw [rng_length]; omega) (fun d hd _ _ _ _ _ => ?_) fun d hd z hz _ _ _ _ _ => ?_
    · obtain ⟨k, rfl, hk⟩ := mem_rng hd
      refine jf_one ((jt_ne (je_ixT (di_get (ns := r) (k := k) hk) (je_var 5) (je_var 6)) (je_ixT (di_get (ns := a) (k := k) (by omega)) (je_var 2) (je_var 6))).to ?_)
      exact ne_some (r.getD k 0) (a.getD k 0) _
    · obtain rfl := opt_get hz
      exact je_var 6
  · obtain rfl := opt_get hz
    exact je_var 5
  subst e
  rw [rows_filter (fun r => decide ((keysD r a).length < 3))]
  have hnearl : (rows.filter fun r => decide ((keysD r a).length < 3)).length ≤ 256 := Nat.le_trans (List.length_filter_le _ _) hlen
  have hnear1 : ∀ r ∈ rows.filter fun r => decide ((keysD r a).length < 3), r ∈ rows := fun r h => (List.mem_filter.mp h).1
  have hnear0 : (rows.filter fun r => decide ((keysD r a).length < 3)) ≠ [] := fun z => by
    have : a ∈ rows.filter fun r => decide ((keysD r a).length < 3) := List.mem_filter.mpr ⟨ha, by rw [keysD_self]; rfl⟩
    rw [z] at this
    cases this
  generalize rows.filter (fun r => decide ((keysD r a).length < 3)) = near at hnearl hnear1 hnear0
  refine js_lc 4 sc_pair.nd [("_law_row", 5)] (blk_by (by kernel_rfl)) (jl_filter 5 (fun d => if decide ((keysD (rowD d) a).length = 2) = true then some d else none) (ji_list hK.symm (je_var 3)) (fun _ _ _ _ _ => wr_name 5 sc_pair.nd) (by rw [List.length_map]; omega) (fun d hd _ _ _ _ _ => ?_) fun d hd z hz _ _ _ _ _ => ?_) (fun d e => ?_) (sw_true rfl rfl rfl (by decide +kernel))
  · obtain ⟨r, hr', rfl⟩ := List.mem_map.mp hd
    have hrl := hrow r (hnear1 r hr')
    rw [rowD_dti]
    refine jf_one (JT.to ?_ opt_some)
    have e2 : decide ((keysD r a).length = 2) = decide (((keysD r a).length : Int) = 2) := decide_eq_decide.mpr (by omega)
    rw [e2]
    refine jt_eq (je_len (n := (keysD r a).length) hK.symm (lenD_keys _) nb.len ?_) je_int
    refine JE.to (d := .list ((rng r.length).filterMap fun d => if decide (r.getD (nOf d).toNat 0 ≠ a.getD (nOf d).toNat 0) = true then some d else none)) ?_ (congrArg D.list (rng_filter (fun k => decide (r.getD k 0 ≠ a.getD k 0)) r.length))
    refine je_lc sc_pair.nd [("_law_key", 6)] (blk_by (by kernel_rfl)) ?_
    refine jl_filter 6 _ (ji_rangeI nb.range (je_len (n := r.length) hK.symm (lenD_dti r) nb.len (je_var 5)) (by omega)) (fun _ _ _ _ _ => wr_name 6 sc_pair.nd) (by rw [rng_length]; omega) (fun d hd _ _ _ _ _ => ?_) fun d hd z hz _ _ _ _ _ => ?_
    · obtain ⟨k, rfl, hk⟩ := mem_rng hd
      refine jf_one ((jt_ne (je_ixT (di_get (ns := r) (k := k) hk) (je_var 5) (je_var 6)) (je_ixT (di_get (ns := a) (k := k) (by omega)) (je_var 2) (je_var 6))).to ?_)
      exact ne_some (r.getD k 0) (a.getD k 0) _
    · obtain rfl := opt_get hz
      exact je_var 6
  · obtain rfl := opt_get hz
    exact je_var 5
  subst e
  rw [rows_filter (fun r => decide ((keysD r a).length = 2))]
  have hap1 : ∀ r ∈ near.filter fun r => decide ((keysD r a).length = 2), r ∈ rows := fun r h => hnear1 r (List.mem_filter.mp h).1
  have hapl : (near.filter fun r => decide ((keysD r a).length = 2)).length ≤ 256 := Nat.le_trans (List.length_filter_le _ _) hnearl
  generalize near.filter (fun r => decide ((keysD r a).length = 2)) = apart at hap1 hapl
  have alt : ∀ {p1 p2 p3 p4 p5 p6 : Pos}, JE θ δ true (cxOf (L2.CX P w) P w K mg base nPair "_law_pair" (defScope sPair) f cdv A outer s H E) ([some (.dat .deal), some (.dat (drows rows)), some (.dat (dti a)), some (.dat (drows near)), some (.dat (drows apart)), none, none]) (.IfExp (.Compare (.Name "_law_apart" p1) [.NotEq] [.List [] p2] p3) (.Name "_law_apart" p4) (.Name "_law_near" p5) p6) (Is (drows (if apart = [] then near else apart))) := fun {p1 p2 p3 p4 p5 p6} => by
    refine je_if (jt_cmp (op_neD (u64 hu)) (nomark _) (je_var 4) (je_lst ja_nil) (od_neD hK.symm (ok_drows _) (ok_dli []) (eqv_nilL _)).bp) (fun e => ?_) fun e => ?_
    · have : apart ≠ [] := fun z => by
        rw [z] at e
        cases e
      rw [if_neg this]
      exact je_var 4
    · have : apart = [] := by
        cases apart with
        | nil => rfl
        | cons x y => cases e
      rw [if_pos this]
      exact je_var 3
  have hX : ∀ r ∈ (if apart = [] then near else apart), r ∈ rows := fun r h => by
    split at h
    · exact hnear1 r h
    · exact hap1 r h
  have hXl : (if apart = [] then near else apart).length ≤ 256 := by split <;> assumption
  have hX0 : (if apart = [] then near else apart) ≠ [] := by
    split
    · exact hnear0
    · assumption
  refine js_ret (Φ := fun d => ∃ b ∈ rows, d = .tup [dti a, dti b]) (j_tup (ja_cons (A := Is (dti a)) (je_var 2) (ja_cons (A := fun d => ∃ b ∈ rows, d = dti b) (je_ofP (L := fun xs => ∃ rs : List (List Int), xs = rs.map dti ∧ rs ≠ [] ∧ rs.length ≤ 256 ∧ ∀ r ∈ rs, r ∈ rows) c2 hr (Nat.le_refl _) (fun xs ⟨rs, e, h1, h2, h3⟩ => ⟨fun z => h1 (List.map_eq_nil_iff.mp (e ▸ z)), by rw [e, List.length_map]; omega, fun d hd => ?_⟩) (je_var 0)
    ((je_of c2 hr (Nat.le_refl _) (xs := [drows rows, drows near, drows (if apart = [] then near else apart), drows (if apart = [] then near else apart)]) (by simp) (by simp) (je_var 0) (je_lst (ja_1 (je_var 1) (ja_1 (je_var 3) (ja_1 alt (ja_1 alt ja_nil)))))).mono fun d hd => ?_)) ja_nil)) (fun ds ⟨d, r, e1, _, d2, r2, e2, _, e3⟩ => by rw [e1, e2, e3]; simp) fun ds ⟨d, r, e1, f1, d2, r2, e2, ⟨b, hb, f2⟩, e3⟩ => ⟨b, hb, by rw [e1, f1, e2, f2, e3]⟩) fun d ⟨b, hb, e⟩ => ⟨rows, a, b, rfl, ha, hb, by rw [e]⟩
  · rw [e] at hd
    obtain ⟨b, hb, rfl⟩ := List.mem_map.mp hd
    exact ⟨b, h3 b hb, rfl⟩
  · simp only [List.mem_cons, List.not_mem_nil, or_false] at hd
    rcases hd with rfl | rfl | rfl | rfl
    · exact ⟨_, rfl, rows, rfl, hne, hlen, fun r h => h⟩
    · exact ⟨_, rfl, near, rfl, hnear0, hnearl, hnear1⟩
    · exact ⟨_, rfl, _, rfl, hX0, hXl, hX⟩
    · exact ⟨_, rfl, _, rfl, hX0, hXl, hX⟩
theorem ok_odd (D0 : Df K mg "_law_odd" sOdd ["_law_deal", "_law_row"] f fd) (th : ThOk P K mg θ) (nb : Nb mg) (c1 : CalAny P w K mg base θ) (c2 : CalOf P w K mg base θ) : Cal P w K mg base 3 "_law_odd" ["_law_deal", "_law_row"] (spD θ true preOdd postOdd) := by
  refine calD (k := 2) D0 sc_odd (fun ds h => by obtain ⟨_, rfl, _⟩ := h; rfl) fun cdv A outer s H E hr δ ds hp => ?_
  obtain ⟨r, rfl, hne, hl⟩ := hp
  have hK := th.eK
  have h0 := lpos hne
  refine js_set (Φ := Ip fun k => 0 ≤ k ∧ k < r.length) 2 sc_odd.nd (je_any c1 hr (by decide) (by omega) (by rw [Int.natAbs_natCast]; exact log2_small (by omega)) (je_var 0) (je_len (n := r.length) hK.symm (lenD_dti r) nb.len (je_var 1))) fun d hd => ?_
  obtain ⟨i, rfl, hi0, hi1⟩ := hd
  obtain ⟨k, rfl⟩ := Int.eq_ofNat_of_zero_le hi0
  have hk : k < r.length := by omega
  refine js_setOwn 3 sc_odd.nd (jeo_list (ds := di r) rfl nb.list (je_var 1)) rfl fun ds e => ?_
  subst e
  refine js_store (K := fun j => j = k) 3 rfl rfl (fun j hj => by rw [hj, List.length_map]; exact hk) (je_of c2 hr (Nat.le_refl _) (xs := [.int (-1), .non, .bl true, .str "1", .int (-2)]) (by simp) (by simp) (je_var 0) (je_lst (ja_1 (je_neg je_int) (ja_1 je_non (ja_1 je_bl (ja_1 je_str (ja_1 (je_neg je_int) ja_nil))))))) ((je_var 2).mono fun d e => ⟨k, e, rfl⟩) fun x j hx hj => ?_
  have hj' : j = k := hj
  rw [hj']
  clear hj hj' j
  have hx2 : hasTy x ∧ ∀ n, isIdxD x n = false := by
    simp only [List.mem_cons, List.not_mem_nil, or_false] at hx
    rcases hx with rfl | rfl | rfl | rfl | rfl
    · exact ⟨⟨_, rfl⟩, fun n => by simp [isIdxD]⟩
    · exact ⟨⟨_, rfl⟩, fun n => rfl⟩
    · exact ⟨⟨_, rfl⟩, fun n => rfl⟩
    · exact ⟨⟨_, rfl⟩, fun n => rfl⟩
    · exact ⟨⟨_, rfl⟩, fun n => by simp [isIdxD]⟩
  refine js_freeze 3 rfl ?_
  have tyI : ∀ y ∈ di r, hasTy y := fun y hy => by
    obtain ⟨z, _, rfl⟩ := List.mem_map.mp hy
    exact ⟨_, rfl⟩
  have tyS : ∀ y ∈ (di r).set k x, hasTy y := fun y hy => by
    rcases List.mem_or_eq_of_mem_set hy with h | h
    · exact tyI y h
    · rw [h]; exact hx2.1
  have hsl : ((di r).set k x).length = r.length := by simp
  have hget : ((di r).set k x)[k]? = some x := List.getElem?_set_self (by rw [List.length_map]; exact hk)
  refine js_ret (Φ := fun d => OddD r.length d) ((je_of c2 hr (Nat.le_refl _) (xs := [.list ((di r).set k x), .tup ((di r).set k x), .non, .int 3, .list (di r ++ [.int 0]), .tup ((di r).drop 1), .edict]) (by simp) (by simp) (je_var 0) (je_lst (ja_1 (je_var 3) (ja_1 (je_callTy call_tuple_of nb.tuple (ja_1 (je_var 3) ja_nil) (ca_tuple rfl)) (ja_1 je_non (ja_1 je_int (ja_1 (je_catL (by simp; omega) (je_callTy call_list_of nb.list (ja_1 (je_var 1) ja_nil) (ca_list rfl)) (je_lst (ja_1 je_int ja_nil))) (ja_1 (JE.to (je_cutT (je_var 1) (jo_some je_int) jo_none) (congrArg D.tup (cut_from (di r) 1))) (ja_1 je_edict ja_nil))))))))).mono fun d hd => ?_) fun d hd => ⟨r, d, rfl, hd, rfl⟩
  simp only [List.mem_cons, List.not_mem_nil, or_false] at hd
  rcases hd with rfl | rfl | rfl | rfl | rfl | rfl | rfl
  · exact odd_at (k := k) ⟨_, rfl⟩ rfl (by rw [hsl]; omega) tyS hget hx2.2 hk
  · exact odd_at (k := k) ⟨_, rfl⟩ rfl (by rw [hsl]; omega) tyS hget hx2.2 hk
  · exact odd_flat ⟨_, rfl⟩ rfl
  · exact odd_flat ⟨_, rfl⟩ rfl
  · refine odd_len ⟨_, rfl⟩ rfl (by simp; omega) (fun y hy => ?_) (by simp)
    rcases List.mem_append.mp hy with h | h
    · exact tyI y h
    · rw [List.mem_singleton.mp h]
      exact ⟨_, rfl⟩
  · exact odd_len ⟨_, rfl⟩ rfl (by simp; omega) (fun y hy => tyI y (List.mem_of_mem_drop hy)) (by simp; omega)
  · exact odd_flat ⟨_, rfl⟩ rfl
end
end B
set_option Elab.async false
set_option autoImplicit false
set_option linter.all false
set_option maxRecDepth 100000
set_option maxHeartbeats 4000000
namespace B
open PySem PySem.Spec PyProof.Rows L2
abbrev sFilled : Stmt := top 39
abbrev nFilled : List Str := ["_law_deal", "_law_caps", "_law_total", "_law_cap", "_law_row", "_law_left", "_law_at", "_law_turn", "_law_key", "_law_more"]
theorem sc_filled : FnScope nFilled ["_law_deal", "_law_caps", "_law_total"] (defScope sFilled) := ⟨rfl, rfl, rfl, by decide +kernel, rfl, by decide +kernel, by decide +kernel⟩
/-- a row below caps -/
def belowL (caps r : List Int) : Prop := r.length = caps.length ∧ ∀ k, 0 ≤ r.getD k 0 ∧ r.getD k 0 ≤ caps.getD k 0
def preFilled (ds : List D) : Prop := ∃ (caps : List Int) (t : Int), ds = [.deal, dli caps, .int t] ∧ caps ≠ [] ∧ caps.length ≤ 1000 ∧ (∀ c ∈ caps, 0 ≤ c) ∧ 0 ≤ t ∧ t ≤ caps.sum
def postFilled (ds : List D) (o : Ou) : Prop := ∃ (caps : List Int) (t : Int) (r : List Int), ds = [.deal, dli caps, .int t] ∧ belowL caps r ∧ r.sum = t ∧ o = .ret (dti r)
theorem getD_set_eq {r : List Int} {k : Nat} {v : Int} (h : k < r.length) : (r.set k v).getD k 0 = v := by
  rw [List.getD_eq_getElem?_getD, List.getElem?_set_self h]
  rfl
theorem getD_set_ne {r : List Int} {k j : Nat} {v : Int} (h : k ≠ j) : (r.set k v).getD j 0 = r.getD j 0 := by
  rw [List.getD_eq_getElem?_getD, List.getElem?_set_ne h, ← List.getD_eq_getElem?_getD]
theorem sum_set : ∀ {r : List Int} {k : Nat} {v : Int}, k < r.length → (r.set k v).sum = r.sum - r.getD k 0 + v
  | [], _, _, h => absurd h (Nat.not_lt_zero _)
  | x :: r, 0, v, _ => by
    simp only [List.set_cons_zero, List.sum_cons, List.getD_cons_zero]
    omega
  | x :: r, k + 1, v, h => by
    have := sum_set (r := r) (k := k) (v := v) (by simpa using h)
    simp only [List.set_cons_succ, List.sum_cons, List.getD_cons_succ]
    omega
theorem below_set {caps r : List Int} {k : Nat} {v : Int} (b : belowL caps r) (hk : k < r.length) (h0 : 0 ≤ v) (h1 : v ≤ caps.getD k 0) : belowL caps (r.set k v) := by
  refine ⟨by rw [List.length_set]; exact b.1, fun j => ?_⟩
  by_cases e : k = j
  · subst e
    rw [getD_set_eq hk]
    exact ⟨h0, h1⟩
  · rw [getD_set_ne e]
    exact b.2 j
theorem getD_nonneg {caps : List Int} (h : ∀ c ∈ caps, 0 ≤ c) (k : Nat) : 0 ≤ caps.getD k 0 := by
  rw [List.getD_eq_getElem?_getD]
  cases e : caps[k]? with
  | none => exact Int.le_refl _
  | some c => exact h c (List.mem_of_getElem? e)
theorem di_set {r : List Int} {k : Nat} {v : Int} : (di r).set k (.int v) = di (r.set k v) := by
  unfold di
  rw [List.map_set]
theorem zeros (n : Nat) (caps : List Int) (h : caps.length = n) : (di caps).map (fun _ => D.int 0) = di (List.replicate n 0) := by
  subst h
  unfold di
  rw [List.map_map]
  induction caps with
  | nil => rfl
  | cons c caps ih => simpa [List.replicate_succ] using ih
theorem getD_zeros (n k : Nat) : (List.replicate n (0 : Int)).getD k 0 = 0 := by
  rw [List.getD_eq_getElem?_getD, List.getElem?_replicate]
  split <;> rfl
theorem sum_zeros (n : Nat) : (List.replicate n (0 : Int)).sum = 0 := by
  induction n with
  | zero => rfl
  | succ n ih => rw [List.replicate_succ, List.sum_cons, ih]; rfl
theorem sum_full : ∀ {r caps : List Int}, r.length = caps.length → (∀ k < r.length, r.getD k 0 = caps.getD k 0) → r.sum = caps.sum
  | [], [], _, _ => rfl
  | x :: r, c :: caps, hl, h => by
    have h0 := h 0 (Nat.succ_pos _)
    have h1 := sum_full (r := r) (caps := caps) (by simpa using hl) fun k hk => by simpa using h (k + 1) (by simpa using hk)
    simp only [List.getD_cons_zero] at h0
    rw [List.sum_cons, List.sum_cons, h0, h1]
  | [], _ :: _, hl, _ => by simp at hl
  | _ :: _, [], hl, _ => by simp at hl
theorem mod_apart {n a i j : Nat} (hi : i < j) (hj : j < n) : (a + i) % n ≠ (a + j) % n := fun e => by
  have h : (a + j - (a + i)) % n = 0 := Nat.sub_mod_eq_zero_of_mod_eq e.symm
  rw [show a + j - (a + i) = j - i by omega, Nat.mod_eq_of_lt (by omega)] at h
  omega
section
variable {P : Program} {w : PySem.World} {K : PySem.W.Frag} {mg : Str → Option Value} {base : Heap} {θ : Th} {f : Addr} {fd : FuncData}
theorem ok_filled (D0 : Df K mg "_law_filled" sFilled ["_law_deal", "_law_caps", "_law_total"] f fd) (th : ThOk P K mg θ) (nb : Nb mg) (c1 : CalAny P w K mg base θ) (c2 : CalGreat P w K mg base θ) : Cal P w K mg base 3 "_law_filled" ["_law_deal", "_law_caps", "_law_total"] (spD θ true preFilled postFilled) := by
  refine calD (k := 2) D0 sc_filled (fun ds h => by obtain ⟨_, _, rfl, _⟩ := h; rfl) fun cdv A outer s H E hr δ ds hp => ?_
  obtain ⟨caps, t, rfl, hne, hz, hcap, ht0, ht1⟩ := hp
  have hK := th.eK
  have h0 := lpos hne
  have lenC : lenD (dli caps) = some caps.length := lenD_dli caps
  refine js_par3Own 4 5 6 sc_filled.nd (Φ := fun ds => ds = di (List.replicate caps.length 0)) (C := Is (.int t)) (B' := Ip fun r => 0 ≤ r ∧ r < caps.length) (fun σ G H rs p Q q => jeo_const sc_filled.nd 3 [("_law_cap", 3)] rfl (blk_by (by kernel_rfl)) (ji_list hK.symm (je_var 1)) (fun _ _ _ _ _ => wr_name 3 sc_filled.nd) (by simp; omega) (fun d hd _ _ _ _ _ => je_int) rfl (by intro _; rfl) σ G H rs p Q fun l xs ds G' H' po e h1 h2 h3 ra => q l xs ds G' H' po (by rw [e, zeros _ _ rfl]) h1 h2 h3 ra)
    (je_var 2) (je_any c1 hr (by decide) (b := caps.length) (by omega) (by rw [Int.natAbs_natCast]; exact log2_small (by omega)) (je_var 0) (je_len hK.symm lenC nb.len (je_var 1))) (fun _ _ => rfl) fun ds d' d'' hds hd' hd'' => ?_
  subst hds hd'
  obtain ⟨at_, rfl, ha0, ha1⟩ := hd''
  obtain ⟨ai, rfl⟩ := Int.eq_ofNat_of_zero_le ha0
  have hn1 : 0 < caps.length := h0
  refine js_for (S := fun s => s = rng caps.length) (act := NameT 7) (Inv := fun src i ρ => ∃ (r : List Int) (left : Int) (u v x : Option Sl), ρ = [some (.dat .deal), some (.dat (dli caps)), some (.dat (.int t)), none, some (.own (di r)), some (.dat (.int left)), some (.dat (.int (ai : Nat))), u, v, x] ∧ noOwn [u, v, x] = true ∧ i ≤ caps.length ∧ belowL caps r ∧ 0 ≤ left ∧ r.sum + left = t ∧ ∀ j, i ≤ j → j < caps.length → r.getD ((ai + j) % caps.length) 0 = 0)
    (Mid := fun ρ => ∃ (r : List Int) (left : Int) (u v x : Option Sl), ρ = [some (.dat .deal), some (.dat (dli caps)), some (.dat (.int t)), none, some (.own (di r)), some (.dat (.int left)), some (.dat (.int (ai : Nat))), u, v, x] ∧ noOwn [u, v, x] = true ∧ belowL caps r ∧ 0 ≤ left ∧ r.sum + left = t)
    (ji_rangeI (n := caps.length) nb.range (je_len hK.symm lenC nb.len (je_var 1)) (by omega)) (jg_name 7 sc_filled.nd) (fun src hS => ⟨List.replicate caps.length 0, t, none, none, none, rfl, rfl, Nat.zero_le _, ⟨by simp, fun k => by rw [getD_zeros]; exact ⟨Int.le_refl _, getD_nonneg hcap k⟩⟩, ht0, by rw [sum_zeros]; omega, fun j _ _ => getD_zeros _ _⟩) (fun _ _ _ _ _ _ _ => ⟨_, rfl⟩) (fun src i d ρ1 ρ2 hS hd hI hA => ?_) (fun src ρ1 hS hI => ?_) (fun ρ' hM => ?_)
  · subst hS
    obtain ⟨r, left, u, v, x, rfl, hno, hi, hb, hl0, hsum, hzero⟩ := hI
    subst hA
    rw [rng_get] at hd
    have hi' : i < caps.length := by
      split at hd
      · assumption
      · cases hd
    rw [if_pos hi'] at hd
    cases hd
    have hkey : (ai + i) % caps.length < caps.length := Nat.mod_lt _ hn1
    have hno2 : noOwn [v, x] = true := by
      unfold noOwn at hno ⊢
      rw [List.all_cons, Bool.and_eq_true] at hno
      exact hno.2
    have hno3 : noOwn [x] = true := by
      unfold noOwn at hno2 ⊢
      rw [List.all_cons, Bool.and_eq_true] at hno2
      exact hno2.2
    have eKey : ((ai : Int) + (i : Int)) % (caps.length : Int) = (((ai + i) % caps.length : Nat) : Int) := by
      rw [show (ai : Int) + (i : Int) = ((ai + i : Nat) : Int) by omega]
      exact (Int.natCast_emod _ _).symm
    refine js_set (Φ := Is (.int (((ai + i) % caps.length : Nat) : Int))) 8 sc_filled.nd (JE.is ((je_modP (N := fun k => k = (ai : Int) + (i : Int)) (M := fun k => k = (caps.length : Int)) (fun _ j _ hj => by rw [hj]; omega) (je_callTy call_int1 nb.int (ja_cons (JE.ip (je_add (je_var 6) (je_var 7))) ja_nil) ca_int1) (JE.ip (je_len hK.symm lenC nb.len (je_var 1)))).mono fun d ⟨k, e1, i', j', e2, e3, e4⟩ => ⟨k, e1, by rw [e4, e2, e3, eKey]⟩)) fun d e => ?_
    subst e
    generalize hkk : (ai + i) % caps.length = key at hkey
    have hrl : r.length = caps.length := hb.1
    have hr0 : r.getD key 0 = 0 := by
      rw [← hkk]
      exact hzero i (Nat.le_refl _) hi'
    refine js_store (K := fun j => j = key) 4 rfl (by show noOwn [_, _, _, none, none, _, _, _, _, x] = true; exact hno3) (fun j hj => by rw [hj, List.length_map]; omega) (Φ := Ip fun k => 0 ≤ k ∧ k ≤ left ∧ k ≤ caps.getD key 0) ((je_minP nb.min (JE.ip (je_ixL (di_get (ns := caps) (k := key) hkey) (je_var 1) (je_var 8))) (M := fun k => 0 ≤ k ∧ k ≤ left) (je_if (β := fun _ => True) (jt_cmp op_eq (nomark _) (je_any c1 hr (by decide) (b := 2) (by decide) (by decide +kernel) (je_var 0) je_int) je_int (fun x y da db G H fa fb rx ry p Q q => ?_)) (fun _ => (je_great c2 hr (Nat.le_refl _) (b := left + 1) (by omega) (je_var 0) (je_add (je_var 5) je_int)).mono fun d ⟨k, e1, e2, e3⟩ => ⟨k, e1, e2, by omega⟩) fun _ => (je_var 5).mono fun d e => ⟨left, e, hl0, Int.le_refl _⟩)).mono fun d ⟨k, e1, i', j', e2, e3, e4⟩ => ⟨k, e1, ?_⟩) ((je_var 8).mono fun d e => ⟨key, e, rfl⟩) fun d j hd hj => ?_
    · obtain ⟨i1, rfl, _⟩ := fa
      subst fb
      cases rx
      cases ry
      exact ⟨rfl, q _ _ G H (.refl p) ⟨_, rfl, trivial⟩ (.bl _)⟩
    · have hcn := getD_nonneg hcap key
      rw [e2] at e4
      have h3 := e3.1
      have h4 := e3.2
      have h5 := Int.min_le_left (caps.getD key 0) j'
      have h6 := Int.min_le_right (caps.getD key 0) j'
      have h7 : 0 ≤ min (caps.getD key 0) j' := Int.le_min.mpr ⟨hcn, h3⟩
      rw [← e4] at h5 h6 h7
      exact ⟨h7, by omega, h5⟩
    · obtain ⟨val, rfl, hv0, hv1, hv2⟩ := hd
      have hj' : j = key := hj
      rw [hj', di_set]
      have hget : (di (r.set key val))[key]? = some (.int val) := by
        rw [← di_set]
        exact List.getElem?_set_self (by rw [List.length_map]; omega)
      refine js_set (Φ := Is (.int (left - val))) 5 sc_filled.nd (je_sub (je_var 5) (je_ixOwn 4 rfl hget (je_var 8))) fun d e => ?_
      subst e
      refine js_nil ⟨r.set key val, left - val, some (.dat (.int (i : Nat))), some (.dat (.int (key : Nat))), x, rfl, hno3, hi', below_set hb (by omega) hv0 hv2, by omega, by rw [sum_set (by omega), hr0]; omega, fun j2 h1 h2 => ?_⟩
      rw [getD_set_ne (by rw [← hkk]; exact mod_apart (by omega) h2)]
      exact hzero j2 (by omega) h2
  · subst hS
    obtain ⟨r, left, u, v, x, h1, h2, _, h3, h4, h5, _⟩ := hI
    exact ⟨r, left, u, v, x, h1, h2, h3, h4, h5⟩
  obtain ⟨r, left, u, v, x, rfl, hno, hb, hl0, hsum⟩ := hM
  have no3 : ∀ (q : Option Sl), q = u ∨ q = v ∨ q = x → noOwn [q] = true := fun q hq => by
    unfold noOwn at hno ⊢
    simp only [List.all_cons, List.all_nil, Bool.and_true, Bool.and_eq_true] at hno ⊢
    rcases hq with rfl | rfl | rfl
    · exact hno.1
    · exact hno.2.1
    · exact hno.2.2
  have hux : noOwn [u, x] = true := by
    unfold noOwn at hno ⊢
    simp only [List.all_cons, List.all_nil, Bool.and_true, Bool.and_eq_true] at hno ⊢
    exact ⟨hno.1, hno.2.2⟩
  refine js_for (S := fun s => s = numbered (di caps)) (act := Two 8 3) (Inv := fun src i ρ => ∃ (r : List Int) (left : Int) (v x c : Option Sl), ρ = [some (.dat .deal), some (.dat (dli caps)), some (.dat (.int t)), c, some (.own (di r)), some (.dat (.int left)), some (.dat (.int (ai : Nat))), u, v, x] ∧ noOwn [c, u, v, x] = true ∧ i ≤ caps.length ∧ belowL caps r ∧ 0 ≤ left ∧ r.sum + left = t ∧ (left = 0 ∨ ∀ j < i, r.getD j 0 = caps.getD j 0))
    (Mid := fun ρ => ∃ (r : List Int) (y : Nat → Option Sl), ρ = [some (.dat .deal), some (.dat (dli caps)), some (.dat (.int t))] ++ ([y 0, some (.own (di r))] ++ [y 1, y 2, y 3, y 4, y 5]) ∧ belowL caps r ∧ r.sum = t)
    (ji_enum hK.symm nb.enumerate (je_var 1)) (jg_two hK.symm 8 3 sc_filled.nd) (fun src hS => ⟨r, left, v, x, none, rfl, by unfold noOwn at hno ⊢; rw [List.all_cons]; exact hno, Nat.zero_le _, hb, hl0, hsum, .inr fun j hj => absurd hj (Nat.not_lt_zero _)⟩) (fun src i d ρ1 hS hd _ => ?_) (fun src i d ρ1 ρ2 hS hd hI hA => ?_) (fun src ρ1 hS hI => ?_) (fun ρ' hM => ?_)
  · subst hS
    rw [numbered_get] at hd
    cases e : (di caps)[i]? with
    | none => rw [e] at hd; cases hd
    | some z =>
      rw [e] at hd
      cases hd
      exact ⟨_, _, _, rfl, rfl⟩
  · subst hS
    obtain ⟨r, left, v, x, c, rfl, hno, hi, hb, hl0, hsum, hfull⟩ := hI
    rw [numbered_get] at hd
    have hi' : i < caps.length := by
      cases e : (di caps)[i]? with
      | none => rw [e] at hd; cases hd
      | some z => simpa using (List.getElem?_eq_some_iff.mp e).1
    rw [di_get hi'] at hd
    cases hd
    obtain ⟨_, _, ed, rfl⟩ := hA
    cases ed
    have hrl : r.length = caps.length := hb.1
    have hri := hb.2 i
    have hux2 : noOwn [u, x] = true := by
      unfold noOwn at hno ⊢
      simp only [List.all_cons, List.all_nil, Bool.and_true, Bool.and_eq_true] at hno ⊢
      exact ⟨hno.2.1, hno.2.2.2⟩
    have hu1 : noOwn [u] = true := by
      unfold noOwn at hux2 ⊢
      simp only [List.all_cons, List.all_nil, Bool.and_true, Bool.and_eq_true] at hux2 ⊢
      exact hux2.1
    refine js_set (Φ := Is (.int (min left (caps.getD i 0 - r.getD i 0)))) 9 sc_filled.nd (je_min nb.min (je_var 5) (je_sub (je_var 3) (je_ixOwn 4 rfl (di_get (ns := r) (k := i) (by omega)) (je_var 8)))) fun d e => ?_
    subst e
    have hm1 := Int.min_le_left left (caps.getD i 0 - r.getD i 0)
    have hm2 := Int.min_le_right left (caps.getD i 0 - r.getD i 0)
    have hm0 : 0 ≤ min left (caps.getD i 0 - r.getD i 0) := Int.le_min.mpr ⟨hl0, by omega⟩
    have hm3 : min left (caps.getD i 0 - r.getD i 0) = left ∨ min left (caps.getD i 0 - r.getD i 0) = caps.getD i 0 - r.getD i 0 := by omega
    generalize min left (caps.getD i 0 - r.getD i 0) = more at hm0 hm1 hm2 hm3
    have nq : ∀ (z : D) (q : Option Sl), q = none ∨ q = some (.dat z) → noOwn [some (.dat .deal), some (.dat (dli caps)), some (.dat (.int t)), some (.dat (.int (caps.getD i 0))), none, some (.dat z), some (.dat (.int (ai : Nat))), u, some (.dat (.int (i : Nat))), some (.dat (.int more))] = true := fun z q _ => by
      unfold noOwn at hu1 ⊢
      simp only [List.all_cons, List.all_nil, Bool.and_true, Bool.true_and] at hu1 ⊢
      exact hu1
    refine js_storePar 4 5 sc_filled.nd (k := i) (d1 := .int (r.getD i 0 + more)) (d2 := .int (left - more)) rfl (fun d => nq d none (.inl rfl)) (nq (.int left) none (.inl rfl)) (by decide) (by rw [List.length_map]; omega) (je_add (je_ixOwn 4 rfl (di_get (ns := r) (k := i) (by omega)) (je_var 8)) (je_var 9)) (je_sub (je_var 5) (je_var 9)) (je_var 8) ?_
    rw [di_set]
    refine js_nil ⟨r.set i (r.getD i 0 + more), left - more, some (.dat (.int (i : Nat))), some (.dat (.int more)), some (.dat (.int (caps.getD i 0))), rfl, by unfold noOwn at hu1 ⊢; simp only [List.all_cons, List.all_nil, Bool.and_true, Bool.true_and] at hu1 ⊢; exact hu1, hi', below_set hb (by omega) (by omega) (by omega), by omega, by rw [sum_set (by omega)]; omega, ?_⟩
    rcases hm3 with h | h
    · exact .inl (by omega)
    · rcases hfull with hf | hf
      · exact .inl (by omega)
      · refine .inr fun j hj => ?_
        by_cases e : i = j
        · subst e
          rw [getD_set_eq (by omega)]
          omega
        · rw [getD_set_ne e]
          exact hf j (by omega)
  · subst hS
    obtain ⟨r, left, v, x, c, rfl, hno, hi, hb, hl0, hsum, hfull⟩ := hI
    rw [numbered_length, List.length_map] at hfull
    refine ⟨r, fun n => match n with | 0 => c | 1 => some (.dat (.int left)) | 2 => some (.dat (.int (ai : Nat))) | 3 => u | 4 => v | _ => x, rfl, hb, ?_⟩
    rcases hfull with h | h
    · omega
    · have := sum_full hb.1 fun k hk => h k (by rw [← hb.1]; exact hk)
      omega
  · obtain ⟨r, y, rfl, hb, hsum⟩ := hM
    refine js_freeze 4 rfl ?_
    exact js_ret (Φ := Is (dti r)) (je_callTy call_tuple_of nb.tuple (ja_1 (je_var 4) ja_nil) (ca_tuple (ds := di r) rfl)) fun d e => ⟨caps, t, r, rfl, hb, hsum, by rw [e]⟩
end
end B
set_option Elab.async false
set_option autoImplicit false
set_option linter.all false
set_option maxRecDepth 100000
set_option maxHeartbeats 4000000
namespace B
open PySem PySem.Spec PyProof.Rows L2
/-- e.at, e the exception that the suite holds -/
def tAt (C a : Addr) (cls : Value) (d : Option Addr) (te : TE) : TE := fun σ H Q => te σ H fun x H1 => x = .ref a ∧ cls = .ref C ∧ ∃ (dd : Addr) (v : V), d = some dd ∧ H1 dd = some (.xd [(("at" : Str), v)]) ∧ Q v H1
theorem pe_at {X : Cx} {C fI cc cda a : Addr} {nm : Str} {oe : Obj} {cls : Value} {d : Option Addr} {pn : List (Addr × Obj)} {e : Expr} {te : TE} {pos : Pos} (T : BX.Txt X.prog X.K X.mg nm C fI cc cda) (hz : Zc cls d oe) (hf : ∃ vs, oe.data = .fields vs) (he : PE (X.suite a ((a, oe) :: pn)) e te)
    (hb : attributeBase e "at" X.env (eval e X.env) = eval e X.env := by rfl) : PE (X.suite a ((a, oe) :: pn)) (.Attribute e "at" pos) (tAt C a cls d te) := by
  refine ⟨fun pins s σ H Q I h => attr_of hb (thn (he.run pins s σ H _ I h) fun u s1 hh => ?_)⟩
  obtain ⟨x, H1, I1, rx, rfl, rfl, dd, v, rfl, ea, q⟩ := hh
  obtain rfl : u = Value.ref a := rx
  obtain ⟨la, _⟩ := I1.pin (a, oe) (List.mem_append_left _ List.mem_cons_self)
  obtain ⟨vs, hd⟩ := hf
  obtain ⟨mA, hns, hr⟩ : ObjOk X.prog X.w H1 s1.heap dd (.xd [(("at" : Str), v)]) := I1.hok dd _ ea
  obtain ⟨od, lo, lk⟩ := lookIn_ns hns
  have lv : List.lookup ("at" : Str) [(("at" : Str), v)] = some v := by simp [List.lookup]
  obtain ⟨u, hu, ru⟩ := RelO.some_of (v := v) (o := mA "at") (by rw [← lv]; exact hr "at")
  have inst : PySem.W.InstAt s1.heap a oe C (some od) := ⟨la, hz.1, by unfold PySem.W.notCls; rw [hd] <;> rfl, by rw [hz.2]; exact lo⟩
  exact HandSPX.exc_get I1.kIn inst T.ga T.gg T.exC (PySem.W.findObj_own T.hdC T.noN rfl (by rw [lk, hu])) (handed_of ru) ⟨v, H1, I1.tok _, ru, q⟩
abbrev sRefused : Stmt := top 27
abbrev nRefused : List Str := ["_law_work", "e", "how"]
theorem sc_refused : FnScope nRefused ["_law_work"] (defScope sRefused) := ⟨rfl, rfl, rfl, by decide +kernel, rfl, by decide +kernel, by decide +kernel⟩
structure ExOk (K : PySem.W.Frag) (θ : Th) : Prop where
  ss : PySem.W.exmOne K (.ref (θ.cls .state)) (.ref (θ.cls .state)) = some true
  rr : PySem.W.exmOne K (.ref (θ.cls .refused)) (.ref (θ.cls .refused)) = some true
  rs : PySem.W.exmOne K (.ref (θ.cls .refused)) (.ref (θ.cls .state)) = some false
def tagOf : EC → Str
  | .state => "state"
  | .refused => "refused"
  | .store => "store"
/-- what _law_refused makes of what its work does -/
def TTr (θ : Th) : (XK → Hp → VK → Prop) → Hp → VK → Prop := fun tl H Q => tl (fun cls d H' => ∃ c n dd, cls = .ref (θ.cls c) ∧ (c = .state ∨ c = .refused) ∧ d = some dd ∧ H' dd = some (.xd [(("at" : Str), .int n)]) ∧ ∀ T, H' T = none → Q (.ref T) (upd H' T (.tup [.str (tagOf c), .int n]))) H fun _ H' => Q .non H'
theorem refused_gives {X : Cx} {θ : Th} {q : Str} {g : Addr} {cdg : Value} (th : ThOk X.prog X.K X.mg θ) (ex : ExOk X.K θ) : LamX.GivesTo X nRefused "_law_refused" (defScope sRefused) g cdg (defBody sRefused) "_law_work" q (TTr θ) := by
  intro f c' s H Q tl act hc h
  obtain ⟨fI, cc, cda, Ts⟩ := th.st
  obtain ⟨fI2, cc2, cda2, Tr⟩ := th.rf
  refine ⟨_, pss_cons (ps_try_named (X := (cxOf C8.CX0 X.prog X.w X.K X.mg X.base nRefused "_law_refused" (defScope sRefused) g cdg X.A X.stack s H C8.E0).nox)
      (qs := [⟨1, .ref (θ.cls .state), fun a cls d => tRet (fun σ H Q => tTup (tCons (tC (.str "state")) (tCons (tAt (θ.cls .state) a cls d (tVar 1)) tNil)) σ H Q)⟩, ⟨2, .ref (θ.cls .refused), fun a cls d => tRet (fun σ H Q => tTup (tCons (tC (.str "refused")) (tCons (tAt (θ.cls .refused) a cls d (tVar 2)) tNil)) σ H Q)⟩])
      (tb := fun W D σ H => ∃ Ech : XK, (∀ cls d σ' H', Ech cls d H' → W cls d σ' H') ∧ σ[0]? = some (some (.ref f)) ∧ H c' = some (LamX.CodeO c' q) ∧ tl Ech H fun _ H' => D.nx σ H')
      rfl rfl sc_refused.nd (fun W pn xe tk _ => ?_) (.cons ⟨rfl, by decide, .inl Ts.gC⟩ rfl rfl (fun a oe cls d pn hz hf => ?_) (.cons ⟨rfl, by decide, .inl Tr.gC⟩ rfl rfl (fun a oe cls d pn hz hf => ?_) .nil))) (pss_cons (ps_ret pe_non) pss_nil), ?_⟩
  · refine ⟨fun pins s' σ H' D I h' => ?_⟩
    obtain ⟨Ech, hW, h1, h2, h3⟩ := h'
    exact (pss_cons (ps_expr (act W pn xe Ech _ _ tk hW)) pss_nil).run pins s' σ H' D I ⟨h1, h2, h3⟩
  · exact pss_one (ps_ret (pe_tup (pa_cons pe_str (pa_cons (pe_at (X := (cxOf C8.CX0 X.prog X.w X.K X.mg X.base nRefused "_law_refused" (defScope sRefused) g cdg X.A X.stack s H C8.E0).nox) Ts hz hf (pe_var (i := 1) rfl (Or.inl rfl))) pa_nil))))
  · exact pss_one (ps_ret (pe_tup (pa_cons pe_str (pa_cons (pe_at (X := (cxOf C8.CX0 X.prog X.w X.K X.mg X.base nRefused "_law_refused" (defScope sRefused) g cdg X.A X.stack s H C8.E0).nox) Tr hz hf (pe_var (i := 2) rfl (Or.inl rfl))) pa_nil))))
  · refine ⟨fun cls d H' => ∃ c n dd, cls = .ref (θ.cls c) ∧ (c = .state ∨ c = .refused) ∧ d = some dd ∧ H' dd = some (.xd [(("at" : Str), .int n)]) ∧ ∀ T, H' T = none → Q (.ref T) (upd H' T (.tup [.str (tagOf c), .int n])), fun cls d σ' H' ⟨c, n, dd, e1, e2, e3, e4, e5⟩ => ?_, rfl, hc, h⟩
    subst e1 e3
    rcases e2 with rfl | rfl
    · refine ⟨true, ex.ss, fun _ a ha hl => ?_, fun z => Bool.noConfusion z⟩
      exact ⟨_, List.getElem?_set_self (by rw [hl]; show 1 < 3; decide), rfl, rfl, dd, _, rfl, e4, by show 2 ≤ sizeLine; decide, fun T hT => e5 T hT⟩
    · refine ⟨false, ex.rs, fun z => Bool.noConfusion z, fun _ => ⟨true, ex.rr, fun _ a ha hl => ?_, fun z => Bool.noConfusion z⟩⟩
      exact ⟨_, List.getElem?_set_self (by rw [hl]; show 2 < 3; decide), rfl, rfl, dd, _, rfl, e4, by show 2 ≤ sizeLine; decide, fun T hT => e5 T hT⟩
end B
set_option Elab.async false
set_option autoImplicit false
set_option linter.all false
set_option maxRecDepth 100000
set_option maxHeartbeats 2000000
/-! lambdas: made as data, and called by the def that got them. -/
namespace B
open PySem PySem.Spec PyProof.Rows L2
section
variable {θ : Th} {δ : Dl} {G H : Hp}
theorem codeO_not {c : Addr} {q : Str} (ps : Array Value) : LamX.CodeO c q ≠ .tbl ps := fun z => by
  unfold LamX.CodeO at z
  cases z
theorem lamO_not {f c : Addr} {r : LamRec} (ps : Array Value) : LamO f c r ≠ .tbl ps := fun z => by
  unfold LamO at z
  cases z
theorem post_tab (p : Pre θ δ true G H) {P c : Addr} {q : Str} {ps : Array Value} {pos : Pos} (hP : H P = some (.tbl ps)) (hm : (P, q) ∈ θ.T) (hu : ∀ x ∈ θ.T, x.1 = P → x.2 = q) (hc : H c = none) :
    Post θ δ true G H (upd G c (LamX.CodeO c q)) (upd (upd H P (.tbl (ps ++ #[rawInt pos.line, rawInt pos.col, .ref c]))) c (LamX.CodeO c q)) := by
  have w := p.wd rfl
  have mP : Mut θ δ P := .inr (.inr ⟨_, hm, rfl⟩)
  have gP : G P = none := w.gn P mP
  have gc : G c = none := p.gnone hc
  have nPc : P ≠ c := ne_of_none hP hc
  have stay : ∀ b o, H b = some o → b ≠ P → (upd (upd H P (.tbl (ps ++ #[rawInt pos.line, rawInt pos.col, .ref c]))) c (LamX.CodeO c q)) b = some o := fun b o e n => by
    rw [upd_ne (ne_of_none e hc), upd_ne n]
    exact e
  have s1 : Same G (upd H P (.tbl (ps ++ #[rawInt pos.line, rawInt pos.col, .ref c]))) := fun b u e => by
    rw [upd_ne (ne_of_none e gP)]
    exact p.gh b u e
  refine ⟨Same.upd gc, Same.upd2 s1, fun b hb => ?_, fun b zs hb => ?_, fun b o e k => stay b o e fun z => k rfl (z ▸ mP), fun b hb => ?_, fun _ => ⟨w.ne, ?_, ?_, fun x hx => ?_, w.tm, fun b hb => ?_⟩⟩
  · by_cases e : b = c
    · exact .inr (by rw [e]; exact hc)
    · rw [upd_ne e] at hb
      exact .inl hb
  · by_cases e : b = c
    · rw [e, upd_same] at hb
      exact absurd (Option.some.inj hb) (codeO_not zs)
    · rw [upd_ne e] at hb
      exact hb
  · by_cases e : b = c
    · rw [e, upd_same]; simp
    · rw [upd_ne e]
      by_cases e2 : b = P
      · rw [e2, upd_same]; simp
      · rw [upd_ne e2]; exact hb
  · obtain ⟨bl, e, r⟩ := w.dl
    exact ⟨bl, stay _ _ e (Ne.symm (w.tm _ hm).1), r⟩
  · obtain ⟨cs, e, r⟩ := w.d0
    exact ⟨cs, stay _ _ e (Ne.symm (w.tm _ hm).2), r⟩
  · obtain ⟨qs, e1, e2, e3⟩ := w.tb x hx
    have up : ∀ {b o}, G b = some o → (upd G c (LamX.CodeO c q)) b = some o := fun {b o} e => Same.upd gc b o e
    by_cases hb : x.1 = P
    · rw [hb, hP] at e1
      cases e1
      have eL : (ps ++ #[rawInt pos.line, rawInt pos.col, .ref c]).toList = ps.toList ++ [rawInt pos.line, rawInt pos.col, .ref c] := by simp
      refine ⟨_, by rw [hb, upd_ne nPc, upd_same], by rw [eL]; exact PySem.TriplesOk_snoc _ _ _ _ e2, fun p' cv hcv => ?_⟩
      rw [eL] at hcv
      rcases LamX.among_app _ e2 hcv with z | z
      · obtain ⟨d, f1, f2⟩ := e3 p' cv z
        exact ⟨d, f1, up f2⟩
      · exact ⟨c, z, by rw [upd_same, hu x hx hb]⟩
    · exact ⟨qs, stay _ _ e1 hb, e2, fun p' cv hcv => let ⟨d, f1, f2⟩ := e3 p' cv hcv; ⟨d, f1, up f2⟩⟩
  · have : b ≠ c := fun z => w.mutDom hb (z ▸ hc)
    rw [upd_ne this]
    exact w.gn b hb
end
/-- the lambda that the frame of env makes -/
abbrev lamR (env : Env) (params : Arguments) (body : Expr) (scope : Scope) : LamRec := ⟨params, body, scope, cloFrom env.cells scope.names [], env.qual ++ "<lambda>"⟩
section
variable {θ : Th} {δ : Dl} {X : Cx} {ρ : Rho} {params : Arguments} {body : Expr} {scope : Scope} {pos : Pos}
theorem lamO_ok {P : Program} {w : PySem.World} {H : Hp} {h : Heap} {f c' : Addr} {r : LamRec} {pm ctv : Value} (e : h.get? f = some (PySem.W.kla_obj "<lambda>" r.qual r.params r.body r.scope r.clo pm c' ctv)) : ObjOk P w H h f (LamO f c' r) :=
  ⟨⟨pm, ctv, e⟩, ⟨_, e⟩, fun h1 h2 ⟨a, b, z⟩ st => ⟨a, b, st _ z⟩⟩
theorem je_lam {c P : Addr} (TB : LamX.TabB X.base X.mg c P) (hcode : X.env.code = .ref c) (hm : (P, X.env.qual ++ "<lambda>") ∈ θ.T) (hu : ∀ p ∈ θ.T, p.1 = P → p.2 = X.env.qual ++ "<lambda>") (L : LamX.LamS X.env.scope scope) (hdef : defaultsOf params X.env = ([], [])) :
    JE θ δ true X ρ (.Lambda params body scope pos) (Is (.lam (lamR X.env params body scope))) := fun σ G H rs p Q q => by
  refine ⟨fun _ H Q => ∃ G, Pre θ δ true G H ∧ ∀ v d G' H', Post θ δ true G H G' H' → d = .lam (lamR X.env params body scope) → R θ δ G' v d → Q v H', ⟨fun pins s σ H Q I hh => ?_⟩, G, p, q⟩
  obtain ⟨G, p, q⟩ := hh
  obtain ⟨ps, hP, ht, ha⟩ := (p.wd rfl).tb _ hm
  refine PySem.W.kla_eval hdef ?_
  have hP' : s.heap.get? P = some { cls := .none, data := .fields ps } := I.hok P _ hP
  have hfree := L.has I.ok
  cases hc : codeAmong pos ps.toList with
  | none =>
    refine PySem.W.kla_makeFunction (mg := X.mg) (c := c) (P := P) (ps := ps) (closure_ok hfree) I.ok.glob (I.mod.glob.keeps I.bk) hcode (TB.code.keeps I.bk) hP' ht hc TB.gP (TB.bm.keeps I.bk) fun c' ctv h' tk hx hge hlt hrec htb => ?_
    obtain ⟨c2, oc, vs, t, e2, hoc, hd, hv⟩ := hrec
    cases e2
    have nC : H c' = none := I.hok.fresh hge
    have I1 := LamX.inv_table (t' := tk) (more := #[rawInt pos.line, rawInt pos.col, .ref c']) (h' := h') I hP (fun b o hb e => hx b o hb e) htb hge ⟨oc, vs, t, hoc, hd, hv⟩
    have nF := I1.hok.fresh (Nat.le_refl _)
    have I2 := I1.laid (a := h'.objs.size) (o := LamO h'.objs.size c' (lamR X.env params body scope)) (t' := tk) (h' := h'.push (PySem.W.kla_obj "<lambda>" (X.env.qual ++ "<lambda>") params body scope (cloFrom X.env.cells scope.names []) ((X.mg "__name__").getD .none) c' ctv))
      (fun b o e => Heap.get?_push_of_some _ e) (Nat.le_refl _) (lamO_ok (Heap.get?_push_size _ rfl))
    have p1 := post_tab (pos := pos) p hP hm hu nC
    have p2 := p1.trans (Post.new (o := LamO h'.objs.size c' (lamR X.env params body scope)) (p1.pre p) nF lamO_not)
    exact ⟨.ref h'.objs.size, _, I2, rfl, q _ _ _ _ p2 rfl (.lam upd_same (by rw [upd_ne (Nat.ne_of_lt hlt), upd_same]))⟩
  | some cv =>
    obtain ⟨c', e, hco⟩ := ha pos cv hc
    subst e
    refine PySem.W.kla_makeFunctionHit (mg := X.mg) (c := c) (P := P) (ps := ps) (closure_ok hfree) I.ok.glob (I.mod.glob.keeps I.bk) hcode (TB.code.keeps I.bk) hP' ht hc (TB.bm.keeps I.bk) fun ctv h' tk hx hsz => ?_
    have I2 := I.laid (a := h'.objs.size) (o := LamO h'.objs.size c' (lamR X.env params body scope)) (t' := tk) (h' := h'.push (PySem.W.kla_obj "<lambda>" (X.env.qual ++ "<lambda>") params body scope (cloFrom X.env.cells scope.names []) ((X.mg "__name__").getD .none) c' ctv))
      (fun b o e => Heap.get?_push_of_some _ (hx b o e)) hsz (lamO_ok (Heap.get?_push_size _ rfl))
    have nF := I.hok.fresh hsz
    have p2 : Post θ δ true G H _ _ := .new p nF (o := LamO h'.objs.size c' (lamR X.env params body scope)) lamO_not
    exact ⟨.ref h'.objs.size, _, I2, rfl, q _ _ _ _ p2 rfl (.lam upd_same (Same.upd (p.gnone nF) _ _ hco))⟩
end
end B
set_option Elab.async false
set_option autoImplicit false
set_option linter.all false
set_option maxRecDepth 100000
set_option maxHeartbeats 2000000
namespace B
open PySem PySem.Spec PyProof.Rows L2
/-- what the frame of the names n and of env holds, for a lambda of the scope, in a heap -/
structure Sees (n : List Str) (env : Env) (scope : Scope) (σ : L2.St) (H : Hp) (h : Heap) : Prop where
  inj : ∀ x y c, env.cells.lookup x = some c → env.cells.lookup y = some c → x = y
  has : ∀ y, (y, NameKind.free) ∈ scope.names → ∃ c, env.cells.lookup y = some c
  len : σ.length = n.length
  cell : ∀ y c, env.cells.lookup y = some c → (∃ v, h.IsCell c v) ∧ H c = none
  val : ∀ (i : Nat) (y : Str) (v : V), n[i]? = some y → σ[i]? = some (some v) → (y, NameKind.free) ∈ scope.names → ∃ c u, env.cells.lookup y = some c ∧ RelV v u ∧ h.IsCell c (some u)
theorem Sees.of {X : Cx} {pins : List (Addr × Obj)} {σ : L2.St} {H : Hp} {s : Shared} {scope : Scope} (I : Inv X pins σ H s) (L : LamX.LamS X.env.scope scope) : Sees X.N X.env scope σ H s.heap where
  inj := I.ok.inj
  has := fun y hy => L.has I.ok (y, .free) hy rfl
  len := I.len
  cell := fun y c e => ⟨I.cell y c e, I.freeC y c e⟩
  val := fun i y v e1 e2 hy => by
    have k := L.free _ hy rfl
    obtain ⟨m, hn, hl⟩ := I.loc
    obtain ⟨u, r, q⟩ := hl i y v e1 e2 (k.elim (fun z => .inr (.inl z)) fun z => .inr (.inr z))
    rcases q with ⟨z, _⟩ | ⟨_, c, e, z⟩
    · have z : X.env.scope.names.lookup y = some .local := z
      rcases k with k | k <;> rw [show X.env.scope.names.lookup y = _ from k] at z <;> cases z
    · exact ⟨c, u, e, r, z⟩
theorem Sees.un {n : List Str} {env : Env} {scope : Scope} {σ : L2.St} {H H' : Hp} {h h' : Heap} {fs ex : List Addr} (S : Sees n env scope σ H h) (u : Un fs ex H H' h h') (hx : ∀ y c, env.cells.lookup y = some c → c ∉ ex) : Sees n env scope σ H' h' where
  inj := S.inj
  has := S.has
  len := S.len
  cell := fun y c e => by
    obtain ⟨⟨v, o, ho, hd⟩, z⟩ := S.cell y c e
    obtain ⟨sl, q⟩ := u.any ho z (hx y c e)
    exact ⟨⟨v, _, q, hd⟩, u.free c o ho z (hx y c e)⟩
  val := fun i y v e1 e2 hy => by
    obtain ⟨c, w, e, r, o, ho, hd⟩ := S.val i y v e1 e2 hy
    obtain ⟨sl, q⟩ := u.any ho (S.cell y c e).2 (hx y c e)
    exact ⟨c, w, e, r, _, q, hd⟩
section
variable {X : Cx} {σ : L2.St} {HZ : Hp} {s1 : Shared}
theorem lam_enter {A : Around} {outer : List Env} {E : XK} {scope : Scope} {f c' : Addr} {h₁ : Heap} {tk : Nat} (S : Sees X.N X.env scope σ HZ s1.heap) (L : LamX.LamS X.env.scope scope) (e0 : Env0 X.prog X.w X.K X.mg X.base A outer s1 HZ) (hd : A.handled = none)
    (hns : h₁.Ns s1.heap.objs.size fun y => ([] : List (Str × Value)).reverse.lookup y) (kp : ∀ b o, s1.heap.get? b = some o → h₁.get? b = some o) :
    Inv (LamX.lamCx X A outer s1 HZ E scope f c') [] σ HZ { s1 with heap := h₁, toks := tk } := by
  have back : ∀ {y c}, (cloFrom X.env.cells scope.names []).lookup y = some c → X.env.cells.lookup y = some c := fun {y c} e => by
    rcases cloFrom_mem (PySem.mem_of_lookup e) with z | ⟨z, rfl⟩
    · cases z
    · obtain ⟨d, hd⟩ := S.has _ z
      rw [hd]; rfl
  have there : ∀ {y}, scope.names.lookup y = some .free → ∃ c, (cloFrom X.env.cells scope.names []).lookup y = some c := fun {y} hl => mem_lookup (cloFrom_has (cells := X.env.cells) (acc := []) (PySem.mem_of_lookup hl))
  have none0 : ∀ b : Addr, b ∉ (LamX.lamCx X A outer s1 HZ E scope f c').ex := fun b z => absurd (show b ∈ ([] : List Addr) from z) List.not_mem_nil
  have grow : ∀ {c : Addr} {v : Option Value}, s1.heap.IsCell c v → h₁.IsCell c v := fun z => z.keeps kp
  refine ⟨?_, rfl, e0.bare, Un.kept kp, ⟨_, hns, fun i y v e1 e2 e3 => ?_⟩, fun y c e => ?_, e0.hok.fresh (Nat.le_refl _), fun y c e => (S.cell y c (back e)).2, fun q hq => absurd (show q ∈ ([] : List (Addr × Obj)) ++ [] from hq) (by simp), e0.hok.kept kp, S.len⟩
  · refine ⟨e0.mod, L.kind, rfl, rfl, Nat.le_refl _, fun y z c e1 e2 => S.inj y z c (back e1) (back e2), fun y hy => ?_, fun y c z _ => Bool.noConfusion (show false = true from z), fun _ => hd, Around.frames_deeper e0.frames, .inr ⟨rfl, rfl⟩, fun b z => absurd z (none0 b), e0.bs, e0.bsz, fun b _ _ => none0 b, fun b z => absurd z (none0 b), e0.funs, e0.frf⟩
    have hy : scope.names.lookup y = some .cell ∨ scope.names.lookup y = some .free := hy
    rcases hy with hy | hy
    · exact absurd rfl (L.own _ (PySem.mem_of_lookup hy)).2
    · exact there hy
  · have e3 : Vis scope y := e3
    rcases e3 with k | k | k
    · exact absurd rfl (L.own _ (PySem.mem_of_lookup k)).1
    · exact absurd rfl (L.own _ (PySem.mem_of_lookup k)).2
    · obtain ⟨c, u, e, r, z⟩ := S.val i y v e1 e2 (PySem.mem_of_lookup k)
      obtain ⟨d, hd⟩ := there k
      have h2 := back hd
      rw [e] at h2
      cases h2
      exact ⟨u, r, .inr ⟨.inr k, c, hd, grow z⟩⟩
  · obtain ⟨⟨v, z⟩, _⟩ := S.cell y c (back e)
    exact ⟨v, grow z⟩
end
section
variable {Y : Cx} {θ : Th} {δ : Dl} {n : List Str} {ev : Env} {params : Arguments} {body : Expr} {scope : Scope}
/-- the frame that made the lambda, seen from Y's place in the program -/
abbrev mkr (Y : Cx) (n : List Str) (ev : Env) : Cx := { Y with N := n, env := ev }
theorem pe_lamact {k : Nat} {g f c' : Addr} {cdg : Value} {σ : L2.St} {H : Hp} {s : Shared} {pn : List (Addr × Obj)} {xe : Value → Shared → Prop} {W : WX} {E : XK} {p1 p2 : Pos} {t : TE} (S : Sees n ev scope σ H s.heap) (L : LamX.LamS ev.scope scope)
    (hbind : ∀ (q : Str) (cl : List (Str × Addr)) (pm cv ctv : Value), bindArgs (PySem.W.kla_fn "<lambda>" q params body scope cl pm cv ctv) ⟨[], []⟩ = pure [])
    (tk : Takes ((cxOf C8.CX0 Y.prog Y.w Y.K Y.mg Y.base nRefused "_law_refused" (defScope sRefused) g cdg Y.A Y.stack s H C8.E0).tr pn xe) W) (hW : ∀ cls d σ' H', E cls d H' → W cls d σ' H') (hr : Room (k + 1) (Y.A.deeper (envOfC "_law_refused" (defScope sRefused) s.heap.objs.size g cdg))) (os : True) :
    PE ((cxOf C8.CX0 Y.prog Y.w Y.K Y.mg Y.base nRefused "_law_refused" (defScope sRefused) g cdg Y.A Y.stack s H C8.E0).tr pn xe) (.Call (.Name "_law_work" p1) [] [] p2)
      (fun σZ HZ Q => σZ[0]? = some (some (.ref f)) ∧ HZ c' = some (LamX.CodeO c' (lamR ev params body scope).qual) ∧ HZ f = some (LamO f c' (lamR ev params body scope)) ∧
        ∀ (A : Around) (outer : List Env) (s0 : Shared) (H0 : Hp) (f2 c2 : Addr), Room k (A.deeper (LamX.lamEnv (mkr Y n ev) scope s0.heap.objs.size f2 c2)) → bE (LamX.lamCx (mkr Y n ev) A outer s0 H0 E scope f2 c2) body σ HZ Q) := by
  refine ⟨fun pinsZ sZ σZ HZ Q IZ h => ?_⟩
  obtain ⟨hs, hc, hf, ht⟩ := h
  refine wpAny_Call_Name_kw (thn ((pe_var (pos := p1) (i := 0) rfl (Or.inl rfl)).run pinsZ sZ σZ HZ (fun v H1 => v = .ref f ∧ H1 = HZ) IZ ⟨.ref f, hs, rfl, rfl⟩) fun u s1 ⟨v, H1, I1, r1, ev1, eH⟩ => ?_)
  subst ev1 eH
  obtain rfl : u = Value.ref f := r1
  obtain ⟨⟨pm, ctv, of1⟩, _, _⟩ := I1.hok f _ hf
  refine PySem.W.callWith_F0 ⟨_, _, _, _, of1⟩ ?_
  have S1 : Sees n ev scope σ H1 s1.heap := S.un (fs := frs Y.stack) (ex := []) I1.base fun _ _ _ => List.not_mem_nil
  obtain ⟨⟨oc, vs, tt, hoc, hdc, hvc⟩, _, _⟩ := I1.hok c' _ hc
  have ran : codeAny (model Y.prog Y.w) (Y.A.deeper (envOfC "_law_refused" (defScope sRefused) s.heap.objs.size g cdg)) (.call (.ref f) ⟨[], []⟩) (CR (L2.CX Y.prog Y.w) (envOfC "_law_refused" (defScope sRefused) s.heap.objs.size g cdg :: Y.stack) Y.prog Y.w H1 s1 Q E) s1 := by
    refine PySem.W.kla_callFunE hr.depth of1 rfl L.co L.gen rfl ⟨c', oc, vs, tt, rfl, hoc, hdc, hvc⟩ ?_
    rw [hbind]
    refine wpAny_pure (wpAny_newFunctionEnv (fun y hy => (L.own y hy).2) (fun y hy => absurd hy (by simp)) (fun h₁ hns hsb => ⟨I1.nolimit.fresh _ hsb, ?_⟩) L.kind)
    show codeAny _ _ (.expr body (LamX.lamEnv (mkr Y n ev) scope s1.heap.objs.size f c')) _ _
    have J : Inv (LamX.lamCx (mkr Y n ev) (Y.A.deeper (envOfC "_law_refused" (defScope sRefused) s.heap.objs.size g cdg)) (envOfC "_law_refused" (defScope sRefused) s.heap.objs.size g cdg :: Y.stack) s1 H1 E scope f c') [] σ H1 { s1 with heap := h₁, toks := s1.toks + ([] : List (Str × Value)).length } :=
      lam_enter (X := mkr Y n ev) S1 L I1.env0 hr.hd hns fun b o e => hsb.extBut b o (Nat.ne_of_lt (Heap.lt_size e)) (Heap.get?_push_of_some _ e)
    refine PySem.W.kla_codeExpr (wpAny_mono ((pe_b _ body).run [] _ _ H1 Q J (ht _ _ s1 H1 f c' (hr.deeper _))) (fun v s' hq => ?_) fun e s' hq => hq)
    obtain ⟨w', H', J', rv, q⟩ := hq
    exact ⟨w', H', J'.os, J'.bare, J'.base, J'.hok, rv, q⟩
  have hx : Passes (L2.CX Y.prog Y.w) ((cxOf C8.CX0 Y.prog Y.w Y.K Y.mg Y.base nRefused "_law_refused" (defScope sRefused) g cdg Y.A Y.stack s H C8.E0).tr pn xe) E := passes_call tk hW
  refine wpAny_call (codeAny_mono ran fun r s' hq => ?_)
  cases r with
  | error e => exact hx pinsZ σZ H1 s1 e s' I1 hq
  | ok fl =>
    cases fl with
    | ret u => exact I1.after hq
    | next => exact False.elim hq
    | brk => exact False.elim hq
    | cont => exact False.elim hq
end
end B
set_option Elab.async false
set_option autoImplicit false
set_option linter.all false
set_option maxRecDepth 100000
set_option maxHeartbeats 2000000
namespace B
open PySem PySem.Spec PyProof.Rows L2
/-- what the call's callee is to be -/
structure RefOk (P : Program) (K : PySem.W.Frag) (mg : Str → Option Value) (θ : Th) : Prop where
  d : ∃ g fd, Df K mg "_law_refused" sRefused ["_law_work"] g fd
  th : ThOk P K mg θ
  ex : ExOk K θ
section
variable {Y : Cx} {θ : Th} {δ : Dl} {n : List Str} {ev : Env} {params : Arguments} {body e : Expr} {scope : Scope} {ρ ρ0 : Rho} {Φ Φb : D → Prop} {Ψ : EC → Int → Prop} {pos px : Pos}
theorem call_refused {k : Nat} (RO : RefOk Y.prog Y.K Y.mg θ) (hr : Room (k + 2) Y.A) (L : LamX.LamS ev.scope scope)
    (hbind : ∀ (q : Str) (cl : List (Str × Addr)) (pm cv ctv : Value), bindArgs (PySem.W.kla_fn "<lambda>" q params body scope cl pm cv ctv) ⟨[], []⟩ = pure [])
    (he : JE θ δ true Y ρ e (Is (.lam (lamR ev params body scope))))
    (hbody : ∀ (A : Around) (outer : List Env) (s : Shared) (H : Hp) (E : XK) (f c' : Addr), Room k (A.deeper (LamX.lamEnv (mkr Y n ev) scope s.heap.objs.size f c')) → JX θ δ true (LamX.lamCx (mkr Y n ev) A outer s H E scope f c') E ρ0 body Φb Ψ)
    (h1 : ∀ d, Φb d → Φ .non) (h2 : ∀ c i, Ψ c i → (c = .state ∨ c = .refused) ∧ Φ (.tup [.str (tagOf c), .int i])) {σ σ0 : L2.St} {G H : Hp} (rs : RS θ δ true G H σ ρ) (rs0 : RS θ δ true G H σ0 ρ0) (p : Pre θ δ true G H)
    (see : ∀ (pins : List (Addr × Obj)) (s : Shared) (H1 : Hp), Inv Y pins σ H1 s → Sees n ev scope σ0 H1 s.heap) {Q : VK} (q : ∀ v d G' H', Post θ δ true G H G' H' → Φ d → R θ δ G' v d → Q v H')
    (hg : Gl Y "_law_refused" := by rfl) (hs : starEach (e :: []) Y.env = (false, eval e Y.env) :: starEach [] Y.env := by rfl) (hpl : (backTo pos (starEach [] Y.env)).any (·.1) = false := by rfl) :
    bE Y (.Call (.Name "_law_refused" px) [e] [] pos) σ H Q := by
  obtain ⟨⟨g, fd, D0⟩, th, ex⟩ := RO
  obtain ⟨oc, od, kV, doc, pm, an, cdv, ct, osl, efd, lk, hcd⟩ := D0.F.ex
  subst efd
  refine ⟨fun σ' H Q => σ' = σ ∧ tCons (bE Y e) tNil σ' H fun vs H1 => ∃ f c', vs = [.ref f] ∧ H1 f = some (LamO f c' (lamR ev params body scope)) ∧ H1 c' = some (LamX.CodeO c' (lamR ev params body scope).qual) ∧ TTr θ (fun E H' Q' => H' f = some (LamO f c' (lamR ev params body scope)) ∧
      ∀ (A : Around) (outer : List Env) (s0 : Shared) (H0 : Hp) (f2 c2 : Addr), Room k (A.deeper (LamX.lamEnv (mkr Y n ev) scope s0.heap.objs.size f2 c2)) → bE (LamX.lamCx (mkr Y n ev) A outer s0 H0 E scope f2 c2) body σ0 H' Q') H1 Q, ⟨fun pins s σ' H Q I h => ?_⟩, rfl, ?_⟩
  · obtain ⟨rfl, h⟩ := h
    refine wpAny_Call_Name_kw (ld_glob I hg D0.g ?_ (by decide))
    refine PySem.W.callWith_K (h₀ := Y.base) I.ok.mod.kin D0.F.kp (thn ((pa_cons (pe_b Y e) pa_nil hs).run pos pins s σ' H _ I h) fun us s1 ⟨vs, H1, I1, r, q1⟩ => ⟨I1.kIn, ?_⟩) hs hpl
    obtain ⟨f, c', rfl, hf, hc, ht⟩ := q1
    have rc : codeAny (model Y.prog Y.w) Y.A (.call (.ref g) ⟨us, []⟩) (CR C8.CX0 Y.stack Y.prog Y.w H1 s1 Q C8.E0) s1 := by
      refine LamX.run_ofS (N := nRefused) (ps := ["_law_work"]) (us := us) (vs := [.ref f]) lk hcd sc_refused hr I1.env0 ?_ r rfl fun hr' => ?_
      · have hb := D0.b s1 us I1.kIn (by rw [List.append_nil, ← r.length]; rfl)
        rw [List.append_nil] at hb
        exact hb
      · obtain ⟨t', ht', hq'⟩ := refused_gives (X := Y) (q := (lamR ev params body scope).qual) (g := g) (cdg := cdv) th ex f c' s1 H1 Q _ (fun W pn xe E p1 p2 tk hW => pe_lamact (k := k) (t := fun _ _ _ => True) (see pins s1 H1 I1) L hbind tk hW hr' trivial) hc ht
        exact ⟨t', ht'.nox, hq'⟩
    refine wpAny_call (codeAny_mono rc fun r2 s2 hq => ?_)
    cases r2 with
    | error e => exact (show False from hq).elim
    | ok fl =>
      cases fl with
      | ret u => exact I1.after hq
      | next => exact False.elim hq
      | brk => exact False.elim hq
      | cont => exact False.elim hq
  · refine he σ G H rs p _ fun v d G1 H1 p1 fd' rv => ?_
    subst fd'
    cases rv with
    | lam hf hc =>
      rename_i f c'
      have pr1 := p1.pre p
      have hf' := p1.gh _ _ hf
      refine ⟨f, c', rfl, hf', p1.gh _ _ hc, hf', fun A outer s0 H0 f2 c2 hr2 => hbody A outer s0 H0 _ f2 c2 hr2 σ0 G1 H1 (rs0.post p1) pr1 _ (fun v d G' H' p2 f2 rv => q .non .non G' H' (p1.trans p2) (h1 d f2) .non) fun c i dx G' H' p2 f2 hx => ?_⟩
      obtain ⟨hc2, hΦ⟩ := h2 c i f2
      have p3 := p1.trans p2
      exact ⟨c, i, dx, rfl, hc2, rfl, hx, fun T hT => q (.ref T) _ _ _ (p3.trans (.new (p3.pre p) hT fun ps z => by cases z)) hΦ (.tup upd_same (.cons (.str _) (.cons (.int i) .nil)))⟩
end
section
variable {X : Cx} {θ : Th} {δ : Dl} {params : Arguments} {body : Expr} {scope : Scope} {ρ : Rho} {Φ Φb : D → Prop} {Ψ : EC → Int → Prop} {pos px lpos : Pos}
/-- the table of the frame's code object -/
structure TabOk (X : Cx) (θ : Th) : Prop where
  t : ∃ c P, LamX.TabB X.base X.mg c P ∧ X.env.code = .ref c ∧ (P, X.env.qual ++ "<lambda>") ∈ θ.T ∧ ∀ p ∈ θ.T, p.1 = P → p.2 = X.env.qual ++ "<lambda>"
/-- _law_refused(lambda: body) -/
theorem je_refused {k : Nat} (RO : RefOk X.prog X.K X.mg θ) (TO : TabOk X θ) (hr : Room (k + 2) X.A) (hL : LamX.lamSB X.env.scope scope = true) (hdef : defaultsOf params X.env = ([], []))
    (hbind : ∀ (q : Str) (cl : List (Str × Addr)) (pm cv ctv : Value), bindArgs (PySem.W.kla_fn "<lambda>" q params body scope cl pm cv ctv) ⟨[], []⟩ = pure [])
    (hbody : ∀ (A : Around) (outer : List Env) (s : Shared) (H : Hp) (E : XK) (f c' : Addr), Room k (A.deeper (LamX.lamEnv X scope s.heap.objs.size f c')) → JX θ δ true (LamX.lamCx X A outer s H E scope f c') E ρ body Φb Ψ)
    (h1 : ∀ d, Φb d → Φ .non) (h2 : ∀ c i, Ψ c i → (c = .state ∨ c = .refused) ∧ Φ (.tup [.str (tagOf c), .int i])) (hg : Gl X "_law_refused" := by rfl)
    (hs : starEach [.Lambda params body scope lpos] X.env = (false, eval (.Lambda params body scope lpos) X.env) :: starEach [] X.env := by rfl) (hpl : (backTo pos (starEach [] X.env)).any (·.1) = false := by rfl) :
    JE θ δ true X ρ (.Call (.Name "_law_refused" px) [.Lambda params body scope lpos] [] pos) Φ := fun σ G H rs p Q q => by
  obtain ⟨c, P, TB, hcode, hm, hu⟩ := TO.t
  exact call_refused (n := X.N) (ev := X.env) RO hr (LamX.lamS_by hL) hbind (je_lam TB hcode hm hu (LamX.lamS_by hL) hdef) hbody h1 h2 rs rs p (fun pins s H1 I => Sees.of I (LamX.lamS_by hL)) q hg hs hpl
end
end B
set_option Elab.async false
set_option autoImplicit false
set_option linter.all false
set_option maxRecDepth 100000
set_option maxHeartbeats 2000000
namespace B
open PySem PySem.Spec PyProof.Rows L2
/-! ### keywords alone -/
def bK (X : Cx) (ks : List Keyword) : TA := fun σ H Q => ∃ t, PK X ks t ∧ t σ H Q
theorem pk_b (X : Cx) (ks : List Keyword) : PK X ks (bK X ks) := ⟨fun pos pins s σ H Q I h => let ⟨_, p, q⟩ := h; p.run pos pins s σ H Q I q⟩
section
variable {θ : Th} {δ : Dl} {m : Bool} {X : Cx} {E : XK} {ρ : Rho} {a b c e : Expr} {kws : List Keyword} {Φ A C : D → Prop} {pos kpos : Pos}
def JK (θ : Th) (δ : Dl) (m : Bool) (X : Cx) (ρ : Rho) (ks : List Keyword) (Φ : List D → Prop) : Prop :=
  ∀ (σ : L2.St) (G H : Hp), RS θ δ m G H σ ρ → Pre θ δ m G H → ∀ Q : List V → Hp → Prop, (∀ vs ds G' H', Post θ δ m G H G' H' → Φ ds → RA θ δ G' vs ds → Q vs H') → bK X ks σ H Q
theorem jk_nil : JK θ δ m X ρ [] (fun r => r = []) := fun σ G H rs p Q q => ⟨_, pk_nil, q [] [] G H (.refl p) rfl .nil⟩
theorem jk_1 {d : D} {nm : Option Str} (h : JE θ δ m X ρ e (Is d)) {ds : List D} (hr : JK θ δ m X ρ kws (fun r => r = ds)) : JK θ δ m X ρ (⟨nm, e, kpos⟩ :: kws) (fun r => r = d :: ds) := fun σ G H rs p Q q =>
  ⟨_, pk_cons (pe_b X e) (pk_b X kws), h σ G H rs p _ fun v d' G1 H1 p1 f rv => hr σ G1 H1 (rs.post p1) (p1.pre p) _ fun vs ds' G' H' p2 f2 rvs =>
    q _ _ G' H' (p1.trans p2) (by rw [f, f2]) (.cons (rv.mono p2.gg) rvs)⟩
theorem je_callK {x : Str} {px : Pos} {ps ks : List Str} {st : Stmt} {f : Addr} {fd : FuncData} {j k : Nat} {m' : Bool} {pre : List D → Prop} {post : List D → Ou → Prop} {ds es : List D} {g : List Value → List Value → List Value} {gV : List V → List V → List V} (F : Cal X.prog X.w X.K X.mg X.base j x ps (spD θ m' pre post)) (D0 : Df X.K X.mg x st ps f fd) (hb : KBinds X.K fd ps ks g gV) (hr : Room k X.A) (hjk : j ≤ k)
    (hk : JK θ δ m X ρ kws (fun r => r = ds)) (hgv : ∀ (G : Hp) (vs : List V), RA θ δ G vs ds → RA θ δ G (gV [] vs) es) (hp : pre es) (h1 : ∀ d, post es (.ret d) → Φ d) (h2 : ∀ c n, ¬ post es (.exc c n)) (hmm : m' = m ∨ m' = false := by first | exact .inl rfl | exact .inr rfl) (hg : Gl X x := by rfl)
    (hdb : (x == ("__debug__" : Str)) = false := by decide) (hall : (backToKw pos (keywordEach kws X.env)).all (·.1.isSome) = true := by rfl) (hks : (backToKw pos (keywordEach kws X.env)).filterMap (·.1) = ks := by rfl)
    (hpl : ((backTo pos (starEach [] X.env)).any (·.1) || (backToKw pos (keywordEach kws X.env)).any (·.1.isNone)) = false := by rfl) : JE θ δ m X ρ (.Call (.Name x px) [] kws pos) Φ := fun σ G H rs p Q q => by
  obtain ⟨f', fd', Fo, hm, hkp, _, oc, od, osl, lk⟩ := F
  have ef : f' = f := by
    have := hm.symm.trans D0.g
    cases this
    rfl
  subst ef
  obtain ⟨oc2, od2, kV, doc, pm, an, cdv, ct, osl2, efd, lk2, hcd⟩ := D0.F.ex
  have efd' : fd' = fd := by
    rw [lk] at lk2
    cases lk2
    rfl
  subst efd'
  refine ⟨fun σ H Q => bK X kws σ H fun zs H2 => spD θ m' pre post (gV [] zs) H2 Q fun _ _ _ => False, ⟨fun pins s σ H Q I h => ?_⟩, ?_⟩
  · refine wpAny_Call_Name_kw (ld_glob I hg hm ?_ hdb)
    refine PySem.W.callWith_KW0 (h₀ := X.base) I.ok.mod.kin hkp hall ?_ hpl
    refine thn ((pk_b X kws).run pos pins s σ H _ I h) fun ws s2 ⟨zs, H2, I2, rz, q2⟩ => ⟨I2.kIn, ?_⟩
    rw [hks]
    exact run_fnk (us := []) (vs := []) (Fo.mono hjk) hr hb passL I2 .nil rz q2
  · refine hk σ G H rs p _ fun vs ds' G1 H1 p1 fa ra => ?_
    subst fa
    have pr1 := p1.pre p
    exact ⟨δ, G1, es, pr1.lower hmm, hgv G1 vs ra, hp, fun v d G' H' po f rv => q v d G' H' (p1.trans (po.lift hmm pr1)) (h1 d f) rv, fun c n dx G' H' po f ex => (h2 c n f).elim⟩
end
def rev3 {α : Type} : List α → List α → List α
  | [], [a, b, c] => [c, b, a]
  | _, _ => []
def one1 {α : Type} : List α → List α → List α
  | [], [a] => [a]
  | _, _ => []
theorem kb_rev3 {K : PySem.W.Frag} {fd : FuncData} {a b c : Str} (h : ∀ x y z : Value, bindArgs fd ⟨[], [(c, x), (b, y), (a, z)]⟩ = pure [(a, z), (b, y), (c, x)]) : KBinds K fd [a, b, c] [c, b, a] rev3 rev3 where
  to := fun s us ws hk hl => by
    match us, ws, hl with
    | [], [x, y, z], _ => exact .of_eq (h x y z)
  rel := fun {vs us zs ws} r1 r2 => by
    cases r1 with
    | nil =>
      cases r2 with
      | nil => exact .nil
      | cons a1 r2 =>
        cases r2 with
        | nil => exact .nil
        | cons a2 r2 =>
          cases r2 with
          | nil => exact .nil
          | cons a3 r2 =>
            cases r2 with
            | nil => exact .cons a3 (.cons a2 (.cons a1 .nil))
            | cons a4 r2 => exact .nil
    | cons a1 r1 =>
      cases r2 <;> exact .nil
theorem kb_one1 {K : PySem.W.Frag} {fd : FuncData} {a : Str} (h : ∀ x : Value, bindArgs fd ⟨[], [(a, x)]⟩ = pure [(a, x)]) : KBinds K fd [a] [a] one1 one1 where
  to := fun s us ws hk hl => by
    match us, ws, hl with
    | [], [x], _ => exact .of_eq (h x)
  rel := fun {vs us zs ws} r1 r2 => by
    cases r1 with
    | nil =>
      cases r2 with
      | nil => exact .nil
      | cons a1 r2 =>
        cases r2 with
        | nil => exact .cons a1 .nil
        | cons a2 r2 => exact .nil
    | cons a1 r1 =>
      cases r2 <;> exact .nil
/-! ### defs that are called where no repr is under way -/
structure FnG (P : Program) (w : PySem.World) (K : PySem.W.Frag) (mg : Str → Option Value) (base : Heap) (k : Nat) (f : Addr) (fd : FuncData) (ps : List Str) (sp : Sp) : Prop where
  len : ∀ vs H Q E, sp vs H Q E → vs.length = ps.length
  run : ∀ (A : Around) (outer : List Env) (s : Shared) (H : Hp) (args : Args) (us : List Value) (vs : List V) (Q : VK) (E : XK), Room k A → A.guards = some [] → Env0 P w K mg base A outer s H → BindsTo s fd args (ps.zip us) → Vals vs us → sp vs H Q E →
    codeAny (model P w) A (.call (.ref f) args) (CR (L2.CX P w) outer P w H s Q E) s
theorem FnG.mono {P : Program} {w : PySem.World} {K : PySem.W.Frag} {mg : Str → Option Value} {base : Heap} {j k : Nat} {f : Addr} {fd : FuncData} {ps : List Str} {sp : Sp} (F : FnG P w K mg base j f fd ps sp) (h : j ≤ k) : FnG P w K mg base k f fd ps sp :=
  ⟨F.len, fun A outer s H args us vs Q E hr => F.run A outer s H args us vs Q E (hr.mono h)⟩
def CalG (P : Program) (w : PySem.World) (K : PySem.W.Frag) (mg : Str → Option Value) (base : Heap) (k : Nat) (x : Str) (ps : List Str) (sp : Sp) : Prop :=
  ∃ f fd, FnG P w K mg base k f fd ps sp ∧ mg x = some (.ref f) ∧ PySem.W.keepIn K (.ref f) = true ∧ Binds K fd ps []
/-- the def's code object has a table of its own for the lambdas -/
structure TabF (base : Heap) (mg : Str → Option Value) (θ : Th) (x : Str) (fd : FuncData) : Prop where
  t : ∃ c P, fd.code = .ref c ∧ LamX.TabB base mg c P ∧ (P, (x ++ ".<locals>.") ++ "<lambda>") ∈ θ.T ∧ ∀ p ∈ θ.T, p.1 = P → p.2 = (x ++ ".<locals>.") ++ "<lambda>"
section
variable {P : Program} {w : PySem.World} {K : PySem.W.Frag} {mg : Str → Option Value} {base : Heap}
theorem fnG_of {k : Nat} {f : Addr} {name qual : Str} {params : Arguments} {body : List Stmt} {scope : Scope} {dV kV doc pm cdv ct oc : Value} {an od : Option Addr} {osl : Array (Option Value)} {N ps : List Str} {sp : Sp}
    (lk : K.lookup f = some ⟨oc, od, .func (PySem.W.fnOf name qual params body scope dV kV doc pm an cdv ct), osl⟩) (hcd : PySem.W.codeIn K cdv qual = true) (S : FnScope N ps scope) (len : ∀ vs H Q E, sp vs H Q E → vs.length = ps.length)
    (hbody : ∀ (A : Around) (outer : List Env) (s : Shared) (H : Hp) (vs : List V) (Q : VK) (E : XK), Room k (A.deeper (envOfC qual scope s.heap.objs.size f cdv)) → A.guards = some [] → sp vs H Q E →
      ∃ t, PSs (cxOf (L2.CX P w) P w K mg base N qual scope f cdv A outer s H E) body t ∧ t { nx := fun _ H' => Q .non H', rt := Q } (L2.start N vs) H) :
    FnG P w K mg base (k + 1) f (PySem.W.fnOf name qual params body scope dV kV doc pm an cdv ct) ps sp := by
  exact ⟨len, fun A outer s H args us vs Q E hr hgd e0 hb r hsp => LamX.run_ofS lk hcd S hr e0 hb r (len _ _ _ _ hsp) fun hr' => hbody A outer s H vs Q E hr' hgd hsp⟩
theorem calG {θ : Th} {m : Bool} {pre : List D → Prop} {post : List D → Ou → Prop} {x : Str} {st : Stmt} {f : Addr} {fd : FuncData} {N ps : List Str} {k : Nat} (D0 : Df K mg x st ps f fd) (S : FnScope N ps (defScope st)) (len : ∀ ds, pre ds → ds.length = ps.length)
    (body : ∀ (cdv : Value) (A : Around) (outer : List Env) (s : Shared) (H : Hp) (E : XK), Room k (A.deeper (envOfC x (defScope st) s.heap.objs.size f cdv)) → A.guards = some [] → fd.code = cdv → ∀ (δ : Dl) (ds : List D), pre ds →
      JS θ δ m (cxOf (L2.CX P w) P w K mg base N x (defScope st) f cdv A outer s H E) E (startR N ds) (defBody st) (outsOf post ds)) : CalG P w K mg base (k + 1) x ps (spD θ m pre post) := by
  refine ⟨f, fd, ?_, D0.g, D0.F.kp, D0.b⟩
  obtain ⟨oc, od, kV, doc, pm, an, cdv, ct, osl, rfl, lk, hcd⟩ := D0.F.ex
  refine fnG_of lk hcd S (fun vs H Q E h => ?_) fun A outer s H vs Q E hr hgd h => ?_
  · obtain ⟨δ, G, ds, p, ra, hp, _⟩ := h
    rw [ra.length, len ds hp]
  · obtain ⟨δ, G, ds, p, ra, hp, k1, k2⟩ := h
    have e1 : δ.d = (Dl.mk δ.d δ.d0 G H).d := rfl
    have e2 : δ.d0 = (Dl.mk δ.d δ.d0 G H).d0 := rfl
    exact body cdv A outer s H E hr hgd rfl (Dl.mk δ.d δ.d0 G H) ds hp G H (L2.start N vs) G H ⟨rs_start (ra.base e1), p.base e1 e2, .refl (p.base e1 e2), Same.refl _⟩ { nx := fun _ H' => Q .non H', rt := Q }
      ⟨fun ρ σ G' H' f s' => k1 .non .non G' H' (s'.post.base e1.symm e2.symm) f .non, fun v d G' H' f po rv => k1 v d G' H' (po.base e1.symm e2.symm) f (rv.base e1.symm), fun _ _ _ _ z => z.elim, fun _ _ _ _ z => z.elim, fun c n dx G' H' f po e => k2 c n dx G' H' (po.base e1.symm e2.symm) f e⟩
end
theorem TabF.ok {P : Program} {w : PySem.World} {K : PySem.W.Frag} {mg : Str → Option Value} {base : Heap} {θ : Th} {N : List Str} {x : Str} {sc : Scope} {f : Addr} {cdv : Value} {A : Around} {outer : List Env} {s : Shared} {H : Hp} {E : XK} {fd : FuncData} (T : TabF base mg θ x fd) (e : fd.code = cdv) :
    TabOk (cxOf (L2.CX P w) P w K mg base N x sc f cdv A outer s H E) θ := by
  obtain ⟨c, Q, h1, h2, h3, h4⟩ := T.t
  exact ⟨c, Q, h2, e.symm.trans h1, h3, h4⟩
section
variable {θ : Th} {δ : Dl} {m : Bool} {X : Cx} {E : XK} {ρ : Rho} {a b c e : Expr} {es : List Expr} {Φ A C : D → Prop} {pos : Pos}
theorem je_callG {x : Str} {px : Pos} {ps : List Str} {j k : Nat} {m' : Bool} {pre : List D → Prop} {post : List D → Ou → Prop} {Θ : List D → Prop} {Φ : D → Prop} (F : CalG X.prog X.w X.K X.mg X.base j x ps (spD θ m' pre post)) (hgd : X.A.guards = some []) (hr : Room k X.A) (hjk : j ≤ k)
    (ha : JA θ δ m X ρ (e :: es) Θ) (hp : ∀ ds, Θ ds → pre ds) (h1 : ∀ ds d, Θ ds → post ds (.ret d) → Φ d) (h2 : ∀ ds c n, Θ ds → ¬ post ds (.exc c n)) (hmm : m' = m ∨ m' = false := by first | exact .inl rfl | exact .inr rfl) (hg : Gl X x := by rfl)
    (hdb : (x == ("__debug__" : Str)) = false := by decide) (he : starEach (e :: es) X.env = (false, eval e X.env) :: starEach es X.env := by rfl) (hpl : (backTo pos (starEach es X.env)).any (·.1) = false := by rfl) :
    JE θ δ m X ρ (.Call (.Name x px) (e :: es) [] pos) Φ := fun σ G H rs p Q q => by
  obtain ⟨f, fd, Fo, hm, hk, hb⟩ := F
  refine ⟨tCall (spD θ m' pre post) [] (fun _ _ _ => False) (bA X (e :: es)), ⟨fun pins s σ H Q I h => ?_⟩, ha σ G H rs p _ fun vs ds G1 H1 p1 fa ra => ?_⟩
  · refine wpAny_Call_Name_kw (ld_glob I hg hm ?_ hdb)
    refine PySem.W.callWith_K (h₀ := X.base) I.ok.mod.kin hk (thn ((pa_b X (e :: es)).run pos pins s σ H _ I h) fun us s1 ⟨vs, H1, I1, r, q⟩ => ⟨I1.kIn, ?_⟩) he hpl
    have q : spD θ m' pre post vs H1 Q fun _ _ _ => False := by
      have z : spD θ m' pre post (vs ++ []) H1 Q fun _ _ _ => False := q
      rw [List.append_nil] at z
      exact z
    have hl : us.length = ps.length := by rw [← r.length]; exact Fo.len _ _ _ _ q
    have hb1 := hb s1 us I1.kIn (by rw [List.append_nil]; exact hl)
    rw [List.append_nil] at hb1
    refine wpAny_call (codeAny_mono ((Fo.mono hjk).run X.A X.stack s1 H1 ⟨us, []⟩ us vs Q (fun _ _ _ => False) hr hgd I1.env0 hb1 r q) fun r2 s2 hq => ?_)
    cases r2 with
    | error e => exact passL pins σ H1 s1 e s2 I1 hq
    | ok fl =>
      cases fl with
      | ret u => exact I1.after hq
      | next => exact False.elim hq
      | brk => exact False.elim hq
      | cont => exact False.elim hq
  · rw [List.append_nil]
    have pr1 := p1.pre p
    exact ⟨δ, G1, ds, pr1.lower hmm, ra, hp ds fa, fun v d G' H' po f rv => q v d G' H' (p1.trans (po.lift hmm pr1)) (h1 ds d fa f) rv, fun c n dx G' H' po f ex => (h2 ds c n fa f).elim⟩
end
end B
set_option Elab.async false
set_option autoImplicit false
set_option linter.all false
set_option maxRecDepth 100000
set_option maxHeartbeats 2000000
/-! rows of a budget, and steps between them, in plain numbers. -/
namespace B
open PySem PySem.Spec
/-- a row of the budget -/
def inB (caps : List Int) (lo hi : Int) (r : List Int) : Prop := belowL caps r ∧ lo ≤ r.sum ∧ r.sum ≤ hi
theorem getD_of_le {l : List Int} {k : Nat} (h : l.length ≤ k) : l.getD k 0 = 0 := by
  rw [List.getD_eq_getElem?_getD, List.getElem?_eq_none h]
  rfl
theorem ext_getD : ∀ {a b : List Int}, a.length = b.length → (∀ k, a.getD k 0 = b.getD k 0) → a = b
  | [], [], _, _ => rfl
  | [], _ :: _, h, _ => by simp at h
  | _ :: _, [], h, _ => by simp at h
  | x :: a, y :: b, h, k => by
    have h0 : x = y := by simpa using k 0
    rw [h0, ext_getD (a := a) (b := b) (by simpa using h) fun i => by simpa using k (i + 1)]
theorem sum_set_at : ∀ {l : List Int} {k : Nat} (v : Int), k < l.length → (l.set k v).sum = l.sum - l.getD k 0 + v
  | [], k, v, h => by simp at h
  | x :: l, 0, v, _ => by simp; omega
  | x :: l, k + 1, v, h => by
    have := sum_set_at (l := l) (k := k) v (by simpa using h)
    simp only [List.set_cons_succ, List.sum_cons, List.getD_cons_succ]
    omega
theorem sum_le_at : ∀ {a b : List Int}, a.length = b.length → (∀ k, b.getD k 0 ≤ a.getD k 0) → b.sum ≤ a.sum ∧ (b.sum = a.sum → a = b)
  | [], [], _, _ => ⟨Int.le_refl _, fun _ => rfl⟩
  | [], _ :: _, h, _ => by simp at h
  | _ :: _, [], h, _ => by simp at h
  | x :: a, y :: b, h, k => by
    have h0 : y ≤ x := by simpa using k 0
    obtain ⟨h1, h2⟩ := sum_le_at (a := a) (b := b) (by simpa using h) fun i => by simpa using k (i + 1)
    simp only [List.sum_cons]
    refine ⟨by omega, fun e => ?_⟩
    have e1 : x = y := by omega
    have e2 : b.sum = a.sum := by omega
    rw [e1, h2 e2]
theorem isRow_of {caps r : List Int} (h : belowL caps r) : rowBelow caps (di r) = true := by
  obtain ⟨hl, hk⟩ := h
  unfold rowBelow
  clear hl
  induction r generalizing caps with
  | nil => simp [di]
  | cons x r ih =>
    cases caps with
    | nil => simp [di]
    | cons c caps =>
      have h0 := hk 0
      have h1 := ih (caps := caps) fun k => by simpa using hk (k + 1)
      simp only [List.getD_cons_zero] at h0
      simp only [di, List.map_cons, List.zipWith_cons_cons, List.all_cons, id]
      rw [Bool.and_eq_true]
      refine ⟨?_, h1⟩
      unfold isIdxD
      simp only [decide_eq_true_eq]
      omega
theorem rowOf_seq {caps r : List Int} {lo hi : Int} {d : D} (h : inB caps lo hi r) (hd : seqD d = some (di r)) : rowOf caps lo hi d = some r := by
  obtain ⟨hb, h1, h2⟩ := h
  unfold rowOf
  have e : isRowD caps d = true := by
    unfold isRowD
    rw [hd]
    simp only [Bool.and_eq_true, decide_eq_true_eq]
    exact ⟨by simp [di, hb.1], isRow_of hb⟩
  rw [hd]
  simp only [Option.getD_some, nOf_di]
  rw [if_pos ⟨e, h1, h2⟩]
theorem rowOf_t {caps r : List Int} {lo hi : Int} (h : inB caps lo hi r) : rowOf caps lo hi (dti r) = some r := rowOf_seq h rfl
theorem rowOf_l {caps r : List Int} {lo hi : Int} (h : inB caps lo hi r) : rowOf caps lo hi (dli r) = some r := rowOf_seq h rfl
/-! ### steps -/
def l1 (a b : List Int) : Nat := ((List.range a.length).map fun k => (a.getD k 0 - b.getD k 0).natAbs).sum
theorem sum_lt_at {f g : Nat → Nat} : ∀ {l : List Nat} {k : Nat}, l.Nodup → k ∈ l → f k < g k → (∀ j, j ≠ k → f j = g j) → (l.map f).sum < (l.map g).sum
  | [], k, _, h, _, _ => by simp at h
  | x :: l, k, nd, h, hk, hj => by
    simp only [List.map_cons, List.sum_cons]
    obtain ⟨n1, n2⟩ := List.nodup_cons.mp nd
    by_cases e : x = k
    · subst e
      have : l.map f = l.map g := List.map_congr_left fun j hj' => hj j fun z => n1 (z ▸ hj')
      rw [this]
      omega
    · have := sum_lt_at n2 ((List.mem_cons.mp h).resolve_left (Ne.symm e)) hk hj
      have := hj x e
      omega
theorem chg_same {lo hi : Int} {a b : List Int} {k : Nat} (h : lo = hi) (hs : a.sum = lo) : chg lo hi a b k = a.getD k 0 := by
  unfold chg
  subst h
  omega
theorem step_none {lo hi : Int} {a b : List Int} (h : lo = hi) (hs : a.sum = lo) : stepTo lo hi a b = none := by
  unfold stepTo stepAt
  rw [Option.map_eq_none_iff, List.find?_eq_none]
  intro k _
  simp [chg_same h hs]
structure Moves (caps : List Int) (lo hi : Int) (a b r : List Int) : Prop where
  far : farP lo hi a b r = true
  inb : inB caps lo hi r
  near : l1 r b < l1 a b
theorem step_some {caps : List Int} {lo hi : Int} {a b : List Int} (ha : inB caps lo hi a) (hb : inB caps lo hi b) (hne : a ≠ b) (h : lo < hi) : ∃ r, stepTo lo hi a b = some r ∧ Moves caps lo hi a b r := by
  obtain ⟨⟨la, ka⟩, a1, a2⟩ := ha
  obtain ⟨⟨lb, kb⟩, b1, b2⟩ := hb
  have lab : a.length = b.length := by omega
  have ex : ∃ k, stepAt lo hi a b = some k := by
    cases e : stepAt lo hi a b with
    | some k => exact ⟨k, rfl⟩
    | none =>
      exfalso
      unfold stepAt at e
      rw [List.find?_eq_none] at e
      have all : ∀ k, chg lo hi a b k = a.getD k 0 ∨ (a.getD k 0 = 0 ∧ b.getD k 0 = 0) := fun k => by
        by_cases hk : k < a.length
        · have := e k (List.mem_range.mpr hk)
          exact .inl (by simpa using this)
        · exact .inr ⟨getD_of_le (by omega), getD_of_le (by omega)⟩
      have up : a.sum < hi → ∀ k, b.getD k 0 ≤ a.getD k 0 := fun hu k => by
        rcases all k with z | z
        · unfold chg at z
          omega
        · omega
      have dn : lo < a.sum → ∀ k, a.getD k 0 ≤ b.getD k 0 := fun hu k => by
        rcases all k with z | z
        · unfold chg at z
          omega
        · omega
      by_cases hu : a.sum < hi
      · obtain ⟨s1, s2⟩ := sum_le_at lab (up hu)
        by_cases hd : lo < a.sum
        · exact hne (ext_getD lab fun k => Int.le_antisymm (dn hd k) (up hu k))
        · exact hne (s2 (by omega))
      · obtain ⟨s1, s2⟩ := sum_le_at lab.symm (dn (by omega))
        exact hne (s2 (by omega)).symm
  obtain ⟨k, ek⟩ := ex
  refine ⟨a.set k (chg lo hi a b k), by unfold stepTo; rw [ek]; rfl, ?_⟩
  unfold stepAt at ek
  have hk : k < a.length := List.mem_range.mp (List.mem_of_find?_eq_some ek)
  have hc : chg lo hi a b k ≠ a.getD k 0 := by simpa using List.find?_some ek
  have k1 := ka k
  have k2 := kb k
  generalize hv : chg lo hi a b k = v at hc
  have hv' := hv
  unfold chg at hv'
  have bet : (a.getD k 0 < v ∧ v ≤ b.getD k 0 ∧ v - a.getD k 0 ≤ hi - a.sum ∧ (v = b.getD k 0 ∨ v = a.getD k 0 + (hi - a.sum))) ∨ (v < a.getD k 0 ∧ b.getD k 0 ≤ v ∧ a.getD k 0 - v ≤ a.sum - lo ∧ (v = b.getD k 0 ∨ v = a.getD k 0 - (a.sum - lo))) := by
    omega
  have hs := sum_set_at v hk
  have g1 : (a.set k v).getD k 0 = v := getD_set_eq hk
  have g2 : ∀ j, k ≠ j → (a.set k v).getD j 0 = a.getD j 0 := fun j hj => getD_set_ne hj
  refine ⟨?_, ⟨⟨by rw [List.length_set]; exact la, fun j => ?_⟩, by omega, by omega⟩, ?_⟩
  · have em : movedK a (a.set k v) = [k] := by
      unfold movedK
      have : ∀ j, decide ((a.set k v).getD j 0 ≠ a.getD j 0) = decide (j = k) := fun j => by
        by_cases e : k = j
        · subst e
          rw [g1, decide_eq_true hc, decide_eq_true rfl]
        · rw [g2 j e]
          simp [Ne.symm e]
      rw [List.filter_congr fun j _ => this j]
      have hcount : ∀ n : Nat, k < n → (List.range n).filter (fun j => decide (j = k)) = [k] := fun n hn => by
        induction n with
        | zero => omega
        | succ n ih =>
          rw [List.range_succ, List.filter_append]
          by_cases e : n = k
          · subst e
            have : (List.range n).filter (fun j => decide (j = n)) = [] := by
              rw [List.filter_eq_nil_iff]
              intro j hj
              have := List.mem_range.mp hj
              simp; omega
            rw [this]
            simp
          · rw [ih (by omega)]
            simp [e]
      exact hcount _ hk
    unfold farP
    rw [em]
    show farAt lo hi a b (a.set k v) k = true
    unfold farAt
    rw [g1]
    rcases bet with ⟨q1, q2, q3, q4⟩ | ⟨q1, q2, q3, q4⟩
    · rw [if_pos (by omega), decide_eq_true_eq]
      omega
    · rw [if_neg (by omega), Bool.and_eq_true, decide_eq_true_eq, decide_eq_true_eq]
      exact ⟨by omega, by omega⟩
  · by_cases e : k = j
    · subst e
      rw [g1]
      omega
    · rw [g2 j e]
      exact ka j
  · unfold l1
    rw [List.length_set]
    refine sum_lt_at (k := k) List.nodup_range (List.mem_range.mpr hk) ?_ fun j hj => ?_
    · rw [g1]
      omega
    · rw [g2 j (Ne.symm hj)]
end B
set_option Elab.async false
set_option autoImplicit false
set_option linter.all false
set_option maxRecDepth 100000
set_option maxHeartbeats 2000000
/-! walks that end; a budget and its multiples. -/
namespace B
open PySem PySem.Spec
/-- n rounds of the walk's loop are enough -/
def reach (lo hi : Int) (b : List Int) : Nat → List Int → Prop
  | 0, _ => False
  | n + 1, a => a = b ∨ lo = hi ∨ ∀ r, stepTo lo hi a b = some r → reach lo hi b n r
theorem reach_l1 {caps : List Int} {lo hi : Int} {b : List Int} (hb : inB caps lo hi b) : ∀ (n : Nat) {a : List Int}, inB caps lo hi a → l1 a b < n → reach lo hi b n a
  | 0, a, _, h => absurd h (Nat.not_lt_zero _)
  | n + 1, a, ha, h => by
    by_cases e : a = b
    · exact .inl e
    · by_cases e2 : lo = hi
      · exact .inr (.inl e2)
      · refine .inr (.inr fun r hr => ?_)
        obtain ⟨r', h1, h2⟩ := step_some ha hb e (by have := ha.2; omega)
        rw [hr] at h1
        cases h1
        exact reach_l1 hb n h2.inb (by have := h2.near; omega)
theorem l1_le {caps : List Int} {lo hi : Int} {a b : List Int} (ha : inB caps lo hi a) (hb : inB caps lo hi b) (h4 : caps.length ≤ 4) (h3 : ∀ c ∈ caps, 0 ≤ c ∧ c ≤ 3) : l1 a b ≤ 12 := by
  have hl : a.length ≤ 4 := by rw [ha.1.1]; exact h4
  have cap : ∀ k, caps.getD k 0 ≤ 3 := fun k => by
    by_cases hk : k < caps.length
    · rw [List.getD_eq_getElem?_getD, List.getElem?_eq_getElem hk]
      exact (h3 _ (List.getElem_mem hk)).2
    · rw [getD_of_le (by omega)]
      decide
  have each : ∀ k, (a.getD k 0 - b.getD k 0).natAbs ≤ 3 := fun k => by
    have h1 := ha.1.2 k
    have h2 := hb.1.2 k
    have h5 := cap k
    omega
  have key : ∀ (l : List Nat), (l.map fun k => (a.getD k 0 - b.getD k 0).natAbs).sum ≤ 3 * l.length := fun l => by
    induction l with
    | nil => simp
    | cons x l ih =>
      have := each x
      simp only [List.map_cons, List.sum_cons, List.length_cons]
      omega
  have := key (List.range a.length)
  unfold l1
  rw [List.length_range] at this
  omega
/-! ### multiples -/
abbrev scL (t : Int) (r : List Int) : List Int := r.map fun x => x * t
theorem getD_sc (t : Int) (r : List Int) (k : Nat) : (scL t r).getD k 0 = r.getD k 0 * t := by
  rw [List.getD_eq_getElem?_getD, List.getElem?_map, List.getD_eq_getElem?_getD]
  cases r[k]? with
  | none => simp
  | some x => rfl
theorem sum_sc (t : Int) : ∀ r : List Int, (scL t r).sum = r.sum * t
  | [] => by simp
  | x :: r => by
    have := sum_sc t r
    simp only [scL, List.map_cons, List.sum_cons] at this ⊢
    rw [this, Int.add_mul]
theorem le_sc {t x y : Int} (ht : 0 < t) : x * t ≤ y * t ↔ x ≤ y := ⟨fun h => Int.le_of_mul_le_mul_right h ht, fun h => Int.mul_le_mul_of_nonneg_right h (Int.le_of_lt ht)⟩
theorem lt_sc {t x y : Int} (ht : 0 < t) : x * t < y * t ↔ x < y := by
  rw [← Int.not_le, ← Int.not_le, le_sc ht]
theorem eq_sc {t x y : Int} (ht : 0 < t) : x * t = y * t ↔ x = y := ⟨fun h => Int.le_antisymm ((le_sc ht).mp (Int.le_of_eq h)) ((le_sc ht).mp (Int.le_of_eq h.symm)), fun h => by rw [h]⟩
theorem min_sc {t x y : Int} (ht : 0 < t) : min (x * t) (y * t) = min x y * t := by
  rcases Int.le_total x y with h | h
  · rw [Int.min_eq_left h, Int.min_eq_left ((le_sc ht).mpr h)]
  · rw [Int.min_eq_right h, Int.min_eq_right ((le_sc ht).mpr h)]
theorem max_sc {t x y : Int} (ht : 0 < t) : max (x * t) (y * t) = max x y * t := by
  rcases Int.le_total x y with h | h
  · rw [Int.max_eq_right h, Int.max_eq_right ((le_sc ht).mpr h)]
  · rw [Int.max_eq_left h, Int.max_eq_left ((le_sc ht).mpr h)]
theorem inB_sc {caps r : List Int} {lo hi t : Int} (ht : 0 < t) (h : inB caps lo hi r) : inB (scL t caps) (lo * t) (hi * t) (scL t r) := by
  obtain ⟨⟨hl, hk⟩, h1, h2⟩ := h
  refine ⟨⟨by simp [hl], fun k => ?_⟩, by rw [sum_sc, le_sc ht]; exact h1, by rw [sum_sc, le_sc ht]; exact h2⟩
  rw [getD_sc, getD_sc, le_sc ht]
  exact ⟨Int.mul_nonneg (hk k).1 (Int.le_of_lt ht), (hk k).2⟩
theorem chg_sc {lo hi t : Int} {a b : List Int} {k : Nat} (ht : 0 < t) : chg (lo * t) (hi * t) (scL t a) (scL t b) k = chg lo hi a b k * t := by
  unfold chg
  rw [getD_sc, getD_sc, sum_sc, ← Int.sub_mul, ← Int.sub_mul, max_sc ht, ← Int.sub_mul, ← Int.add_mul, min_sc ht]
theorem step_sc {lo hi t : Int} {a b : List Int} (ht : 0 < t) : stepTo (lo * t) (hi * t) (scL t a) (scL t b) = (stepTo lo hi a b).map (scL t) := by
  have e : stepAt (lo * t) (hi * t) (scL t a) (scL t b) = stepAt lo hi a b := by
    unfold stepAt
    rw [List.length_map]
    congr 1
    funext k
    rw [chg_sc ht, getD_sc]
    exact decide_eq_decide.mpr (not_congr (eq_sc ht))
  unfold stepTo
  rw [e]
  cases stepAt lo hi a b with
  | none => rfl
  | some k =>
    simp only [Option.map_some]
    rw [chg_sc ht]
    exact congrArg some (List.map_set (f := fun x => x * t)).symm
theorem reach_sc {lo hi t : Int} {b : List Int} (ht : 0 < t) : ∀ (n : Nat) {a : List Int}, reach lo hi b n a → reach (lo * t) (hi * t) (scL t b) n (scL t a)
  | 0, a, h => h
  | n + 1, a, h => by
    rcases h with rfl | rfl | h
    · exact .inl rfl
    · exact .inr (.inl rfl)
    · refine .inr (.inr fun r hr => ?_)
      rw [step_sc ht] at hr
      cases e : stepTo lo hi a b with
      | none => rw [e] at hr; cases hr
      | some q =>
        rw [e] at hr
        cases hr
        exact reach_sc ht n (h q e)
/-! ### changes needed, of multiples -/
theorem parts_le {z S k : Int} (hS : 0 < S) : partsOf z S ≤ k ↔ z ≤ k * S ∧ 0 ≤ k := by
  unfold partsOf
  rw [← Int.lt_add_one_iff, Int.ediv_lt_iff_lt_mul hS, Int.add_mul]
  constructor
  · intro h
    have h1 : max z 0 ≤ k * S := by omega
    refine ⟨by omega, ?_⟩
    by_cases hk : 0 ≤ k
    · exact hk
    · have : k * S < 0 := Int.mul_neg_of_neg_of_pos (by omega) hS
      omega
  · rintro ⟨h1, h2⟩
    have := Int.mul_nonneg h2 (Int.le_of_lt hS)
    omega
theorem parts_sc {z S t : Int} (hS : 0 < S) (ht : 0 < t) : partsOf (z * t) (S * t) = partsOf z S := by
  have hSt : 0 < S * t := Int.mul_pos hS ht
  refine Int.le_antisymm ((parts_le hSt).mpr ?_) ((parts_le hS).mpr ?_)
  · obtain ⟨h1, h2⟩ := (parts_le (z := z) (k := partsOf z S) hS).mp (Int.le_refl _)
    refine ⟨?_, h2⟩
    rw [← Int.mul_assoc, le_sc ht]
    exact h1
  · obtain ⟨h1, h2⟩ := (parts_le (z := z * t) (k := partsOf (z * t) (S * t)) hSt).mp (Int.le_refl _)
    rw [← Int.mul_assoc, le_sc ht] at h1
    exact ⟨h1, h2⟩
theorem keys_sc {t : Int} {a b : List Int} (ht : 0 < t) : keysD (scL t a) (scL t b) = keysD a b := by
  unfold keysD
  rw [List.length_map]
  refine List.filter_congr fun k _ => ?_
  rw [getD_sc, getD_sc]
  exact decide_eq_decide.mpr (not_congr (eq_sc ht))
theorem rise_sc {t : Int} {a b : List Int} (ht : 0 < t) : riseOf (scL t a) (scL t b) = riseOf a b * t := by
  unfold riseOf
  rw [keys_sc ht, ← sum_sc]
  unfold scL
  rw [List.map_map]
  congr 1
  refine List.map_congr_left fun k _ => ?_
  simp only [Function.comp_apply]
  rw [getD_sc, getD_sc, ← Int.sub_mul]
  have := max_sc (x := b.getD k 0 - a.getD k 0) (y := 0) ht
  rw [Int.zero_mul] at this
  exact this
theorem needed_sc {caps : List Int} {lo hi t : Int} {a b : List Int} (ht : 0 < t) (ha : inB caps lo hi a) : neededD (lo * t) (hi * t) (scL t a) (scL t b) = neededD lo hi a b := by
  have z : ∀ x : Int, x * t = 0 ↔ x = 0 := fun x => by
    have := eq_sc (x := x) (y := 0) ht
    rw [Int.zero_mul] at this
    exact this
  have pos : ∀ x : Int, 0 < x * t ↔ 0 < x := fun x => by
    have := lt_sc (x := 0) (y := x) ht
    rw [Int.zero_mul] at this
    exact this
  have cu : countUp (lo * t) (hi * t) (scL t a).sum (riseOf (scL t a) (scL t b)) (riseOf (scL t b) (scL t a)) = countUp lo hi a.sum (riseOf a b) (riseOf b a) := by
    unfold countUp
    rw [rise_sc ht, rise_sc ht, sum_sc, ← Int.sub_mul, ← Int.sub_mul, ← Int.sub_mul]
    by_cases h : 0 < hi - a.sum
    · have hS : 0 < hi - lo := by have := ha.2; omega
      rw [if_pos h, if_pos ((pos _).mpr h), parts_sc hS ht, parts_sc hS ht]
    · rw [if_neg h, if_neg (fun q => h ((pos _).mp q))]
  have cd : countDn (lo * t) (hi * t) (scL t a).sum (riseOf (scL t a) (scL t b)) (riseOf (scL t b) (scL t a)) = countDn lo hi a.sum (riseOf a b) (riseOf b a) := by
    unfold countDn
    rw [rise_sc ht, rise_sc ht, sum_sc, ← Int.sub_mul, ← Int.sub_mul, ← Int.sub_mul]
    by_cases h : 0 < a.sum - lo
    · have hS : 0 < hi - lo := by have := ha.2; omega
      rw [if_pos h, if_pos ((pos _).mpr h), parts_sc hS ht, parts_sc hS ht]
    · rw [if_neg h, if_neg (fun q => h ((pos _).mp q))]
  unfold neededD
  rw [cu, cd, keys_sc ht, rise_sc ht, rise_sc ht]
  simp only [z]
end B
set_option Elab.async false
set_option autoImplicit false
set_option linter.all false
set_option maxRecDepth 100000
set_option maxHeartbeats 4000000
namespace B
open PySem PySem.Spec PyProof.Rows L2
section
variable {θ : Th} {δ : Dl} {m : Bool} {X : Cx} {ρ : Rho} {a b c e : Expr} {pos p2 : Pos} {j : Nat}
theorem je_isN {d : D} (ha : JE θ δ m X ρ a (Is d)) : JE θ δ m X ρ (.Compare a [.Is] [.Constant .none j p2] pos) (Is (.bl (match d with | .non => true | _ => false))) :=
  je_cmp op_isN (nomark _) ha je_non fun x y da db G H fa fb rx ry p Q q => by
    subst fa fb
    cases ry
    refine ⟨rfl, q _ _ G H (.refl p) ?_ (.bl _)⟩
    cases rx <;> simp
theorem je_listOf {d : D} {ds : List D} {px : Pos} (hm : X.mg "list" = none) (hd : seqD d = some ds) (h : JE θ δ m X ρ a (Is d)) (hg : Gl X "list" := by rfl) (h1 : starEach [a] X.env = (false, eval a X.env) :: starEach [] X.env := by rfl) (h3 : (backTo pos (starEach [] X.env)).any (·.1) = false := by rfl) :
    JE θ δ m X ρ (.Call (.Name "list" px) [a] [] pos) (Is (.list ds)) := je_callTy call_list_of hm (ja_1 h ja_nil h1) (ca_list hd) (by decide +kernel) hg (by decide) (by decide) h1 h3
theorem je_isIn {d : D} {T T' : String} {x : Str} {k : Bool} {px p3 : Pos} (hK : X.K = θ.K) (hm : X.mg "isinstance" = none) (hmx : X.mg x = none) (hT : tyD d = some T') (h : kitB T' T = some k) (ha : JE θ δ m X ρ a (Is d)) (hv : bootBuiltins x = some (.type T) := by decide +kernel) (hg : Gl X "isinstance" := by rfl) (hgx : Gl X x := by rfl) (hn : x ≠ "__name__" := by decide) (hdb : (x == ("__debug__" : Str)) = false := by decide)
    (h1 : starEach [a, .Name x p3] X.env = (false, eval a X.env) :: starEach [.Name x p3] X.env := by rfl) (h2 : starEach [.Name x p3] X.env = (false, eval (.Name x p3) X.env) :: starEach [] X.env := by rfl) (h3 : (backTo pos (starEach [.Name x p3] X.env)).any (·.1) = false := by rfl) :
    JE θ δ m X ρ (.Call (.Name "isinstance" px) [a, .Name x p3] [] pos) (Is (.bl k)) := je_callB call_isi hm (ja_1 ha (ja_1 (je_bltn hmx hv hgx hn hdb) ja_nil h2) h1) (ca_isi hK hT h) (by decide +kernel) hg (by decide) (by decide) h1 h3
end
theorem ok_told (t : EC) (i : Int) (ht : t = .state ∨ t = .refused) : okD (.tup [.str (tagOf t), .int i]) := by
  rcases ht with rfl | rfl <;> exact ⟨rfl, by unfold SeqAt.shaped; simp [py, pys, tagOf, PyData.canLay0, PyData.canLayAll0, PyData.depth, PyData.depthAll]; decide +kernel⟩
theorem ok_non : okD .non := ⟨rfl, by decide⟩
theorem dtiInj {x y : List Int} (h : dti x = dti y) : y = x := by
  have := congrArg rowD h
  rw [rowD_dti, rowD_dti] at this
  exact this.symm
abbrev sWalk : Stmt := top 33
abbrev nWalk : List Str := ["_law_budget", "_law_low", "_law_high", "_law_one", "_law_other", "_law_ends", "_law_here", "_law_turn", "_law_told", "_law_value"]
abbrev pWalk : List Str := ["_law_budget", "_law_low", "_law_high", "_law_one", "_law_other", "_law_ends"]
theorem sc_walk : FnScope nWalk pWalk (defScope sWalk) := ⟨rfl, rfl, rfl, by decide +kernel, rfl, by decide +kernel, by decide +kernel⟩
def preWalk (ds : List D) : Prop := ∃ (caps : List Int) (lo hi : Int) (a b : List Int) (ends : Bool), ds = [.bud caps lo hi, .int lo, .int hi, dti a, dti b, .bl ends] ∧ caps.length ≤ 900 ∧ inB caps lo hi a ∧ inB caps lo hi b ∧ (ends = true → reach lo hi b 24 a)
def postTrue (ds : List D) (o : Ou) : Prop := o = .ret (.bl true)
section
variable {P : Program} {w : PySem.World} {K : PySem.W.Frag} {mg : Str → Option Value} {base : Heap} {θ : Th} {f : Addr} {fd : FuncData}
abbrev CalStep (P : Program) (w : PySem.World) (K : PySem.W.Frag) (mg : Str → Option Value) (base : Heap) (θ : Th) : Prop := Cal P w K mg base 6 "step_towards" ["budget", "one", "other"] (spF θ (pre3 fun _ _ _ => True) (twoRows fun _ lo hi a b => stepOu lo hi a b))
theorem small_row (r : List Int) (h : r.length ≤ 900) : smallSeq (dti r) ∧ smallSeq (dli r) := by
  have ty : ∀ x ∈ di r, hasTy x := fun x hx => by
    obtain ⟨i, _, rfl⟩ := List.mem_map.mp hx
    exact ⟨_, rfl⟩
  exact ⟨⟨⟨_, rfl⟩, fun ds e => by cases e; exact ⟨by simp; omega, ty⟩⟩, ⟨_, rfl⟩, fun ds e => by cases e; exact ⟨by simp; omega, ty⟩⟩
theorem two_in {g : List Int → Int → Int → List Int → List Int → Ou} {caps a b : List Int} {lo hi : Int} {x y : D} (ha : rowOf caps lo hi x = some a) (hb : rowOf caps lo hi y = some b) : twoRows g [.bud caps lo hi, x, y] = g caps lo hi a b := by
  unfold twoRows
  simp only [ha, hb]
theorem ok_walk {g : Addr} {gd : FuncData} (D0 : Df K mg "_law_walk" sWalk pWalk f fd) (th : ThOk P K mg θ) (nb : Nb mg) (RO : RefOk P K mg θ) (T : TabF base mg θ "_law_walk" fd) (Ds : Df K mg "step_towards" sStep ["budget", "one", "other"] g gd) (c1 : CalStep P w K mg base θ)
    (c2 : Cal P w K mg base 1 "_law_farthest" ["_law_low", "_law_high", "_law_one", "_law_other", "_law_told"] (spD θ false preFar postFar)) : CalG P w K mg base 9 "_law_walk" pWalk (spD θ true preWalk postTrue) := by
  refine calG (k := 8) D0 sc_walk (fun ds h => by obtain ⟨_, _, _, _, _, _, rfl, _⟩ := h; rfl) fun cdv A outer s H E hr hgd hcd δ ds hp => ?_
  obtain ⟨caps, lo, hi, a, b, ends, rfl, hz, ha, hb, hre⟩ := hp
  have hK := th.eK
  have hu := Room_u65 hr
  have TO := T.ok (P := P) (w := w) (K := K) (N := nWalk) (sc := defScope sWalk) (f := f) (A := A) (outer := outer) (s := s) (H := H) (E := E) hcd
  have hlb : b.length = caps.length := hb.1.1
  refine js_set (Φ := Is (dti a)) 6 sc_walk.nd (je_var 3) fun d e => ?_
  subst e
  refine js_for (S := fun s => s = rng 24) (act := NameT 7) (Inv := fun src i ρ => ∃ here u v z, ρ = [some (.dat (.bud caps lo hi)), some (.dat (.int lo)), some (.dat (.int hi)), some (.dat (dti a)), some (.dat (dti b)), some (.dat (.bl ends)), some (.dat (dti here)), u, v, z] ∧ i ≤ 24 ∧ inB caps lo hi here ∧ (ends = true → reach lo hi b (24 - i) here))
    (Mid := fun ρ => (∃ here u v z, ρ = [some (.dat (.bud caps lo hi)), some (.dat (.int lo)), some (.dat (.int hi)), some (.dat (dti a)), some (.dat (dti b)), some (.dat (.bl ends)), some (.dat (dti here)), u, v, z]) ∧ ends = false)
    (ji_rangeI nb.range je_int (by decide)) (jg_name 7 sc_walk.nd) (fun src hS => ⟨a, none, none, none, rfl, Nat.zero_le _, ha, hre⟩) (fun _ _ _ _ _ _ _ => ⟨_, rfl⟩) (fun src i d ρ1 ρ2 hS hd hI hA => ?_) (fun src ρ1 hS hI => ?_) (fun ρ' hM => ?_)
  · subst hS
    obtain ⟨here, u, v, z, rfl, hi24, hh, hreach⟩ := hI
    subst hA
    rw [rng_get] at hd
    have hi' : i < 24 := by
      split at hd
      · assumption
      · cases hd
    rw [if_pos hi'] at hd
    cases hd
    have hlh : here.length = caps.length := hh.1.1
    have two : twoRows (fun _ lo hi a b => stepOu lo hi a b) [.bud caps lo hi, dti here, dti b] = stepOu lo hi here b := two_in (rowOf_t hh) (rowOf_t hb)
    have twoL : twoRows (fun _ lo hi a b => stepOu lo hi a b) [.bud caps lo hi, dli here, dli b] = stepOu lo hi here b := two_in (rowOf_l hh) (rowOf_l hb)
    have pre : pre3 (fun _ _ _ => True) [.bud caps lo hi, dti here, dti b] := ⟨caps, lo, hi, _, _, rfl, by omega, trivial, (small_row here (by omega)).1, (small_row b (by omega)).1⟩
    have preL : pre3 (fun _ _ _ => True) [.bud caps lo hi, dli here, dli b] := ⟨caps, lo, hi, _, _, rfl, by omega, trivial, (small_row here (by omega)).2, (small_row b (by omega)).2⟩
    refine js_ifRet (jt_cmp (op_eqD (u64 hu)) (nomark _) (je_var 6) (je_var 4) (od_eqD hK.symm (ok_dti _) (ok_dti _) (eqv_dti _ _)).bp) (fun e => ?_) fun e => ?_
    · have hab : here = b := by simpa using e.symm
      refine js_ret (je_isN (d := .non) (je_callI c1 hr (by decide) (ja_1 (je_var 0) (ja_1 (je_var 6) (ja_1 (je_var 4) ja_nil))) pre fun o ho => ?_)) fun d e => by rw [e]; rfl
      rw [ho]
      show twoRows _ _ = _
      rw [two]
      unfold stepOu
      rw [if_pos hab]
    have hne : here ≠ b := by simpa using e.symm
    have eN : stepTo lo hi here b = none → stepOu lo hi here b = .exc .refused 0 := fun h => by
      unfold stepOu
      rw [if_neg hne, h]
    have eS : ∀ r, stepTo lo hi here b = some r → stepOu lo hi here b = .ret (dti r) := fun r h => by
      unfold stepOu
      rw [if_neg hne, h]
    refine js_ifRet (jt_eq (je_var 1) (je_var 2)) (fun e => ?_) fun e => ?_
    · have hlo : lo = hi := by simpa using e.symm
      have eR : stepOu lo hi here b = .exc .refused 0 := eN (step_none hlo (by have := hh.2; omega))
      refine js_ret (Φ := Is (.bl true)) (je_cmp (A := Is (.tup [.str (tagOf .refused), .int 0])) (C := Is (.tup [.str (tagOf .refused), .int 0])) (op_eqD (u64 hu)) (nomark _) (je_refused (k := 6) (Φb := fun _ => False) (Ψ := fun c n => c = .refused ∧ n = 0) RO TO hr (by kernel_rfl) rfl (fun _ _ _ _ _ => rfl) (fun A2 outer2 s2 H2 E2 f2 c2 hr2 => ?_) (fun _ z => z.elim) (fun c n hcn => ⟨.inr hcn.1, by rw [hcn.1, hcn.2]⟩)) (je_tup (ja_1 je_str (ja_1 je_int ja_nil))) (od_eqD hK.symm (ok_told _ _ (.inr rfl)) (ok_told _ _ (.inr rfl)) (by decide))) fun d e => by rw [e]; rfl
      refine jx_call (CX := L2.CX P w) c1 hr2 (Nat.le_refl _) (passes_call (takes_of rfl rfl rfl rfl) fun _ _ _ _ h => h) (ja_1 (je_var 0) (ja_1 (je_var 6) (ja_1 (je_var 4) ja_nil))) (fun ds e => e ▸ pre) (fun ds d e ho => ?_) fun ds c n e ho => ?_
      · subst e
        have ho : Ou.ret d = twoRows _ _ := ho
        rw [two, eR] at ho
        cases ho
      · subst e
        have ho : Ou.exc c n = twoRows _ _ := ho
        rw [two, eR] at ho
        cases ho
        exact ⟨rfl, rfl⟩
    have hlo : lo < hi := by
      have h1 : lo ≠ hi := by simpa using e.symm
      have := hh.2
      omega
    obtain ⟨r, er, mv⟩ := step_some hh hb hne hlo
    have eR := eS r er
    have hlr : r.length = caps.length := mv.inb.1.1
    obtain ⟨oc, od, kV, doc, pm, an, cdv2, ct, osl, efd, lk2, hcd2⟩ := Ds.F.ex
    refine js_set (Φ := Is (dti r)) 8 sc_walk.nd (je_callK c1 Ds (kb_rev3 (fun x y z => by rw [efd]; rfl)) hr (by decide) (jk_1 (je_listOf nb.list rfl (je_var 4)) (jk_1 (je_listOf nb.list rfl (je_var 6)) (jk_1 (je_var 0) jk_nil))) (es := [.bud caps lo hi, dli here, dli b]) (fun G vs ra => ?_) preL (fun d ho => ?_) fun c n ho => ?_) fun d e => ?_
    · cases ra with
      | cons r1 ra =>
        cases ra with
        | cons r2 ra =>
          cases ra with
          | cons r3 ra =>
            cases ra
            exact .cons r3 (.cons r2 (.cons r1 .nil))
    · have ho : Ou.ret d = twoRows _ _ := ho
      rw [twoL, eR] at ho
      cases ho
      rfl
    · have ho : Ou.exc c n = twoRows _ _ := ho
      rw [twoL, eR] at ho
      cases ho
    subst e
    refine js_ifRet (β := fun k => k = false) (jt_pw (jw_orI (k := false) (k' := false) (jt_notI (jt_valI (je_isIn hK.symm nb.isinstance nb.tuple (d := dti r) (T := "tuple") (T' := "tuple") (k := true) rfl (by decide +kernel) (je_var 8)))) fun _ => jw_orI (k := false) (k' := false) (jt_ne (je_len (n := r.length) hK.symm (lenD_dti r) nb.len (je_var 8)) (je_len (n := a.length) hK.symm (lenD_dti a) nb.len (je_var 3)) |>.to ?_) fun _ => jw_or1 (JT.to (jt_cmp (op_neD (u64 hu)) (nomark _) (A := Is (dti r)) (C := Is (dti r)) (je_callI c1 hr (by decide) (ja_1 (je_var 0) (ja_1 (je_var 6) (ja_1 (je_var 4) ja_nil))) pre fun o ho => ?_) (je_var 8) (od_neD hK.symm (ok_dti _) (ok_dti _) (eqv_dti _ _)).bp) ?_))) (fun e => ?_) fun _ => ?_
    · have h1 : ((r.length : Nat) : Int) = ((a.length : Nat) : Int) := by rw [hlr, ha.1.1]
      rw [decide_eq_true h1]
      rfl
    · rw [ho]
      show twoRows _ _ = _
      rw [two, eR]
    · simp
    · cases e
    refine js_ifRet (β := fun k => k = false) (jt_cmp (op_neD (u64 hu)) (nomark _) (A := Is (dli [])) ?_ (je_lst ja_nil) (od_neD hK.symm (ok_dli []) (ok_dli []) (eqv_nilL [])).bp) (fun e => ?_) fun _ => ?_
    · refine JE.to (d := .list ((di r).filterMap fun _ => none)) ?_ (by simp)
      refine je_lc sc_walk.nd [("_law_value", 9)] (blk_by (by kernel_rfl)) ?_
      refine jl_filter 9 (fun _ => none) (ji_tup hK.symm (je_var 8)) (fun _ _ _ _ _ => wr_name 9 sc_walk.nd) (by simp; omega) (fun d hd _ _ _ _ _ => ?_) fun d hd z hz _ _ _ _ _ => ?_
      · obtain ⟨i, _, rfl⟩ := List.mem_map.mp hd
        exact jf_one (jt_pw (jw_orI (k := false) (k' := false) (jt_notI (jt_valI (je_isIn hK.symm nb.isinstance nb.int (d := .int i) (T := "int") (T' := "int") (k := true) rfl (by decide +kernel) (je_var 9)))) fun _ => jw_or1 (jt_valI (je_isIn hK.symm nb.isinstance nb.bool (d := .int i) (T := "bool") (T' := "int") (k := false) rfl (by decide +kernel) (je_var 9)))))
      · cases hz
    · cases e
    refine js_ifRet (β := fun k => k = false) ((jt_notI (k := true) (jt_valI (je_callI c2 hr (by decide) (ja_1 (je_var 1) (ja_1 (je_var 2) (ja_1 (je_var 6) (ja_1 (je_var 4) (ja_1 (je_var 8) ja_nil))))) ⟨lo, hi, here, b, r, rfl, by omega, by omega, by omega⟩ fun o ho => ?_)))) (fun e => ?_) fun _ => ?_
    · obtain ⟨lo', hi', x, y, z, e1, e2⟩ := ho
      simp only [List.cons.injEq, D.int.injEq, and_true] at e1
      obtain ⟨rfl, rfl, q1, q2, q3⟩ := e1
      rw [e2, dtiInj q1, dtiInj q2, dtiInj q3, mv.far]
    · cases e
    refine js_set (Φ := Is (dti r)) 6 sc_walk.nd (je_var 8) fun d e => ?_
    subst e
    refine js_nil ⟨r, some (.dat (.int (i : Nat))), some (.dat (dti r)), z, rfl, by omega, mv.inb, fun he => ?_⟩
    have h1 := hreach he
    rw [show 24 - i = (24 - (i + 1)) + 1 by omega] at h1
    rcases h1 with h | h | h
    · exact absurd h hne
    · omega
    · exact h r er
  · subst hS
    obtain ⟨here, u, v, z, rfl, _, hh, hreach⟩ := hI
    rw [rng_length] at hreach
    refine ⟨⟨_, _, _, _, rfl⟩, ?_⟩
    cases ends with
    | false => rfl
    | true => exact (hreach rfl).elim
  · obtain ⟨⟨here, u, v, z, rfl⟩, rfl⟩ := hM
    exact js_ret (je_notI (je_var 5)) fun d e => by rw [e]; rfl
end
end B
set_option Elab.async false
set_option autoImplicit false
set_option linter.all false
set_option maxRecDepth 100000
set_option maxHeartbeats 2000000
/-! what repr gives, and texts compared. -/
namespace B
open PySem PySem.Spec PyProof.Rows L2
theorem short_nat : ∀ n : Nat, n < 300 → ((PyData.int (n : Int)).shown).length ≤ 13 := by decide +kernel
theorem log_nat : ∀ n : Nat, n < 300 → n.log2 < 9 := by decide +kernel
def lowI (i : Int) : Prop := 0 ≤ i ∧ i < 300
theorem lowI.nat {i : Int} (h : lowI i) : ∃ n : Nat, i = (n : Int) ∧ n < 300 := by
  obtain ⟨h1, h2⟩ := h
  exact ⟨i.toNat, by omega, by omega⟩
theorem int_facts {i : Int} (h : lowI i) : (PyData.int i).showable = true ∧ (PyData.int i).hasDict = false ∧ (PyData.int i).depth = 0 ∧ (PyData.int i).weight ≤ 9 ∧ (PyData.int i).canLay0 = true ∧ (PyData.int i).intsShort 13 = true := by
  obtain ⟨n, rfl, hn⟩ := h.nat
  have h1 := log_nat n hn
  refine ⟨?_, by simp [PyData.hasDict], by simp [PyData.depth], ?_, by simp [PyData.canLay0], ?_⟩
  · simp only [PyData.showable, decide_eq_true_eq, Int.natAbs_natCast]
    omega
  · simp only [PyData.weight, Int.natAbs_natCast]
    split <;> omega
  · simp only [PyData.intsShort, decide_eq_true_eq]
    exact short_nat n hn
/-- data all of one bound -/
theorem all_facts {w dp : Nat} : ∀ {xs : List PyData}, (∀ x ∈ xs, x.showable = true ∧ x.hasDict = false ∧ x.depth ≤ dp ∧ x.weight ≤ w ∧ x.canLay0 = true ∧ x.intsShort 13 = true) →
    PyData.showableAll xs = true ∧ PyData.hasDictAll xs = false ∧ PyData.depthAll xs ≤ dp ∧ PyData.weightAll xs ≤ (w + 1) * xs.length ∧ PyData.canLayAll0 xs = true ∧ PyData.intsShortAll 13 xs = true
  | [], _ => ⟨by simp [PyData.showableAll], by simp [PyData.hasDictAll], by simp [PyData.depthAll], by simp [PyData.weightAll], by simp [PyData.canLayAll0], by simp [PyData.intsShortAll]⟩
  | x :: xs, h => by
    obtain ⟨a1, a2, a3, a4, a5, a6⟩ := h x List.mem_cons_self
    obtain ⟨b1, b2, b3, b4, b5, b6⟩ := all_facts (xs := xs) fun y hy => h y (List.mem_cons_of_mem _ hy)
    refine ⟨by simp [PyData.showableAll, a1, b1], by simp [PyData.hasDictAll, a2, b2], ?_, ?_, by simp [PyData.canLayAll0, a5, b5], by simp [PyData.intsShortAll, a6, b6]⟩
    · simp only [PyData.depthAll]
      exact Nat.max_le.mpr ⟨a3, b3⟩
    · simp only [PyData.weightAll, List.length_cons, Nat.mul_add]
      omega
theorem row_facts {r : List Int} (hl : r.length ≤ 13) (h : ∀ i ∈ r, lowI i) : (PyData.tuple (r.map PyData.int)).showable = true ∧ (PyData.tuple (r.map PyData.int)).hasDict = false ∧ (PyData.tuple (r.map PyData.int)).depth ≤ 1 ∧ (PyData.tuple (r.map PyData.int)).weight ≤ 130 ∧ (PyData.tuple (r.map PyData.int)).canLay0 = true ∧ (PyData.tuple (r.map PyData.int)).intsShort 13 = true := by
  obtain ⟨b1, b2, b3, b4, b5, b6⟩ := all_facts (w := 9) (dp := 0) (xs := r.map PyData.int) fun x hx => by
    obtain ⟨i, hi, rfl⟩ := List.mem_map.mp hx
    obtain ⟨a1, a2, a3, a4, a5, a6⟩ := int_facts (h i hi)
    exact ⟨a1, a2, by omega, a4, a5, a6⟩
  rw [List.length_map] at b4
  refine ⟨by simpa [PyData.showable] using b1, by simpa [PyData.hasDict] using b2, ?_, ?_, by simpa [PyData.canLay0] using b5, by simpa [PyData.intsShort] using b6⟩
  · simp only [PyData.depth]
    omega
  · simp only [PyData.weight]
    omega
theorem rp_of {d : D} (ok : isPy d = true) (h : (py d).showable = true ∧ (py d).hasDict = false ∧ (py d).depth ≤ 10 ∧ (py d).weight ≤ 100000 ∧ (py d).canLay0 = true ∧ (py d).intsShort 13 = true) : Rp d := by
  obtain ⟨a1, a2, a3, a4, a5, a6⟩ := h
  refine ⟨ok, a1, a2, a3, ?_⟩
  have hl : PyData.layable0 (py d) = true := by
    unfold PyData.layable0
    rw [a5, decide_eq_true (by omega), decide_eq_true (by omega)]
    rfl
  have := PyData.shown_le_of_layable0 hl a6
  rw [sizeLine_eq]
  omega
theorem rp_int {i : Int} (h : lowI i) : Rp (.int i) := by
  obtain ⟨a1, a2, a3, a4, a5, a6⟩ := int_facts h
  exact rp_of rfl ⟨a1, a2, by show (PyData.int i).depth ≤ 10; omega, by show (PyData.int i).weight ≤ _; omega, a5, a6⟩
theorem rp_non : Rp .non := rp_of rfl ⟨by simp [py, PyData.showable], by simp [py, PyData.hasDict], by simp [py, PyData.depth], by simp [py, PyData.weight], by simp [py, PyData.canLay0], by simp [py, PyData.intsShort]⟩
theorem rp_rows {rs : List (List Int)} (hl : rs.length ≤ 13) (h : ∀ r ∈ rs, r.length ≤ 13 ∧ ∀ i ∈ r, lowI i) : Rp (.tup (rs.map dti)) := by
  have e : py (.tup (rs.map dti)) = .tuple (rs.map fun r => PyData.tuple (r.map PyData.int)) := by
    simp only [py, pys_map]
  refine rp_of ?_ ?_
  · simp only [isPy]
    exact arePy_map isPy_dti rs
  · rw [e]
    obtain ⟨b1, b2, b3, b4, b5, b6⟩ := all_facts (w := 130) (dp := 1) (xs := rs.map fun r => PyData.tuple (r.map PyData.int)) fun x hx => by
      obtain ⟨r, hr, rfl⟩ := List.mem_map.mp hx
      exact row_facts (h r hr).1 (h r hr).2
    rw [List.length_map] at b4
    refine ⟨by simpa [PyData.showable] using b1, by simpa [PyData.hasDict] using b2, ?_, ?_, by simpa [PyData.canLay0] using b5, by simpa [PyData.intsShort] using b6⟩
    · simp only [PyData.depth]
      omega
    · simp only [PyData.weight]
      omega
section
variable {θ : Th} {δ : Dl} {m : Bool} {X : Cx} {ρ : Rho} {a b : Expr} {pos : Pos}
theorem je_sameS {x : Str} (ha : JE θ δ m X ρ a (Is (.str x))) (hb : JE θ δ m X ρ b (Is (.str x))) : JE θ δ m X ρ (.Compare a [.Eq] [b] pos) (Is (.bl true)) := (je_cmp op_eq (nomark _) ha hb od_eqS).mono fun d e => by rw [e]; simp
theorem jt_unlikeS {x : Str} (ha : JE θ δ m X ρ a (Is (.str x))) (hb : JE θ δ m X ρ b (Is (.str x))) : JTI θ δ m X ρ (.Compare a [.NotEq] [b] pos) false := (jt_cmp op_ne (nomark _) ha hb od_neS.bp).to (by simp)
end
end B
set_option Elab.async false
set_option autoImplicit false
set_option linter.all false
set_option maxRecDepth 100000
set_option maxHeartbeats 4000000
namespace B
open PySem PySem.Spec PyProof.Rows L2
abbrev sCounted : Stmt := top 36
abbrev nCounted : List Str := ["_law_budget", "_law_one", "_law_other", "_law_due", "_law_told"]
abbrev pCounted : List Str := ["_law_budget", "_law_one", "_law_other", "_law_due"]
theorem sc_counted : FnScope nCounted pCounted (defScope sCounted) := ⟨rfl, rfl, rfl, by decide +kernel, rfl, by decide +kernel, by decide +kernel⟩
def preCounted (ds : List D) : Prop := ∃ (caps : List Int) (lo hi : Int) (a b : List Int) (x : D), ds = [.bud caps lo hi, dti a, dti b, x] ∧ caps.length ≤ 900 ∧ inB caps lo hi a ∧ inB caps lo hi b ∧ (hi - lo).natAbs.log2 < 9000 ∧ neededOu lo hi a b = .ret x ∧ Rp x
section
variable {P : Program} {w : PySem.World} {K : PySem.W.Frag} {mg : Str → Option Value} {base : Heap} {θ : Th} {f : Addr} {fd : FuncData}
abbrev CalNeeded (P : Program) (w : PySem.World) (K : PySem.W.Frag) (mg : Str → Option Value) (base : Heap) (θ : Th) : Prop := Cal P w K mg base 6 "changes_needed" ["budget", "one", "other"] (spF θ (pre3 fun _ lo hi => (hi - lo).natAbs.log2 < 9000) (twoRows fun _ lo hi a b => neededOu lo hi a b))
theorem ok_counted {g : Addr} {gd : FuncData} (D0 : Df K mg "_law_counted" sCounted pCounted f fd) (th : ThOk P K mg θ) (nb : Nb mg) (Dn : Df K mg "changes_needed" sNeeded ["budget", "one", "other"] g gd) (c1 : CalNeeded P w K mg base θ) : CalG P w K mg base 8 "_law_counted" pCounted (spD θ true preCounted postTrue) := by
  refine calG (k := 7) D0 sc_counted (fun ds h => by obtain ⟨_, _, _, _, _, _, rfl, _⟩ := h; rfl) fun cdv A outer s H E hr hgd hcd δ ds hp => ?_
  obtain ⟨caps, lo, hi, a, b, x, rfl, hz, ha, hb, hlg, hn, hx⟩ := hp
  have hK := th.eK
  have hu := Room_u65 hr
  have hla := ha.1.1
  have hlb := hb.1.1
  obtain ⟨oc, od, kV, doc, pm, an, cdv2, ct, osl, efd, lk2, hcd2⟩ := Dn.F.ex
  have two : twoRows (fun _ lo hi a b => neededOu lo hi a b) [.bud caps lo hi, dti a, dti b] = .ret x := (two_in (rowOf_t ha) (rowOf_t hb)).trans hn
  have twoL : twoRows (fun _ lo hi a b => neededOu lo hi a b) [.bud caps lo hi, dli a, dti b] = .ret x := (two_in (rowOf_l ha) (rowOf_t hb)).trans hn
  refine js_set (Φ := Is x) 4 sc_counted.nd (je_callI c1 hr (by decide) (ja_1 (je_var 0) (ja_1 (je_listOf nb.list rfl (je_var 1)) (ja_1 (je_var 2) ja_nil))) ⟨caps, lo, hi, _, _, rfl, by omega, hlg, (small_row a (by omega)).2, (small_row b (by omega)).1⟩ fun o ho => ?_) fun d e => ?_
  · rw [ho]
    exact twoL
  subst e
  refine js_ret (Φ := Is (.bl true)) (je_andI (je_sameS (je_repr hK.symm hx hgd hu nb.repr (je_var 4)) (je_repr hK.symm hx hgd hu nb.repr (je_var 3))) (fun _ => je_and1 (je_sameS (je_repr hK.symm hx hgd hu nb.repr (je_callK c1 Dn (kb_rev3 (fun x y z => by rw [efd]; rfl)) hr (by decide) (jk_1 (je_var 2) (jk_1 (je_var 1) (jk_1 (je_var 0) jk_nil))) (es := [.bud caps lo hi, dti a, dti b]) (fun G vs ra => ?_) ⟨caps, lo, hi, _, _, rfl, by omega, hlg, (small_row a (by omega)).1, (small_row b (by omega)).1⟩ (fun d ho => ?_) fun c n ho => ?_)) (je_repr hK.symm hx hgd hu nb.repr (je_var 3)))) fun e => ?_) fun d e => by rw [e]; rfl
  · cases ra with
    | cons r1 ra =>
      cases ra with
      | cons r2 ra =>
        cases ra with
        | cons r3 ra =>
          cases ra
          exact .cons r3 (.cons r2 (.cons r1 .nil))
  · have ho : Ou.ret d = twoRows _ _ := ho
    rw [two] at ho
    cases ho
    rfl
  · have ho : Ou.exc c n = twoRows _ _ := ho
    rw [two] at ho
    cases ho
  · cases e
end
end B
set_option Elab.async false
set_option autoImplicit false
set_option linter.all false
set_option maxRecDepth 100000
set_option maxHeartbeats 2000000
/-! a list comprehension whose item is read with the maker's frame in view. -/
namespace B
open PySem PySem.Spec PyProof.Rows L2
section
variable {X : Cx}
theorem comp_seen {ps0 : List (Addr × Obj)} {st0 : Shared} {σ0 : L2.St} {Hp0 : Hp} {Q : VK} {item tgt src : Expr} {cs : List Expr} {sc : Scope} {mine : List (Str × Nat)} {p0 : Pos} {wi : TI} {gt : TG} {ct : TT} {it0 : TE}
    (calm : X.calm = true) (nd : X.N.Nodup) (I0 : Inv X ps0 σ0 Hp0 st0) (rd : PI X tgt src wi) (bok : BlkOk X.N X.env.scope sc mine)
    (rg : ∀ (z : Shared) (H1 : Hp) (C : Addr) (cl : List (Str × Addr)) (fp : List Addr), PG (X.blk z H1 sc (compEnvC sc cl C X.env) fp) tgt gt)
    (rt : ∀ (z : Shared) (H1 : Hp) (C : Addr) (cl : List (Str × Addr)) (fp : List Addr), PTs (X.blk z H1 sc (compEnvC sc cl C X.env) fp) cs ct)
    (re : ∀ (z : Shared) (H1 : Hp) (C : Addr) (cl : List (Str × Addr)) (fp : List Addr), Inv X ps0 σ0 H1 z → (∀ b ∈ fp, ∀ y c, X.env.cells.lookup y = some c → c ≠ b) → PE (X.blk z H1 sc (compEnvC sc cl C X.env) fp) item it0)
    (fold : ∀ x, foldedSetIterable src X.env x = pure x) (want : tLc wi gt ct it0 (mine.map (·.2)) σ0 Hp0 Q) : wpAny (model X.prog X.w) X.A (eval (.ListComp item [⟨tgt, src, cs, 0⟩] sc p0) X.env) (EP X ps0 σ0 Q) X.xe st0 := by
  rw [eval_ListComp]
  have caught : ∀ y ∈ sc.names, y.2 = .free → ∃ c, X.env.cells.lookup y.1 = some c := fun y hy e => (bok.free y hy e).elim (fun k => I0.ok.has _ (.inl k)) fun k => I0.ok.has _ (.inr k)
  refine wpAny_comprehension_free (use := none) rfl fold (closure_ok caught) bok.kind (fun y hy e => by rw [bok.uniq y hy, e]) (thn (rd.run ps0 st0 σ0 Hp0 _ I0 want) fun xv s1 hx => thn hx fun itv s2 h2 => ?_)
  obtain ⟨itA, fp, tn, J, Hb, e0, Ib, T, stb, fpb, qb⟩ := h2
  subst e0
  refine wpAny_newObj_type (newEnv_comp ?_) (by show 0 ≤ sizeLine; decide)
  generalize hL : s2.heap.objs.size = L
  have nL : Hb L = none := Ib.hok.fresh (Nat.le_of_eq hL)
  obtain ⟨W, ⟨m0, w0⟩, turn⟩ := qb L nL
  generalize hz3 : ({ s2 with heap := s2.heap.push { cls := .type "list", data := .seq ([] : List Value).toArray } } : Shared) = z3
  have grown : z3.heap = s2.heap.push { cls := .type "list", data := .seq ([] : List Value).toArray } := by rw [← hz3]
  have Ic : Inv X ps0 σ0 (upd Hb L (.lst [])) z3 := by
    rw [← hz3]
    exact Ib.laid (t' := s2.toks) (fun b o e => Heap.get?_push_of_some _ e) (Nat.le_of_eq hL) ⟨Nat.zero_le _, [], 0, .nil, by rw [← hL]; exact Heap.get?_push_size _ rfl⟩
  have small : ∀ b ∈ fp, b < s2.heap.objs.size := fun b hb => Heap.lt_size (T.obj _ _ stb b hb).choose_spec.1
  have fpc : ∀ b ∈ fp, FpOk X ps0 (upd Hb L (.lst [])) b ∧ b < z3.heap.objs.size := fun b hb => by
    have lt0 := small b hb
    exact ⟨⟨by rw [upd_ne (by rw [← hL]; exact Nat.ne_of_lt lt0)]; exact (fpb b hb).1, (fpb b hb).2⟩, by rw [grown, Heap.size_push]; exact Nat.lt_succ_of_lt lt0⟩
  have stc : tn 0 z3.heap := T.keep _ _ _ stb fun b _ o e => by rw [grown]; exact Heap.get?_push_of_some _ e
  have Id := block_start Ic bok nd fpc
  have pg := rg z3 (upd Hb L (.lst [])) z3.heap.objs.size (cellsFrom (z3.heap.objs.size + 1) sc.names (cloFrom X.env.cells sc.names [])) fp
  have pt := rt z3 (upd Hb L (.lst [])) z3.heap.objs.size (cellsFrom (z3.heap.objs.size + 1) sc.names (cloFrom X.env.cells sc.names [])) fp
  have pe := re z3 (upd Hb L (.lst [])) z3.heap.objs.size (cellsFrom (z3.heap.objs.size + 1) sc.names (cloFrom X.env.cells sc.names [])) fp Ic fun b hb y c e => (fpc b hb).1.2.2.2.2.1 y c e
  show codeAny _ _ (.compStart (.ListComp item [⟨tgt, src, cs, 0⟩] sc p0) 0 (.ref itA) (.ref L) (compEnvC sc (cellsFrom (z3.heap.objs.size + 1) sc.names (cloFrom X.env.cells sc.names [])) z3.heap.objs.size X.env)) (compPost (model X.prog X.w) X.A X.xe none (EP X ps0 σ0 Q) (.ref L) z3.heap.objs.size) { z3 with heap := pushCells (z3.heap.push { cls := .type "dict", data := .dict #[] }) sc.names }
  have fpn : ∀ b ∈ fp, (upd Hb L (.lst [])) b = none := fun b hb => (fpc b hb).1.1
  generalize hce : compEnvC sc (cellsFrom (z3.heap.objs.size + 1) sc.names (cloFrom X.env.cells sc.names [])) z3.heap.objs.size X.env = ce at Id pg pt pe ⊢
  have atL : ce.locals = z3.heap.objs.size := by subst hce; rfl
  generalize hHc : upd Hb L (.lst []) = Hc at Ic Id pg pt pe w0 fpn fpc
  generalize hz4 : ({ z3 with heap := pushCells (z3.heap.push { cls := .type "dict", data := .dict #[] }) sc.names } : Shared) = z4 at Id ⊢
  have std : tn 0 z4.heap := T.keep _ _ _ stc fun b _ o e => by rw [← hz4]; exact pushCells_keeps _ _ _ _ (Heap.get?_push_of_some _ e)
  have still : ∀ {σ1 : L2.St} {H1 : Hp} {z : Shared}, Inv (X.blk z3 Hc sc ce fp) [] σ1 H1 z → (∀ b ∈ fp, H1 b = none) → ∀ b ∈ fp, FpOk (X.blk z3 Hc sc ce fp) [] H1 b := fun {σ1 H1 z} J1 hn b hb =>
    ⟨hn b hb, (J1.ok.exf b hb).1, J1.ok.exfs b hb, .inl hb, fun x c e => (J1.ok.exf b hb).2 x c e, fun p hp => absurd (show p ∈ ([] : List (Addr × Obj)) ++ [] from hp) List.not_mem_nil⟩
  have loop : codeAny (model X.prog X.w) X.A (.compLoop (.ListComp item [⟨tgt, src, cs, 0⟩] sc p0) 0 (.ref itA) (.ref L) ce) (compPost (model X.prog X.w) X.A X.xe none (EP X ps0 σ0 Q) (.ref L) z3.heap.objs.size) z4 := by
    refine compLoop_any (fun n z => ∃ i H1, Inv (X.blk z3 Hc sc ce fp) [] (L2.wipe σ0 (mine.map (·.2))) H1 z ∧ tn i z.heap ∧ (∀ b ∈ fp, H1 b = none) ∧ W i n H1) ?_ m0 ⟨0, Hc, Id, std, fpn, w0⟩
    rintro n z5 ⟨i, H5, J5, st5, n5, w5⟩
    rcases turn i n H5 w5 with ⟨over, qq⟩ | ⟨on, Nx, less, step⟩
    · refine thnF (T.done (X.blk z3 Hc sc ce fp) rfl rfl rfl calm i [] z5 _ H5 (fun _ _ => False) J5 (still J5 n5) st5 over) fun r z6 ⟨hr, J6⟩ => ?_
      subst hr
      have back : Inv X ps0 σ0 H5 z6 := Ic.call' (ch := fp) J6.os J6.base J6.hok J6.bare fun b hb => ⟨(fpc b hb).1.2.2.2.1, (fpc b hb).1.2.1, (fpc b hb).1.2.2.2.2.1, (fpc b hb).1.2.2.2.2.2⟩
      have noC : H5 z3.heap.objs.size = none := by
        rw [← atL]
        exact J6.free
      obtain ⟨mm, hn, _⟩ := J6.loc
      have hn : z6.heap.Ns z3.heap.objs.size mm := by
        rw [← atL]
        exact hn
      obtain ⟨f0, f1, f2, f3, f4, f5⟩ := Ic.fpOk (Nat.le_refl _) noC
      exact ⟨mm, hn, fun h'' sb => ⟨.ref L, H5, back.turned (t' := z6.toks) (fun b o hb e => (sb.2 b hb).trans e) f0 f1 f3 f4 f5, rfl, qq⟩⟩
    · refine thnF (T.item (X.blk z3 Hc sc ce fp) rfl rfl rfl calm i [] z5 _ H5 (fun _ _ => False) J5 (still J5 n5) st5 on) fun r z6 ⟨u, hr, h6⟩ => ?_
      subst hr
      refine thnF h6 fun _ z7 ⟨x, H7, J7, r7, y7, st7, n7⟩ => ?_
      refine thnF (pg.run _ z7 _ H7 x u _ (J7.pinned (still J7 n7) (T.obj _ _ st7)) r7 (step x H7 y7)) fun _ z8 ⟨σ8, H8, J8, hw8, q8⟩ => ?_
      refine thnF (pt.run _ z8 σ8 H8 _ J8 q8) fun b z9 ⟨H9, J9, q9⟩ => ?_
      have shut : ∀ {z : Shared} {H1 : Hp}, Inv (X.blk z3 Hc sc ce fp) ([] ++ pinsAt fp z7.heap) σ8 H1 z → Nx H1 → ∃ m, m < n ∧ ∃ i H1, Inv (X.blk z3 Hc sc ce fp) [] (L2.wipe σ0 (mine.map (·.2))) H1 z ∧ tn i z.heap ∧ (∀ b ∈ fp, H1 b = none) ∧ W i m H1 := fun {z H1} K nx => by
        obtain ⟨m2, hm, w2⟩ := less H1 nx
        have kept : ∀ b ∈ fp, ∀ o, z7.heap.get? b = some o → z.heap.get? b = some o ∧ H1 b = none := fun b hb o e =>
          let k := K.pin (b, o) (List.mem_append_right _ (List.mem_append_right _ (mem_pinsAt hb e)))
          ⟨k.1, k.2.1⟩
        refine ⟨m2, hm, i + 1, H1, (K.unpinned (pins := [])).weak (by rw [← hw8, wipe_length]) (fun j v e => ?_), T.keep _ _ _ st7 fun b hb o e => (kept b hb o e).1, fun b hb => ?_, w2⟩
        · rw [← hw8] at e
          exact (wipe_some e).1
        · obtain ⟨o, e, _⟩ := T.obj _ _ st7 b hb
          exact (kept b hb o e).2
      cases b with
      | false =>
        simp only [Bool.false_eq_true, if_false] at q9 ⊢
        exact shut J9 q9
      | true =>
        simp only [if_true] at q9 ⊢
        refine thnF (pe.run _ z9 σ8 H9 _ J9 q9) fun _ z10 ⟨yv, H10, J10, r10, acc, a1, a2, nx⟩ => ?_
        exact app_ok (X := X.blk z3 Hc sc ce fp) J10 a1 a2 r10 fun z11 J11 => shut J11 nx
  exact codeAny_compStart_list loop (T.self X.A 0 _ _ _ std loop)
end
end B
set_option Elab.async false
set_option autoImplicit false
set_option linter.all false
set_option maxRecDepth 100000
set_option maxHeartbeats 2000000
namespace B
open PySem PySem.Spec PyProof.Rows L2
section
variable {θ : Th} {δ : Dl} {m : Bool} {X : Cx} {ρ : Rho} {tg iter : Expr} {pos : Pos}
theorem lc_dataM {σ : L2.St} {te : TE} {ifs : List Expr} {scope : Scope} {vs ts : List Nat} {S : List D → Prop} {act : D → Rho → Rho → Prop} {Ψ : D → Prop} {Fi : List D → D → Option D → Prop} (hi : JI θ δ m X ρ tg iter S) (hts : ∀ j ∈ ts, j ∈ vs)
    (hg : ∀ (s : Shared) (H : Hp) (C : Addr) (cl : List (Str × Addr)) (fp : List Addr), Wr (θ := θ) (δ := δ) (m := m) (X.blk s H scope (compEnvC scope cl C X.env) fp) tg ts act)
    (tot : ∀ src d, S src → d ∈ src → ∃ ρ', act d (wipeR ρ vs) ρ') (hz : ∀ src, S src → src.length ≤ 100000)
    (hβ : ∀ src d ρ', S src → d ∈ src → act d (wipeR ρ vs) ρ' → ∃ β : Bool → Prop, (∀ (s : Shared) (H : Hp) (C : Addr) (cl : List (Str × Addr)) (fp : List Addr), JF θ δ m (X.blk s H scope (compEnvC scope cl C X.env) fp) ρ' ifs β) ∧ (β false → Fi src d none) ∧
      (β true → ∀ (σ1 : L2.St) (G1 H1 : Hp), RS θ δ m G1 H1 σ1 ρ' → RS θ δ m G1 H1 σ ρ → Pre θ δ m G1 H1 → ∀ Q1 : VK, (∀ v x G' H', Post θ δ m G1 H1 G' H' → Fi src d (some x) → R θ δ G' v x → Q1 v H') → te σ1 H1 Q1))
    (k : ∀ src es, S src → Made src (Fi src) es → Ψ (.list es)) {G H : Hp} (rs : RS θ δ m G H σ ρ) (p : Pre θ δ m G H) {Q : VK} (q : ∀ v d G' H', Post θ δ m G H G' H' → Ψ d → R θ δ G' v d → Q v H') :
    tLc (bI X tg iter) (blkTG X scope tg) (blkTT X scope ifs) te vs σ H Q := by
  refine hi σ G H rs p _ fun J src G1 H1 p1 hS w Dl hD => ?_
  have pr1 := p1.pre p
  have gD : G1 Dl = none := pr1.gnone hD
  have p2 : Post θ δ m G1 H1 G1 (L2.upd H1 Dl (.lst [])) := .same pr1 (Same.upd hD)
  have rs1 := rs.post p1
  have rs2 := rs1.post p2
  have nmD : m = true → ¬ Mut θ δ Dl := fun hm z => (pr1.wd hm).mutDom z hD
  refine lc_it w (fun i H' => ∃ (xs : List V) (os : List (Option D)) (G' : Hp), H' Dl = some (.lst xs) ∧ G' Dl = none ∧ Post θ δ m G1 H1 G' H' ∧ RS θ δ m G' H' σ ρ ∧ RA θ δ G' xs (os.filterMap id) ∧ os.length = i ∧ xs.length ≤ i ∧ ∀ (j : Nat) d, j < i → src[j]? = some d → ∃ o, os[j]? = some o ∧ Fi src d o)
    ⟨[], [], G1, upd_same, gD, p2, rs2, .nil, rfl, Nat.le_refl _, fun j d hj => absurd hj (Nat.not_lt_zero _)⟩ (fun i H' _ ⟨_, _, G', _, _, po, _⟩ => po.gg.trans po.gh) ?_ ?_
  · rintro i x H2 H2' hlt ⟨xs, os, G2, h1, h2, h3, h4, h5, h6, h7, h8⟩ ⟨d, hd, y⟩
    have hmem : d ∈ src := List.mem_of_getElem? hd
    -- the item as data in the heap behind the draw
    obtain ⟨G3, pz, rv⟩ : ∃ G3, Post θ δ m G2 H2 G3 H2' ∧ R θ δ G3 x d := by
      rcases y with ⟨eH, rv⟩ | ⟨T, ys, ds, hT, rfl, eH, ra, rfl⟩
      · rw [eH]
        exact ⟨G2, .refl (h3.pre pr1), rv.mono h3.gg⟩
      · rw [eH]
        have pn : Post θ δ m G2 H2 (L2.upd G2 T (.tup ys)) (L2.upd H2 T (.tup ys)) := .new (h3.pre pr1) hT fun ps z => by cases z
        exact ⟨_, pn, .tup upd_same (ra.mono (h3.gg.trans pn.gg))⟩
    have h3' := h3.trans pz
    have h4' := h4.post pz
    have h5' := h5.mono pz.gg
    have h1' : H2' Dl = some (.lst xs) := pz.fr Dl _ h1 nmD
    have h2' : G3 Dl = none := by
      cases e : G3 Dl with
      | none => rfl
      | some o =>
        rcases pz.nw Dl (by rw [e]; simp) with z | z
        · exact absurd h2 z
        · rw [h1] at z; cases z
    have rw' := h4'.wipe vs
    have pr3 := h3'.pre pr1
    refine fun s0 HH C cl fp => hg s0 HH C cl fp x d _ _ G3 H2' rv rw' pr3 _ (tot src d hS hmem) fun σ4 ρ4 ha rs4 hl4 hj4 => ?_
    refine ⟨wipe_set vs ts hts (by rw [hl4, wipe_length]) hj4, ?_⟩
    obtain ⟨β, hF, hn, hy⟩ := hβ src d ρ4 hS hmem ha
    have back : ∀ {G5 H5 : Hp}, Post θ δ m G3 H2' G5 H5 → RS θ δ m G5 H5 σ ρ := fun po => h4'.post po
    have keepD : ∀ {G5 H5 : Hp}, Post θ δ m G3 H2' G5 H5 → H5 Dl = some (.lst xs) ∧ G5 Dl = none := fun {G5 H5} po => by
      refine ⟨po.fr Dl _ h1' nmD, ?_⟩
      cases e : G5 Dl with
      | none => rfl
      | some o =>
        rcases po.nw Dl (by rw [e]; simp) with z | z
        · exact absurd h2' z
        · rw [h1'] at z; cases z
    have next : ∀ {o : Option D} {j : Nat} {d' : D}, Fi src d o → j < i + 1 → src[j]? = some d' → ∃ o', (os ++ [o])[j]? = some o' ∧ Fi src d' o' := fun {o j d'} hf hj hd' => by
      by_cases e : j = i
      · subst e
        rw [hd] at hd'
        cases hd'
        exact ⟨o, by rw [← h6]; simp, hf⟩
      · obtain ⟨o', h1, h2⟩ := h8 j d' (by omega) hd'
        refine ⟨o', ?_, h2⟩
        rw [List.getElem?_append_left (by omega)]
        exact h1
    refine fun s0 HH C cl fp => hF s0 HH C cl fp σ4 G3 H2' rs4 pr3 _ fun bb G5 H5 p5 fb => ?_
    cases bb with
    | false =>
      obtain ⟨k1, k2⟩ := keepD p5
      refine iteF ⟨xs, os ++ [none], G5, k1, k2, h3'.trans p5, back p5, ?_, by simp [h6], by omega, fun j d' hj hd' => next (hn fb) hj hd'⟩
      rw [List.filterMap_append]
      simpa using h5'.mono p5.gg
    | true =>
      refine iteT (hy fb σ4 G5 H5 (rs4.post p5) (back p5) (p5.pre pr3) _ fun yv yd G6 H6 p6 fy ry => ?_)
      have p56 := p5.trans p6
      obtain ⟨k1, k2⟩ := keepD p56
      refine ⟨xs, k1, ?_, xs ++ [yv], os ++ [some yd], G6, upd_same, k2, ?_, ?_, ?_, by simp [h6], by simp; omega, fun j d' hj hd' => next fy hj hd'⟩
      · have := hz src hS
        rw [sizeLine_eq]
        omega
      · -- the list grows: nothing known is touched
        have po := h3'.trans p56
        refine ⟨po.gg, fun b u e => ?_, po.nw, po.nt, fun b u e hm => ?_, fun b e => ?_, fun hm => ?_⟩
        · rw [upd_ne (ne_of_none e k2)]
          exact po.gh b u e
        · rw [upd_ne (ne_of_none e hD)]
          exact po.fr b u e hm
        · by_cases hb : b = Dl
          · rw [hb, upd_same]; simp
          · rw [upd_ne hb]; exact po.dm b e
        · have wd := po.wd hm
          have nd : ∀ c, Mut θ δ c → c ≠ Dl := fun c hc z => nmD hm (z ▸ hc)
          refine ⟨wd.ne, let ⟨bl, e, r⟩ := wd.dl; ⟨bl, by rw [upd_ne (nd _ (.inl rfl))]; exact e, r⟩, let ⟨cs, e, r⟩ := wd.d0; ⟨cs, by rw [upd_ne (nd _ (.inr (.inl rfl)))]; exact e, r⟩, fun pp hp => ?_, wd.tm, wd.gn⟩
          obtain ⟨ps, e1, e2, e3⟩ := wd.tb pp hp
          refine ⟨ps, by rw [upd_ne (nd _ (.inr (.inr ⟨pp, hp, rfl⟩)))]; exact e1, e2, e3⟩
      · have r6 := back p56
        refine ⟨r6.len, r6.dat, fun j ds hj => ?_, r6.one⟩
        obtain ⟨a, ys, e1, e2, e3, e4, e5, e6⟩ := r6.own j ds hj
        obtain ⟨a0, ys0, f1, f2, _⟩ := rs1.own j ds hj
        have : a = a0 := by
          rw [e1] at f1
          cases f1
          rfl
        have na : a ≠ Dl := by
          rw [this]
          exact ne_of_none f2 hD
        exact ⟨a, ys, e1, by rw [upd_ne na]; exact e2, e3, e4, e5, e6⟩
      · rw [List.filterMap_append]
        exact RA.append ((h5'.mono p56.gg)) (by simpa using RA.cons ry .nil)
  · rintro H2 ⟨xs, os, G2, h1, h2, h3, h4, h5, h6, h7, h8⟩
    have pk : Post θ δ m G1 H1 (L2.upd G2 Dl (.lst xs)) H2 := Post.keep pr1 h3 hD h2 h1 fun ps z => by cases z
    refine q (.ref Dl) (.list (os.filterMap id)) _ H2 (p1.trans pk) (k src _ hS ⟨os, h6, fun j d hd => ?_, rfl⟩) (.lst upd_same (h5.mono (Same.upd h2)))
    exact h8 j d (List.getElem?_eq_some_iff.mp hd).1 hd
end
section
variable {θ : Th} {δ : Dl} {X : Cx} {ρ : Rho} {Φ Φb : D → Prop} {pos px p2 p3 p4 p5 : Pos} {scope : Scope}
/-- how one of the lambdas reads -/
structure LamJ (θ : Th) (δ : Dl) (X : Cx) (ρ : Rho) (k : Nat) (r : LamRec) (Φ : D → Prop) : Prop where
  ex : ∃ (params : Arguments) (body : Expr) (sc : Scope) (Φb : D → Prop) (Ψ : EC → Int → Prop), r = lamR X.env params body sc ∧ LamX.LamS X.env.scope sc ∧ (∀ (q : Str) (cl : List (Str × Addr)) (pm cv ctv : Value), bindArgs (PySem.W.kla_fn "<lambda>" q params body sc cl pm cv ctv) ⟨[], []⟩ = pure []) ∧
    (∀ (A : Around) (outer : List Env) (s : Shared) (H : Hp) (E : XK) (f c' : Addr), Room k (A.deeper (LamX.lamEnv X sc s.heap.objs.size f c')) → JX θ δ true (LamX.lamCx X A outer s H E sc f c') E ρ body Φb Ψ) ∧ (∀ d, Φb d → Φ .non) ∧ ∀ c i, Ψ c i → (c = .state ∨ c = .refused) ∧ Φ (.tup [.str (tagOf c), .int i])
/-- [_law_refused(x) for x in works], works a list of lambdas -/
theorem je_works {k i j : Nat} {x y : Str} {rs : List LamRec} {F : LamRec → D → Prop} (hK : X.K = θ.K) (hN : X.N.Nodup) (RO : RefOk X.prog X.K X.mg θ) (hr : Room (k + 2) X.A) (ok : BlkOk X.N X.env.scope scope [(x, i)]) (hw : ρ[j]? = some (some (.dat (.list (rs.map D.lam))))) (hNj : X.N[j]? = some y) (hvj : Vis X.env.scope y) (hNi : X.N[i]? = some x) (hi : i < ρ.length)
    (hlx : ∀ (s : Shared) (H : Hp) (C : Addr) (cl : List (Str × Addr)) (fp : List Addr), Loc (X.blk s H scope (compEnvC scope cl C X.env) fp).env.scope x) (hfx : ∀ (s : Shared) (H : Hp) (C : Addr) (cl : List (Str × Addr)) (fp : List Addr), (X.blk s H scope (compEnvC scope cl C X.env) fp).fn x = true ∨ (X.blk s H scope (compEnvC scope cl C X.env) fp).env.scope.names.lookup x = some .local)
    (hgx : ∀ (s : Shared) (H : Hp) (C : Addr) (cl : List (Str × Addr)) (fp : List Addr), Gl (X.blk s H scope (compEnvC scope cl C X.env) fp) "_law_refused") (hz : rs.length ≤ 1000) (hj : ∀ r ∈ rs, LamJ θ δ X ρ k r (F r)) (hΦ : ∀ es : List D, es.length = rs.length → (∀ (n : Nat) r, rs[n]? = some r → ∃ d, es[n]? = some d ∧ F r d) → Φ (.list es)) (hc : X.calm = true)
    (hdy : (y == ("__debug__" : Str)) = false := by decide) (hcy : (y == ("__classdict__" : Str)) = false := by decide) (hdx : (x == ("__debug__" : Str)) = false := by decide) (hcx : (x == ("__classdict__" : Str)) = false := by decide) :
    JE θ δ true X ρ (.ListComp (.Call (.Name "_law_refused" px) [.Name x p2] [] p3) [⟨.Name x p4, .Name y p5, [], 0⟩] scope pos) Φ := fun σ G H rs0 p Q q => by
  refine ⟨fun σ' H1 Q1 => σ' = σ ∧ ∀ ps0 : List (Addr × Obj), tLc (bI X (.Name x p4) (.Name y p5)) (blkTG X scope (.Name x p4)) (blkTT X scope []) (fun σb Hb Qb => ∀ (z : Shared) (H1 : Hp) (C : Addr) (cl : List (Str × Addr)) (fp : List Addr), Inv X ps0 σ H1 z → (∀ b ∈ fp, ∀ y c, X.env.cells.lookup y = some c → c ≠ b) → bE (X.blk z H1 scope (compEnvC scope cl C X.env) fp) (.Call (.Name "_law_refused" px) [.Name x p2] [] p3) σb Hb Qb) [i] σ H1 Q1,
    ⟨fun pins s σ' H Q I h => ?_⟩, rfl, fun ps0 => ?_⟩
  · obtain ⟨rfl, h⟩ := h
    exact comp_seen hc hN I (pi_b X _ _) ok blk_tg blk_tt (fun z H1 C cl fp Iz hcl => ⟨fun pins1 s1 σ1 H2 Q2 I2 h2 => (pe_b _ _).run pins1 s1 σ1 H2 Q2 I2 (h2 z H1 C cl fp Iz hcl)⟩) (fun _ => rfl) (h pins)
  · refine lc_dataM (S := fun s => s = rs.map D.lam) (ts := [i]) (act := NameT i) (Ψ := Φ) (Fi := fun _ d o => ∃ r v, d = .lam r ∧ o = some v ∧ F r v) (ji_list hK (je_var j hw hNj hvj hdy hcy)) (fun n hn => hn) (fun z H1 C cl fp => wr_name i hN hNi (hlx z H1 C cl fp) (hfx z H1 C cl fp)) (fun _ _ _ _ => ⟨_, rfl⟩) (fun src hs => by rw [hs, List.length_map]; omega) (fun src d ρ' hs hd hact => ?_) (fun src es hs hm => ?_) rs0 p q
    · have e : ρ' = ρ.set i (some (.dat d)) := by
        rw [hact]
        simp [wipeR]
      subst e hs
      obtain ⟨r, hrm, rfl⟩ := List.mem_map.mp hd
      obtain ⟨params, body, sc, Φb, Ψ, rfl, L, hbind, hbody, h1, h2⟩ := (hj r hrm).ex
      refine ⟨fun b => b = true, fun _ _ _ _ _ => jf_nil, fun z => Bool.noConfusion z, fun _ σ1 G1 H1 rs1 rsσ pr Q1 q1 z H0 C cl fp Iz hcl => ?_⟩
      exact call_refused (Y := X.blk z H0 scope (compEnvC scope cl C X.env) fp) (n := X.N) (ev := X.env) (k := k) (Φ := F (lamR X.env params body sc)) RO hr L hbind (je_var i (by rw [List.getElem?_set_self hi]) hNi ((hlx z H0 C cl fp).elim .inl fun h => .inr (.inl h)) hdx hcx) hbody h1 h2 rs1 rsσ pr
        (fun pins s H2 I2 => (Sees.of Iz L).un (fs := (X.blk z H0 scope (compEnvC scope cl C X.env) fp).fs) (ex := fp) I2.base fun y c e hcf => hcl c hcf y c e rfl) (fun v d G' H' po f rv => q1 v d G' H' po ⟨_, d, rfl, rfl, f⟩ rv) (hgx z H0 C cl fp)
    · subst hs
      obtain ⟨os, m1, m2, rfl⟩ := hm
      rw [List.length_map] at m1
      have all : ∀ (n : Nat) r, rs[n]? = some r → ∃ v, os[n]? = some (some v) ∧ F r v := fun n r hn => by
        obtain ⟨o, o1, r2, v, e1, e2, e3⟩ := m2 n (.lam r) (by rw [List.getElem?_map, hn]; rfl)
        cases e1
        exact ⟨v, by rw [o1, e2], e3⟩
      obtain ⟨vs, rfl⟩ : ∃ vs : List D, os = vs.map some := by
        refine ⟨os.filterMap id, ?_⟩
        have : ∀ o ∈ os, o.isSome = true := fun o ho => by
          obtain ⟨n, hn⟩ := List.mem_iff_getElem?.mp ho
          have hlt := (List.getElem?_eq_some_iff.mp hn).1
          obtain ⟨v, hv, _⟩ := all n rs[n] (List.getElem?_eq_getElem (by omega))
          rw [hn] at hv
          cases hv
          rfl
        clear all m2 m1
        induction os with
        | nil => rfl
        | cons o os ih =>
          cases o with
          | none => cases this none List.mem_cons_self
          | some v =>
            simp only [List.filterMap_cons, id, List.map_cons]
            rw [← ih fun o ho => this o (List.mem_cons_of_mem _ ho)]
      have e : (vs.map some).filterMap id = vs := by
        rw [List.filterMap_map]
        simp
      rw [e]
      refine hΦ vs (by simpa using m1) fun n r hn => ?_
      obtain ⟨v, hv, hF⟩ := all n r hn
      rw [List.getElem?_map] at hv
      cases e2 : vs[n]? with
      | none => rw [e2] at hv; cases hv
      | some u =>
        rw [e2] at hv
        have hv : some u = some v := by simpa using hv
        cases hv
        exact ⟨_, rfl, hF⟩
end
end B
set_option Elab.async false
set_option autoImplicit false
set_option linter.all false
set_option maxRecDepth 100000
set_option maxHeartbeats 4000000
namespace B
open PySem PySem.Spec PyProof.Rows L2
section
variable {θ : Th} {δ : Dl} {m : Bool} {X : Cx} {ρ : Rho} {e : Expr} {A : D → Prop} {params : Arguments} {body : Expr} {scope : Scope} {pos : Pos}
theorem je_lamT (TO : TabOk X θ) (hL : LamX.lamSB X.env.scope scope = true) (hdef : defaultsOf params X.env = ([], [])) : JE θ δ true X ρ (.Lambda params body scope pos) (Is (.lam (lamR X.env params body scope))) := by
  obtain ⟨c, P, TB, hcode, hm, hu⟩ := TO.t
  exact je_lam TB hcode hm hu (LamX.lamS_by hL) hdef
/-- [e], a new list of one thing -/
theorem jeo_one (h : JE θ δ m X ρ e A) (hs : starEach [e] X.env = (false, eval e X.env) :: starEach [] X.env := by rfl) : JEO θ δ m X ρ (.List [e] pos) (fun ds => ∃ d, A d ∧ ds = [d]) := fun σ G H rs p Q q =>
  ⟨_, pe_lst (pa_cons (pe_b X e) pa_nil hs), h σ G H rs p _ fun v d G' H' po f rv => ⟨by show 1 ≤ sizeLine; rw [sizeLine_eq]; decide, fun l hl =>
    q l [v] [d] G' _ (po.trans (.lay (po.pre p) hl)) ⟨d, f, rfl⟩ (by
      cases z : H l with
      | none => rfl
      | some o => exact absurd hl (po.dm l (by rw [z]; simp))) upd_same ((po.pre p).gnone hl) (.cons rv .nil)⟩⟩
end
theorem odd_none {caps : List Int} {lo hi : Int} {d : D} {n : Nat} (h : OddD n d) (hn : caps.length = n) : rowOf caps lo hi d = none := by
  unfold rowOf
  rw [h.2 caps hn]
  simp
theorem ok_four : okD (.list [.tup [.str (tagOf .state), .int 0], .tup [.str (tagOf .state), .int 1], .tup [.str (tagOf .state), .int 0], .tup [.str (tagOf .state), .int 1]]) := ⟨rfl, by decide +kernel⟩
/-- does the lambda speak of the wrong row? -/
def isWrong : Expr → Bool
  | .Call _ (_ :: .Name x _ :: _) _ _ => x == ("_law_wrong" : Str)
  | _ => false
def badF (r : LamRec) : D → Prop := fun x => x = .tup [.str (tagOf .state), .int (if isWrong r.body = true then 0 else 1)]
abbrev sBad : Stmt := top 35
abbrev nBad : List Str := ["_law_deal", "_law_budget", "_law_one", "_law_other", "_law_wrong", "_law_odd_here", "_law_works", "_law_work"]
abbrev pBad : List Str := ["_law_deal", "_law_budget", "_law_one", "_law_other"]
theorem sc_bad : FnScope nBad pBad (defScope sBad) := ⟨rfl, rfl, rfl, by decide +kernel, rfl, by decide +kernel, by decide +kernel⟩
def preBad (ds : List D) : Prop := ∃ (caps : List Int) (lo hi : Int) (a b : List Int), ds = [.deal, .bud caps lo hi, dti a, dti b] ∧ caps ≠ [] ∧ caps.length ≤ 900 ∧ inB caps lo hi a ∧ inB caps lo hi b ∧ (hi - lo).natAbs.log2 < 9000
section
variable {P : Program} {w : PySem.World} {K : PySem.W.Frag} {mg : Str → Option Value} {base : Heap} {θ : Th} {f : Addr} {fd : FuncData}
theorem ok_bad (D0 : Df K mg "_law_bad" sBad pBad f fd) (th : ThOk P K mg θ) (nb : Nb mg) (RO : RefOk P K mg θ) (T : TabF base mg θ "_law_bad" fd) (c1 : CalStep P w K mg base θ) (c2 : CalNeeded P w K mg base θ)
    (c3 : Cal P w K mg base 3 "_law_odd" ["_law_deal", "_law_row"] (spD θ true preOdd postOdd)) : CalG P w K mg base 9 "_law_bad" pBad (spD θ true preBad postTrue) := by
  refine calG (k := 8) D0 sc_bad (fun ds h => by obtain ⟨_, _, _, _, _, rfl, _⟩ := h; rfl) fun cdv A outer s H E hr hgd hcd δ ds hp => ?_
  obtain ⟨caps, lo, hi, a, b, rfl, hne, hz, ha, hb, hlg⟩ := hp
  have hK := th.eK
  have hu := Room_u65 hr
  have TO := T.ok (P := P) (w := w) (K := K) (N := nBad) (sc := defScope sBad) (f := f) (A := A) (outer := outer) (s := s) (H := H) (E := E) hcd
  have hla := ha.1.1
  have hlb := hb.1.1
  have pa : a ≠ [] := fun z => hne (List.length_eq_zero_iff.mp (by rw [← hla, z]; rfl))
  have pb : b ≠ [] := fun z => hne (List.length_eq_zero_iff.mp (by rw [← hlb, z]; rfl))
  refine js_asg (act := Two 4 5) (Φ := fun d => ∃ x y, d = .tup [x, y] ∧ OddD caps.length x ∧ OddD caps.length y) (jg_two hK.symm 4 5 sc_bad.nd) (j_tup (ja_cons (A := OddD caps.length) (je_call c3 hr (by decide) (ja_1 (je_var 0) (ja_1 (je_var 2) ja_nil)) (fun ds e => ⟨a, e, pa, by omega⟩) (fun ds d e ho => ?_) (fun ds c n e ho => ?_)) (ja_cons (A := OddD caps.length) (je_call c3 hr (by decide) (ja_1 (je_var 0) (ja_1 (je_var 3) ja_nil)) (fun ds e => ⟨b, e, pb, by omega⟩) (fun ds d e ho => ?_) (fun ds c n e ho => ?_)) ja_nil)) (fun ds ⟨d, r, e1, _, d2, r2, e2, _, e3⟩ => by rw [e1, e2, e3]; simp) (fun ds ⟨d, r, e1, f1, d2, r2, e2, f2, e3⟩ => ⟨d, d2, by rw [e1, e2, e3], f1, f2⟩)) (fun d ⟨x, y, e, _⟩ => ⟨_, x, y, e, rfl⟩) fun d ρ' hd hA => ?_
  · obtain ⟨r, d', e1, e2, e3⟩ := ho
    rw [e] at e1
    simp only [List.cons.injEq, and_true, true_and] at e1
    cases e3
    rw [dtiInj e1, hla] at e2
    exact e2
  · obtain ⟨r, d', e1, e2, e3⟩ := ho
    cases e3
  · obtain ⟨r, d', e1, e2, e3⟩ := ho
    rw [e] at e1
    simp only [List.cons.injEq, and_true, true_and] at e1
    cases e3
    rw [dtiInj e1, hlb] at e2
    exact e2
  · obtain ⟨r, d', e1, e2, e3⟩ := ho
    cases e3
  obtain ⟨wr, od, rfl, hwr, hod⟩ := hd
  obtain ⟨_, _, ed, rfl⟩ := hA
  cases ed
  refine js_setOwn 6 sc_bad.nd (jeo_one (je_lamT TO (by kernel_rfl) rfl)) rfl fun ds hds => ?_
  obtain ⟨_, rfl, rfl⟩ := hds
  refine js_append 6 rfl rfl (by simp) (je_lamT TO (by kernel_rfl) rfl) fun d e => ?_
  subst e
  refine js_append 6 rfl rfl (by simp) (je_lamT TO (by kernel_rfl) rfl) fun d e => ?_
  subst e
  refine js_append 6 rfl rfl (by simp) (je_lamT TO (by kernel_rfl) rfl) fun d e => ?_
  subst e
  refine js_freeze 6 rfl ?_
  have rw0 : rowOf caps lo hi wr = none := odd_none hwr rfl
  have ro0 : rowOf caps lo hi od = none := odd_none hod rfl
  have ra0 : rowOf caps lo hi (dti a) = some a := rowOf_t ha
  have w0 : ∀ g, twoRows g [.bud caps lo hi, wr, od] = .exc .state 0 := fun g => by
    unfold twoRows
    simp only [rw0]
  have w1 : ∀ g, twoRows g [.bud caps lo hi, dti a, od] = .exc .state 1 := fun g => by
    unfold twoRows
    simp only [ra0, ro0]
  have sa := (small_row a (by omega)).1
  refine js_ret (Φ := Is (.bl true)) ?_ fun d e => by rw [e]; rfl
  refine je_cmp (A := Is (.list [.tup [.str (tagOf .state), .int 0], .tup [.str (tagOf .state), .int 1], .tup [.str (tagOf .state), .int 0], .tup [.str (tagOf .state), .int 1]])) (C := Is (.list [.tup [.str (tagOf .state), .int 0], .tup [.str (tagOf .state), .int 1], .tup [.str (tagOf .state), .int 0], .tup [.str (tagOf .state), .int 1]])) (op_eqD (u64 hu)) (nomark _) ?_ ?_ (od_eqD hK.symm ok_four ok_four (by decide +kernel))
  · refine je_works (k := 6) (i := 7) (j := 6) (rs := [_, _, _, _]) (F := badF) hK.symm sc_bad.nd RO hr (blk_by (by kernel_rfl)) rfl rfl (Or.inl rfl) rfl (by show 7 < 8; decide) (fun _ _ _ _ _ => Or.inl rfl) (fun _ _ _ _ _ => Or.inr rfl) (fun _ _ _ _ _ => rfl) (by show 4 ≤ 1000; decide) (fun r hr' => ?_) (fun es hl he => ?_) rfl
    · simp only [List.mem_cons, List.not_mem_nil, or_false] at hr'
      rcases hr' with rfl | rfl | rfl | rfl
      · refine ⟨_, _, _, fun _ => False, fun c n => c = .state ∧ n = 0, rfl, LamX.lamS_by (by kernel_rfl), fun _ _ _ _ _ => rfl, fun A2 outer2 s2 H2 E2 f2 cc2 hr2 => ?_, fun _ z => z.elim, fun c n h => ⟨.inl h.1, by rw [h.1, h.2]; rfl⟩⟩
        refine jx_call (CX := L2.CX P w) c1 hr2 (Nat.le_refl _) (passes_call (takes_of rfl rfl rfl rfl) fun _ _ _ _ h => h) (ja_1 (je_var 1) (ja_1 (je_var 4) (ja_1 (je_var 5) ja_nil))) (fun ds e => e ▸ ⟨caps, lo, hi, _, _, rfl, by omega, trivial, hwr.1, hod.1⟩) (fun ds d e ho => ?_) fun ds c n e ho => ?_
        · subst e
          have ho : Ou.ret d = twoRows _ _ := ho
          rw [w0] at ho
          cases ho
        · subst e
          have ho : Ou.exc c n = twoRows _ _ := ho
          rw [w0] at ho
          cases ho
          exact ⟨rfl, rfl⟩
      · refine ⟨_, _, _, fun _ => False, fun c n => c = .state ∧ n = 1, rfl, LamX.lamS_by (by kernel_rfl), fun _ _ _ _ _ => rfl, fun A2 outer2 s2 H2 E2 f2 cc2 hr2 => ?_, fun _ z => z.elim, fun c n h => ⟨.inl h.1, by rw [h.1, h.2]; rfl⟩⟩
        refine jx_call (CX := L2.CX P w) c1 hr2 (Nat.le_refl _) (passes_call (takes_of rfl rfl rfl rfl) fun _ _ _ _ h => h) (ja_1 (je_var 1) (ja_1 (je_var 2) (ja_1 (je_var 5) ja_nil))) (fun ds e => e ▸ ⟨caps, lo, hi, _, _, rfl, by omega, trivial, sa, hod.1⟩) (fun ds d e ho => ?_) fun ds c n e ho => ?_
        · subst e
          have ho : Ou.ret d = twoRows _ _ := ho
          rw [w1] at ho
          cases ho
        · subst e
          have ho : Ou.exc c n = twoRows _ _ := ho
          rw [w1] at ho
          cases ho
          exact ⟨rfl, rfl⟩
      · refine ⟨_, _, _, fun _ => False, fun c n => c = .state ∧ n = 0, rfl, LamX.lamS_by (by kernel_rfl), fun _ _ _ _ _ => rfl, fun A2 outer2 s2 H2 E2 f2 cc2 hr2 => ?_, fun _ z => z.elim, fun c n h => ⟨.inl h.1, by rw [h.1, h.2]; rfl⟩⟩
        refine jx_call (CX := L2.CX P w) c2 hr2 (Nat.le_refl _) (passes_call (takes_of rfl rfl rfl rfl) fun _ _ _ _ h => h) (ja_1 (je_var 1) (ja_1 (je_var 4) (ja_1 (je_var 5) ja_nil))) (fun ds e => e ▸ ⟨caps, lo, hi, _, _, rfl, by omega, hlg, hwr.1, hod.1⟩) (fun ds d e ho => ?_) fun ds c n e ho => ?_
        · subst e
          have ho : Ou.ret d = twoRows _ _ := ho
          rw [w0] at ho
          cases ho
        · subst e
          have ho : Ou.exc c n = twoRows _ _ := ho
          rw [w0] at ho
          cases ho
          exact ⟨rfl, rfl⟩
      · refine ⟨_, _, _, fun _ => False, fun c n => c = .state ∧ n = 1, rfl, LamX.lamS_by (by kernel_rfl), fun _ _ _ _ _ => rfl, fun A2 outer2 s2 H2 E2 f2 cc2 hr2 => ?_, fun _ z => z.elim, fun c n h => ⟨.inl h.1, by rw [h.1, h.2]; rfl⟩⟩
        refine jx_call (CX := L2.CX P w) c2 hr2 (Nat.le_refl _) (passes_call (takes_of rfl rfl rfl rfl) fun _ _ _ _ h => h) (ja_1 (je_var 1) (ja_1 (je_var 2) (ja_1 (je_var 5) ja_nil))) (fun ds e => e ▸ ⟨caps, lo, hi, _, _, rfl, by omega, hlg, sa, hod.1⟩) (fun ds d e ho => ?_) fun ds c n e ho => ?_
        · subst e
          have ho : Ou.ret d = twoRows _ _ := ho
          rw [w1] at ho
          cases ho
        · subst e
          have ho : Ou.exc c n = twoRows _ _ := ho
          rw [w1] at ho
          cases ho
          exact ⟨rfl, rfl⟩
    · have el : ∀ {l : List D}, l.length = 4 → ∃ x y z u, l = [x, y, z, u] := fun {l} h => by
        match l, h with
        | [x, y, z, u], _ => exact ⟨x, y, z, u, rfl⟩
      obtain ⟨x, y, z, u, rfl⟩ := el hl
      obtain ⟨_, a1, a2⟩ := he 0 _ rfl
      obtain ⟨_, b1, b2⟩ := he 1 _ rfl
      obtain ⟨_, c1', c2'⟩ := he 2 _ rfl
      obtain ⟨_, d1, d2⟩ := he 3 _ rfl
      cases a1
      cases b1
      cases c1'
      cases d1
      have e0 : x = .tup [.str (tagOf .state), .int 0] := a2
      have e1 : y = .tup [.str (tagOf .state), .int 1] := b2
      have e2 : z = .tup [.str (tagOf .state), .int 0] := c2'
      have e3 : u = .tup [.str (tagOf .state), .int 1] := d2
      rw [e0, e1, e2, e3]
  · exact je_repL (xs := [.tup [.str (tagOf .state), .int 0], .tup [.str (tagOf .state), .int 1]]) (k := 2) (by decide) (by decide) (je_lst (ja_1 (je_tup (ja_1 je_str (ja_1 je_int ja_nil))) (ja_1 (je_tup (ja_1 je_str (ja_1 je_int ja_nil))) ja_nil))) je_int
end
end B
set_option Elab.async false
set_option autoImplicit false
set_option linter.all false
set_option maxRecDepth 100000
set_option maxHeartbeats 4000000
namespace B
open PySem PySem.Spec PyProof.Rows L2
section
variable {θ : Th} {δ : Dl} {m : Bool} {X : Cx} {ρ : Rho} {a : Expr} {pos : Pos}
theorem je_cutS {lo hi : Option Expr} {l h : Option Int} {p2 : Pos} {ns : List Int} (hK : X.K = θ.K) (ha : JE θ δ m X ρ a (Is (.scr ns))) (h1 : JO θ δ m X ρ lo l) (h2 : JO θ δ m X ρ hi h) : JE θ δ m X ρ (.Subscript a (.Slice lo hi none p2) pos) (Is (.list (cutD (di ns) l h))) := fun σ G H rs p Q q => by
  obtain ⟨t1, p1, k1⟩ := h1
  obtain ⟨t2, p2, k2⟩ := h2
  refine ⟨_, pe_slice sl_list (pe_b X a) p1 p2, ha σ G H rs p _ fun v d G1 H1 po1 f rv => k1 σ G1 H1 (rs.post po1) (po1.pre p) _ fun G2 H2 po2 => k2 σ G2 H2 ((rs.post po1).post po2) (po2.pre (po1.pre p)) _ fun G3 H3 po3 => ?_⟩
  subst f
  have pr := po3.pre (po2.pre (po1.pre p))
  cases (rv.mono po2.gg).mono po3.gg with
  | scr hs => exact ⟨_, _, rfl, by rw [hK]; exact pr.gh.seq hs, fun x hx => q _ _ _ _ (((po1.trans po2).trans po3).trans (.new pr hx fun ps z => by cases z)) rfl (.lst upd_same (((RA.ofInt ns).cut l h).mono (Same.upd (pr.gnone hx))))⟩
end
abbrev sDraw : Stmt := top 22
abbrev nDraw : List Str := ["_law_script", "_law_salt", "_law_cells", "_law_blend", "_law_cell"]
abbrev pDraw : List Str := ["_law_script", "_law_salt"]
theorem sc_draw : FnScope nDraw pDraw (defScope sDraw) := ⟨rfl, rfl, rfl, by decide +kernel, rfl, by decide +kernel, by decide +kernel⟩
def preDraw (ds : List D) : Prop := ∃ ns : List Int, ds = [.scr ns, .int 31]
def postDraw (ds : List D) (o : Ou) : Prop := ∃ (cs : List Int) (bl : Int), o = .ret (.list [dli cs, .int bl]) ∧ (∀ c ∈ cs, 0 ≤ c) ∧ cs.length ≤ 100 ∧ 0 ≤ bl ∧ bl < 2147483647
section
variable {P : Program} {w : PySem.World} {K : PySem.W.Frag} {mg : Str → Option Value} {base : Heap} {θ : Th} {f : Addr} {fd : FuncData}
theorem ok_draw (D0 : Df K mg "_law_draw" sDraw pDraw f fd) (th : ThOk P K mg θ) (nb : Nb mg) : Cal P w K mg base 1 "_law_draw" pDraw (spD θ false preDraw postDraw) := by
  refine calD (k := 0) D0 sc_draw (fun ds h => by obtain ⟨_, rfl⟩ := h; rfl) fun cdv A outer s H E hr δ ds hp => ?_
  obtain ⟨ns, rfl⟩ := hp
  have hK := th.eK
  refine js_lc 2 sc_draw.nd [("_law_cell", 4)] (blk_by (by kernel_rfl)) (Ψ := fun d => ∃ cs : List Int, d = dli cs ∧ (∀ c ∈ cs, 0 ≤ c) ∧ cs.length ≤ 48) (jl_some (S := fun s => s = di (ns.take 48)) 4 (fun _ _ x => ∃ i, x = .int i ∧ 0 ≤ i)
    (ji_list hK.symm ((je_cutS hK.symm (je_var 0) jo_none (jo_some je_int)).to (by rw [show (48 : Int) = ((48 : Nat) : Int) from rfl, cut_to]; unfold di; rw [List.map_take]))) (fun _ _ _ _ _ => wr_name 4 sc_draw.nd) (fun src e => by rw [e]; simp; omega) (fun src hS d hd _ _ _ _ _ => ?_) fun src es hS hl he => ?_) (fun d hd => ?_) (sw_true rfl rfl rfl (by decide +kernel))
  · subst hS
    obtain ⟨i, _, rfl⟩ := List.mem_map.mp hd
    exact je_callB call_abs nb.abs (ja_cons (A := Ip fun _ => True) (je_callTy call_int1 nb.int (ja_cons (A := Ip fun _ => True) ((je_var 4).mono fun d e => ⟨i, e, trivial⟩) ja_nil) ca_int1) ja_nil) ca_abs
  · subst hS
    obtain ⟨cs, rfl, hn⟩ := ints_of (S := fun i => 0 ≤ i) (es := es) fun d hd => by
      obtain ⟨j, hj⟩ := List.mem_iff_getElem?.mp hd
      have hjl := (List.getElem?_eq_some_iff.mp hj).1
      obtain ⟨x, e1, e2⟩ := he j _ (List.getElem?_eq_getElem (by rw [← hl]; exact hjl))
      rw [hj] at e1
      cases e1
      exact e2
    refine ⟨cs, rfl, hn, ?_⟩
    simp only [di, List.length_map, List.length_take] at hl
    omega
  obtain ⟨cs, rfl, hcs, hcl⟩ := hd
  refine js_set (Φ := Is (.int 3254518)) 3 sc_draw.nd ((je_add (i := 7919) (j := 3246599) je_int ((je_mulS (i := 104729) (j := 31) (.inr ⟨by decide, by decide⟩) je_int (je_var 1)).to (congrArg D.int (by decide)))).to (congrArg D.int (by decide))) fun d e => ?_
  subst e
  refine js_for (S := fun s => s = di cs) (act := NameT 4) (Inv := fun src i ρ => ∃ bl u, ρ = [some (.dat (.scr ns)), some (.dat (.int 31)), some (.dat (dli cs)), some (.dat (.int bl)), u] ∧ 0 ≤ bl ∧ bl < 2147483647)
    (Mid := fun ρ => ∃ bl u, ρ = [some (.dat (.scr ns)), some (.dat (.int 31)), some (.dat (dli cs)), some (.dat (.int bl)), u] ∧ 0 ≤ bl ∧ bl < 2147483647)
    (ji_list hK.symm (je_var 2)) (jg_name 4 sc_draw.nd) (fun src hS => ⟨_, _, rfl, by decide, by decide⟩) (fun _ _ _ _ _ _ _ => ⟨_, rfl⟩) (fun src i d ρ1 ρ2 hS hd hI hA => ?_) (fun src ρ1 hS hI => hI) (fun ρ' hM => ?_)
  · subst hS
    obtain ⟨bl, u, rfl, hb0, hb1⟩ := hI
    subst hA
    obtain ⟨c, _, rfl⟩ := List.mem_map.mp (List.mem_of_getElem? hd)
    refine js_set (Φ := Ip fun r => 0 ≤ r ∧ r < 2147483647) 3 sc_draw.nd ((je_modP (N := fun _ => True) (M := fun k => k = 2147483647) (fun i j _ hj => by rw [hj]; decide) (je_callTy call_int1 nb.int (ja_cons (A := Ip fun _ => True) ((je_addP (je_addP (je_mulP (N := fun k => k = bl) (M := fun k => k = 48271) (fun i j h1 h2 => ?_) (JE.ip (je_var 3)) (JE.ip je_int)) (je_modP (N := fun k => k = c) (M := fun k => k = 2147483549) (fun i j _ hj => by rw [hj]; decide) (JE.ip (je_var 4)) (JE.ip je_int))) (M := fun k => k = 11) (JE.ip je_int)).mono fun d ⟨k, e, _⟩ => ⟨k, e, trivial⟩) ja_nil) ca_int1) (JE.ip je_int)).mono fun d ⟨k, e, i, j, _, e2, e3⟩ => ?_) fun d e => ?_
    · subst h1 h2
      exact .inr ⟨by decide, by decide⟩
    · subst e2
      refine ⟨k, e, ?_, ?_⟩
      · rw [e3]; exact Int.emod_nonneg _ (by decide)
      · rw [e3]; exact Int.emod_lt_of_pos _ (by decide)
    · obtain ⟨r, rfl, h0, h1⟩ := e
      exact js_nil ⟨r, _, rfl, h0, h1⟩
  · obtain ⟨bl, u, rfl, hb0, hb1⟩ := hM
    have cf : ∀ l : List Int, (di l).filterMap (fun d => if decide ((1000000000000000000 : Int) ≤ nOf d) = true then some d else none) = di (l.filter fun c => decide ((1000000000000000000 : Int) ≤ c)) := fun l => by
      induction l with
      | nil => rfl
      | cons c l ih =>
        show (D.int c :: di l).filterMap _ = _
        rw [List.filterMap_cons, List.filter_cons]
        by_cases h : decide ((1000000000000000000 : Int) ≤ c) = true
        · rw [if_pos (show decide ((1000000000000000000 : Int) ≤ nOf (.int c)) = true from h), if_pos h]
          simp only [ih]
          rfl
        · rw [if_neg (show ¬ decide ((1000000000000000000 : Int) ≤ nOf (.int c)) = true from h), if_neg h]
          exact ih
    refine js_ret (Φ := Is (.list [dli ((cs.filter fun c => decide ((1000000000000000000 : Int) ≤ c)).reverse), .int bl])) (je_lst (ja_1 ?_ (ja_1 (je_var 3) ja_nil))) fun d e => ⟨_, bl, congrArg Ou.ret e, fun c hc => hcs c (List.mem_filter.mp (List.mem_reverse.mp hc)).1, ?_, hb0, hb1⟩
    · refine JE.to (d := .list (((di cs).filterMap (fun d => if decide ((1000000000000000000 : Int) ≤ nOf d) = true then some d else none)).reverse)) ?_ (by rw [cf]; unfold dli di; rw [List.map_reverse])
      refine je_revL ?_
      refine je_lc sc_draw.nd [("_law_cell", 4)] (blk_by (by kernel_rfl)) ?_
      refine jl_filter 4 _ (ji_list hK.symm (je_var 2)) (fun _ _ _ _ _ => wr_name 4 sc_draw.nd) (by simp; omega) (fun d hd _ _ _ _ _ => ?_) fun d hd z hz _ _ _ _ _ => ?_
      · obtain ⟨c, _, rfl⟩ := List.mem_map.mp hd
        exact jf_one (JT.to (jt_ge (je_var 4) ((je_pow (i := 10) (j := 18) ⟨by decide, by decide, by decide⟩ je_int je_int).to (congrArg D.int (by decide)))) opt_some)
      · obtain rfl := opt_get hz
        exact je_var 4
    · rw [List.length_reverse]
      have := List.length_filter_le (fun c => decide ((1000000000000000000 : Int) ≤ c)) cs
      omega
end
end B
set_option Elab.async false
set_option autoImplicit false
set_option linter.all false
set_option maxRecDepth 100000
set_option maxHeartbeats 4000000
namespace B
open PySem PySem.Spec PyProof.Rows L2
/-- the keys, each alone -/
def singles (n : Nat) : List (List Int) := (List.range n).map fun (k : Nat) => [(k : Int)]
/-- what _law_right asks of the numbers -/
structure RightOk (caps : List Int) (lo hi : Int) (rows : List (List Int)) : Prop where
  ne : rows ≠ []
  len : rows.length ≤ 256
  inb : ∀ r ∈ rows, inB caps lo hi r
  due : bundles caps lo hi = if lo = hi then bundR caps.length rows else singles caps.length
  few : ∀ a ∈ rows, ∀ b ∈ rows, (keysD a b).length ≤ 2 → neededD lo hi a b = optD (fewest rows a b) ∧ Rp (optD (fewest rows a b))
  rp : Rp (.tup ((bundles caps lo hi).map dti))
theorem drowsInj {x y : List (List Int)} (h : drows x = drows y) : x = y := by
  have h1 : x.map dti = y.map dti := by injection h
  have h2 := congrArg (List.map rowD) h1
  simp only [List.map_map] at h2
  have e : (rowD ∘ dti) = id := by
    funext r
    exact rowD_dti r
  rw [e, List.map_id, List.map_id] at h2
  exact h2
abbrev sRight : Stmt := top 38
abbrev nRight : List Str := ["_law_deal", "_law_caps", "_law_low", "_law_high", "_law_rows_here", "_law_budget", "_law_due", "_law_turn", "_law_one", "_law_other", "_law_many", "_law_times", "_law_great_here", "_law_first", "_law_last", "_law_key", "_law_cap", "_law_value"]
abbrev pRight : List Str := ["_law_deal", "_law_caps", "_law_low", "_law_high", "_law_rows_here"]
theorem sc_right : FnScope nRight pRight (defScope sRight) := ⟨rfl, rfl, rfl, by decide +kernel, rfl, by decide +kernel, by decide +kernel⟩
def preRight (ds : List D) : Prop := ∃ (caps : List Int) (lo hi : Int) (rows : List (List Int)), ds = [.deal, dli caps, .int lo, .int hi, drows rows] ∧ smallB caps lo hi ∧ RightOk caps lo hi rows
section
variable {P : Program} {w : PySem.World} {K : PySem.W.Frag} {mg : Str → Option Value} {base : Heap} {θ : Th} {f : Addr} {fd : FuncData}
/-- the callees that both of the law's halves use -/
structure Callees (P : Program) (w : PySem.World) (K : PySem.W.Frag) (mg : Str → Option Value) (base : Heap) (θ : Th) : Prop where
  th : ThOk P K mg θ
  nb : Nb mg
  ro : RefOk P K mg θ
  any : CalAny P w K mg base θ
  of : CalOf P w K mg base θ
  great : CalGreat P w K mg base θ
  need : CalNeeded P w K mg base θ
  bund : Cal P w K mg base 3 "budget_bundles" ["budget"] (spF θ preBud fBund)
  init : CalI P w K mg base 3 θ preI
  walk : CalG P w K mg base 9 "_law_walk" pWalk (spD θ true preWalk postTrue)
  bad : CalG P w K mg base 9 "_law_bad" pBad (spD θ true preBad postTrue)
theorem ok_right {g : Addr} {gd : FuncData} (D0 : Df K mg "_law_right" sRight pRight f fd) (c : Callees P w K mg base θ) (T : TabF base mg θ "_law_right" fd) (Db : Df K mg "budget_bundles" sBundles ["budget"] g gd)
    (c1 : Cal P w K mg base 2 "_law_bundles" ["_law_count", "_law_rows_here"] (spD θ false preLB postLB)) (c2 : Cal P w K mg base 3 "_law_pair" ["_law_deal", "_law_rows_here"] (spD θ true prePair postPair))
    (c3 : Cal P w K mg base 1 "_law_fewest" ["_law_rows_here", "_law_one", "_law_other"] (spD θ false preFew postFew)) (c4 : CalG P w K mg base 8 "_law_counted" pCounted (spD θ true preCounted postTrue)) : CalG P w K mg base 10 "_law_right" pRight (spD θ true preRight postTrue) := by
  refine calG (k := 9) D0 sc_right (fun ds h => by obtain ⟨_, _, _, _, rfl, _⟩ := h; rfl) fun cdv A outer s H E hr hgd hcd δ ds hp => ?_
  obtain ⟨caps, lo, hi, rows, rfl, ⟨⟨hc4, hc3⟩, hne, hlo, hlh, hhi, hgap⟩, ok⟩ := hp
  have th := c.th
  have nb := c.nb
  have hK := th.eK
  have hu := Room_u65 hr
  have TO := T.ok (P := P) (w := w) (K := K) (N := nRight) (sc := defScope sRight) (f := f) (A := A) (outer := outer) (s := s) (H := H) (E := E) hcd
  have hmin : min hi caps.sum = hi := Int.min_eq_left hhi
  refine js_asg (act := Two 5 6) (Φ := Is (.tup [.bud caps lo hi, .tup ((singles caps.length).map dti)])) (jg_two hK.symm 5 6 sc_right.nd) (je_tup (ja_1 ((je_budget th c.init hr (by decide) ⟨fun c hc => (hc3 c hc).1, hne, by omega, hlo, hlh, by omega⟩ (je_var 1) (je_var 2) (je_var 3)).to (by rw [hmin])) (ja_1 (je_callTy call_tuple_of nb.tuple (ja_1 (d := drows (singles caps.length)) ?_ ja_nil) (ca_tuple rfl)) ja_nil))) (fun d e => ⟨_, _, _, e, rfl⟩) fun d ρ' hd hA => ?_
  · refine JE.to (d := .list ((rng caps.length).map fun d => .tup [d])) ?_ ?_
    · refine je_lc sc_right.nd [("_law_key", 15)] (blk_by (by kernel_rfl)) ?_
      refine jl_map 15 (fun d => .tup [d]) (ji_rangeI nb.range (je_len (n := caps.length) hK.symm (lenD_dli caps) nb.len (je_var 1)) (by omega)) (fun _ _ _ _ _ => wr_name 15 sc_right.nd) (by rw [rng_length]; omega) fun d hd _ _ _ _ _ => ?_
      exact je_tup (ja_1 (je_var 15) ja_nil)
    · unfold singles drows rng
      rw [List.map_map, List.map_map]
      rfl
  subst hd
  obtain ⟨_, _, ed, rfl⟩ := hA
  cases ed
  have hrow : ∀ r ∈ rows, r.length = caps.length := fun r hr => (ok.inb r hr).1.1
  refine js_if (Mid := fun ρ => ρ = [some (.dat .deal), some (.dat (dli caps)), some (.dat (.int lo)), some (.dat (.int hi)), some (.dat (drows rows)), some (.dat (.bud caps lo hi)), some (.dat (.tup ((bundles caps lo hi).map dti))), none, none, none, none, none, none, none, none, none, none, none]) (jt_eq (je_var 2) (je_var 3)) (fun e => ?_) (fun e => ?_) fun ρ' hρ => ?_
  · have heq : lo = hi := by simpa using e.symm
    refine js_set (Φ := Is (.tup ((bundles caps lo hi).map dti))) 6 sc_right.nd (je_call c1 hr (by decide) (ja_1 (je_len (n := caps.length) hK.symm (lenD_dli caps) nb.len (je_var 1)) (ja_1 (je_var 4) ja_nil)) (fun ds e => ⟨caps.length, rows, e, hc4, ok.ne, ok.len, hrow⟩) (fun ds d e ho => ?_) fun ds c n e ho => ?_) fun d e => ?_
    · obtain ⟨n, rows', e1, e2⟩ := ho
      rw [e] at e1
      simp only [List.cons.injEq, D.int.injEq, and_true] at e1
      obtain ⟨q1, q2⟩ := e1
      have q3 : caps.length = n := by omega
      have q4 : rows = rows' := drowsInj q2
      subst q3 q4
      cases e2
      show D.tup _ = D.tup _
      rw [ok.due, if_pos heq]
    · obtain ⟨n, rows', e1, e2⟩ := ho
      cases e2
    · subst e
      exact js_nil rfl
  · have hneq : lo ≠ hi := by simpa using e.symm
    refine js_nil ?_
    rw [ok.due, if_neg hneq]
    rfl
  subst hρ
  obtain ⟨oc, od, kV, doc, pm, an, cdv2, ct, osl, efd, lk2, hcd2⟩ := Db.F.ex
  have preB : preBud [.bud caps lo hi] := ⟨caps, lo, hi, rfl, by omega⟩
  have fB : ∀ o, o = fBund [.bud caps lo hi] → o = .ret (.tup ((bundles caps lo hi).map dti)) := fun o e => e
  refine js_ifRet (β := fun k => k = false) (jt_pw (jw_orI (k := false) (k' := false) (jt_unlikeS (je_repr hK.symm ok.rp hgd hu nb.repr (je_callI c.bund hr (by decide) (ja_1 (je_var 5) ja_nil) preB fB)) (je_repr hK.symm ok.rp hgd hu nb.repr (je_var 6))) fun _ => jw_or1 (jt_unlikeS (je_repr hK.symm ok.rp hgd hu nb.repr (je_callK c.bund Db (kb_one1 fun x => by rw [efd]; rfl) hr (by decide) (jk_1 (je_var 5) jk_nil) (es := [.bud caps lo hi]) (fun G vs ra => ?_) preB (fun d ho => ?_) fun c n ho => ?_)) (je_repr hK.symm ok.rp hgd hu nb.repr (je_var 6))))) (fun e => ?_) fun _ => ?_
  · cases ra with
    | cons r1 ra =>
      cases ra
      exact .cons r1 .nil
  · cases fB _ ho
    rfl
  · cases fB _ ho
  · cases e
  refine js_for (S := fun s => s = rng 2) (act := NameT 7)
    (Inv := fun src i ρ => ∃ u7 u8 u9 u10 u11 u12 u13 u14 u15 u16 u17, ρ = [some (.dat .deal), some (.dat (dli caps)), some (.dat (.int lo)), some (.dat (.int hi)), some (.dat (drows rows)), some (.dat (.bud caps lo hi)), some (.dat (.tup ((bundles caps lo hi).map dti))), u7, u8, u9, u10, u11, u12, u13, u14, u15, u16, u17])
    (Mid := fun ρ => ∃ u7 u8 u9 u10 u11 u12 u13 u14 u15 u16 u17, ρ = [some (.dat .deal), some (.dat (dli caps)), some (.dat (.int lo)), some (.dat (.int hi)), some (.dat (drows rows)), some (.dat (.bud caps lo hi)), some (.dat (.tup ((bundles caps lo hi).map dti))), u7, u8, u9, u10, u11, u12, u13, u14, u15, u16, u17])
    (ji_rangeI nb.range je_int (by decide)) (jg_name 7 sc_right.nd) (fun src hS => ⟨_, _, _, _, _, _, _, _, _, _, _, rfl⟩) (fun _ _ _ _ _ _ _ => ⟨_, rfl⟩) (fun src i d ρ1 ρ2 hS hd hI hA => ?_) (fun src ρ1 hS hI => hI) (fun ρ' hM => js_ret (Φ := Is (.bl true)) je_bl fun d e => by rw [e]; rfl)
  obtain ⟨u7, u8, u9, u10, u11, u12, u13, u14, u15, u16, u17, rfl⟩ := hI
  subst hA
  refine js_asg (act := Two 8 9) (Φ := fun d => ∃ a b, a ∈ rows ∧ b ∈ rows ∧ d = .tup [dti a, dti b]) (jg_two hK.symm 8 9 sc_right.nd) (je_call c2 hr (by decide) (ja_1 (je_var 0) (ja_1 (je_var 4) ja_nil)) (fun ds e => ⟨caps.length, rows, e, hc4, ok.ne, ok.len, hrow⟩) (fun ds d e ho => ?_) fun ds c n e ho => ?_) (fun d ⟨a, b, _, _, e⟩ => ⟨_, _, _, e, rfl⟩) fun d ρ' hd hA => ?_
  · obtain ⟨rows', a, b, e1, ha, hb, e2⟩ := ho
    rw [e] at e1
    simp only [List.cons.injEq, and_true, true_and] at e1
    rw [← drowsInj e1] at ha hb
    cases e2
    exact ⟨a, b, ha, hb, rfl⟩
  · obtain ⟨rows', a, b, e1, ha, hb, e2⟩ := ho
    cases e2
  obtain ⟨a, b, ham, hbm, rfl⟩ := hd
  obtain ⟨_, _, ed, rfl⟩ := hA
  cases ed
  have ha := ok.inb a ham
  have hb := ok.inb b hbm
  have hla := hrow a ham
  have hlb := hrow b hbm
  have hlog : (hi - lo).natAbs.log2 < 9000 := log2_small (by omega)
  have walkT : ∀ ds o, ds = ds → postTrue ds o → o = .ret (.bl true) := fun _ _ _ h => h
  refine js_ifRet (β := fun k => k = false) (jt_pw (jw_orI (k := false) (k' := false) (jt_notI (k := true) (jt_valI (je_callG c.walk hgd hr (by decide) (ja_1 (je_var 5) (ja_1 (je_var 2) (ja_1 (je_var 3) (ja_1 (je_var 8) (ja_1 (je_var 9) (ja_1 je_bl ja_nil)))))) (fun ds e => ⟨caps, lo, hi, a, b, true, e, by omega, ha, hb, fun _ => reach_l1 hb 24 ha (by have := l1_le ha hb hc4 hc3; omega)⟩) (fun ds d e ho => by cases ho; rfl) fun ds c n e ho => by cases ho))) fun _ => jw_or1 (jt_notI (k := true) (jt_valI (je_callG c.bad hgd hr (by decide) (ja_1 (je_var 0) (ja_1 (je_var 5) (ja_1 (je_var 8) (ja_1 (je_var 9) ja_nil)))) (fun ds e => ⟨caps, lo, hi, a, b, e, hne, by omega, ha, hb, hlog⟩) (fun ds d e ho => by cases ho; rfl) fun ds c n e ho => by cases ho))))) (fun e => ?_) fun _ => ?_
  · cases e
  refine js_if (β := fun k => k = decide (2 < (((keysD a b).length : Nat) : Int))) (Mid := fun ρ => ∃ u7 u8 u9 u10 u11 u12 u13 u14 u15 u16 u17, ρ = [some (.dat .deal), some (.dat (dli caps)), some (.dat (.int lo)), some (.dat (.int hi)), some (.dat (drows rows)), some (.dat (.bud caps lo hi)), some (.dat (.tup ((bundles caps lo hi).map dti))), u7, u8, u9, u10, u11, u12, u13, u14, u15, u16, u17]) (jt_gt (i := (((keysD a b).length : Nat) : Int)) (j := 2) (je_len (n := (keysD a b).length) hK.symm (lenD_keys _) nb.len ?_) je_int) (fun e => ?_) (fun e => ?_) fun ρ' h => js_nil h
  · refine JE.to (d := .list ((rng a.length).filterMap fun d => if decide (a.getD (nOf d).toNat 0 ≠ b.getD (nOf d).toNat 0) = true then some d else none)) ?_ (congrArg D.list (rng_filter (fun k => decide (a.getD k 0 ≠ b.getD k 0)) a.length))
    refine je_lc sc_right.nd [("_law_key", 15)] (blk_by (by kernel_rfl)) ?_
    refine jl_filter 15 _ (ji_rangeI nb.range (je_len (n := a.length) hK.symm (lenD_dti a) nb.len (je_var 8)) (by omega)) (fun _ _ _ _ _ => wr_name 15 sc_right.nd) (by rw [rng_length]; omega) (fun d hd _ _ _ _ _ => ?_) fun d hd z hz _ _ _ _ _ => ?_
    · obtain ⟨k, rfl, hk⟩ := mem_rng hd
      refine jf_one ((jt_ne (je_ixT (di_get (ns := a) (k := k) hk) (je_var 8) (je_var 15)) (je_ixT (di_get (ns := b) (k := k) (by omega)) (je_var 9) (je_var 15))).to ?_)
      exact ne_some (a.getD k 0) (b.getD k 0) _
    · obtain rfl := opt_get hz
      exact je_var 15
  · have h2 : 2 < (keysD a b).length := by
      have : (2 : Int) < (((keysD a b).length : Nat) : Int) := of_decide_eq_true e.symm
      omega
    have eR : neededOu lo hi a b = .exc .refused 0 := if_pos h2
    have two : twoRows (fun _ lo hi a b => neededOu lo hi a b) [.bud caps lo hi, dti a, dti b] = .exc .refused 0 := (two_in (rowOf_t ha) (rowOf_t hb)).trans eR
    refine js_ifRet (β := fun k => k = false) (jt_cmp (A := Is (.tup [.str (tagOf .refused), .int 0])) (C := Is (.tup [.str (tagOf .refused), .int 0])) (op_neD (u64 hu)) (nomark _) (je_refused (k := 6) (Φb := fun _ => False) (Ψ := fun c n => c = .refused ∧ n = 0) c.ro TO (hr.mono (by decide)) (by kernel_rfl) rfl (fun _ _ _ _ _ => rfl) (fun A2 outer2 s2 H2 E2 f2 cc2 hr2 => ?_) (fun _ z => z.elim) (fun c n hcn => ⟨.inr hcn.1, by rw [hcn.1, hcn.2]⟩)) (je_tup (ja_1 je_str (ja_1 je_int ja_nil))) (od_neD (k := true) (x := .tup [.str (tagOf .refused), .int 0]) (y := .tup [.str (tagOf .refused), .int 0]) hK.symm (ok_told _ _ (.inr rfl)) (ok_told _ _ (.inr rfl)) (by decide)).bp) (fun e => ?_) fun _ => js_nil ⟨_, _, _, _, _, _, _, _, _, _, _, rfl⟩
    · refine jx_call (CX := L2.CX P w) c.need hr2 (Nat.le_refl _) (passes_call (takes_of rfl rfl rfl rfl) fun _ _ _ _ h => h) (ja_1 (je_var 5) (ja_1 (je_var 8) (ja_1 (je_var 9) ja_nil))) (fun ds e => e ▸ ⟨caps, lo, hi, _, _, rfl, by omega, hlog, (small_row a (by omega)).1, (small_row b (by omega)).1⟩) (fun ds d e ho => ?_) fun ds c n e ho => ?_
      · subst e
        have ho : Ou.ret d = twoRows _ _ := ho
        rw [two] at ho
        cases ho
      · subst e
        have ho : Ou.exc c n = twoRows _ _ := ho
        rw [two] at ho
        cases ho
        exact ⟨rfl, rfl⟩
    · cases e
  · have h2 : (keysD a b).length ≤ 2 := by
      have : ¬ (2 : Int) < (((keysD a b).length : Nat) : Int) := of_decide_eq_false e.symm
      omega
    obtain ⟨few, rpf⟩ := ok.few a ham b hbm h2
    have eN : neededOu lo hi a b = .ret (optD (fewest rows a b)) := (if_neg (by omega)).trans (by rw [few])
    refine js_asg (act := Two 10 11) (Φ := fun d => ∃ t : Int, d = .tup [optD (fewest rows a b), .int t] ∧ 1 ≤ t ∧ t ≤ 10000000000000000000000000000) (jg_two hK.symm 10 11 sc_right.nd) (j_tup (ja_cons (A := Is (optD (fewest rows a b))) (je_call c3 hr (by decide) (ja_1 (je_var 4) (ja_1 (je_var 8) (ja_1 (je_var 9) ja_nil))) (fun ds e => ⟨caps.length, rows, a, b, e, hc4, ok.len, hrow, hla, hlb⟩) (fun ds d e ho => ?_) fun ds c n e ho => ?_) (ja_cons (A := Ip fun k => ∃ i j, i = 1 ∧ (0 ≤ j ∧ j < 10000000000000000000000000000) ∧ k = i + j) (je_addP (N := fun k => k = 1) (JE.ip je_int) (M := fun k => 0 ≤ k ∧ k < 10000000000000000000000000000) (je_great c.great hr (by decide) (by decide) (je_var 0) ((je_pow (i := 10) (j := 28) ⟨by decide, by decide, by decide⟩ je_int je_int).to (congrArg D.int (by decide))))) ja_nil)) (fun ds ⟨d, r, e1, _, d2, r2, e2, _, e3⟩ => by rw [e1, e2, e3]; simp) (fun ds ⟨d, r, e1, f1, d2, r2, e2, ⟨k, f2, i, j, h3, h4, h5⟩, e3⟩ => ⟨k, by rw [e1, e2, e3, f1, f2], by omega, by omega⟩)) (fun d ⟨t, e, _⟩ => ⟨_, _, _, e, rfl⟩) fun d ρ' hd hA => ?_
    · obtain ⟨rows', a', b', e1, e2⟩ := ho
      rw [e] at e1
      simp only [List.cons.injEq, and_true] at e1
      obtain ⟨q1, q2, q3⟩ := e1
      rw [← drowsInj q1, dtiInj q2, dtiInj q3] at e2
      cases e2
      rfl
    · obtain ⟨rows', a', b', e1, e2⟩ := ho
      cases e2
    obtain ⟨t, rfl, ht1, ht2⟩ := hd
    obtain ⟨_, _, ed, rfl⟩ := hA
    cases ed
    have ht : 0 < t := by omega
    have lst : ∀ l : List Int, (di l).map (fun d => D.int (nOf d * t)) = di (scL t l) := fun l => by
      unfold di scL
      rw [List.map_map, List.map_map]
      rfl
    have hsum : (scL t caps).sum = caps.sum * t := sum_sc t caps
    have cap3 : ∀ x ∈ caps, -(2 ^ 64) < x ∧ x < 2 ^ 64 := fun x hx => by
      have := hc3 x hx
      omega
    have s12 : caps.sum ≤ 12 := by
      have := small_sum hc3
      omega
    have each : ∀ r ∈ rows, ∀ x ∈ r, -(2 ^ 64) < x ∧ x < 2 ^ 64 := fun r hr x hx => by
      obtain ⟨k, hk, rfl⟩ := List.getElem_of_mem hx
      have h1 := (ok.inb r hr).1.2 k
      have h2 : r.getD k 0 = r[k] := by rw [List.getD_eq_getElem?_getD, List.getElem?_eq_getElem hk]; rfl
      have h3 : caps.getD k 0 ≤ 3 := by
        have hk' : k < caps.length := by rw [← hrow r hr]; exact hk
        rw [List.getD_eq_getElem?_getD, List.getElem?_eq_getElem hk']
        exact (hc3 _ (List.getElem_mem hk')).2
      omega
    have inI : preI (scL t caps) (lo * t) (hi * t) := by
      refine ⟨fun x hx => ?_, fun z => hne (List.map_eq_nil_iff.mp z), by rw [List.length_map]; omega, Int.mul_nonneg hlo (by omega), (le_sc ht).mpr hlh, ?_⟩
      · obtain ⟨y, hy, rfl⟩ := List.mem_map.mp hx
        exact Int.mul_nonneg (hc3 y hy).1 (by omega)
      · rw [hsum, le_sc ht]; omega
    refine js_set (Φ := Is (.bud (scL t caps) (lo * t) (hi * t))) 12 sc_right.nd ((je_budget th c.init hr (by decide) (caps := scL t caps) (lo := lo * t) (hi := hi * t) inI ?_ (je_mulS (.inl ⟨by omega, by omega⟩) (je_var 2) (je_var 11)) (je_mulS (.inl ⟨by omega, by omega⟩) (je_var 3) (je_var 11))).to (by rw [hsum, min_sc ht, hmin])) fun d e => ?_
    · refine JE.to (d := .list ((di caps).map fun d => D.int (nOf d * t))) ?_ (congrArg D.list (lst caps))
      refine je_lc sc_right.nd [("_law_cap", 16)] (blk_by (by kernel_rfl)) ?_
      refine jl_map 16 (fun d => D.int (nOf d * t)) (ji_list hK.symm (je_var 1)) (fun _ _ _ _ _ => wr_name 16 sc_right.nd) (by simp; omega) fun d hd _ _ _ _ _ => ?_
      obtain ⟨x, hx, rfl⟩ := List.mem_map.mp hd
      exact je_mulS (.inl (cap3 x hx)) (je_var 16) (je_var 11)
    subst e
    refine js_par 13 14 sc_right.nd (A := Is (dti (scL t a))) (C := Is (dti (scL t b))) (je_callTy call_tuple_of nb.tuple (ja_1 (d := dli (scL t a)) ?_ ja_nil) (ca_tuple rfl)) (je_callTy call_tuple_of nb.tuple (ja_1 (d := dli (scL t b)) ?_ ja_nil) (ca_tuple rfl)) fun d d' hd hd' => ?_
    · refine JE.to (d := .list ((di a).map fun d => D.int (nOf d * t))) ?_ (congrArg D.list (lst a))
      refine je_lc sc_right.nd [("_law_value", 17)] (blk_by (by kernel_rfl)) ?_
      refine jl_map 17 (fun d => D.int (nOf d * t)) (ji_tup hK.symm (je_var 8)) (fun _ _ _ _ _ => wr_name 17 sc_right.nd) (by simp; omega) fun d hd _ _ _ _ _ => ?_
      obtain ⟨x, hx, rfl⟩ := List.mem_map.mp hd
      exact je_mulS (.inl (each a ham x hx)) (je_var 17) (je_var 11)
    · refine JE.to (d := .list ((di b).map fun d => D.int (nOf d * t))) ?_ (congrArg D.list (lst b))
      refine je_lc sc_right.nd [("_law_value", 17)] (blk_by (by kernel_rfl)) ?_
      refine jl_map 17 (fun d => D.int (nOf d * t)) (ji_tup hK.symm (je_var 9)) (fun _ _ _ _ _ => wr_name 17 sc_right.nd) (by simp; omega) fun d hd _ _ _ _ _ => ?_
      obtain ⟨x, hx, rfl⟩ := List.mem_map.mp hd
      exact je_mulS (.inl (each b hbm x hx)) (je_var 17) (je_var 11)
    subst hd hd'
    have hlogt : (hi * t - lo * t).natAbs.log2 < 9000 := by
      rw [← Int.sub_mul]
      have h1 : (hi - lo) * t ≤ 3 * 10000000000000000000000000000 := Int.mul_le_mul (by omega) ht2 (by omega) (by decide)
      have h0 : 0 ≤ (hi - lo) * t := Int.mul_nonneg (by omega) (by omega)
      have h2 : ((hi - lo) * t).natAbs < 2 ^ 100 := by omega
      rcases Nat.eq_zero_or_pos ((hi - lo) * t).natAbs with h0 | h0
      · rw [h0]; decide
      · rw [Nat.log2_lt (by omega)]
        exact Nat.lt_of_lt_of_le h2 (Nat.pow_le_pow_right (by decide) (by decide))
    have eNt : neededOu (lo * t) (hi * t) (scL t a) (scL t b) = .ret (optD (fewest rows a b)) := by
      unfold neededOu
      rw [keys_sc ht, if_neg (by omega), needed_sc ht ha, few]
    have hat := inB_sc ht ha
    have hbt := inB_sc ht hb
    have hlen : (scL t caps).length ≤ 900 := by rw [List.length_map]; omega
    refine js_ifRet (β := fun k => k = false) (jt_pw (jw_orI (k := false) (k' := false) (jt_notI (k := true) (jt_valI (je_callG c4 hgd hr (by decide) (ja_1 (je_var 5) (ja_1 (je_var 8) (ja_1 (je_var 9) (ja_1 (je_var 10) ja_nil)))) (fun ds e => ⟨caps, lo, hi, a, b, _, e, by omega, ha, hb, hlog, eN, rpf⟩) (fun ds d e ho => by cases ho; rfl) fun ds c n e ho => by cases ho))) fun _ => jw_or1 (jt_notI (k := true) (jt_valI (je_callG c4 hgd hr (by decide) (ja_1 (je_var 12) (ja_1 (je_var 13) (ja_1 (je_var 14) (ja_1 (je_var 10) ja_nil)))) (fun ds e => ⟨scL t caps, lo * t, hi * t, scL t a, scL t b, _, e, hlen, hat, hbt, hlogt, eNt, rpf⟩) (fun ds d e ho => by cases ho; rfl) fun ds c n e ho => by cases ho))))) (fun e => ?_) fun _ => ?_
    · cases e
    refine js_ifRet (β := fun k => k = false) (jt_notI (k := true) (jt_valI (je_callG c.walk hgd hr (by decide) (ja_1 (je_var 12) (ja_1 (je_mulS (i := lo) (j := t) (.inl ⟨by omega, by omega⟩) (je_var 2) (je_var 11)) (ja_1 (je_mulS (i := hi) (j := t) (.inl ⟨by omega, by omega⟩) (je_var 3) (je_var 11)) (ja_1 (je_var 13) (ja_1 (je_var 14) (ja_1 je_bl ja_nil)))))) (fun ds e => ⟨scL t caps, lo * t, hi * t, scL t a, scL t b, true, e, hlen, hat, hbt, fun _ => reach_sc ht 24 (reach_l1 hb 24 ha (by have := l1_le ha hb hc4 hc3; omega))⟩) (fun ds d e ho => by cases ho; rfl) fun ds c n e ho => by cases ho))) (fun e => ?_) fun _ => js_nil ⟨_, _, _, _, _, _, _, _, _, _, _, rfl⟩
    cases e
end
end B
set_option Elab.async false
set_option autoImplicit false
set_option linter.all false
set_option maxRecDepth 100000
set_option maxHeartbeats 4000000
namespace B
open PySem PySem.Spec PyProof.Rows L2
section
variable {θ : Th} {δ : Dl} {m : Bool} {X : Cx} {ρ : Rho} {a b c e : Expr} {pos px : Pos} {N M L : Int → Prop}
theorem je_min3P (hm : X.mg "min" = none) (ha : JE θ δ m X ρ a (Ip N)) (hb : JE θ δ m X ρ b (Ip M)) (hcc : JE θ δ m X ρ c (Ip L)) (hc : X.calm = true := by rfl) (hg : Gl X "min" := by rfl)
    (h1 : starEach [a, b, c] X.env = (false, eval a X.env) :: starEach [b, c] X.env := by rfl) (h2 : starEach [b, c] X.env = (false, eval b X.env) :: starEach [c] X.env := by rfl) (h4 : starEach [c] X.env = (false, eval c X.env) :: starEach [] X.env := by rfl)
    (h3 : (backTo pos (starEach [b, c] X.env)).any (·.1) = false := by rfl) : JE θ δ m X ρ (.Call (.Name "min" px) [a, b, c] [] pos) (Ip fun r => ∃ i j k, N i ∧ M j ∧ L k ∧ r = min (min i j) k) :=
  je_callB (call_min3Nu hc) hm (ja_cons ha (ja_cons hb (ja_cons hcc ja_nil h4) h2) h1) (fun xs ds G H f ra p Q q => by
    obtain ⟨d, r, rfl, ⟨i, rfl, hi⟩, d2, r2, rfl, ⟨j, rfl, hj⟩, d3, r3, rfl, ⟨k, rfl, hk⟩, rfl⟩ := f
    cases ra with
    | cons r1 ra =>
      cases ra with
      | cons r2 ra =>
        cases ra with
        | cons r3 ra =>
          cases ra
          cases r1
          cases r2
          cases r3
          refine ⟨_, _, _, .int (min (min i j) k), rfl, ?_, q _ _ G H (.refl p) ⟨_, rfl, i, j, k, hi, hj, hk, rfl⟩ (.int _)⟩
          unfold nuMin3
          rw [nuMin2_int]
          exact nuMin2_int _ _) (by decide +kernel) hg (by decide) (by decide) h1 h3
end
/-- what _law_large looks for -/
def freeL (caps : List Int) : List Int := ((List.range caps.length).filter fun k => decide (0 < caps.getD k 0)).map fun (k : Nat) => (k : Int)
def tiedL (caps : List Int) (lo hi : Int) : Bool := decide (lo = hi) && (decide (0 < lo) && decide (lo < caps.sum)) && decide (1 < (freeL caps).length)
def dueL (caps : List Int) (lo hi : Int) : List (List Int) := ((List.range caps.length).filterMap fun (k : Nat) => if tiedL caps lo hi = false ∨ (k : Int) ∉ freeL caps then some [(k : Int)] else none) ++ (if tiedL caps lo hi = true then [freeL caps] else [])
structure LargeOk (caps : List Int) (lo hi : Int) : Prop where
  due : (dueL caps lo hi).mergeSort leR = bundles caps lo hi
  rp : Rp (.tup ((bundles caps lo hi).map dti))
theorem dliInj {x y : List Int} (h : dli x = dli y) : x = y := by
  have h1 : di x = di y := by injection h
  have h2 := congrArg (List.map nOf) h1
  rw [nOf_di, nOf_di] at h2
  exact h2
abbrev sLarge : Stmt := top 40
abbrev nLarge : List Str := ["_law_deal", "_law_caps", "_law_low", "_law_high", "_law_budget", "_law_free", "_law_tied", "_law_due", "_law_one", "_law_other", "_law_unlike", "_law_key", "_law_cap"]
abbrev pLarge : List Str := ["_law_deal"]
theorem sc_large : FnScope nLarge pLarge (defScope sLarge) := ⟨rfl, rfl, rfl, by decide +kernel, rfl, by decide +kernel, by decide +kernel⟩
section
variable {P : Program} {w : PySem.World} {K : PySem.W.Frag} {mg : Str → Option Value} {base : Heap} {θ : Th} {f : Addr} {fd : FuncData}
theorem ok_large {g : Addr} {gd : FuncData} (D0 : Df K mg "_law_large" sLarge pLarge f fd) (c : Callees P w K mg base θ) (T : TabF base mg θ "_law_large" fd) (c1 : Cal P w K mg base 3 "_law_filled" ["_law_deal", "_law_caps", "_law_total"] (spD θ true preFilled postFilled))
    (big : ∀ (caps : List Int) (lo hi : Int), caps ≠ [] → caps.length ≤ 12 → (∀ x ∈ caps, 0 ≤ x) → 0 ≤ lo → lo ≤ hi → hi ≤ caps.sum → LargeOk caps lo hi) : CalG P w K mg base 10 "_law_large" pLarge (spD θ true preDeal postTrue) := by
  refine calG (k := 9) D0 sc_large (fun ds h => by rw [h]; rfl) fun cdv A outer s H E hr hgd hcd δ ds hp => ?_
  subst hp
  have th := c.th
  have nb := c.nb
  have hK := th.eK
  have hu := Room_u65 hr
  have TO := T.ok (P := P) (w := w) (K := K) (N := nLarge) (sc := defScope sLarge) (f := f) (A := A) (outer := outer) (s := s) (H := H) (E := E) hcd
  have p30 : ∀ {ρ : Rho} {p1 p2 p3 : Pos} {j1 j2 : Nat}, JE θ δ true (cxOf (L2.CX P w) P w K mg base nLarge "_law_large" (defScope sLarge) f cdv A outer s H E) ρ (.BinOp (.Constant (.int 10) j1 p1) .Pow (.Constant (.int 30) j2 p2) p3) (Is (.int 1000000000000000000000000000000)) := fun {ρ p1 p2 p3 j1 j2} => (je_pow (i := 10) (j := 30) ⟨by decide, by decide, by decide⟩ je_int je_int).to (congrArg D.int (by decide))
  have p29 : ∀ {ρ : Rho} {p1 p2 p3 : Pos} {j1 j2 : Nat}, JE θ δ true (cxOf (L2.CX P w) P w K mg base nLarge "_law_large" (defScope sLarge) f cdv A outer s H E) ρ (.BinOp (.Constant (.int 10) j1 p1) .Pow (.Constant (.int 29) j2 p2) p3) (Is (.int 100000000000000000000000000000)) := fun {ρ p1 p2 p3 j1 j2} => (je_pow (i := 10) (j := 29) ⟨by decide, by decide, by decide⟩ je_int je_int).to (congrArg D.int (by decide))
  refine js_lc 1 sc_large.nd [("_law_key", 11)] (blk_by (by kernel_rfl)) (Ψ := fun d => ∃ caps : List Int, d = dli caps ∧ caps ≠ [] ∧ caps.length ≤ 12 ∧ ∀ x ∈ caps, 0 ≤ x)
    (jl_some (S := fun s => ∃ n : Nat, s = rng n ∧ 1 ≤ n ∧ n ≤ 12) 11 (fun _ _ x => ∃ i, x = .int i ∧ 0 ≤ i)
      ((ji_range nb.range (fun n => 1 ≤ n ∧ n ≤ 12) ((je_addP (N := fun k => k = 1) (JE.ip je_int) (je_any c.any hr (by decide) (by decide) (by decide) (je_var 0) je_int)).mono fun d ⟨k, e, i, j, h1, h2, h3⟩ => ⟨k, e, by omega⟩) (fun n hn => by omega)).mono fun s ⟨n, hn, e⟩ => ⟨n.toNat, e, by omega, by omega⟩)
      (fun _ _ _ _ _ => wr_name 11 sc_large.nd) (fun src ⟨n, e, h1, h2⟩ => by rw [e, rng_length]; omega) (fun src hS d hd _ _ _ _ _ => ?_) fun src es hS hl he => ?_) (fun d hd => ?_) (sw_true rfl rfl rfl (by decide +kernel))
  · refine je_ofP (L := fun xs => ∃ x y : Int, xs = [.int 0, .int 1, .int 2, .int x, .int y] ∧ 0 ≤ x ∧ 0 ≤ y) c.of hr (by decide) (fun xs ⟨x, y, e, h1, h2⟩ => ⟨by rw [e]; simp, by rw [e]; simp, fun d hd => ?_⟩) (je_var 0) (j_lst (ja_cons (A := Is (.int 0)) je_int (ja_cons (A := Is (.int 1)) je_int (ja_cons (A := Is (.int 2)) je_int (ja_cons (A := Ip fun k => 0 ≤ k) ((je_great c.great hr (by decide) (b := 1000000000000000000000000000000) (by decide) (je_var 0) ((je_pow (i := 10) (j := 30) ⟨by decide, by decide, by decide⟩ je_int je_int).to (congrArg D.int (by decide)))).mono fun d ⟨k, e, h⟩ => ⟨k, e, h.1⟩) (ja_cons (A := Ip fun k => 0 ≤ k) ((je_great c.great hr (by decide) (b := 100000000000000000000000000000) (by decide) (je_var 0) ((je_pow (i := 10) (j := 29) ⟨by decide, by decide, by decide⟩ je_int je_int).to (congrArg D.int (by decide)))).mono fun d ⟨k, e, h⟩ => ⟨k, e, h.1⟩) ja_nil))))) (fun ds h => ?_) fun ds h => ?_)
    · rw [e] at hd
      simp only [List.mem_cons, List.not_mem_nil, or_false] at hd
      rcases hd with rfl | rfl | rfl | rfl | rfl <;> first | exact ⟨_, rfl, by decide⟩ | exact ⟨_, rfl, h1⟩ | exact ⟨_, rfl, h2⟩
    · obtain ⟨_, _, e1, _, _, _, e2, _, _, _, e3, _, _, _, e4, _, _, _, e5, _, e6⟩ := h
      rw [e1, e2, e3, e4, e5, e6]
      simp
    · obtain ⟨_, _, e1, f1, _, _, e2, f2, _, _, e3, f3, _, _, e4, ⟨x, f4, hx⟩, _, _, e5, ⟨y, f5, hy⟩, e6⟩ := h
      exact ⟨_, rfl, x, y, by rw [e1, e2, e3, e4, e5, e6, f1, f2, f3, f4, f5], hx, hy⟩
  · obtain ⟨n, rfl, h1, h2⟩ := hS
    rw [rng_length] at hl
    obtain ⟨ns, rfl, hn⟩ := ints_of (S := fun i => 0 ≤ i) (es := es) fun d hd => by
      obtain ⟨j, hj⟩ := List.mem_iff_getElem?.mp hd
      have hjl := (List.getElem?_eq_some_iff.mp hj).1
      obtain ⟨x, e1, e2⟩ := he j (.int j) (by rw [rng_get, if_pos (by omega)])
      rw [hj] at e1
      cases e1
      exact e2
    rw [List.length_map] at hl
    exact ⟨ns, rfl, fun z => by rw [z] at hl; simp at hl; omega, by omega, hn⟩
  obtain ⟨caps, rfl, hne, hcl, hcap⟩ := hd
  have s0 := sum_nonneg hcap
  have sumJ : ∀ {ρ : Rho} {px p2 pq : Pos}, ρ[1]? = some (some (.dat (dli caps))) → JE θ δ true (cxOf (L2.CX P w) P w K mg base nLarge "_law_large" (defScope sLarge) f cdv A outer s H E) ρ (.Call (.Name "sum" px) [.Name "_law_caps" p2] [] pq) (Is (.int caps.sum)) := fun {ρ px p2 pq} h => je_sumL nb.sum (je_var 1 h)
  -- low
  refine js_set (Φ := Ip fun k => 0 ≤ k ∧ k ≤ caps.sum ∧ k ≤ 999999999999999999999999999999) 2 sc_large.nd (je_ofP (L := fun xs => ∃ x y : Int, xs = [.int 0, .int x, .int y] ∧ (0 ≤ x ∧ x ≤ caps.sum ∧ x ≤ 999999999999999999999999999999) ∧ (0 ≤ y ∧ y ≤ caps.sum ∧ y ≤ 999999999999999999999999999999)) c.of hr (by decide) (fun xs ⟨x, y, e, h1, h2⟩ => ⟨by rw [e]; simp, by rw [e]; simp, fun d hd => ?_⟩) (je_var 0) (j_lst (ja_cons (A := Is (.int 0)) je_int (ja_cons (A := Ip fun k => 0 ≤ k ∧ k < min caps.sum (1000000000000000000000000000000 - 1) + 1) (je_great c.great hr (by decide) (by omega) (je_var 0) (je_add (je_min nb.min (sumJ rfl) (je_sub p30 je_int)) je_int)) (ja_cons (A := Ip fun k => 0 ≤ k ∧ k < min caps.sum 100000000000000000000000000000 + 1) (je_great c.great hr (by decide) (by omega) (je_var 0) (je_add (je_min nb.min (sumJ rfl) p29) je_int)) ja_nil))) (fun ds h => ?_) fun ds h => ?_)) fun d hd => ?_
  · rw [e] at hd
    simp only [List.mem_cons, List.not_mem_nil, or_false] at hd
    rcases hd with rfl | rfl | rfl
    · exact ⟨_, rfl, by omega⟩
    · exact ⟨_, rfl, h1⟩
    · exact ⟨_, rfl, h2⟩
  · obtain ⟨_, _, e1, _, _, _, e2, _, _, _, e3, _, e4⟩ := h
    rw [e1, e2, e3, e4]
    simp
  · obtain ⟨_, _, e1, f1, _, _, e2, ⟨x, f2, hx⟩, _, _, e3, ⟨y, f3, hy⟩, e4⟩ := h
    exact ⟨_, rfl, x, y, by rw [e1, e2, e3, e4, f1, f2, f3], by omega, by omega⟩
  obtain ⟨lo, rfl, hlo0, hlo1, hlo2⟩ := hd
  -- high
  refine js_set (Φ := Ip fun k => lo ≤ k ∧ k ≤ caps.sum ∧ k ≤ 999999999999999999999999999999) 3 sc_large.nd ((je_min3P nb.min (N := fun k => k = caps.sum) (M := fun k => k = 1000000000000000000000000000000 - 1) (L := fun k => ∃ i j, i = lo ∧ 0 ≤ j ∧ k = i + j) (JE.ip (sumJ rfl)) (JE.ip (je_sub p30 je_int)) (je_addP (N := fun k => k = lo) (JE.ip (je_var 2)) (M := fun k => 0 ≤ k)
    (je_ofP (L := fun xs => ∃ x y : Int, xs = [.int 0, .int 0, .int 1, .int x, .int y] ∧ 0 ≤ x ∧ 0 ≤ y) c.of hr (by decide) (fun xs ⟨x, y, e, h1, h2⟩ => ⟨by rw [e]; simp, by rw [e]; simp, fun d hd => ?_⟩) (je_var 0) (j_lst (ja_cons (A := Is (.int 0)) je_int (ja_cons (A := Is (.int 0)) je_int (ja_cons (A := Is (.int 1)) je_int (ja_cons (A := Ip fun k => 0 ≤ k) ((je_great c.great hr (by decide) (b := 1000000000000000000000000000000) (by decide) (je_var 0) p30).mono fun d ⟨k, e, h⟩ => ⟨k, e, h.1⟩) (ja_cons (A := Ip fun k => 0 ≤ k) ((je_great c.great hr (by decide) (b := 1000000000000000000000000000000) (by decide) (je_var 0) p30).mono fun d ⟨k, e, h⟩ => ⟨k, e, h.1⟩) ja_nil))))) (fun ds h => ?_) fun ds h => ?_)))).mono fun d ⟨r, e, i, j, k, h1, h2, ⟨i2, j2, h3, h4, h5⟩, h6⟩ => ⟨r, e, by omega⟩) fun d hd => ?_
  · rw [e] at hd
    simp only [List.mem_cons, List.not_mem_nil, or_false] at hd
    rcases hd with rfl | rfl | rfl | rfl | rfl <;> first | exact ⟨_, rfl, by decide⟩ | exact ⟨_, rfl, h1⟩ | exact ⟨_, rfl, h2⟩
  · obtain ⟨_, _, e1, _, _, _, e2, _, _, _, e3, _, _, _, e4, _, _, _, e5, _, e6⟩ := h
    rw [e1, e2, e3, e4, e5, e6]
    simp
  · obtain ⟨_, _, e1, f1, _, _, e2, f2, _, _, e3, f3, _, _, e4, ⟨x, f4, hx⟩, _, _, e5, ⟨y, f5, hy⟩, e6⟩ := h
    exact ⟨_, rfl, x, y, by rw [e1, e2, e3, e4, e5, e6, f1, f2, f3, f4, f5], hx, hy⟩
  obtain ⟨hi, rfl, hlh, hhi1, hhi2⟩ := hd
  have ok := big caps lo hi hne hcl hcap hlo0 hlh hhi1
  have hmin : min hi caps.sum = hi := Int.min_eq_left hhi1
  have num : ∀ l : List Int, numbered (di l) = (List.range l.length).map fun (k : Nat) => .tup [.int k, .int (l.getD k 0)] := fun l => by
    refine List.ext_getElem? fun i => ?_
    rw [numbered_get]
    by_cases h : i < l.length
    · rw [di_get h, List.getElem?_map, List.getElem?_range h]
      rfl
    · rw [List.getElem?_eq_none (by simpa using h), List.getElem?_eq_none (by simpa using h)]
      rfl
  have fr : (numbered (di caps)).filterMap (pairG fun u v => if decide (0 < nOf v) = true then some u else none) = di (freeL caps) := by
    rw [num, List.filterMap_map]
    unfold freeL di
    rw [List.map_map, ← List.filterMap_eq_filter, List.map_filterMap]
    refine fm_congr (fun k => ?_) _
    show (if decide (0 < caps.getD k 0) = true then some (D.int (k : Nat)) else none) = Option.map (D.int ∘ fun (k : Nat) => (k : Int)) (Option.guard (fun k => decide (0 < caps.getD k 0)) k)
    unfold Option.guard
    split <;> rfl
  refine js_asg (act := Two 4 5) (Φ := Is (.tup [.bud caps lo hi, dli (freeL caps)])) (jg_two hK.symm 4 5 sc_large.nd) (je_tup (ja_1 ((je_budget th c.init hr (by decide) ⟨hcap, hne, by omega, hlo0, hlh, by omega⟩ (je_var 1) (je_var 2) (je_var 3)).to (by rw [hmin])) (ja_1 (d := dli (freeL caps)) ?_ ja_nil))) (fun d e => ⟨_, _, _, e, rfl⟩) fun d ρ' hd hA => ?_
  · refine JE.to (d := .list ((numbered (di caps)).filterMap (pairG fun u v => if decide (0 < nOf v) = true then some u else none))) ?_ (congrArg D.list fr)
    refine je_lc sc_large.nd [("_law_key", 11), ("_law_cap", 12)] (blk_by (by kernel_rfl)) ?_
    refine jl_two 11 12 _ (ji_enum hK.symm nb.enumerate (je_var 1)) (by decide) (fun _ _ _ _ _ => wr_two hK.symm 11 12 sc_large.nd) (by rw [numbered_length]; simp; omega) (fun d hd => ?_) (fun u v h _ _ _ _ _ => ?_) fun u v h r hr' _ _ _ _ _ => ?_
    · rw [num] at hd
      obtain ⟨k, _, rfl⟩ := List.mem_map.mp hd
      exact ⟨_, _, rfl⟩
    · rw [num] at h
      obtain ⟨k, _, e⟩ := List.mem_map.mp h
      simp only [D.tup.injEq, List.cons.injEq, and_true] at e
      obtain ⟨rfl, rfl⟩ := e
      exact jf_one (JT.to (jt_gt (je_var 12) je_int) opt_some)
    · obtain rfl := opt_get hr'
      exact je_var 11
  subst hd
  obtain ⟨_, _, ed, rfl⟩ := hA
  cases ed
  have frl : (freeL caps).length ≤ 12 := by
    have := List.length_filter_le (fun k => decide (0 < caps.getD k 0)) (List.range caps.length)
    unfold freeL
    rw [List.length_map]
    rw [List.length_range] at this
    omega
  refine js_set (Φ := Is (.bl (tiedL caps lo hi))) 6 sc_large.nd (je_andI (je_eq (je_var 2) (je_var 3)) (fun e1 => je_andI (k := decide (0 < lo) && decide (lo < caps.sum)) (je_chain op_lt op_lt je_int (je_var 2) (sumJ rfl) od_lt fun _ => od_lt) (fun e2 => je_and1 ((je_gt (i := (((freeL caps).length : Nat) : Int)) (j := 1) (je_len (n := (freeL caps).length) hK.symm (lenD_dli _) nb.len (je_var 5)) je_int).to ?_)) fun e2 => ?_) fun e1 => ?_) fun d e => ?_
  · unfold tiedL
    rw [e1, e2]
    exact congrArg D.bl (decide_eq_decide.mpr (by omega))
  · unfold tiedL
    rw [e2]
    simp
  · unfold tiedL
    rw [e1]
    rfl
  subst e
  have eA : (rng caps.length).filterMap (fun d => if (!tiedL caps lo hi || !decide (nOf d ∈ freeL caps)) = true then some (D.tup [d]) else none) = ((List.range caps.length).filterMap fun (k : Nat) => if tiedL caps lo hi = false ∨ (k : Int) ∉ freeL caps then some [(k : Int)] else none).map dti := by
    rw [rng_filterMap, List.map_filterMap]
    refine fm_congr (fun k => ?_) _
    show (if (!tiedL caps lo hi || !decide ((k : Int) ∈ freeL caps)) = true then some (D.tup [.int k]) else none) = Option.map dti (if tiedL caps lo hi = false ∨ (k : Int) ∉ freeL caps then some [(k : Int)] else none)
    by_cases h : tiedL caps lo hi = false ∨ (k : Int) ∉ freeL caps
    · rw [if_pos h, if_pos (by simpa using h)]
      rfl
    · rw [if_neg h, if_neg (by simpa using h)]
      rfl
  have lenA : ((List.range caps.length).filterMap fun (k : Nat) => if tiedL caps lo hi = false ∨ (k : Int) ∉ freeL caps then some [(k : Int)] else none).length ≤ 12 := Nat.le_trans (filterMap_len _ _) (by rw [List.length_range]; exact hcl)
  have lenB : (if tiedL caps lo hi = true then [freeL caps] else []).length ≤ 1 := by split <;> simp
  have neD : ∀ r ∈ dueL caps lo hi, r ≠ [] := fun r hr => by
    unfold dueL at hr
    rcases List.mem_append.mp hr with h | h
    · obtain ⟨k, _, e⟩ := List.mem_filterMap.mp h
      split at e
      · cases e
        simp
      · cases e
    · split at h
      · rename_i ht
        rw [List.mem_singleton.mp h]
        intro z
        unfold tiedL at ht
        rw [z] at ht
        simp at ht
      · cases h
  refine js_set (Φ := Is (drows (bundles caps lo hi))) 7 sc_large.nd (JE.to (je_sortRows (rs := dueL caps lo hi) hK.symm neD (by unfold dueL; rw [List.length_append]; omega) hu nb.sorted ?_) (by rw [ok.due])) fun d e => ?_
  · unfold dueL drows
    rw [List.map_append]
    refine je_catL (by rw [List.length_map, List.length_map]; omega) ?_ ?_
    · refine JE.to (d := .list ((rng caps.length).filterMap (fun d => if (!tiedL caps lo hi || !decide (nOf d ∈ freeL caps)) = true then some (D.tup [d]) else none))) ?_ (congrArg D.list eA)
      refine je_lc sc_large.nd [("_law_key", 11)] (blk_by (by kernel_rfl)) ?_
      refine jl_filter 11 _ (ji_rangeI nb.range (je_len (n := caps.length) hK.symm (lenD_dli caps) nb.len (je_var 1)) (by omega)) (fun _ _ _ _ _ => wr_name 11 sc_large.nd) (by rw [rng_length]; omega) (fun d hd _ _ _ _ _ => ?_) fun d hd z hz _ _ _ _ _ => ?_
      · obtain ⟨k, rfl, hk⟩ := mem_rng hd
        exact jf_one (JT.to (jt_pw (jw_orI (jt_notI (jt_valI (je_var 6))) fun _ => jw_or1 (jt_notInI hK.symm rfl (je_var 11) (je_var 5)))) opt_some)
      · obtain rfl := opt_get hz
        exact je_tup (ja_1 (je_var 11) ja_nil)
    · refine je_if (β := fun k => k = tiedL caps lo hi) (jt_valI (je_var 6)) (fun e => ?_) fun e => ?_
      · rw [if_pos e.symm]
        exact je_lst (ja_1 (je_callTy call_tuple_of nb.tuple (ja_1 (je_var 5) ja_nil) (ca_tuple rfl)) ja_nil)
      · rw [if_neg (by rw [← e]; simp)]
        exact je_lst ja_nil
  subst e
  refine js_ifRet (β := fun k => k = false) (jt_unlikeS (je_repr hK.symm ok.rp hgd hu nb.repr (je_callI c.bund hr (by decide) (ja_1 (je_var 4) ja_nil) ⟨caps, lo, hi, rfl, by omega⟩ fun o e => e)) (je_repr hK.symm ok.rp hgd hu nb.repr (je_callTy call_tuple_of nb.tuple (ja_1 (je_var 7) ja_nil) (ca_tuple rfl)))) (fun e => ?_) fun _ => ?_
  · cases e
  refine js_asg (act := Two 8 9) (Φ := fun d => ∃ a b, d = .tup [dti a, dti b] ∧ inB caps lo hi a ∧ inB caps lo hi b) (jg_two hK.symm 8 9 sc_large.nd) (j_tup (ja_cons (A := fun d => ∃ a, d = dti a ∧ inB caps lo hi a) (je_call c1 hr (by decide) (ja_1 (je_var 0) (ja_1 (je_var 1) (ja_1 (je_var 2) ja_nil))) (fun ds e => ⟨caps, lo, e, hne, by omega, hcap, hlo0, hlo1⟩) (fun ds d e ho => ?_) (fun ds c n e ho => ?_)) (ja_cons (A := fun d => ∃ a, d = dti a ∧ inB caps lo hi a) (je_call c1 hr (by decide) (ja_1 (je_var 0) (ja_1 (je_var 1) (ja_1 (je_var 3) ja_nil))) (fun ds e => ⟨caps, hi, e, hne, by omega, hcap, by omega, hhi1⟩) (fun ds d e ho => ?_) (fun ds c n e ho => ?_)) ja_nil)) (fun ds ⟨d, r, e1, _, d2, r2, e2, _, e3⟩ => by rw [e1, e2, e3]; simp) (fun ds ⟨d, r, e1, ⟨a, f1, h1⟩, d2, r2, e2, ⟨b, f2, h2⟩, e3⟩ => ⟨a, b, by rw [e1, e2, e3, f1, f2], h1, h2⟩)) (fun d ⟨a, b, e, _⟩ => ⟨_, _, _, e, rfl⟩) fun d ρ' hd hA => ?_
  · obtain ⟨caps', t, r, e1, h1, h2, e2⟩ := ho
    rw [e] at e1
    simp only [List.cons.injEq, D.int.injEq, and_true, true_and] at e1
    obtain ⟨q1, rfl⟩ := e1
    rw [← dliInj q1] at h1
    cases e2
    exact ⟨r, rfl, h1, by omega, by omega⟩
  · obtain ⟨_, _, _, _, _, _, e2⟩ := ho
    cases e2
  · obtain ⟨caps', t, r, e1, h1, h2, e2⟩ := ho
    rw [e] at e1
    simp only [List.cons.injEq, D.int.injEq, and_true, true_and] at e1
    obtain ⟨q1, rfl⟩ := e1
    rw [← dliInj q1] at h1
    cases e2
    exact ⟨r, rfl, h1, by omega, by omega⟩
  · obtain ⟨_, _, _, _, _, _, e2⟩ := ho
    cases e2
  obtain ⟨a, b, rfl, ha, hb⟩ := hd
  obtain ⟨_, _, ed, rfl⟩ := hA
  cases ed
  have hla := ha.1.1
  have hlb := hb.1.1
  have hlog : (hi - lo).natAbs.log2 < 9000 := by
    have h2 : (hi - lo).natAbs < 2 ^ 100 := by omega
    rcases Nat.eq_zero_or_pos (hi - lo).natAbs with h0 | h0
    · rw [h0]; decide
    · rw [Nat.log2_lt (by omega)]
      exact Nat.lt_of_lt_of_le h2 (Nat.pow_le_pow_right (by decide) (by decide))
  refine js_lc 10 sc_large.nd [("_law_key", 11)] (blk_by (by kernel_rfl)) (jl_filter 11 (fun d => if decide (a.getD (nOf d).toNat 0 ≠ b.getD (nOf d).toNat 0) = true then some d else none) (ji_rangeI nb.range (je_len (n := caps.length) hK.symm (lenD_dli caps) nb.len (je_var 1)) (by omega)) (fun _ _ _ _ _ => wr_name 11 sc_large.nd) (by rw [rng_length]; omega) (fun d hd _ _ _ _ _ => ?_) fun d hd z hz _ _ _ _ _ => ?_) (fun d e => ?_) (sw_true rfl rfl rfl (by decide +kernel))
  · obtain ⟨k, rfl, hk⟩ := mem_rng hd
    refine jf_one ((jt_ne (je_ixT (di_get (ns := a) (k := k) (by omega)) (je_var 8) (je_var 11)) (je_ixT (di_get (ns := b) (k := k) (by omega)) (je_var 9) (je_var 11))).to ?_)
    exact ne_some (a.getD k 0) (b.getD k 0) _
  · obtain rfl := opt_get hz
    exact je_var 11
  subst e
  rw [rng_filter (fun k => decide (a.getD k 0 ≠ b.getD k 0)) caps.length]
  have ek : (List.range caps.length).filter (fun k => decide (a.getD k 0 ≠ b.getD k 0)) = keysD a b := by
    unfold keysD
    rw [hla]
  rw [ek]
  refine js_ifRet (β := fun k => k = false) (JT.to (jt_pw (jw_andI (k := decide ((2 : Int) < (((keysD a b).length : Nat) : Int))) (k' := false) (jt_gt (i := (((keysD a b).length : Nat) : Int)) (j := 2) (je_len (n := (keysD a b).length) hK.symm (lenD_keys _) nb.len (je_var 10)) je_int) (fun e => jw_and1 (jt_cmp (A := Is (.tup [.str (tagOf .refused), .int 0])) (C := Is (.tup [.str (tagOf .refused), .int 0])) (op_neD (u64 hu)) (nomark _) (je_refused (k := 6) (Φb := fun _ => False) (Ψ := fun c n => c = .refused ∧ n = 0) c.ro TO (hr.mono (by decide)) (by kernel_rfl) rfl (fun _ _ _ _ _ => rfl) (fun A2 outer2 s2 H2 E2 f2 cc2 hr2 => ?_) (fun _ z => z.elim) (fun c n hcn => ⟨.inr hcn.1, by rw [hcn.1, hcn.2]⟩)) (je_tup (ja_1 je_str (ja_1 je_int ja_nil))) (od_neD (k := true) (x := .tup [.str (tagOf .refused), .int 0]) (y := .tup [.str (tagOf .refused), .int 0]) hK.symm (ok_told _ _ (.inr rfl)) (ok_told _ _ (.inr rfl)) (by decide)).bp)))) (by simp)) (fun e => ?_) fun _ => ?_
  · have h2 : 2 < (keysD a b).length := by
      have : (2 : Int) < (((keysD a b).length : Nat) : Int) := of_decide_eq_true e
      omega
    have eR : neededOu lo hi a b = .exc .refused 0 := if_pos h2
    have two : twoRows (fun _ lo hi a b => neededOu lo hi a b) [.bud caps lo hi, dti a, dti b] = .exc .refused 0 := (two_in (rowOf_t ha) (rowOf_t hb)).trans eR
    refine jx_call (CX := L2.CX P w) c.need hr2 (Nat.le_refl _) (passes_call (takes_of rfl rfl rfl rfl) fun _ _ _ _ h => h) (ja_1 (je_var 4) (ja_1 (je_var 8) (ja_1 (je_var 9) ja_nil))) (fun ds e => e ▸ ⟨caps, lo, hi, _, _, rfl, by omega, hlog, (small_row a (by omega)).1, (small_row b (by omega)).1⟩) (fun ds d e ho => ?_) fun ds c n e ho => ?_
    · subst e
      have ho : Ou.ret d = twoRows _ _ := ho
      rw [two] at ho
      cases ho
    · subst e
      have ho : Ou.exc c n = twoRows _ _ := ho
      rw [two] at ho
      cases ho
      exact ⟨rfl, rfl⟩
  · cases e
  refine js_ifRet (β := fun k => k = false) (jt_pw (jw_orI (k := false) (k' := false) (jt_notI (k := true) (jt_valI (je_callG c.walk hgd hr (by decide) (ja_1 (je_var 4) (ja_1 (je_var 2) (ja_1 (je_var 3) (ja_1 (je_var 8) (ja_1 (je_var 9) (ja_1 je_bl ja_nil)))))) (fun ds e => ⟨caps, lo, hi, a, b, false, e, by omega, ha, hb, fun z => by cases z⟩) (fun ds d e ho => by cases ho; rfl) fun ds c n e ho => by cases ho))) fun _ => jw_or1 (jt_notI (k := true) (jt_valI (je_callG c.walk hgd hr (by decide) (ja_1 (je_var 4) (ja_1 (je_var 2) (ja_1 (je_var 3) (ja_1 (je_var 9) (ja_1 (je_var 8) (ja_1 je_bl ja_nil)))))) (fun ds e => ⟨caps, lo, hi, b, a, false, e, by omega, hb, ha, fun z => by cases z⟩) (fun ds d e ho => by cases ho; rfl) fun ds c n e ho => by cases ho))))) (fun e => ?_) fun _ => ?_
  · cases e
  exact js_ret (Φ := Is (.bl true)) (je_callG c.bad hgd hr (by decide) (ja_1 (je_var 0) (ja_1 (je_var 4) (ja_1 (je_var 8) (ja_1 (je_var 9) ja_nil)))) (fun ds e => ⟨caps, lo, hi, a, b, e, hne, by omega, ha, hb, hlog⟩) (fun ds d e ho => by cases ho; rfl) fun ds c n e ho => by cases ho) fun d e => by rw [e]; rfl
end
end B
set_option Elab.async false
set_option autoImplicit false
set_option linter.all false
set_option maxRecDepth 100000
set_option maxHeartbeats 2000000
/-! the rows of a small budget, one and all. -/
namespace B
open PySem PySem.Spec
theorem below_cons {c v : Int} {caps q : List Int} : belowL (c :: caps) (v :: q) ↔ (0 ≤ v ∧ v ≤ c) ∧ belowL caps q := by
  unfold belowL
  constructor
  · rintro ⟨h1, h2⟩
    exact ⟨by simpa using h2 0, by simpa using h1, fun k => by simpa using h2 (k + 1)⟩
  · rintro ⟨h0, h1, h2⟩
    refine ⟨by simp [h1], fun k => ?_⟩
    cases k with
    | zero => simpa using h0
    | succ k => simpa using h2 k
theorem below_nil {q : List Int} : belowL [] q ↔ q = [] := by
  unfold belowL
  constructor
  · rintro ⟨h, _⟩
    exact List.length_eq_zero_iff.mp h
  · rintro rfl
    exact ⟨rfl, fun k => by simp⟩
theorem below_sum {caps q : List Int} (h : belowL caps q) : 0 ≤ q.sum := by
  refine sum_nonneg fun x hx => ?_
  obtain ⟨k, hk, rfl⟩ := List.getElem_of_mem hx
  have := (h.2 k).1
  rw [List.getD_eq_getElem?_getD, List.getElem?_eq_getElem hk] at this
  exact this
theorem mem_ext {hi c : Int} {p r : List Int} : r ∈ extR hi c p ↔ ∃ v : Int, (0 ≤ v ∧ v ≤ c) ∧ p.sum + v ≤ hi ∧ r = p ++ [v] := by
  unfold extR
  rw [List.mem_filterMap]
  constructor
  · rintro ⟨k, hk, e⟩
    have hk := List.mem_range.mp hk
    split at e
    · cases e
      exact ⟨k, ⟨by omega, by omega⟩, by assumption, rfl⟩
    · cases e
  · rintro ⟨v, ⟨h1, h2⟩, h3, rfl⟩
    refine ⟨v.toNat, List.mem_range.mpr (by omega), ?_⟩
    rw [Int.toNat_of_nonneg h1, if_pos h3]
theorem mem_rowsF {hi : Int} : ∀ (caps : List Int) (f : List (List Int)) (r : List Int), r ∈ caps.foldl (rowsStep hi) f ↔ ∃ p ∈ f, ∃ q, r = p ++ q ∧ belowL caps q ∧ (caps = [] ∨ p.sum + q.sum ≤ hi)
  | [], f, r => by
    simp only [List.foldl_nil]
    constructor
    · intro h
      exact ⟨r, h, [], by simp, below_nil.mpr rfl, .inl trivial⟩
    · rintro ⟨p, hp, q, rfl, hq, _⟩
      rw [below_nil.mp hq, List.append_nil]
      exact hp
  | c :: caps, f, r => by
    rw [List.foldl_cons, mem_rowsF caps]
    unfold rowsStep
    constructor
    · rintro ⟨p', hp', q', rfl, hq', hs⟩
      obtain ⟨p, hp, hx⟩ := List.mem_flatMap.mp hp'
      obtain ⟨v, hv, hv2, rfl⟩ := mem_ext.mp hx
      refine ⟨p, hp, v :: q', by simp, below_cons.mpr ⟨hv, hq'⟩, .inr ?_⟩
      rw [List.sum_cons]
      rcases hs with rfl | hs
      · rw [below_nil.mp hq']
        simpa using hv2
      · rw [List.sum_append] at hs
        simp at hs
        omega
    · rintro ⟨p, hp, q, rfl, hq, hs⟩
      cases q with
      | nil => cases hq.1
      | cons v q' =>
        obtain ⟨hv, hq'⟩ := below_cons.mp hq
        have hn := below_sum hq'
        have hs : p.sum + (v :: q').sum ≤ hi := hs.resolve_left (by simp)
        rw [List.sum_cons] at hs
        refine ⟨p ++ [v], List.mem_flatMap.mpr ⟨p, hp, mem_ext.mpr ⟨v, hv, by omega, rfl⟩⟩, q', by simp, hq', .inr ?_⟩
        rw [List.sum_append]
        simp
        omega
theorem mem_rows {caps : List Int} {lo hi : Int} (hne : caps ≠ []) {r : List Int} : r ∈ rowsL caps lo hi ↔ inB caps lo hi r := by
  unfold rowsL rowsF
  rw [List.mem_filter, mem_rowsF]
  constructor
  · rintro ⟨⟨p, hp, q, rfl, hq, hs⟩, hl⟩
    rw [List.mem_singleton.mp hp] at hs hl ⊢
    have hs := hs.resolve_left hne
    simp only [List.nil_append, List.sum_nil, Int.zero_add, decide_eq_true_eq] at hs hl ⊢
    exact ⟨hq, hl, hs⟩
  · rintro ⟨hq, hl, hs⟩
    exact ⟨⟨[], List.mem_singleton.mpr rfl, r, rfl, hq, .inr (by simpa using hs)⟩, by simpa using hl⟩
/-- between bounds every sum is met -/
theorem fill : ∀ {l u : List Int} {t : Int}, l.length = u.length → (∀ k, l.getD k 0 ≤ u.getD k 0) → l.sum ≤ t → t ≤ u.sum → ∃ r : List Int, r.length = l.length ∧ (∀ k, l.getD k 0 ≤ r.getD k 0 ∧ r.getD k 0 ≤ u.getD k 0) ∧ r.sum = t
  | [], [], t, _, _, h1, h2 => ⟨[], rfl, fun k => by simp, by simp at h1 h2 ⊢; omega⟩
  | [], _ :: _, _, h, _, _, _ => by simp at h
  | _ :: _, [], _, h, _, _, _ => by simp at h
  | x :: l, y :: u, t, h, k, h1, h2 => by
    have hxy : x ≤ y := by simpa using k 0
    have kt : ∀ i, l.getD i 0 ≤ u.getD i 0 := fun i => by simpa using k (i + 1)
    have hlu : l.sum ≤ u.sum := (sum_le_at (a := u) (b := l) (by simpa using h.symm) kt).1
    rw [List.sum_cons] at h1 h2
    -- the first takes what the rest cannot
    obtain ⟨r, r1, r2, r3⟩ := fill (l := l) (u := u) (t := t - min y (t - l.sum)) (by simpa using h) kt (by omega) (by omega)
    refine ⟨min y (t - l.sum) :: r, by simp [r1], fun i => ?_, by rw [List.sum_cons, r3]; omega⟩
    cases i with
    | zero => simp only [List.getD_cons_zero]; omega
    | succ i => simpa using r2 i
end B
set_option Elab.async false
set_option autoImplicit false
set_option linter.all false
set_option maxRecDepth 100000
set_option maxHeartbeats 2000000
/-! the search's rounds, as sets. -/
namespace B
open PySem PySem.Spec
section
variable {rows : List (List Int)} {a b : List Int}
def Reach (rows : List (List Int)) (a b : List Int) : Nat → List Int → Prop
  | 0, r => r = a
  | m + 1, r => Reach rows a b m r ∨ ((r ∈ rows ∧ leftP a b r = true) ∧ ∃ s, Reach rows a b m s ∧ (keysD r s).length = 1)
theorem Reach.up {m : Nat} {r : List Int} (h : Reach rows a b m r) : ∀ k, Reach rows a b (m + k) r
  | 0 => h
  | k + 1 => .inl (Reach.up h k)
theorem Reach.le {m n : Nat} {r : List Int} (h : Reach rows a b m r) (hn : m ≤ n) : Reach rows a b n r := by
  have := h.up (n - m)
  rwa [show m + (n - m) = n by omega] at this
theorem Reach.stop {m : Nat} (h : ∀ r, Reach rows a b (m + 1) r → Reach rows a b m r) : ∀ (k : Nat) (r : List Int), Reach rows a b (m + k) r → Reach rows a b m r
  | 0, r, z => z
  | k + 1, r, z => by
    rcases z with z | ⟨hr, s, hs, hk⟩
    · exact Reach.stop h k r z
    · exact h r (.inr ⟨hr, s, Reach.stop h k s hs, hk⟩)
structure Round (rows : List (List Int)) (a b : List Int) (m : Nat) (st : List (List Int) × List (List Int)) : Prop where
  left : ∀ r, r ∈ st.1 ↔ (r ∈ rows ∧ leftP a b r = true) ∧ ¬ Reach rows a b m r
  found : ∀ r, r ∈ st.2 ↔ Reach rows a b m r ∧ ∀ j < m, ¬ Reach rows a b j r
theorem near_iff {found : List (List Int)} {r : List Int} : nearP found r = true ↔ ∃ s ∈ found, (keysD r s).length = 1 := by
  unfold nearP
  rw [List.any_eq_true]
  simp only [decide_eq_true_eq]
theorem Round.next {m : Nat} {st : List (List Int) × List (List Int)} (h : Round rows a b m st) : Round rows a b (m + 1) (fewStep st) := by
  have nf : ∀ r, r ∈ st.1.filter (nearP st.2) ↔ Reach rows a b (m + 1) r ∧ ∀ j < m + 1, ¬ Reach rows a b j r := fun r => by
    rw [List.mem_filter, h.left, near_iff]
    constructor
    · rintro ⟨⟨hr, hn⟩, s, hs, hk⟩
      exact ⟨.inr ⟨hr, s, ((h.found s).mp hs).1, hk⟩, fun j hj z => hn (z.le (by omega))⟩
    · rintro ⟨hr, hn⟩
      have hm := hn m (Nat.lt_succ_self m)
      rcases hr with z | ⟨hr, s, hs, hk⟩
      · exact absurd z hm
      · refine ⟨⟨hr, hm⟩, s, (h.found s).mpr ⟨hs, fun j hj z => ?_⟩, hk⟩
        have : Reach rows a b (j + 1) r := .inr ⟨hr, s, z, hk⟩
        exact hm (this.le (by omega))
  refine ⟨fun r => ?_, nf⟩
  unfold fewStep
  rw [List.mem_filter]
  have e : (!decide (r ∈ st.1.filter (nearP st.2))) = true ↔ ¬ r ∈ st.1.filter (nearP st.2) := by
    rw [Bool.not_eq_true', decide_eq_false_iff_not]
  rw [e, h.left, nf]
  constructor
  · rintro ⟨⟨hr, hm⟩, hn⟩
    exact ⟨hr, fun z => hn ⟨z, fun j hj y => hm (y.le (by omega))⟩⟩
  · rintro ⟨hr, hn⟩
    exact ⟨⟨hr, fun z => hn (.inl z)⟩, fun z => hn z.1⟩
theorem round_0 : Round rows a b 0 (rows.filter (leftP a b), [a]) where
  left := fun r => by
    rw [List.mem_filter]
    constructor
    · rintro ⟨h1, h2⟩
      refine ⟨⟨h1, h2⟩, fun z => ?_⟩
      have z : r = a := z
      unfold leftP at h2
      rw [z] at h2
      simp at h2
    · rintro ⟨h, _⟩
      exact h
  found := fun r => by
    rw [List.mem_singleton]
    exact ⟨fun h => ⟨h, fun j hj => absurd hj (Nat.not_lt_zero j)⟩, fun h => h.1⟩
theorem few_loop {M : Nat} (hM : Reach rows a b M b) (hmin : ∀ j < M, ¬ Reach rows a b j b) : ∀ (n m : Nat) (st : List (List Int) × List (List Int)), Round rows a b m st → m ≤ M → st.1.length + m ≤ rows.length → n + m = rows.length + 1 → fewLoop b n st m = some M
  | 0, m, st, _, _, h1, h2 => by omega
  | n + 1, m, st, rd, hm, h1, h2 => by
    unfold fewLoop
    by_cases e : m = M
    · subst e
      rw [if_pos ((rd.found b).mpr ⟨hM, hmin⟩)]
    · have hlt : m < M := by omega
      have nb : ¬ b ∈ st.2 := fun z => hmin m hlt ((rd.found b).mp z).1
      rw [if_neg nb]
      refine few_loop hM hmin n (m + 1) (fewStep st) rd.next (by omega) ?_ (by omega)
      -- a row is found in this round
      have ex : ∃ r, Reach rows a b (m + 1) r ∧ ¬ Reach rows a b m r := by
        refine Classical.byContradiction fun hno => hmin m hlt ?_
        have st' : ∀ r, Reach rows a b (m + 1) r → Reach rows a b m r := fun r hr => Classical.byContradiction fun z => hno ⟨r, hr, z⟩
        have := Reach.stop st' (M - m) b
        rw [show m + (M - m) = M by omega] at this
        exact this hM
      obtain ⟨r, hr, hn⟩ := ex
      have hr1 : r ∈ st.1 := (rd.left r).mpr ⟨by
        rcases hr with z | ⟨z, _⟩
        · exact absurd z hn
        · exact z, hn⟩
      have hr2 : ¬ r ∈ (fewStep st).1 := fun z => ((rd.next.left r).mp z).2 hr
      have hlen : (fewStep st).1.length < st.1.length := by
        unfold fewStep at hr2 ⊢
        refine Nat.lt_of_le_of_ne (List.length_filter_le _ _) fun z => hr2 ?_
        have all := (List.length_filter_eq_length_iff).mp z
        exact List.mem_filter.mpr ⟨hr1, all r hr1⟩
      omega
theorem few_some {M : Nat} (hM : Reach rows a b M b) (hmin : ∀ j < M, ¬ Reach rows a b j b) : fewest rows a b = some M :=
  few_loop hM hmin (rows.length + 1) 0 _ round_0 (Nat.zero_le _) (List.length_filter_le _ _) rfl
theorem none_loop (h : ∀ m, ¬ Reach rows a b m b) : ∀ (n m : Nat) (st : List (List Int) × List (List Int)), Round rows a b m st → fewLoop b n st m = none
  | 0, _, _, _ => rfl
  | n + 1, m, st, rd => by
    unfold fewLoop
    rw [if_neg fun z => h m ((rd.found b).mp z).1]
    exact none_loop h n (m + 1) _ rd.next
theorem few_none (h : ∀ m, ¬ Reach rows a b m b) : fewest rows a b = none := none_loop h _ 0 _ round_0
end
end B
set_option Elab.async false
set_option autoImplicit false
set_option linter.all false
set_option maxRecDepth 100000
set_option maxHeartbeats 2000000
/-! two keys alone: which pairs are reached in how many changes. -/
namespace B
open PySem PySem.Spec
/-- pairs reached within m changes; x0, y0 the start, cx, cy the caps, up, dn how far the sum may go -/
def Pr (x0 y0 cx cy up dn : Int) : Nat → Int → Int → Prop
  | 0, x, y => x = x0 ∧ y = y0
  | m + 1, x, y => Pr x0 y0 cx cy up dn m x y ∨ ((0 ≤ x ∧ x ≤ cx ∧ 0 ≤ y ∧ y ≤ cy ∧ (x - x0) + (y - y0) ≤ up ∧ -dn ≤ (x - x0) + (y - y0)) ∧ ∃ x' y', Pr x0 y0 cx cy up dn m x' y' ∧ ((x' ≠ x ∧ y' = y) ∨ (x' = x ∧ y' ≠ y)))
theorem Pr.swap {x0 y0 cx cy up dn : Int} : ∀ {m : Nat} {x y : Int}, Pr x0 y0 cx cy up dn m x y → Pr y0 x0 cy cx up dn m y x
  | 0, x, y, h => ⟨h.2, h.1⟩
  | m + 1, x, y, h => by
    rcases h with h | ⟨⟨h1, h2, h3, h4, h5, h6⟩, x', y', hp, hk⟩
    · exact .inl (Pr.swap h)
    · exact .inr ⟨⟨h3, h4, h1, h2, by omega, by omega⟩, y', x', Pr.swap hp, hk.elim (fun z => .inr ⟨z.2, z.1⟩) fun z => .inl ⟨z.2, z.1⟩⟩
/-- how far the one may be up, the other down -/
def aS (up dn : Int) : Nat → Int
  | 0 => 0
  | k + 1 => aS dn up k + up
theorem aS_nn {up dn : Int} (hu : 0 ≤ up) (hd : 0 ≤ dn) : ∀ k, 0 ≤ aS up dn k ∧ 0 ≤ aS dn up k
  | 0 => ⟨Int.le_refl _, Int.le_refl _⟩
  | k + 1 => by
    have := aS_nn hu hd k
    simp only [aS]
    omega
theorem aS_up {up dn : Int} (hu : 0 ≤ up) (hd : 0 ≤ dn) : ∀ k, aS up dn k ≤ aS up dn (k + 1) ∧ aS dn up k ≤ aS dn up (k + 1)
  | 0 => by simp only [aS]; omega
  | k + 1 => by
    have := aS_up hu hd k
    simp only [aS] at this ⊢
    omega
theorem aS_even {up dn : Int} : ∀ n : Nat, aS up dn (2 * n) = n * (up + dn) ∧ aS up dn (2 * n + 1) = n * (up + dn) + up ∧ aS dn up (2 * n) = n * (up + dn) ∧ aS dn up (2 * n + 1) = n * (up + dn) + dn
  | 0 => by simp [aS]
  | n + 1 => by
    obtain ⟨h1, h2, h3, h4⟩ := aS_even (up := up) (dn := dn) n
    have e : ((n + 1 : Nat) : Int) * (up + dn) = n * (up + dn) + (up + dn) := by
      rw [Int.natCast_add, Int.add_mul]
      simp
    rw [e]
    have s1 : aS up dn (2 * (n + 1)) = aS dn up (2 * n + 1) + up := rfl
    have s2 : aS dn up (2 * (n + 1)) = aS up dn (2 * n + 1) + dn := rfl
    have s3 : aS up dn (2 * (n + 1) + 1) = aS dn up (2 * (n + 1)) + up := rfl
    have s4 : aS dn up (2 * (n + 1) + 1) = aS up dn (2 * (n + 1)) + dn := rfl
    omega
section
variable {x0 y0 cx cy up dn X Y : Int}
theorem pr_low (hu : 0 ≤ up) (hd : 0 ≤ dn) : ∀ (m : Nat) {x y : Int}, Pr x0 y0 cx cy up dn m x y → x - x0 ≤ aS up dn m ∧ y0 - y ≤ aS dn up m
  | 0, x, y, h => by
    obtain ⟨rfl, rfl⟩ := h
    simp [aS]
  | m + 1, x, y, h => by
    have a1 := aS_up hu hd m
    rcases h with h | ⟨⟨h1, h2, h3, h4, h5, h6⟩, x', y', hp, hk⟩
    · have := pr_low hu hd m h
      omega
    · have ih := pr_low hu hd m hp
      simp only [aS] at a1 ⊢
      rcases hk with ⟨_, rfl⟩ | ⟨rfl, _⟩ <;> omega
/-- the last change wants one of the two in place -/
theorem pr_last (hu : 0 ≤ up) (hd : 0 ≤ dn) (hX : X ≠ x0) : ∀ (m : Nat), Pr x0 y0 cx cy up dn m X Y → ∃ k < m, X - x0 ≤ aS up dn k ∨ y0 - Y ≤ aS dn up k
  | 0, h => absurd h.1 hX
  | m + 1, h => by
    rcases h with h | ⟨_, x', y', hp, hk⟩
    · obtain ⟨k, hk, z⟩ := pr_last hu hd hX m h
      exact ⟨k, by omega, z⟩
    · have := pr_low hu hd m hp
      refine ⟨m, Nat.lt_succ_self m, ?_⟩
      rcases hk with ⟨_, rfl⟩ | ⟨rfl, _⟩
      · exact .inr this.2
      · exact .inl this.1
theorem pr_move {m : Nat} {x y x' y' : Int} (h : Pr x0 y0 cx cy up dn m x' y') (ok : 0 ≤ x ∧ x ≤ cx ∧ 0 ≤ y ∧ y ≤ cy ∧ (x - x0) + (y - y0) ≤ up ∧ -dn ≤ (x - x0) + (y - y0)) (hk : y' = y ∨ x' = x) : Pr x0 y0 cx cy up dn (m + 1) x y := by
  by_cases e1 : x' = x
  · by_cases e2 : y' = y
    · subst e1 e2
      exact .inl h
    · exact .inr ⟨ok, x', y', h, .inr ⟨e1, e2⟩⟩
  · exact .inr ⟨ok, x', y', h, .inl ⟨e1, hk.resolve_right e1⟩⟩
/-- the farthest pairs on the way to X, Y -/
theorem pr_far (hu : 0 ≤ up) (hd : 0 ≤ dn) (hx : 0 ≤ x0 ∧ x0 ≤ X ∧ X ≤ cx) (hy : 0 ≤ Y ∧ Y ≤ y0 ∧ y0 ≤ cy) (hw : (X - x0) + (Y - y0) ≤ up ∧ -dn ≤ (X - x0) + (Y - y0)) : ∀ k : Nat,
    (∃ u, 0 ≤ u ∧ u ≤ X - x0 ∧ Pr x0 y0 cx cy up dn k (x0 + u) (y0 - min (y0 - Y) (aS dn up k))) ∧ ∃ v, 0 ≤ v ∧ v ≤ y0 - Y ∧ Pr x0 y0 cx cy up dn k (x0 + min (X - x0) (aS up dn k)) (y0 - v)
  | 0 => by
    refine ⟨⟨0, Int.le_refl _, by omega, ?_⟩, 0, Int.le_refl _, by omega, ?_⟩
    · exact ⟨by omega, by simp only [aS]; omega⟩
    · exact ⟨by simp only [aS]; omega, by omega⟩
  | k + 1 => by
    obtain ⟨⟨u, u0, u1, pu⟩, v, v0, v1, pv⟩ := pr_far hu hd hx hy hw k
    have nn := aS_nn hu hd k
    refine ⟨⟨min (X - x0) (aS up dn k), by omega, by omega, pr_move pv ?_ (.inr rfl)⟩, min (y0 - Y) (aS dn up k), by omega, by omega, pr_move pu ?_ (.inl rfl)⟩
    · simp only [aS]
      omega
    · simp only [aS]
      omega
theorem pr_end (hu : 0 ≤ up) (hd : 0 ≤ dn) (hx : 0 ≤ x0 ∧ x0 ≤ X ∧ X ≤ cx) (hy : 0 ≤ Y ∧ Y ≤ y0 ∧ y0 ≤ cy) (hw : (X - x0) + (Y - y0) ≤ up ∧ -dn ≤ (X - x0) + (Y - y0)) {k : Nat} (h : X - x0 ≤ aS up dn k ∨ y0 - Y ≤ aS dn up k) : Pr x0 y0 cx cy up dn (k + 1) X Y := by
  obtain ⟨⟨u, u0, u1, pu⟩, v, v0, v1, pv⟩ := pr_far hu hd hx hy hw k
  rcases h with h | h
  · exact pr_move pv (by omega) (.inr (by omega))
  · exact pr_move pu (by omega) (.inl (by omega))
end
end B
set_option Elab.async false
set_option autoImplicit false
set_option linter.all false
set_option maxRecDepth 100000
set_option maxHeartbeats 2000000
/-! the formula's value: the least number of changes. -/
namespace B
open PySem PySem.Spec
section
variable {up dn r f : Int}
/-- after k changes one of the two can be in place -/
def Cnd (up dn r f : Int) (k : Nat) : Prop := r ≤ aS up dn k ∨ f ≤ aS dn up k
def listD (up dn r f : Int) : List Int := (if 0 < up then [min (2 * (1 + partsOf (r - up) (up + dn))) (2 * partsOf f (up + dn) + 1)] else []) ++ (if 0 < dn then [min (2 * (1 + partsOf (f - dn) (up + dn))) (2 * partsOf r (up + dn) + 1)] else [])
theorem cnd_cases {k : Nat} (h : Cnd up dn r f k) : ∃ n : Nat, (k = 2 * n ∧ (r ≤ n * (up + dn) ∨ f ≤ n * (up + dn))) ∨ (k = 2 * n + 1 ∧ (r ≤ n * (up + dn) + up ∨ f ≤ n * (up + dn) + dn)) := by
  obtain ⟨n, hn⟩ : ∃ n, k = 2 * n ∨ k = 2 * n + 1 := ⟨k / 2, by omega⟩
  obtain ⟨h1, h2, h3, h4⟩ := aS_even (up := up) (dn := dn) n
  refine ⟨n, ?_⟩
  rcases hn with rfl | rfl
  · refine .inl ⟨rfl, ?_⟩
    unfold Cnd at h
    rw [h1, h3] at h
    exact h
  · refine .inr ⟨rfl, ?_⟩
    unfold Cnd at h
    rw [h2, h4] at h
    exact h
theorem cnd_even {n : Nat} (h : r ≤ n * (up + dn) ∨ f ≤ n * (up + dn)) : Cnd up dn r f (2 * n) := by
  obtain ⟨h1, h2, h3, h4⟩ := aS_even (up := up) (dn := dn) n
  unfold Cnd
  rw [h1, h3]
  exact h
theorem cnd_odd {n : Nat} (h : r ≤ n * (up + dn) + up ∨ f ≤ n * (up + dn) + dn) : Cnd up dn r f (2 * n + 1) := by
  obtain ⟨h1, h2, h3, h4⟩ := aS_even (up := up) (dn := dn) n
  unfold Cnd
  rw [h2, h4]
  exact h
theorem parts_nat {z S : Int} (hS : 0 < S) : ∃ n : Nat, partsOf z S = n ∧ z ≤ n * S ∧ ∀ k : Nat, z ≤ k * S → n ≤ k := by
  obtain ⟨h1, h2⟩ := (parts_le (z := z) (k := partsOf z S) hS).mp (Int.le_refl _)
  refine ⟨(partsOf z S).toNat, by omega, by rw [Int.toNat_of_nonneg h2]; exact h1, fun k hk => ?_⟩
  have := (parts_le (z := z) (k := (k : Int)) hS).mpr ⟨hk, by omega⟩
  omega
/-- each term is one more than a number of changes that is enough -/
theorem term_ok (hu : 0 ≤ up) (hd : 0 ≤ dn) (hS : 0 < up + dn) : ∀ x ∈ listD up dn r f, ∃ k : Nat, x = k + 1 ∧ Cnd up dn r f k := by
  obtain ⟨n1, e1, a1, _⟩ := parts_nat (z := r - up) hS
  obtain ⟨n2, e2, a2, _⟩ := parts_nat (z := f) hS
  obtain ⟨n3, e3, a3, _⟩ := parts_nat (z := f - dn) hS
  obtain ⟨n4, e4, a4, _⟩ := parts_nat (z := r) hS
  have c1 : Cnd up dn r f (2 * n1 + 1) := cnd_odd (.inl (by omega))
  have c2 : Cnd up dn r f (2 * n2) := cnd_even (.inr a2)
  have c3 : Cnd up dn r f (2 * n3 + 1) := cnd_odd (.inr (by omega))
  have c4 : Cnd up dn r f (2 * n4) := cnd_even (.inl a4)
  intro x hx
  unfold listD at hx
  rw [e1, e2, e3, e4] at hx
  rcases List.mem_append.mp hx with h | h
  · split at h
    · have hx := List.mem_singleton.mp h
      rcases Int.le_total (2 * (1 + (n1 : Int))) (2 * (n2 : Int) + 1) with q | q
      · exact ⟨2 * n1 + 1, by omega, c1⟩
      · exact ⟨2 * n2, by omega, c2⟩
    · cases h
  · split at h
    · have hx := List.mem_singleton.mp h
      rcases Int.le_total (2 * (1 + (n3 : Int))) (2 * (n4 : Int) + 1) with q | q
      · exact ⟨2 * n3 + 1, by omega, c3⟩
      · exact ⟨2 * n4, by omega, c4⟩
    · cases h
/-- and no number that is enough is below all of them -/
theorem term_low (hu : 0 ≤ up) (hd : 0 ≤ dn) (hS : 0 < up + dn) (hr : 0 < r) (hf : 0 < f) {k : Nat} (h : Cnd up dn r f k) : ∃ x ∈ listD up dn r f, x ≤ k + 1 := by
  obtain ⟨n1, e1, _, b1⟩ := parts_nat (z := r - up) hS
  obtain ⟨n2, e2, _, b2⟩ := parts_nat (z := f) hS
  obtain ⟨n3, e3, _, b3⟩ := parts_nat (z := f - dn) hS
  obtain ⟨n4, e4, _, b4⟩ := parts_nat (z := r) hS
  have eU : 0 < up → min (2 * (1 + (n1 : Int))) (2 * (n2 : Int) + 1) ∈ listD up dn r f := fun z => by
    unfold listD
    rw [e1, e2, if_pos z]
    exact List.mem_append_left _ List.mem_cons_self
  have eD : 0 < dn → min (2 * (1 + (n3 : Int))) (2 * (n4 : Int) + 1) ∈ listD up dn r f := fun z => by
    unfold listD
    rw [e3, e4, if_pos z]
    exact List.mem_append_right _ List.mem_cons_self
  have less : ∀ {z : Int} {n : Nat}, 0 < z → z ≤ n * (up + dn) → ∃ j : Nat, n = j + 1 ∧ z - (up + dn) ≤ j * (up + dn) := fun {z n} hz hn => by
    cases n with
    | zero => simp at hn; omega
    | succ j =>
      refine ⟨j, rfl, ?_⟩
      rw [Int.natCast_add, Int.add_mul] at hn
      simp at hn
      omega
  obtain ⟨n, hk⟩ := cnd_cases h
  rcases hk with ⟨rfl, h | h⟩ | ⟨rfl, h | h⟩
  · by_cases z : 0 < dn
    · exact ⟨_, eD z, by have := b4 n h; omega⟩
    · obtain ⟨j, rfl, hj⟩ := less hr h
      exact ⟨_, eU (by omega), by have := b1 j (by rw [show dn = 0 by omega] at hj ⊢; omega); omega⟩
  · by_cases z : 0 < up
    · exact ⟨_, eU z, by have := b2 n h; omega⟩
    · obtain ⟨j, rfl, hj⟩ := less hf h
      exact ⟨_, eD (by omega), by have := b3 j (by rw [show up = 0 by omega] at hj ⊢; omega); omega⟩
  · by_cases z : 0 < up
    · exact ⟨_, eU z, by have := b1 n (by omega); omega⟩
    · exact ⟨_, eD (by omega), by have := b4 n (by omega); omega⟩
  · by_cases z : 0 < dn
    · exact ⟨_, eD z, by have := b3 n (by omega); omega⟩
    · exact ⟨_, eU (by omega), by have := b2 n (by omega); omega⟩
theorem list_zero (hu : 0 ≤ up) (hd : 0 ≤ dn) (hS : up + dn = 0) : listD up dn r f = [] := by
  unfold listD
  rw [if_neg (by omega), if_neg (by omega)]
  rfl
theorem cnd_zero (hu : 0 ≤ up) (hd : 0 ≤ dn) (hS : up + dn = 0) (hr : 0 < r) (hf : 0 < f) (k : Nat) : ¬ Cnd up dn r f k := fun h => by
  obtain ⟨n, hk⟩ := cnd_cases h
  rw [hS] at hk
  simp at hk
  omega
/-- the least of the terms -/
theorem least_cnd (hu : 0 ≤ up) (hd : 0 ≤ dn) (hS : 0 < up + dn) (hr : 0 < r) (hf : 0 < f) : ∃ k : Nat, leastD (listD up dn r f) = .int (k + 1 : Nat) ∧ Cnd up dn r f k ∧ ∀ j < k, ¬ Cnd up dn r f j := by
  have ne : listD up dn r f ≠ [] := fun z => by
    unfold listD at z
    by_cases h : 0 < up
    · rw [if_pos h] at z; simp at z
    · rw [if_pos (show 0 < dn by omega)] at z; simp at z
  match e : listD up dn r f, ne with
  | x :: xs, _ =>
    obtain ⟨h1, h2⟩ := least_mem xs x
    obtain ⟨k, hk, hc⟩ := term_ok hu hd hS (xs.foldl min x) (by rw [e]; exact h1)
    refine ⟨k, ?_, hc, fun j hj z => ?_⟩
    · show D.int (xs.foldl min x) = _
      rw [hk]
      rfl
    · obtain ⟨y, hy, hl⟩ := term_low hu hd hS hr hf z
      rw [e] at hy
      have := h2 y hy
      omega
end
end B
set_option Elab.async false
set_option autoImplicit false
set_option linter.all false
set_option maxRecDepth 100000
set_option maxHeartbeats 2000000
/-! two keys of a row: the search's rounds as pairs. -/
namespace B
open PySem PySem.Spec
theorem filter_two {p : Nat → Bool} {i j : Nat} (hij : i < j) : ∀ n : Nat, (∀ k < n, p k = true → k = i ∨ k = j) → (List.range n).filter p = (if i < n ∧ p i = true then [i] else []) ++ (if j < n ∧ p j = true then [j] else [])
  | 0, _ => by simp
  | n + 1, h => by
    rw [List.range_succ, List.filter_append, filter_two hij n fun k hk => h k (by omega)]
    by_cases e1 : n = i
    · subst e1
      rw [if_neg (show ¬ (n < n ∧ p n = true) by omega), if_neg (show ¬ (j < n ∧ p j = true) by omega), if_neg (show ¬ (j < n + 1 ∧ p j = true) by omega)]
      cases hp : p n <;> simp [hp]
    · by_cases e2 : n = j
      · subst e2
        rw [if_neg (show ¬ (n < n ∧ p n = true) by omega)]
        have : (i < n + 1 ∧ p i = true) ↔ (i < n ∧ p i = true) := ⟨fun z => ⟨by omega, z.2⟩, fun z => ⟨by omega, z.2⟩⟩
        simp only [this]
        cases hp : p n <;> simp [hp]
      · have hp : p n = false := by
          cases z : p n with
          | false => rfl
          | true => rcases h n (by omega) z with q | q <;> omega
        have a1 : (i < n + 1 ∧ p i = true) ↔ (i < n ∧ p i = true) := ⟨fun z => ⟨by omega, z.2⟩, fun z => ⟨by omega, z.2⟩⟩
        have a2 : (j < n + 1 ∧ p j = true) ↔ (j < n ∧ p j = true) := ⟨fun z => ⟨by omega, z.2⟩, fun z => ⟨by omega, z.2⟩⟩
        simp only [a1, a2]
        simp [hp]
/-- like a but for the keys i and j -/
def Off (a : List Int) (i j : Nat) (r : List Int) : Prop := r.length = a.length ∧ ∀ k, k ≠ i → k ≠ j → r.getD k 0 = a.getD k 0
theorem keys_off {a r s : List Int} {i j : Nat} (hij : i < j) (hj : j < a.length) (hr : Off a i j r) (hs : Off a i j s) : keysD r s = (if r.getD i 0 ≠ s.getD i 0 then [i] else []) ++ (if r.getD j 0 ≠ s.getD j 0 then [j] else []) := by
  unfold keysD
  rw [filter_two (p := fun k => decide (r.getD k 0 ≠ s.getD k 0)) hij r.length fun k _ hk => ?_]
  · have l := hr.1
    have a1 : (i < r.length ∧ decide (r.getD i 0 ≠ s.getD i 0) = true) ↔ r.getD i 0 ≠ s.getD i 0 := by rw [decide_eq_true_eq]; exact ⟨fun z => z.2, fun z => ⟨by omega, z⟩⟩
    have a2 : (j < r.length ∧ decide (r.getD j 0 ≠ s.getD j 0) = true) ↔ r.getD j 0 ≠ s.getD j 0 := by rw [decide_eq_true_eq]; exact ⟨fun z => z.2, fun z => ⟨by omega, z⟩⟩
    simp only [a1, a2]
  · refine Classical.byContradiction fun z => ?_
    have hk := of_decide_eq_true hk
    exact hk (by rw [hr.2 k (fun e => z (.inl e)) (fun e => z (.inr e)), hs.2 k (fun e => z (.inl e)) (fun e => z (.inr e))])
theorem one_off {a r s : List Int} {i j : Nat} (hij : i < j) (hj : j < a.length) (hr : Off a i j r) (hs : Off a i j s) : (keysD r s).length = 1 ↔ (s.getD i 0 ≠ r.getD i 0 ∧ s.getD j 0 = r.getD j 0) ∨ (s.getD i 0 = r.getD i 0 ∧ s.getD j 0 ≠ r.getD j 0) := by
  rw [keys_off hij hj hr hs]
  generalize r.getD i 0 = p1
  generalize r.getD j 0 = p2
  generalize s.getD i 0 = q1
  generalize s.getD j 0 = q2
  by_cases e1 : p1 = q1 <;> by_cases e2 : p2 = q2
  · subst e1 e2
    simp
  · subst e1
    simp [e2, Ne.symm e2]
  · subst e2
    simp [e1, Ne.symm e1]
  · simp [e1, e2, Ne.symm e1, Ne.symm e2]
def put (a : List Int) (i j : Nat) (x y : Int) : List Int := (a.set i x).set j y
theorem put_off {a : List Int} {i j : Nat} {x y : Int} : Off a i j (put a i j x y) := ⟨by simp [put], fun k h1 h2 => by unfold put; rw [getD_set_ne (Ne.symm h2), getD_set_ne (Ne.symm h1)]⟩
theorem put_i {a : List Int} {i j : Nat} {x y : Int} (hij : i < j) (hj : j < a.length) : (put a i j x y).getD i 0 = x := by
  unfold put
  rw [getD_set_ne (by omega), getD_set_eq (by omega)]
theorem put_j {a : List Int} {i j : Nat} {x y : Int} (hij : i < j) (hj : j < a.length) : (put a i j x y).getD j 0 = y := by
  unfold put
  rw [getD_set_eq (by rw [List.length_set]; exact hj)]
theorem put_sum {a : List Int} {i j : Nat} {x y : Int} (hij : i < j) (hj : j < a.length) : (put a i j x y).sum = a.sum + (x - a.getD i 0) + (y - a.getD j 0) := by
  unfold put
  rw [sum_set_at y (by rw [List.length_set]; exact hj), sum_set_at x (by omega), getD_set_ne (by omega)]
  omega
theorem off_put {a r : List Int} {i j : Nat} (hij : i < j) (hj : j < a.length) (hr : Off a i j r) : r = put a i j (r.getD i 0) (r.getD j 0) := by
  refine ext_getD (by rw [hr.1, put_off.1]) fun k => ?_
  by_cases e1 : k = i
  · rw [e1, put_i hij hj]
  · by_cases e2 : k = j
    · rw [e2, put_j hij hj]
    · rw [hr.2 k e1 e2, put_off.2 k e1 e2]
section
variable {caps : List Int} {lo hi : Int} {rows : List (List Int)} {a b : List Int} {i j : Nat}
structure Two2 (caps : List Int) (lo hi : Int) (rows : List (List Int)) (a b : List Int) (i j : Nat) : Prop where
  mem : ∀ r, r ∈ rows ↔ inB caps lo hi r
  ia : inB caps lo hi a
  ib : inB caps lo hi b
  lt : i < j
  jl : j < a.length
  bo : Off a i j b
  bi : b.getD i 0 ≠ a.getD i 0
  bj : b.getD j 0 ≠ a.getD j 0
theorem left_iff (t : Two2 caps lo hi rows a b i j) {r : List Int} (hl : r.length = a.length) : leftP a b r = true ↔ Off a i j r ∧ r ≠ a := by
  unfold leftP
  rw [Bool.and_eq_true, List.all_eq_true]
  have e : (!decide (r = a)) = true ↔ r ≠ a := by rw [Bool.not_eq_true', decide_eq_false_iff_not]
  rw [e]
  refine and_congr_left fun _ => ⟨fun h => ⟨hl, fun k h1 h2 => ?_⟩, fun h k hk => ?_⟩
  · by_cases hk : k < a.length
    · have : k ∈ agreeK a b := by
        unfold agreeK
        rw [List.mem_filter, decide_eq_true_eq]
        exact ⟨List.mem_range.mpr hk, (t.bo.2 k h1 h2).symm⟩
      exact of_decide_eq_true (h k this)
    · rw [getD_of_le (by omega), getD_of_le (by omega)]
  · unfold agreeK at hk
    rw [List.mem_filter, decide_eq_true_eq] at hk
    refine decide_eq_true (h.2 k ?_ ?_)
    · rintro rfl
      exact t.bi hk.2.symm
    · rintro rfl
      exact t.bj hk.2.symm
abbrev PrA (caps : List Int) (lo hi : Int) (a : List Int) (i j m : Nat) (x y : Int) : Prop := Pr (a.getD i 0) (a.getD j 0) (caps.getD i 0) (caps.getD j 0) (hi - a.sum) (a.sum - lo) m x y
theorem reach_pr (t : Two2 caps lo hi rows a b i j) : ∀ (m : Nat) {r : List Int}, Reach rows a b m r → Off a i j r ∧ PrA caps lo hi a i j m (r.getD i 0) (r.getD j 0)
  | 0, r, h => by
    have h : r = a := h
    subst h
    exact ⟨⟨rfl, fun _ _ _ => rfl⟩, rfl, rfl⟩
  | m + 1, r, h => by
    rcases h with h | ⟨⟨hr, hl⟩, s, hs, hk⟩
    · obtain ⟨h1, h2⟩ := reach_pr t m h
      exact ⟨h1, .inl h2⟩
    · have hb := (t.mem r).mp hr
      have hl' := (left_iff t (by rw [hb.1.1, t.ia.1.1])).mp hl
      obtain ⟨s1, s2⟩ := reach_pr t m hs
      refine ⟨hl'.1, .inr ⟨?_, _, _, s2, (one_off t.lt t.jl hl'.1 s1).mp hk⟩⟩
      have e := congrArg List.sum (off_put t.lt t.jl hl'.1)
      rw [put_sum t.lt t.jl] at e
      have h1 := hb.1.2 i
      have h2 := hb.1.2 j
      have h3 := hb.2
      omega
theorem pr_reach (t : Two2 caps lo hi rows a b i j) : ∀ (m : Nat) {x y : Int}, PrA caps lo hi a i j m x y → Reach rows a b m (put a i j x y)
  | 0, x, y, h => by
    obtain ⟨rfl, rfl⟩ := h
    exact (off_put t.lt t.jl ⟨rfl, fun _ _ _ => rfl⟩).symm
  | m + 1, x, y, h => by
    rcases h with h | ⟨⟨h1, h2, h3, h4, h5, h6⟩, x', y', hp, hk⟩
    · exact .inl (pr_reach t m h)
    · have ih := pr_reach t m hp
      by_cases e : put a i j x y = a
      · have : Reach rows a b 0 (put a i j x y) := e
        exact this.le (Nat.zero_le _)
      · have hs := put_sum (a := a) (x := x) (y := y) t.lt t.jl
        refine .inr ⟨⟨(t.mem _).mpr ⟨⟨by rw [put_off.1, t.ia.1.1], fun k => ?_⟩, by omega, by omega⟩, (left_iff t put_off.1).mpr ⟨put_off, e⟩⟩, _, ih, (one_off t.lt t.jl put_off put_off).mpr ?_⟩
        · by_cases e1 : k = i
          · rw [e1, put_i t.lt t.jl]; exact ⟨h1, h2⟩
          · by_cases e2 : k = j
            · rw [e2, put_j t.lt t.jl]; exact ⟨h3, h4⟩
            · rw [put_off.2 k e1 e2]; exact t.ia.1.2 k
        · rw [put_i t.lt t.jl, put_i t.lt t.jl, put_j t.lt t.jl, put_j t.lt t.jl]
          exact hk
theorem reach_b (t : Two2 caps lo hi rows a b i j) (m : Nat) : Reach rows a b m b ↔ PrA caps lo hi a i j m (b.getD i 0) (b.getD j 0) :=
  ⟨fun h => (reach_pr t m h).2, fun h => by
    have := pr_reach t m h
    rwa [← off_put t.lt t.jl t.bo] at this⟩
end
end B
set_option Elab.async false
set_option autoImplicit false
set_option linter.all false
set_option maxRecDepth 100000
set_option maxHeartbeats 2000000
/-! the fewest changes are the formula's. -/
namespace B
open PySem PySem.Spec
theorem loop_lt {b : List Int} : ∀ (n m : Nat) (st : List (List Int) × List (List Int)) (M : Nat), fewLoop b n st m = some M → M < m + n
  | 0, m, st, M, h => by cases h
  | n + 1, m, st, M, h => by
    unfold fewLoop at h
    split at h
    · cases h
      omega
    · have := loop_lt n (m + 1) _ M h
      omega
theorem keys_mem {a b : List Int} {k : Nat} : k ∈ keysD a b ↔ k < a.length ∧ a.getD k 0 ≠ b.getD k 0 := by
  unfold keysD
  rw [List.mem_filter, List.mem_range, decide_eq_true_eq]
theorem keys_lt {a b : List Int} {i j : Nat} (h : keysD a b = [i, j]) : i < j := by
  have : (keysD a b).Pairwise (· < ·) := List.Pairwise.filter _ List.pairwise_lt_range
  rw [h] at this
  simpa using this
theorem keys_swap {a b : List Int} (h : a.length = b.length) : keysD b a = keysD a b := by
  unfold keysD
  rw [h]
  refine List.filter_congr fun k _ => decide_eq_decide.mpr ⟨Ne.symm, Ne.symm⟩
section
variable {caps : List Int} {lo hi : Int} {rows : List (List Int)} {a b : List Int} {i j : Nat}
theorem two2_of (mem : ∀ r, r ∈ rows ↔ inB caps lo hi r) (ia : inB caps lo hi a) (ib : inB caps lo hi b) (h : keysD a b = [i, j]) : Two2 caps lo hi rows a b i j := by
  have mi : i ∈ keysD a b := by rw [h]; simp
  have mj : j ∈ keysD a b := by rw [h]; simp
  have hl : b.length = a.length := by rw [ia.1.1, ib.1.1]
  refine ⟨mem, ia, ib, keys_lt h, (keys_mem.mp mj).1, ⟨hl, fun k h1 h2 => ?_⟩, Ne.symm (keys_mem.mp mi).2, Ne.symm (keys_mem.mp mj).2⟩
  by_cases hk : k < a.length
  · refine Classical.byContradiction fun z => ?_
    have : k ∈ keysD a b := keys_mem.mpr ⟨hk, fun e => z e.symm⟩
    rw [h] at this
    simp at this
    omega
  · rw [getD_of_le (by omega), getD_of_le (by omega)]
theorem few_le2 (mem : ∀ r, r ∈ rows ↔ inB caps lo hi r) (ia : inB caps lo hi a) (ib : inB caps lo hi b) (h2 : (keysD a b).length ≤ 2) : neededD lo hi a b = optD (fewest rows a b) := by
  have hl : b.length = a.length := by rw [ia.1.1, ib.1.1]
  have eq_of : keysD a b = [] → a = b := fun h => ext_getD hl.symm fun k => by
    by_cases hk : k < a.length
    · refine Classical.byContradiction fun z => ?_
      have : k ∈ keysD a b := keys_mem.mpr ⟨hk, z⟩
      rw [h] at this
      cases this
    · rw [getD_of_le (by omega), getD_of_le (by omega)]
  match h : keysD a b, h2 with
  | [], _ =>
    have e := eq_of h
    have f0 : fewest rows a b = some 0 := few_some (M := 0) (show b = a from e.symm) fun j hj => absurd hj (Nat.not_lt_zero j)
    rw [f0]
    unfold neededD
    rw [h, if_pos (.inl (by decide))]
    rfl
  | [i], _ =>
    have hne : b ≠ a := fun z => by
      have : i ∈ keysD a b := by rw [h]; simp
      exact (keys_mem.mp this).2 (by rw [z])
    have lp : leftP a b b = true := by
      unfold leftP
      rw [Bool.and_eq_true, List.all_eq_true]
      refine ⟨fun k hk => ?_, by simp [hne]⟩
      unfold agreeK at hk
      rw [List.mem_filter, decide_eq_true_eq] at hk
      exact decide_eq_true hk.2.symm
    have f1 : fewest rows a b = some 1 := few_some (M := 1) (.inr ⟨⟨(mem b).mpr ib, lp⟩, a, rfl, by rw [keys_swap hl.symm, h]; rfl⟩) fun j hj z => by
      have : j = 0 := by omega
      subst this
      exact hne z
    rw [f1]
    unfold neededD
    rw [h, if_pos (.inl (by simp))]
    rfl
  | [i, j], _ =>
    have t := two2_of mem ia ib h
    have rb := reach_b t
    have ri : riseOf a b = max (b.getD i 0 - a.getD i 0) 0 + max (b.getD j 0 - a.getD j 0) 0 := by
      unfold riseOf
      rw [h]
      simp only [List.map_cons, List.map_nil, List.sum_cons, List.sum_nil]
      omega
    have fa : riseOf b a = max (a.getD i 0 - b.getD i 0) 0 + max (a.getD j 0 - b.getD j 0) 0 := by
      unfold riseOf
      rw [keys_swap hl.symm, h]
      simp only [List.map_cons, List.map_nil, List.sum_cons, List.sum_nil]
      omega
    have bi := t.bi
    have bj := t.bj
    have ci := ia.1.2 i
    have cj := ia.1.2 j
    have di := ib.1.2 i
    have dj := ib.1.2 j
    have sa := ia.2
    have sb := ib.2
    have es : b.sum = a.sum + (b.getD i 0 - a.getD i 0) + (b.getD j 0 - a.getD j 0) := by
      have e := congrArg List.sum (off_put t.lt t.jl t.bo)
      rw [put_sum t.lt t.jl] at e
      exact e
    have eL : countUp lo hi a.sum (riseOf a b) (riseOf b a) ++ countDn lo hi a.sum (riseOf a b) (riseOf b a) = listD (hi - a.sum) (a.sum - lo) (riseOf a b) (riseOf b a) := by
      unfold countUp countDn listD
      rw [show hi - lo = (hi - a.sum) + (a.sum - lo) by omega]
    by_cases same : riseOf a b = 0 ∨ riseOf b a = 0
    · -- both the same way
      have m2 : Reach rows a b 2 b := (rb 2).mpr (pr_move (x' := b.getD i 0) (y' := a.getD j 0) (pr_move (x' := a.getD i 0) (y' := a.getD j 0) ⟨rfl, rfl⟩ (by omega) (.inl rfl)) (by omega) (.inr rfl))
      have f2 : fewest rows a b = some 2 := few_some m2 fun k hk z => by
        have z := (rb k).mp z
        match k, hk with
        | 0, _ => exact bi z.1
        | 1, _ =>
          rcases z with z | ⟨_, x', y', ⟨e1, e2⟩, hk⟩
          · exact bi z.1
          · rcases hk with ⟨_, q⟩ | ⟨q, _⟩
            · exact bj (by rw [← q, e2])
            · exact bi (by rw [← q, e1])
      rw [f2]
      unfold neededD
      rw [h, if_pos (.inr same)]
      rfl
    · have n1 : ¬ riseOf a b = 0 := fun z => same (.inl z)
      have n2 : ¬ riseOf b a = 0 := fun z => same (.inr z)
      have eN : neededD lo hi a b = leastD (listD (hi - a.sum) (a.sum - lo) (riseOf a b) (riseOf b a)) := by
        unfold neededD
        rw [if_neg (fun z => z.elim (fun z => by rw [h] at z; simp at z) fun z => z.elim n1 n2), eL]
      rw [eN]
      -- k + 1 changes are enough just when one of the two can be in place after k
      have fin : (∀ k, Cnd (hi - a.sum) (a.sum - lo) (riseOf a b) (riseOf b a) k → Reach rows a b (k + 1) b) → (∀ m, Reach rows a b m b → ∃ k < m, Cnd (hi - a.sum) (a.sum - lo) (riseOf a b) (riseOf b a) k) → leastD (listD (hi - a.sum) (a.sum - lo) (riseOf a b) (riseOf b a)) = optD (fewest rows a b) := fun f1 f2 => by
        by_cases hS : (hi - a.sum) + (a.sum - lo) = 0
        · rw [list_zero (by omega) (by omega) hS, few_none fun m z => ?_]
          · rfl
          · obtain ⟨k, _, hc⟩ := f2 m z
            exact cnd_zero (by omega) (by omega) hS (by omega) (by omega) k hc
        · obtain ⟨k, e, hc, hn⟩ := least_cnd (up := hi - a.sum) (dn := a.sum - lo) (r := riseOf a b) (f := riseOf b a) (by omega) (by omega) (by omega) (by omega) (by omega)
          rw [e, few_some (f1 k hc) fun m hm z => ?_]
          · rfl
          · obtain ⟨k', hk', hc'⟩ := f2 m z
            exact hn k' (by omega) hc'
      by_cases dir : a.getD i 0 < b.getD i 0
      · have r1 : riseOf a b = b.getD i 0 - a.getD i 0 := by omega
        have r2 : riseOf b a = a.getD j 0 - b.getD j 0 := by omega
        refine fin (fun k hc => (rb (k + 1)).mpr (pr_end (by omega) (by omega) (by omega) (by omega) (by omega) ?_)) fun m z => ?_
        · unfold Cnd at hc
          rw [r1, r2] at hc
          exact hc
        · obtain ⟨k, hk, hc⟩ := pr_last (by omega) (by omega) bi m ((rb m).mp z)
          refine ⟨k, hk, ?_⟩
          unfold Cnd
          rw [r1, r2]
          exact hc
      · have r1 : riseOf a b = b.getD j 0 - a.getD j 0 := by omega
        have r2 : riseOf b a = a.getD i 0 - b.getD i 0 := by omega
        refine fin (fun k hc => (rb (k + 1)).mpr (Pr.swap (pr_end (by omega) (by omega) (by omega) (by omega) (by omega) ?_))) fun m z => ?_
        · unfold Cnd at hc
          rw [r1, r2] at hc
          exact hc
        · obtain ⟨k, hk, hc⟩ := pr_last (by omega) (by omega) bj m (Pr.swap ((rb m).mp z))
          refine ⟨k, hk, ?_⟩
          unfold Cnd
          rw [r1, r2]
          exact hc
  | _ :: _ :: _ :: _, h3 => exact absurd h3 (by simp)
end
end B
set_option Elab.async false
set_option autoImplicit false
set_option linter.all false
set_option maxRecDepth 100000
set_option maxHeartbeats 2000000
/-! sorted rows. -/
namespace B
open PySem PySem.Spec
theorem leR_eq (p q : List Int) : leR p q = decide (p ≤ q) := by
  show (!PySem.W.dataLt (.tuple (q.map .int)) (.tuple (p.map .int))) = _
  rw [PySem.W.dataLt_tuple]
  show (!PySem.W.rowLt (q.map .int) (p.map .int)) = _
  rw [PySem.W.dataLt_ints]
  by_cases h : q < p
  · rw [decide_eq_true h, decide_eq_false fun r => List.not_lt.mpr r h]
    rfl
  · rw [decide_eq_false h, decide_eq_true (List.not_lt.mp h)]
    rfl
theorem leR_trans (a b c : List Int) (h1 : leR a b = true) (h2 : leR b c = true) : leR a c = true := by
  rw [leR_eq, decide_eq_true_eq] at *
  exact List.le_trans h1 h2
theorem leR_total (a b : List Int) : (leR a b || leR b a) = true := by
  rw [leR_eq, leR_eq, Bool.or_eq_true, decide_eq_true_eq, decide_eq_true_eq]
  exact List.le_total a b
theorem leR_anti (a b : List Int) (h1 : leR a b = true) (h2 : leR b a = true) : a = b := by
  rw [leR_eq, decide_eq_true_eq] at *
  exact List.le_antisymm h1 h2
theorem sorted_uniq : ∀ {l1 l2 : List (List Int)}, l1.Perm l2 → l1.Pairwise (fun a b => leR a b = true) → l2.Pairwise (fun a b => leR a b = true) → l1 = l2
  | [], l2, h, _, _ => (List.Perm.nil_eq h)
  | x :: l1, [], h, _, _ => by
    have := h.length_eq
    simp at this
  | x :: l1, y :: l2, h, p1, p2 => by
    obtain ⟨a1, a2⟩ := List.pairwise_cons.mp p1
    obtain ⟨b1, b2⟩ := List.pairwise_cons.mp p2
    have refl : ∀ z : List Int, leR z z = true := fun z => by
      rw [leR_eq, decide_eq_true_eq]
      exact List.le_refl z
    have e : x = y := by
      refine leR_anti x y ?_ ?_
      · rcases List.mem_cons.mp (h.mem_iff.mpr List.mem_cons_self : y ∈ x :: l1) with z | z
        · rw [z]; exact refl x
        · exact a1 y z
      · rcases List.mem_cons.mp (h.mem_iff.mp List.mem_cons_self : x ∈ y :: l2) with z | z
        · rw [z]; exact refl y
        · exact b1 x z
    subst e
    rw [sorted_uniq (List.Perm.cons_inv h) a2 b2]
theorem sort_perm {l1 l2 : List (List Int)} (h : l1.Perm l2) : l1.mergeSort leR = l2.mergeSort leR :=
  sorted_uniq (((List.mergeSort_perm l1 leR).trans h).trans (List.mergeSort_perm l2 leR).symm) (List.pairwise_mergeSort leR_trans leR_total l1) (List.pairwise_mergeSort leR_trans leR_total l2)
end B
set_option Elab.async false
set_option autoImplicit false
set_option linter.all false
set_option maxRecDepth 100000
set_option maxHeartbeats 2000000
/-! the tied keys, and what is due of a large budget. -/
namespace B
open PySem PySem.Spec
theorem fm_congr_mem {α γ : Type} {f g : α → Option γ} : ∀ {l : List α}, (∀ x ∈ l, f x = g x) → l.filterMap f = l.filterMap g
  | [], _ => rfl
  | x :: l, h => by
    rw [List.filterMap_cons, List.filterMap_cons, h x List.mem_cons_self, fm_congr_mem fun y hy => h y (List.mem_cons_of_mem _ hy)]
theorem mem_getD {caps : List Int} (h : ∀ x ∈ caps, 0 ≤ x) (k : Nat) : 0 ≤ caps.getD k 0 := by
  by_cases hk : k < caps.length
  · rw [List.getD_eq_getElem?_getD, List.getElem?_eq_getElem hk]
    exact h _ (List.getElem_mem hk)
  · rw [getD_of_le (by omega)]
    exact Int.le_refl _
theorem getD_le_sum : ∀ {caps : List Int} (_ : ∀ x ∈ caps, 0 ≤ x) (k : Nat), caps.getD k 0 ≤ caps.sum
  | [], _, k => by simp
  | c :: caps, h, k => by
    have h0 := h c List.mem_cons_self
    have hs := sum_nonneg (l := caps) fun x hx => h x (List.mem_cons_of_mem _ hx)
    rw [List.sum_cons]
    cases k with
    | zero => simp; omega
    | succ k =>
      have := getD_le_sum (caps := caps) (fun x hx => h x (List.mem_cons_of_mem _ hx)) k
      simp only [List.getD_cons_succ]
      omega
theorem set_nn {caps : List Int} (h : ∀ x ∈ caps, 0 ≤ x) (k : Nat) : ∀ x ∈ caps.set k 0, 0 ≤ x := fun x hx => by
  rcases List.mem_or_eq_of_mem_set hx with z | z
  · exact h x z
  · rw [z]; exact Int.le_refl _
theorem mem_free {caps : List Int} {k : Nat} : (k : Int) ∈ freeL caps ↔ k < caps.length ∧ 0 < caps.getD k 0 := by
  unfold freeL
  constructor
  · intro h
    obtain ⟨j, hj, e⟩ := List.mem_map.mp h
    have : j = k := by omega
    subst this
    rw [List.mem_filter, List.mem_range, decide_eq_true_eq] at hj
    exact hj
  · intro h
    exact List.mem_map.mpr ⟨k, by rw [List.mem_filter, List.mem_range, decide_eq_true_eq]; exact h, rfl⟩
/-- another key has room -/
theorem other_free {caps : List Int} (h : ∀ x ∈ caps, 0 ≤ x) {k : Nat} (hk : k < caps.length) (h0 : 0 < caps.getD k 0) : 1 < (freeL caps).length ↔ caps.getD k 0 < caps.sum := by
  have e := sum_set_at 0 hk
  unfold freeL
  rw [List.length_map]
  have nd : ((List.range caps.length).filter fun k => decide (0 < caps.getD k 0)).Nodup := List.Pairwise.filter _ List.nodup_range
  have mk : k ∈ (List.range caps.length).filter fun k => decide (0 < caps.getD k 0) := by
    rw [List.mem_filter, List.mem_range, decide_eq_true_eq]
    exact ⟨hk, h0⟩
  have mem : ∀ j, j ∈ (List.range caps.length).filter (fun k => decide (0 < caps.getD k 0)) → j < caps.length ∧ 0 < caps.getD j 0 := fun j hj => by
    rw [List.mem_filter, List.mem_range, decide_eq_true_eq] at hj
    exact hj
  constructor
  · intro hl
    have : ∃ j ∈ (List.range caps.length).filter (fun k => decide (0 < caps.getD k 0)), j ≠ k := by
      match hL : (List.range caps.length).filter (fun k => decide (0 < caps.getD k 0)), hl with
      | x :: y :: r, _ =>
        rw [hL] at nd
        by_cases hx : x = k
        · refine ⟨y, by simp, fun z => ?_⟩
          have := (List.nodup_cons.mp nd).1
          exact this (by rw [hx, ← z]; simp)
        · exact ⟨x, by simp, hx⟩
    obtain ⟨j, hj, hne⟩ := this
    have h1 := (mem j hj).2
    have h2 := getD_le_sum (set_nn h k) j
    rw [getD_set_ne (Ne.symm hne)] at h2
    omega
  · intro hs
    refine Classical.byContradiction fun hl => ?_
    have only : ∀ j, j ∈ (List.range caps.length).filter (fun k => decide (0 < caps.getD k 0)) → j = k := fun j hj => by
      match hL : (List.range caps.length).filter (fun k => decide (0 < caps.getD k 0)), hl with
      | [], _ => rw [hL] at hj; cases hj
      | [x], _ =>
        rw [hL] at hj mk
        rw [List.mem_singleton.mp hj, List.mem_singleton.mp mk]
      | _ :: _ :: _, hl => simp at hl
    have zero : ∀ j, (caps.set k 0).getD j 0 ≤ ((caps.map fun _ => (0 : Int))).getD j 0 := fun j => by
      have ez : ((caps.map fun _ => (0 : Int))).getD j 0 = 0 := by
        rw [List.getD_eq_getElem?_getD, List.getElem?_map]
        cases caps[j]? <;> rfl
      rw [ez]
      by_cases hj : k = j
      · subst hj
        rw [getD_set_eq hk]
        exact Int.le_refl _
      · rw [getD_set_ne hj]
        by_cases hjl : j < caps.length
        · refine Classical.byContradiction fun z => hj (only j ?_).symm
          rw [List.mem_filter, List.mem_range, decide_eq_true_eq]
          exact ⟨hjl, by omega⟩
        · rw [getD_of_le (by omega)]
          exact Int.le_refl _
    have le := (sum_le_at (a := caps.map fun _ => (0 : Int)) (b := caps.set k 0) (by simp) zero).1
    have z0 : (caps.map fun _ => (0 : Int)).sum = 0 := by
      clear zero le only mem mk nd e hs h0 hk hl h
      induction caps with
      | nil => rfl
      | cons c caps ih => simp only [List.map_cons, List.sum_cons, ih]; rfl
    omega
theorem tied_eq {caps : List Int} {lo hi : Int} (h : ∀ x ∈ caps, 0 ≤ x) (h0 : 0 ≤ lo) (h1 : lo ≤ hi) (h2 : hi ≤ caps.sum) : tiedK caps lo hi = if tiedL caps lo hi = true then freeL caps else [] := by
  unfold tiedK
  by_cases e : lo = hi
  · subst e
    rw [if_pos rfl]
    have key : ∀ k, k < caps.length → ((spanOf caps lo lo k).1 < (spanOf caps lo lo k).2 ↔ 0 < caps.getD k 0 ∧ tiedL caps lo lo = true) := fun k hk => by
      have c0 := mem_getD h k
      unfold spanOf tiedL
      simp only [Bool.and_eq_true, decide_eq_true_eq, true_and]
      by_cases hc : 0 < caps.getD k 0
      · rw [other_free h hk hc]
        omega
      · omega
    by_cases ht : tiedL caps lo lo = true
    · rw [if_pos ht]
      unfold freeK freeL
      rw [← List.filterMap_eq_filter, List.map_filterMap]
      refine fm_congr_mem fun k hk => ?_
      have := key k (List.mem_range.mp hk)
      by_cases hc : 0 < caps.getD k 0
      · rw [if_pos (this.mpr ⟨hc, ht⟩)]
        unfold Option.guard
        rw [if_pos (decide_eq_true hc)]
        rfl
      · rw [if_neg fun z => hc (this.mp z).1]
        unfold Option.guard
        rw [if_neg (by rw [decide_eq_true_eq]; exact hc)]
        rfl
    · rw [if_neg ht]
      unfold freeK
      rw [List.filterMap_eq_nil_iff]
      intro k hk
      exact if_neg fun z => ht ((key k (List.mem_range.mp hk)).mp z).2
  · rw [if_neg e, if_neg]
    unfold tiedL
    simp [e]
end B
set_option Elab.async false
set_option autoImplicit false
set_option linter.all false
set_option maxRecDepth 100000
set_option maxHeartbeats 2000000
/-! a large budget's bundles. -/
namespace B
open PySem PySem.Spec
theorem due_perm {caps : List Int} {lo hi : Int} (h : ∀ x ∈ caps, 0 ≤ x) (h0 : 0 ≤ lo) (h1 : lo ≤ hi) (h2 : hi ≤ caps.sum) : (dueL caps lo hi).Perm (bundleL caps lo hi) := by
  have e := tied_eq h h0 h1 h2
  unfold dueL bundleL
  by_cases ht : tiedL caps lo hi = true
  · rw [if_pos ht] at e ⊢
    have ne : tiedK caps lo hi ≠ [] := fun z => by
      unfold tiedL at ht
      rw [← e, z] at ht
      simp at ht
    rw [if_neg ne, e]
    have ea : ((List.range caps.length).filterMap fun (k : Nat) => if tiedL caps lo hi = false ∨ (k : Int) ∉ freeL caps then some [(k : Int)] else none) = aloneK caps (freeL caps) := by
      unfold aloneK
      refine fm_congr_mem fun k _ => ?_
      by_cases hk : (k : Int) ∈ freeL caps
      · rw [if_neg (by rw [ht]; simp [hk]), if_pos hk]
      · rw [if_pos (.inr hk), if_neg hk]
    rw [ea]
    exact List.perm_append_singleton _ _
  · rw [if_neg ht] at e ⊢
    rw [if_pos e, e, List.append_nil]
    have hf : tiedL caps lo hi = false := by simpa using ht
    have ea : ((List.range caps.length).filterMap fun (k : Nat) => if tiedL caps lo hi = false ∨ (k : Int) ∉ freeL caps then some [(k : Int)] else none) = aloneK caps [] := by
      unfold aloneK
      refine fm_congr_mem fun k _ => ?_
      rw [if_pos (.inl hf), if_neg List.not_mem_nil]
    rw [ea]
theorem bund_low {caps : List Int} {lo hi : Int} (hl : caps.length ≤ 12) : ∀ r ∈ bundles caps lo hi, r.length ≤ 13 ∧ ∀ i ∈ r, lowI i := fun r hr => by
  have hr : r ∈ bundleL caps lo hi := (List.mergeSort_perm _ leR).mem_iff.mp hr
  have al : ∀ t, r ∈ aloneK caps t → r.length ≤ 13 ∧ ∀ i ∈ r, lowI i := fun t h => by
    unfold aloneK at h
    obtain ⟨k, hk, e⟩ := List.mem_filterMap.mp h
    have hk := List.mem_range.mp hk
    split at e
    · cases e
    · cases e
      refine ⟨by simp, fun i hi => ?_⟩
      rw [List.mem_singleton.mp hi]
      exact ⟨by omega, by omega⟩
  have tk : r = tiedK caps lo hi → r.length ≤ 13 ∧ ∀ i ∈ r, lowI i := fun e => by
    subst e
    unfold tiedK
    split
    · unfold freeK
      refine ⟨by have := filterMap_len (fun k => if (spanOf caps lo hi k).1 < (spanOf caps lo hi k).2 then some (k : Int) else none) (List.range caps.length); rw [List.length_range] at this; omega, fun i hi => ?_⟩
      obtain ⟨k, hk, e⟩ := List.mem_filterMap.mp hi
      have hk := List.mem_range.mp hk
      split at e
      · cases e
        exact ⟨by omega, by omega⟩
      · cases e
    · exact ⟨by simp, fun i hi => by cases hi⟩
  unfold bundleL at hr
  split at hr
  · exact al _ hr
  · rcases List.mem_cons.mp hr with z | z
    · exact tk z
    · exact al _ z
theorem bund_rp {caps : List Int} {lo hi : Int} (hl : caps.length ≤ 12) : Rp (.tup ((bundles caps lo hi).map dti)) :=
  rp_rows (by
    have := @bundle_len caps lo hi
    unfold bundles
    rw [List.length_mergeSort]
    omega) (bund_low hl)
theorem big_ok (caps : List Int) (lo hi : Int) (_ : caps ≠ []) (hl : caps.length ≤ 12) (h : ∀ x ∈ caps, 0 ≤ x) (h0 : 0 ≤ lo) (h1 : lo ≤ hi) (h2 : hi ≤ caps.sum) : LargeOk caps lo hi :=
  ⟨sort_perm (due_perm h h0 h1 h2), bund_rp hl⟩
end B
set_option Elab.async false
set_option autoImplicit false
set_option linter.all false
set_option maxRecDepth 100000
set_option maxHeartbeats 2000000
/-! the lots of keys. -/
namespace B
open PySem PySem.Spec
theorem snoc_ind {P : List Int → Prop} (h0 : P []) (h1 : ∀ ks k, P ks → P (ks ++ [k])) (ks : List Int) : P ks := by
  have : ∀ l : List Int, P l.reverse := fun l => by
    induction l with
    | nil => exact h0
    | cons k l ih =>
      rw [List.reverse_cons]
      exact h1 _ _ ih
  rw [← List.reverse_reverse ks]
  exact this _
theorem lots_snoc (ks : List Int) (k : Int) : lotsF (ks ++ [k]) = lotsF ks ++ (lotsF ks).map fun r => r ++ [k] := by
  unfold lotsF
  rw [List.foldl_append]
  rfl
theorem mem_lots (ks : List Int) : ∀ L, L ∈ lotsF ks ↔ L.Sublist ks := by
  refine snoc_ind (P := fun ks => ∀ L, L ∈ lotsF ks ↔ L.Sublist ks) ?_ ?_ ks
  · intro L
    show L ∈ [[]] ↔ _
    rw [List.mem_singleton, List.sublist_nil]
  · intro ks k ih L
    rw [lots_snoc, List.mem_append, List.mem_map, ih, List.sublist_append_iff]
    constructor
    · rintro (h | ⟨r, hr, rfl⟩)
      · exact ⟨L, [], by simp, h, List.nil_sublist _⟩
      · exact ⟨r, [k], rfl, (ih r).mp hr, List.Sublist.refl _⟩
    · rintro ⟨l1, l2, rfl, h1, h2⟩
      have h2 : l2 = [] ∨ l2 = [k] := by
        cases h2 with
        | cons _ h => exact .inl (List.sublist_nil.mp h)
        | cons_cons _ h => exact .inr (by rw [List.sublist_nil.mp h])
      rcases h2 with rfl | rfl
      · exact .inl (by simpa using h1)
      · exact .inr ⟨l1, (ih l1).mpr h1, rfl⟩
theorem lots_nodup (ks : List Int) : ks.Nodup → (lotsF ks).Nodup := by
  refine snoc_ind (P := fun ks => ks.Nodup → (lotsF ks).Nodup) ?_ ?_ ks
  · exact fun _ => List.pairwise_singleton _ _
  · intro ks k ih nd
    obtain ⟨n1, n2, n3⟩ := List.nodup_append.mp nd
    rw [lots_snoc, List.nodup_append]
    refine ⟨ih n1, ?_, fun x hx y hy e => ?_⟩
    · refine List.Pairwise.map _ (fun a b hab h => hab (List.append_cancel_right h)) (ih n1)
    · obtain ⟨r, hr, rfl⟩ := List.mem_map.mp hy
      have h1 := (mem_lots ks x).mp hx
      have : k ∈ x := by rw [e]; simp
      exact n3 k (h1.subset this) k (by simp) rfl
theorem lots_perm (n : Nat) : (lotsOf n).Perm (lotsF (rngI n)) := List.mergeSort_perm _ _
end B
set_option Elab.async false
set_option autoImplicit false
set_option linter.all false
set_option maxRecDepth 100000
set_option maxHeartbeats 2000000
/-! which lots keep their sum over all the rows. -/
namespace B
open PySem PySem.Spec
/-- a lot's sum in a row -/
def lotS (L : List Int) (r : List Int) : Int := (L.map fun k => r.getD k.toNat 0).sum
theorem same_iff {rows : List (List Int)} {L : List Int} : sameL (sumsOf rows L) = true ↔ ∀ r ∈ rows, ∀ s ∈ rows, lotS L r = lotS L s := by
  unfold sumsOf
  change sameL (rows.map (lotS L)) = true ↔ _
  cases rows with
  | nil => simp [sameL]
  | cons x xs =>
    simp only [List.map_cons, sameL, List.all_eq_true, List.mem_map, decide_eq_true_eq]
    constructor
    · intro h r hr s hs
      have key : ∀ z ∈ x :: xs, lotS L z = lotS L x := fun z hz => by
        rcases List.mem_cons.mp hz with rfl | hz
        · rfl
        · exact h _ ⟨z, hz, rfl⟩
      rw [key r hr, key s hs]
    · rintro h y ⟨z, hz, rfl⟩
      exact h z (List.mem_cons_of_mem _ hz) x List.mem_cons_self
section
variable {caps : List Int} {lo : Int} {rows : List (List Int)}
/-- one unit can go from j to k -/
theorem exchange (h : ∀ x ∈ caps, 0 ≤ x) (h0 : 0 < lo) (h1 : lo < caps.sum) {k j : Nat} (hkj : k ≠ j) (hk : k < caps.length) (hj : j < caps.length) (ck : 0 < caps.getD k 0) (cj : 0 < caps.getD j 0) :
    ∃ p, inB caps lo lo p ∧ inB caps lo lo ((p.set k (p.getD k 0 + 1)).set j (p.getD j 0 - 1)) := by
  have z0 : ∀ i, ((caps.map fun _ => (0 : Int))).getD i 0 = 0 := fun i => by
    rw [List.getD_eq_getElem?_getD, List.getElem?_map]
    cases caps[i]? <;> rfl
  have zs : ∀ l : List Int, (l.map fun _ => (0 : Int)).sum = 0 := fun l => by
    induction l with
    | nil => rfl
    | cons c l ih => simp only [List.map_cons, List.sum_cons, ih]; rfl
  have hzl : (caps.map fun _ => (0 : Int)).length = caps.length := List.length_map _
  have s1 := sum_set_at (l := caps.map fun _ => (0 : Int)) (k := j) 1 (by rw [hzl]; exact hj)
  have s2 := sum_set_at (l := caps) (k := k) (caps.getD k 0 - 1) hk
  rw [z0, zs] at s1
  obtain ⟨p, p1, p2, p3⟩ := fill (l := (caps.map fun _ => (0 : Int)).set j 1) (u := caps.set k (caps.getD k 0 - 1)) (t := lo) (by simp) (fun i => by
    have ci := mem_getD h i
    by_cases e1 : i = j
    · subst e1
      rw [getD_set_eq (by rw [hzl]; exact hj), getD_set_ne hkj]
      omega
    · rw [getD_set_ne (Ne.symm e1), z0]
      by_cases e2 : i = k
      · subst e2
        rw [getD_set_eq hk]
        omega
      · rw [getD_set_ne (Ne.symm e2)]
        exact ci) (by omega) (by omega)
  have pl : p.length = caps.length := by rw [p1]; simp
  have pk := p2 k
  have pj := p2 j
  rw [getD_set_ne (Ne.symm hkj), z0, getD_set_eq hk] at pk
  rw [getD_set_eq (by rw [hzl]; exact hj), getD_set_ne hkj] at pj
  have pi : ∀ i, 0 ≤ p.getD i 0 ∧ p.getD i 0 ≤ caps.getD i 0 := fun i => by
    have := p2 i
    by_cases e1 : i = j
    · subst e1
      omega
    · rw [getD_set_ne (Ne.symm e1), z0] at this
      by_cases e2 : i = k
      · subst e2
        omega
      · rw [getD_set_ne (Ne.symm e2)] at this
        exact this
  refine ⟨p, ⟨⟨pl, pi⟩, by omega, by omega⟩, ⟨by simp [pl], fun i => ?_⟩, ?_⟩
  · by_cases e1 : i = j
    · subst e1
      rw [getD_set_eq (by rw [List.length_set, pl]; exact hj)]
      omega
    · rw [getD_set_ne (Ne.symm e1)]
      by_cases e2 : i = k
      · subst e2
        rw [getD_set_eq (by rw [pl]; exact hk)]
        omega
      · rw [getD_set_ne (Ne.symm e2)]
        exact pi i
  · have e1 := sum_set_at (l := p) (k := k) (p.getD k 0 + 1) (by rw [pl]; exact hk)
    have e2 := sum_set_at (l := p.set k (p.getD k 0 + 1)) (k := j) (p.getD j 0 - 1) (by rw [List.length_set, pl]; exact hj)
    rw [getD_set_ne hkj] at e2
    omega
end
theorem lotS_congr {L p q : List Int} (h : ∀ x ∈ L, p.getD x.toNat 0 = q.getD x.toNat 0) : lotS L p = lotS L q := by
  unfold lotS
  rw [List.map_congr_left h]
/-- .. and the lot that holds k but not j has one more -/
theorem lot_more {p : List Int} {k j : Nat} (hk : k < p.length) (hkj : k ≠ j) : ∀ {L : List Int}, L.Nodup → (∀ x ∈ L, 0 ≤ x) → (k : Int) ∈ L → (j : Int) ∉ L → lotS L ((p.set k (p.getD k 0 + 1)).set j (p.getD j 0 - 1)) = lotS L p + 1
  | [], _, _, h, _ => by cases h
  | x :: L, nd, nn, hm, hn => by
    obtain ⟨n1, n2⟩ := List.nodup_cons.mp nd
    have xj : x ≠ (j : Int) := fun e => hn (by rw [e]; simp)
    have x0 := nn x List.mem_cons_self
    have jne : j ≠ x.toNat := fun e => xj (by omega)
    unfold lotS
    simp only [List.map_cons, List.sum_cons]
    rw [getD_set_ne jne]
    by_cases e : x = (k : Int)
    · subst e
      have : lotS L ((p.set k (p.getD k 0 + 1)).set j (p.getD j 0 - 1)) = lotS L p := lotS_congr fun y hy => by
        have y0 := nn y (List.mem_cons_of_mem _ hy)
        rw [getD_set_ne fun z => hn (by rw [show (j : Int) = y by omega]; exact List.mem_cons_of_mem _ hy), getD_set_ne fun z => n1 (by rw [show (k : Int) = y by omega]; exact hy)]
      unfold lotS at this
      rw [this, show ((k : Int)).toNat = k by omega, getD_set_eq hk]
      omega
    · have := lot_more hk hkj n2 (fun y hy => nn y (List.mem_cons_of_mem _ hy)) ((List.mem_cons.mp hm).resolve_left (Ne.symm e)) fun z => hn (List.mem_cons_of_mem _ z)
      unfold lotS at this
      rw [this, getD_set_ne fun z => e (by omega)]
      omega
end B
set_option Elab.async false
set_option autoImplicit false
set_option linter.all false
set_option maxRecDepth 100000
set_option maxHeartbeats 2000000
namespace B
open PySem PySem.Spec
/-- a small budget whose rows have one sum -/
structure OneSum (caps : List Int) (lo : Int) (rows : List (List Int)) : Prop where
  nn : ∀ x ∈ caps, 0 ≤ x
  l0 : 0 ≤ lo
  l1 : lo ≤ caps.sum
  mem : ∀ r, r ∈ rows ↔ inB caps lo lo r
section
variable {caps : List Int} {lo : Int} {rows : List (List Int)}
abbrev tieds (caps : List Int) (lo : Int) : List Int := tiedK caps lo lo
theorem tied_cases (o : OneSum caps lo rows) : tieds caps lo = [] ∨ (tieds caps lo = freeL caps ∧ 0 < lo ∧ lo < caps.sum ∧ 1 < (freeL caps).length) := by
  have e := tied_eq o.nn o.l0 (Int.le_refl _) o.l1
  by_cases ht : tiedL caps lo lo = true
  · rw [if_pos ht] at e
    unfold tiedL at ht
    simp only [Bool.and_eq_true, decide_eq_true_eq] at ht
    exact .inr ⟨e, ht.1.2.1, ht.1.2.2, ht.2⟩
  · rw [if_neg ht] at e
    exact .inl e
theorem free_lt {x : Int} (h : x ∈ freeL caps) : ∃ k : Nat, x = k ∧ k < caps.length ∧ 0 < caps.getD k 0 := by
  unfold freeL at h
  obtain ⟨k, hk, rfl⟩ := List.mem_map.mp h
  rw [List.mem_filter, List.mem_range, decide_eq_true_eq] at hk
  exact ⟨k, rfl, hk⟩
theorem free_nodup : (freeL caps).Nodup := by
  unfold freeL
  refine List.Pairwise.map _ (fun a b h e => h (by omega)) (List.Pairwise.filter _ List.nodup_range)
theorem free_sub : (freeL caps).Sublist (rngI caps.length) := by
  unfold freeL rngI
  exact List.Sublist.map _ List.filter_sublist
/-- a part of the tied keys that lacks one of them -/
theorem part_not (o : OneSum caps lo rows) {L : List Int} {k j : Nat} (nd : L.Nodup) (nn : ∀ x ∈ L, 0 ≤ x) (hk : (k : Int) ∈ tieds caps lo) (hj : (j : Int) ∈ tieds caps lo) (kL : (k : Int) ∈ L) (jL : (j : Int) ∉ L) : ¬ sameL (sumsOf rows L) = true := fun h => by
  rcases tied_cases o with e | ⟨e, l0, l1, _⟩
  · rw [e] at hk
    cases hk
  rw [e] at hk hj
  obtain ⟨hk1, hk2⟩ := mem_free.mp hk
  obtain ⟨hj1, hj2⟩ := mem_free.mp hj
  have hkj : k ≠ j := fun z => jL (z ▸ kL)
  obtain ⟨p, hp, hq⟩ := exchange o.nn l0 l1 hkj hk1 hj1 hk2 hj2
  have e1 := lot_more (p := p) (by rw [hp.1.1]; exact hk1) hkj nd nn kL jL
  have e2 := same_iff.mp h _ ((o.mem _).mpr hq) _ ((o.mem _).mpr hp)
  omega
theorem one_same (o : OneSum caps lo rows) {k : Nat} (hk : k < caps.length) : sameL (sumsOf rows [(k : Int)]) = true ↔ (k : Int) ∉ tieds caps lo := by
  constructor
  · intro h hm
    rcases tied_cases o with e | ⟨e, l0, l1, l2⟩
    · rw [e] at hm
      cases hm
    · -- another tied key
      have nd := free_nodup (caps := caps)
      have ex : ∃ x ∈ freeL caps, x ≠ (k : Int) := by
        match hL : freeL caps, l2 with
        | x :: y :: r, _ =>
          rw [hL] at nd
          by_cases hx : x = (k : Int)
          · refine ⟨y, by simp, fun z => ?_⟩
            exact (List.nodup_cons.mp nd).1 (by rw [hx, ← z]; simp)
          · exact ⟨x, by simp, hx⟩
      obtain ⟨x, hx, hne⟩ := ex
      obtain ⟨j, rfl, _⟩ := free_lt hx
      exact part_not o (by simp) (fun y hy => by rw [List.mem_singleton.mp hy]; omega) hm (by rw [e]; exact hx) (by simp) (by simp; omega) h
  · intro hn
    have ns : ¬ (spanOf caps lo lo k).1 < (spanOf caps lo lo k).2 := fun z => by
      refine hn ?_
      unfold tieds tiedK freeK
      rw [if_pos rfl]
      exact List.mem_filterMap.mpr ⟨k, List.mem_range.mpr hk, if_pos z⟩
    have key : ∀ r ∈ rows, r.getD k 0 = max 0 (lo + caps.getD k 0 - caps.sum) := fun r hr => by
      have hb := (o.mem r).mp hr
      have rn : ∀ x ∈ r, 0 ≤ x := fun x hx => by
        obtain ⟨i, hi, rfl⟩ := List.getElem_of_mem hx
        have := (hb.1.2 i).1
        rw [List.getD_eq_getElem?_getD, List.getElem?_eq_getElem hi] at this
        exact this
      have h1 := getD_le_sum rn k
      have h2 := hb.1.2 k
      have h3 := hb.2
      have h4 := (sum_le_at (a := caps.set k 0) (b := r.set k 0) (by simp [hb.1.1]) fun i => by
        by_cases e : k = i
        · subst e
          rw [getD_set_eq (by rw [hb.1.1]; exact hk), getD_set_eq hk]
          exact Int.le_refl _
        · rw [getD_set_ne e, getD_set_ne e]
          exact (hb.1.2 i).2).1
      rw [sum_set_at 0 hk, sum_set_at 0 (by rw [hb.1.1]; exact hk)] at h4
      unfold spanOf at ns
      simp only at ns
      omega
    rw [same_iff]
    intro r hr s hs
    unfold lotS
    simp only [List.map_cons, List.map_nil, List.sum_cons, List.sum_nil]
    rw [show ((k : Int)).toNat = k by omega, key r hr, key s hs]
/-- all the tied keys together -/
theorem all_same (o : OneSum caps lo rows) : sameL (sumsOf rows (tieds caps lo)) = true := by
  rw [same_iff]
  rcases tied_cases o with e | ⟨e, _⟩
  · intro r _ s _
    rw [e]
    rfl
  · rw [e]
    have key : ∀ r ∈ rows, lotS (freeL caps) r = lo := fun r hr => by
      have hb := (o.mem r).mp hr
      have gen : ∀ (l : List Nat) (r : List Int), (∀ k ∈ l, caps.getD k 0 = 0 → r.getD k 0 = 0) → (∀ k ∈ l, 0 ≤ caps.getD k 0) → (((l.filter fun k => decide (0 < caps.getD k 0)).map fun (k : Nat) => (k : Int)).map fun x => r.getD x.toNat 0).sum = (l.map fun k => r.getD k 0).sum := fun l r => by
        induction l with
        | nil => intro _ _; rfl
        | cons k l ih =>
          intro h1 h2
          have ih' := ih (fun j hj => h1 j (List.mem_cons_of_mem _ hj)) fun j hj => h2 j (List.mem_cons_of_mem _ hj)
          rw [List.filter_cons]
          by_cases hc : 0 < caps.getD k 0
          · rw [if_pos (decide_eq_true hc)]
            simp only [List.map_cons, List.sum_cons]
            rw [ih', show ((k : Int)).toNat = k by omega]
          · rw [if_neg (by rw [decide_eq_true_eq]; exact hc)]
            have z := h1 k List.mem_cons_self (by have := h2 k List.mem_cons_self; omega)
            simp only [List.map_cons, List.sum_cons]
            rw [ih', z]
            omega
      have all : ∀ l : List Int, ((List.range l.length).map fun k => l.getD k 0).sum = l.sum := fun l => by
        congr 1
        refine List.ext_getElem? fun i => ?_
        rw [List.getElem?_map]
        by_cases hi : i < l.length
        · rw [List.getElem?_range hi, List.getElem?_eq_getElem hi]
          show some (l.getD i 0) = _
          rw [List.getD_eq_getElem?_getD, List.getElem?_eq_getElem hi]
          rfl
        · rw [List.getElem?_eq_none (by simpa using hi), List.getElem?_eq_none (by omega)]
          rfl
      unfold lotS freeL
      rw [gen (List.range caps.length) r (fun k _ hz => by have := hb.1.2 k; omega) fun k _ => mem_getD o.nn k, ← hb.1.1, all]
      have := hb.2
      omega
    intro r hr s hs
    rw [key r hr, key s hs]
end
end B
set_option Elab.async false
set_option autoImplicit false
set_option linter.all false
set_option maxRecDepth 100000
set_option maxHeartbeats 2000000
/-! the greedy search for bundles finds the program's. -/
namespace B
open PySem PySem.Spec
theorem leN_eq (p q : List Int) : leN p q = decide ((p.length : Int) ≤ (q.length : Int)) := by
  have := congrFun (congrFun (PySem.W.dataLe_int (β := List Int) fun r => (r.length : Int)) p) q
  exact this
theorem lots_sorted (n : Nat) : (lotsOf n).Pairwise fun a b => a.length ≤ b.length := by
  have h := List.pairwise_mergeSort (le := leN) (fun a b c h1 h2 => by
    rw [leN_eq, decide_eq_true_eq] at *
    omega) (fun a b => by
    rw [leN_eq, leN_eq, Bool.or_eq_true, decide_eq_true_eq, decide_eq_true_eq]
    omega) (lotsF (rngI n))
  refine h.imp fun {a b} hab => ?_
  rw [leN_eq, decide_eq_true_eq] at hab
  omega
theorem rngI_nodup (n : Nat) : (rngI n).Nodup := List.Pairwise.map _ (fun a b h e => h (by omega)) List.nodup_range
theorem mem_rngI {n : Nat} {x : Int} : x ∈ rngI n ↔ ∃ k : Nat, x = k ∧ k < n := by
  unfold rngI
  rw [List.mem_map]
  exact ⟨fun ⟨k, hk, e⟩ => ⟨k, e.symm, List.mem_range.mp hk⟩, fun ⟨k, e, hk⟩ => ⟨k, List.mem_range.mpr hk, e.symm⟩⟩
theorem lots_mem2 {n : Nat} {L : List Int} : L ∈ lotsOf n ↔ L.Sublist (rngI n) := by
  rw [(lots_perm n).mem_iff, mem_lots]
theorem lots_nd (n : Nat) : (lotsOf n).Nodup := (lots_perm n).nodup_iff.mpr (lots_nodup _ (rngI_nodup n))
theorem sub_filter : ∀ {l L : List Int}, l.Nodup → L.Sublist l → L = l.filter fun x => decide (x ∈ L)
  | [], L, _, h => by rw [List.sublist_nil.mp h]; rfl
  | y :: l, L, nd, h => by
    obtain ⟨n1, n2⟩ := List.nodup_cons.mp nd
    cases h with
    | cons _ h =>
      have : y ∉ L := fun z => n1 (h.subset z)
      rw [List.filter_cons, if_neg (by rw [decide_eq_true_eq]; exact this)]
      exact sub_filter n2 h
    | @cons_cons L' _ _ h =>
      rw [List.filter_cons, if_pos (by simp)]
      congr 1
      have e := sub_filter n2 h
      rw [show l.filter (fun x => decide (x ∈ y :: L')) = l.filter (fun x => decide (x ∈ L')) from List.filter_congr fun x hx => by
        have : x ≠ y := fun z => n1 (z ▸ hx)
        simp [this]]
      exact e
section
variable {caps : List Int} {lo : Int} {rows : List (List Int)}
abbrev goodB (caps : List Int) (lo : Int) (L : List Int) : Bool := decide (L ∈ bundleL caps lo lo)
theorem mem_alone {t : List Int} {L : List Int} : L ∈ aloneK caps t ↔ ∃ k : Nat, k < caps.length ∧ (k : Int) ∉ t ∧ L = [(k : Int)] := by
  unfold aloneK
  rw [List.mem_filterMap]
  constructor
  · rintro ⟨k, hk, e⟩
    split at e
    · cases e
    · cases e
      exact ⟨k, List.mem_range.mp hk, by assumption, rfl⟩
  · rintro ⟨k, hk, hn, rfl⟩
    exact ⟨k, List.mem_range.mpr hk, if_neg hn⟩
theorem mem_bund {L : List Int} : L ∈ bundleL caps lo lo ↔ (L = tieds caps lo ∧ tieds caps lo ≠ []) ∨ ∃ k : Nat, k < caps.length ∧ (k : Int) ∉ tieds caps lo ∧ L = [(k : Int)] := by
  unfold bundleL
  by_cases h : tiedK caps lo lo = []
  · rw [if_pos h, mem_alone]
    exact ⟨.inr, fun z => z.resolve_left fun y => y.2 h⟩
  · rw [if_neg h, List.mem_cons, mem_alone]
    exact or_congr ⟨fun z => ⟨z, h⟩, fun z => z.1⟩ Iff.rfl
theorem bund_apart {L M : List Int} {x : Int} (hL : L ∈ bundleL caps lo lo) (hM : M ∈ bundleL caps lo lo) (xL : x ∈ L) (xM : x ∈ M) : L = M := by
  rcases mem_bund.mp hL with ⟨rfl, _⟩ | ⟨k, _, hk, rfl⟩ <;> rcases mem_bund.mp hM with ⟨rfl, _⟩ | ⟨j, _, hj, rfl⟩
  · rfl
  · rw [List.mem_singleton.mp xM] at xL
    exact absurd xL hj
  · rw [List.mem_singleton.mp xL] at xM
    exact absurd xM hk
  · rw [← List.mem_singleton.mp xL, ← List.mem_singleton.mp xM]
theorem tied_sub (o : OneSum caps lo rows) : (tieds caps lo).Sublist (rngI caps.length) := by
  rcases tied_cases o with e | ⟨e, _⟩
  · rw [e]; exact List.nil_sublist _
  · rw [e]; exact free_sub
theorem bund_lot (o : OneSum caps lo rows) {L : List Int} (h : L ∈ bundleL caps lo lo) : L ∈ lotsOf caps.length := by
  rw [lots_mem2]
  rcases mem_bund.mp h with ⟨rfl, _⟩ | ⟨k, hk, _, rfl⟩
  · exact tied_sub o
  · exact List.singleton_sublist.mpr (mem_rngI.mpr ⟨k, rfl, hk⟩)
/-- what the search keeps -/
structure Kept (caps : List Int) (lo : Int) (pre : List (List Int)) (st : List Int × List (List Int)) : Prop where
  left : ∀ x, x ∈ st.1 ↔ x ∈ rngI caps.length ∧ ∀ M ∈ pre, M ∈ bundleL caps lo lo → x ∉ M
  found : st.2 = pre.filter (goodB caps lo)
theorem kept_step (o : OneSum caps lo rows) {pre post : List (List Int)} {L : List Int} (e : lotsOf caps.length = pre ++ L :: post) {st : List Int × List (List Int)} (k : Kept caps lo pre st) : Kept caps lo (pre ++ [L]) (bStep rows st L) := by
  have hL : L ∈ lotsOf caps.length := by rw [e]; simp
  have sub := lots_mem2.mp hL
  have nd : L.Nodup := List.Pairwise.sublist sub (rngI_nodup _)
  have nn : ∀ x ∈ L, 0 ≤ x := fun x hx => by
    obtain ⟨j, rfl, _⟩ := mem_rngI.mp (sub.subset hx)
    omega
  have all_nd := lots_nd caps.length
  rw [e, List.nodup_append] at all_nd
  have Lpre : L ∉ pre := fun z => all_nd.2.2 L z L (by simp) rfl
  have iff1 : ((L ≠ [] ∧ ∀ x ∈ L, x ∈ st.1) ∧ sameL (sumsOf rows L) = true) ↔ L ∈ bundleL caps lo lo := by
    constructor
    · rintro ⟨⟨ne, inl⟩, same⟩
      match hLe : L, ne with
      | [x], _ =>
        obtain ⟨j, rfl, hj⟩ := mem_rngI.mp (sub.subset (show x ∈ [x] by simp))
        exact mem_bund.mpr (.inr ⟨j, hj, (one_same o hj).mp same, rfl⟩)
      | x :: y :: r, _ =>
        have tl : ∀ z ∈ x :: y :: r, z ∈ tieds caps lo := fun z hz => by
          obtain ⟨j, rfl, hj⟩ := mem_rngI.mp (sub.subset hz)
          refine Classical.byContradiction fun hn => ?_
          have hb : [(j : Int)] ∈ bundleL caps lo lo := mem_bund.mpr (.inr ⟨j, hj, hn, rfl⟩)
          have hp : [(j : Int)] ∈ pre := by
            have hm := bund_lot o hb
            rw [e] at hm
            rcases List.mem_append.mp hm with z | z
            · exact z
            · rcases List.mem_cons.mp z with z | z
              · simp at z
              · have srt := lots_sorted caps.length
                rw [e] at srt
                have := (List.pairwise_cons.mp (List.pairwise_append.mp srt).2.1).1 _ z
                simp at this
          exact ((k.left _).mp (inl _ hz)).2 _ hp hb (by simp)
        have tr : ∀ z ∈ tieds caps lo, z ∈ x :: y :: r := fun z hz => by
          refine Classical.byContradiction fun hn => ?_
          obtain ⟨j, rfl, _⟩ := mem_rngI.mp ((tied_sub o).subset hz)
          obtain ⟨i, rfl, _⟩ := mem_rngI.mp (sub.subset (show x ∈ x :: y :: r by simp))
          exact part_not (k := i) (j := j) o nd nn (tl _ (by simp)) hz (by simp) hn same
        have e1 := sub_filter (rngI_nodup _) sub
        have e2 := sub_filter (rngI_nodup _) (tied_sub o)
        have eq : x :: y :: r = tieds caps lo := by
          rw [e1, e2]
          exact List.filter_congr fun z _ => decide_eq_decide.mpr ⟨tl z, tr z⟩
        exact mem_bund.mpr (.inl ⟨eq, by rw [← eq]; simp⟩)
    · intro hb
      refine ⟨⟨bundle_ne L hb, fun x hx => (k.left x).mpr ⟨sub.subset hx, fun M hM hMb xM => ?_⟩⟩, ?_⟩
      · rw [bund_apart hb hMb hx xM] at Lpre
        exact Lpre hM
      · rcases mem_bund.mp hb with ⟨rfl, _⟩ | ⟨j, hj, hn, rfl⟩
        · exact all_same o
        · exact (one_same o hj).mpr hn
  by_cases hb : L ∈ bundleL caps lo lo
  · obtain ⟨h1, h2⟩ := iff1.mpr hb
    unfold bStep
    rw [if_pos h1, if_pos h2]
    refine ⟨fun x => ?_, ?_⟩
    · rw [List.mem_filter, k.left, decide_eq_true_eq]
      constructor
      · rintro ⟨⟨a1, a2⟩, a3⟩
        refine ⟨a1, fun M hM hMb => ?_⟩
        rcases List.mem_append.mp hM with z | z
        · exact a2 M z hMb
        · rw [List.mem_singleton.mp z]; exact a3
      · rintro ⟨a1, a2⟩
        exact ⟨⟨a1, fun M hM => a2 M (List.mem_append_left _ hM)⟩, a2 L (by simp) hb⟩
    · show st.2 ++ [L] = _
      rw [List.filter_append, k.found]
      simp [goodB, hb]
  · have same : bStep rows st L = st := by
      unfold bStep
      by_cases h1 : L ≠ [] ∧ ∀ x ∈ L, x ∈ st.1
      · rw [if_pos h1, if_neg fun h2 => hb (iff1.mp ⟨h1, h2⟩)]
      · rw [if_neg h1]
    rw [same]
    refine ⟨fun x => ?_, ?_⟩
    · rw [k.left]
      refine and_congr_right fun _ => ⟨fun a M hM hMb => ?_, fun a M hM => a M (List.mem_append_left _ hM)⟩
      rcases List.mem_append.mp hM with z | z
      · exact a M z hMb
      · rw [List.mem_singleton.mp z] at hMb
        exact absurd hMb hb
    · rw [List.filter_append, k.found]
      simp [goodB, hb]
theorem kept_all (o : OneSum caps lo rows) : ∀ (post pre : List (List Int)) (st : List Int × List (List Int)), lotsOf caps.length = pre ++ post → Kept caps lo pre st → (post.foldl (bStep rows) st).2 = (lotsOf caps.length).filter (goodB caps lo)
  | [], pre, st, e, k => by
    rw [e, List.append_nil]
    exact k.found
  | L :: post, pre, st, e, k => by
    rw [List.foldl_cons]
    exact kept_all o post (pre ++ [L]) _ (by rw [e]; simp) (kept_step o e k)
theorem bundR_eq (o : OneSum caps lo rows) : bundR caps.length rows = bundles caps lo lo := by
  have h := kept_all o (lotsOf caps.length) [] (rngI caps.length, []) rfl ⟨fun x => by simp, rfl⟩
  unfold bundR bundles bundF
  rw [h]
  refine sort_perm ((List.perm_ext_iff_of_nodup (List.Pairwise.filter _ (lots_nd _)) ?_).mpr fun L => ?_)
  · have al : ∀ t : List Int, (aloneK caps t).Nodup := fun t => by
      unfold aloneK
      refine List.Pairwise.filterMap _ (fun a b hab x hx y hy e => ?_) List.nodup_range
      · split at hx
        · cases hx
        · split at hy
          · cases hy
          · cases hx
            cases hy
            simp at e
            omega
    unfold bundleL
    by_cases ht : tiedK caps lo lo = []
    · rw [if_pos ht]; exact al _
    · rw [if_neg ht, List.nodup_cons]
      refine ⟨fun z => ?_, al _⟩
      obtain ⟨k, _, hn, e⟩ := mem_alone.mp z
      exact hn (by rw [e]; simp)
  · rw [List.mem_filter, decide_eq_true_eq]
    exact ⟨fun z => z.2, fun z => ⟨bund_lot o z, z⟩⟩
end
end B
set_option Elab.async false
set_option autoImplicit false
set_option linter.all false
set_option maxRecDepth 100000
set_option maxHeartbeats 2000000
/-! a small budget: all that _law_right asks of the numbers. -/
namespace B
open PySem PySem.Spec
theorem zero_list (l : List Int) : (l.map fun _ => (0 : Int)).sum = 0 ∧ ∀ i, (l.map fun _ => (0 : Int)).getD i 0 = 0 := by
  constructor
  · induction l with
    | nil => rfl
    | cons c l ih => simp only [List.map_cons, List.sum_cons, ih]; rfl
  · intro i
    rw [List.getD_eq_getElem?_getD, List.getElem?_map]
    cases l[i]? <;> rfl
theorem rows_ne {caps : List Int} {lo hi : Int} (h : ∀ x ∈ caps, 0 ≤ x) (hne : caps ≠ []) (h0 : 0 ≤ lo) (h1 : lo ≤ hi) (h2 : hi ≤ caps.sum) : rowsL caps lo hi ≠ [] := by
  obtain ⟨z1, z2⟩ := zero_list caps
  obtain ⟨r, r1, r2, r3⟩ := fill (l := caps.map fun _ => (0 : Int)) (u := caps) (t := lo) (by simp) (fun k => by rw [z2]; exact mem_getD h k) (by omega) (by omega)
  have : r ∈ rowsL caps lo hi := (mem_rows hne).mpr ⟨⟨by simpa using r1, fun k => by have := r2 k; rw [z2] at this; exact this⟩, by omega, by omega⟩
  intro z
  rw [z] at this
  cases this
theorem singles_sorted (n : Nat) : (singles n).Pairwise fun a b => leR a b = true := by
  unfold singles
  refine List.Pairwise.map _ (fun a b h => ?_) List.pairwise_lt_range
  rw [leR_eq, decide_eq_true_eq]
  refine List.le_of_lt ?_
  exact List.Lex.rel (by omega)
theorem bund_single {caps : List Int} {lo hi : Int} (h : lo ≠ hi) : bundles caps lo hi = singles caps.length := by
  have e : bundleL caps lo hi = singles caps.length := by
    unfold bundleL tiedK
    rw [if_neg h, if_pos rfl]
    unfold aloneK singles
    rw [← List.filterMap_eq_map]
    exact fm_congr_mem fun k _ => if_neg List.not_mem_nil
  unfold bundles
  rw [e]
  exact List.mergeSort_of_pairwise (singles_sorted _)
theorem right_ok {caps : List Int} {lo hi : Int} (h : smallB caps lo hi) : RightOk caps lo hi (rowsL caps lo hi) := by
  obtain ⟨⟨hc4, hc3⟩, hne, h0, h1, h2, hg⟩ := h
  have nn : ∀ x ∈ caps, 0 ≤ x := fun x hx => (hc3 x hx).1
  have mem : ∀ r, r ∈ rowsL caps lo hi ↔ inB caps lo hi r := fun r => mem_rows hne
  have len : (rowsL caps lo hi).length ≤ 256 := by
    have := rowsF_256 (hi := hi) (caps := caps) ⟨hc4, hc3⟩ caps.length
    rw [List.take_length] at this
    exact Nat.le_trans (List.length_filter_le _ _) this
  refine ⟨rows_ne nn hne h0 h1 h2, len, fun r hr => (mem r).mp hr, ?_, fun a ha b hb h2 => ⟨few_le2 mem ((mem a).mp ha) ((mem b).mp hb) h2, ?_⟩, bund_rp (by omega)⟩
  · split
    · rename_i e
      subst e
      exact (bundR_eq ⟨nn, h0, by omega, mem⟩).symm
    · rename_i e
      exact bund_single e
  · cases hf : fewest (rowsL caps lo hi) a b with
    | none => exact rp_non
    | some M =>
      have := loop_lt _ _ _ _ hf
      exact rp_int ⟨by omega, by omega⟩
end B
set_option Elab.async false
set_option autoImplicit false
set_option linter.all false
set_option maxRecDepth 100000
set_option maxHeartbeats 4000000
namespace B
open PySem PySem.Spec PyProof.Rows L2
/-! the law itself. -/
abbrev sLaw : Stmt := top 41
abbrev nLaw : List Str := ["_law_script", "_law_deal", "_law_caps", "_law_low", "_law_high"]
theorem sc_law : FnScope nLaw ["_law_script"] (defScope sLaw) := ⟨rfl, rfl, rfl, by decide +kernel, rfl, by decide +kernel, by decide +kernel⟩
/-- the law's promise, of the heap as it stands -/
def spLaw (θ : Th) : Sp := fun vs H Q _ => ∃ (a : Addr) (ns : List Int), vs = [.ref a] ∧ SqL θ.K H a (ns.map V.int) ∧ (∀ p ∈ θ.T, H p.1 = some (.tbl #[])) ∧ ∀ H', Q (.bl true) H'
def onlyAt (H : Hp) (a : Addr) : Hp := fun b => if b = a then H a else none
theorem only_at {H : Hp} {a : Addr} : onlyAt H a a = H a := if_pos rfl
theorem only_ne {H : Hp} {a b : Addr} (h : ¬ b = a) : onlyAt H a b = none := if_neg h
theorem sql_part {K : PySem.W.Frag} {H : Hp} {a : Addr} {xs : List V} (h : SqL K H a xs) : ∃ G : Hp, SqL K G a xs ∧ Same G H ∧ ∀ b ps, G b ≠ some (.tbl ps) := by
  rcases h with h | h
  · refine ⟨onlyAt H a, .inl ?_, fun b o e => ?_, fun b ps e => ?_⟩
    · unfold Rd at h ⊢
      rw [only_at]
      exact h
    · by_cases hb : b = a
      · rw [hb] at e ⊢
        rwa [only_at] at e
      · rw [only_ne hb] at e
        cases e
    · by_cases hb : b = a
      · rw [hb, only_at] at e
        rcases h with h | ⟨o, h⟩ <;> rw [h] at e <;> cases e
      · rw [only_ne hb] at e
        cases e
  · exact ⟨fun _ => none, .inr h, fun _ _ e => (by cases e), fun _ _ e => by cases e⟩
section
variable {P : Program} {w : PySem.World} {K : PySem.W.Frag} {mg : Str → Option Value} {base : Heap} {θ : Th} {f : Addr} {fd : FuncData}
theorem rs_deal {θ : Th} {δ : Dl} {G H : Hp} (l : Addr) (hl : l = δ.d) {y0 y2 y3 y4 : Option V} : RS θ δ true G H [y0, some (.ref l), y2, y3, y4] [none, some (.dat .deal), none, none, none] where
  len := rfl
  dat := fun i d h => by
    match i with
    | 0 => cases h
    | 1 =>
      cases h
      rw [hl]
      exact ⟨_, rfl, .deal⟩
    | 2 => cases h
    | 3 => cases h
    | 4 => cases h
    | i + 5 => cases h
  own := fun i d h => by
    match i with
    | 0 => cases h
    | 1 => cases h
    | 2 => cases h
    | 3 => cases h
    | 4 => cases h
    | i + 5 => cases h
  one := fun i j ds es h _ => by
    match i with
    | 0 => cases h
    | 1 => cases h
    | 2 => cases h
    | 3 => cases h
    | 4 => cases h
    | i + 5 => cases h
/-- behind the draws' source: the rest of the law -/
theorem ok_rest (c : Callees P w K mg base θ) (cS : Cal P w K mg base 3 "_law_small" ["_law_deal"] (spD θ true preDeal postSmall)) (cR : Cal P w K mg base 1 "_law_rows" ["_law_caps", "_law_low", "_law_high"] (spF θ preRows fRows))
    (cX : CalG P w K mg base 10 "_law_right" pRight (spD θ true preRight postTrue)) (cL : CalG P w K mg base 10 "_law_large" pLarge (spD θ true preDeal postTrue))
    (math : ∀ caps lo hi, smallB caps lo hi → RightOk caps lo hi (rowsL caps lo hi))
    {cdv : Value} {A : Around} {outer : List Env} {s : Shared} {H : Hp} {E : XK} (hr : Room 10 (A.deeper (envOfC "law" (defScope sLaw) s.heap.objs.size f cdv))) (hgd : A.guards = some []) (δ : Dl) :
    JS θ δ true (cxOf (L2.CX P w) P w K mg base nLaw "law" (defScope sLaw) f cdv A outer s H E) E [none, some (.dat .deal), none, none, none] ((defBody sLaw).drop 1) { nx := fun _ => False, rt := fun d => d = .bl true } := by
  have hK := c.th.eK
  refine js_asg (act := Three 2 3 4) (Φ := fun d => ∃ caps lo hi, smallB caps lo hi ∧ d = .tup [dli caps, .int lo, .int hi]) (jg_three hK.symm 2 3 4 sc_law.nd) (je_call cS hr (by decide) (ja_1 (je_var 1) ja_nil) (fun ds e => e) (fun ds d e ho => ?_) fun ds cc n e ho => ?_) (fun d ⟨caps, lo, hi, _, e⟩ => ⟨_, _, _, _, e, rfl⟩) fun d ρ' hd hA => ?_
  · obtain ⟨caps, lo, hi, h, e⟩ := ho
    cases e
    exact ⟨caps, lo, hi, h, rfl⟩
  · obtain ⟨caps, lo, hi, h, e⟩ := ho
    cases e
  obtain ⟨caps, lo, hi, hs, rfl⟩ := hd
  obtain ⟨_, _, _, ed, rfl⟩ := hA
  cases ed
  exact js_ret (Φ := Is (.bl true)) (je_andI (k := true) (je_callG cX hgd hr (by decide) (ja_1 (je_var 1) (ja_1 (je_var 2) (ja_1 (je_var 3) (ja_1 (je_var 4) (ja_1 (d := drows (rowsL caps lo hi)) (je_callI cR hr (by decide) (ja_1 (je_var 2) (ja_1 (je_var 3) (ja_1 (je_var 4) ja_nil))) ⟨caps, lo, hi, rfl, hs.1⟩ fun o e => e.trans (congrArg (fun l => Ou.ret (drows (rowsL l lo hi))) (nOf_di caps))) ja_nil))))) (fun ds e => ⟨caps, lo, hi, _, e, hs, math caps lo hi hs⟩) (fun ds d e ho => by cases ho; rfl) fun ds cc n e ho => by cases ho)
    (fun _ => je_and1 (je_callG cL hgd hr (by decide) (ja_1 (je_var 1) ja_nil) (fun ds e => e) (fun ds d e ho => by cases ho; rfl) fun ds cc n e ho => by cases ho)) fun e => by cases e) fun d e => e
theorem ok_law (D0 : Df K mg "law" sLaw ["_law_script"] f fd) (c : Callees P w K mg base θ) (cD : Cal P w K mg base 1 "_law_draw" pDraw (spD θ false preDraw postDraw))
    (cS : Cal P w K mg base 3 "_law_small" ["_law_deal"] (spD θ true preDeal postSmall)) (cR : Cal P w K mg base 1 "_law_rows" ["_law_caps", "_law_low", "_law_high"] (spF θ preRows fRows))
    (cX : CalG P w K mg base 10 "_law_right" pRight (spD θ true preRight postTrue)) (cL : CalG P w K mg base 10 "_law_large" pLarge (spD θ true preDeal postTrue))
    (math : ∀ caps lo hi, smallB caps lo hi → RightOk caps lo hi (rowsL caps lo hi)) : FnG P w K mg base 11 f fd ["_law_script"] (spLaw θ) := by
  have hK := c.th.eK
  obtain ⟨oc, od, kV, doc, pm, an, cdv, ct, osl, rfl, lk, hcd⟩ := D0.F.ex
  refine fnG_of lk hcd sc_law (fun vs H Q E h => ?_) fun A outer s H vs Q E hr hgd h => ?_
  · obtain ⟨a, ns, rfl, _⟩ := h
    rfl
  obtain ⟨a, ns, rfl, hS, hT, hQ⟩ := h
  obtain ⟨G, gS, gH, gT⟩ := sql_part hS
  have pre : Pre θ ⟨a, a, G, H⟩ false G H := ⟨gH, gT, fun z => by cases z⟩
  have rs : RS θ ⟨a, a, G, H⟩ false G H (L2.start nLaw [.ref a]) (startR nLaw [.scr ns]) := rs_start (.cons (.scr gS) .nil)
  refine ⟨_, pss_cons (ps_set (i := 1) sc_law.nd rfl (.inl rfl) (pe_b _ _) rfl (.inl rfl)) (pss_b _ _), ?_⟩
  refine (je_call cD hr (by decide) (ja_1 (je_var 0) (ja_1 je_int ja_nil)) (fun ds e => ⟨ns, e⟩) (fun ds d e ho => ?_) (fun ds cc n e ho => ?_) : JE θ ⟨a, a, G, H⟩ false (cxOf (L2.CX P w) P w K mg base nLaw "law" (defScope sLaw) f cdv A outer s H E) (startR nLaw [.scr ns]) _ (fun d => ∃ (cs : List Int) (bl : Int), d = .list [dli cs, .int bl] ∧ (∀ c ∈ cs, 0 ≤ c) ∧ cs.length ≤ 100 ∧ 0 ≤ bl ∧ bl < 2147483647)) _ G H rs pre _ fun v d G1 H1 po hd rv => ?_
  · obtain ⟨cs, bl, e1, r⟩ := ho
    cases e1
    exact ⟨cs, bl, rfl, r⟩
  · obtain ⟨cs, bl, e1, r⟩ := ho
    cases e1
  obtain ⟨cs, bl, rfl, hcs, hcl, hb0, hb1⟩ := hd
  have pr := po.pre pre
  cases rv with
  | @lst l xs ds hl ra =>
  cases ra with
  | @cons v0 vs d0 ds r0 ra =>
  cases r0 with
  | @lst l0 xs0 ds0 hl0 ra0 =>
  have e0 := ra0.int
  subst e0
  cases ra with
  | @cons v1 vs d1 ds r1 ra =>
  cases r1
  cases ra
  have g1 := pr.gh _ _ hl
  have g0 := pr.gh _ _ hl0
  have tb : ∀ p ∈ θ.T, H1 p.1 = some (.tbl #[]) := fun p hp => po.fr _ _ (hT p hp) fun z => by cases z
  have ne : l ≠ l0 := fun z => by
    rw [z, hl0] at hl
    have := congrArg (fun o : Option HO => match o with | some (.lst (x :: _)) => x | _ => .non) hl
    cases cs with
    | nil => simp at hl
    | cons c cs => simp at hl
  have wd : Wld θ ⟨l, l0, fun _ => none, H1⟩ (fun _ => none) H1 :=
    { ne := ne, dl := ⟨bl, g1, hb0, hb1⟩, d0 := ⟨cs, g0, hcs, hcl⟩,
      tb := fun p hp => ⟨#[], tb p hp, trivial, fun pos cv z => by cases z⟩,
      tm := fun p hp => by
        have e := tb p hp
        refine ⟨fun z => ?_, fun z => ?_⟩
        · rw [show p.1 = l from z, g1] at e
          cases e
        · rw [show p.1 = l0 from z, g0] at e
          cases e
      gn := fun _ _ => rfl }
  have pre2 : Pre θ ⟨l, l0, fun _ => none, H1⟩ true (fun _ => none) H1 := ⟨fun _ _ e => (by cases e), fun _ _ e => (by cases e), fun _ => wd⟩
  have rs2 : RS θ ⟨l, l0, fun _ => none, H1⟩ true (fun _ => none) H1 ((L2.start nLaw [.ref a]).set 1 (some (.ref l))) [none, some (.dat .deal), none, none, none] :=
    rs_deal _ rfl
  exact ok_rest c cS cR cX cL math hr hgd ⟨l, l0, fun _ => none, H1⟩ (fun _ => none) H1 _ _ H1 ⟨rs2, pre2, .refl pre2, Same.refl _⟩ _ ⟨fun _ _ _ _ z => z.elim, fun v d G' H' e po rv => by
    subst e
    cases rv
    exact hQ H', fun _ _ _ _ z => z.elim, fun _ _ _ _ z => z.elim, fun _ _ _ _ _ z => z.elim⟩
end
end B
set_option Elab.async false
set_option autoImplicit false
set_option linter.all false
set_option maxRecDepth 100000
set_option maxHeartbeats 4000000
/-! the row's end: a def called where no repr is under way (FnG), with tables for its lambdas. -/
namespace B
open PySem PySem.Spec PyProof.Rows L2
abbrev tab0 : Obj := { cls := .none, data := .fields #[] }
abbrev lstO (vs : List Value) : Obj := { cls := .type "list", data := .seq vs.toArray }
open Classical in
/-- what is followed as the law is called: the tables, and the script where the written part lacks it -/
noncomputable def heap1 (K : PySem.W.Frag) (tabs : List Addr) (a : Addr) (vs : List Value) (ns : List Int) : Hp := fun b =>
  if b ∈ tabs then some (.tbl #[]) else if b = a ∧ K.lookup a = none then some (.frz (lstO vs) (.lst (ns.map V.int))) else none
section
variable {K : PySem.W.Frag} {tabs : List Addr} {a b : Addr} {vs : List Value} {ns : List Int} {u : HO} {h : Heap} {o : Obj}
theorem heap1_tab (hb : b ∈ tabs) : heap1 K tabs a vs ns b = some (.tbl #[]) := if_pos hb
theorem heap1_scr (ha : a ∉ tabs) (hk : K.lookup a = none) : heap1 K tabs a vs ns a = some (.frz (lstO vs) (.lst (ns.map V.int))) := (if_neg ha).trans (if_pos ⟨rfl, hk⟩)
theorem heap1_cases (e : heap1 K tabs a vs ns b = some u) : (b ∈ tabs ∧ u = .tbl #[]) ∨ (b = a ∧ K.lookup a = none ∧ u = .frz (lstO vs) (.lst (ns.map V.int))) := by
  unfold heap1 at e
  split at e
  · rename_i hb
    cases e
    exact .inl ⟨hb, rfl⟩
  · split at e
    · rename_i hb
      cases e
      exact .inr ⟨hb.1, hb.2, rfl⟩
    · cases e
/-- whatever is neither an empty table nor the script is not followed -/
theorem heap1_not (hT : ∀ p ∈ tabs, h.get? p = some tab0) (ha : h.get? a = some (lstO vs)) (e : h.get? b = some o) (n1 : o ≠ tab0) (n2 : o ≠ lstO vs) : heap1 K tabs a vs ns b = none := by
  cases q : heap1 K tabs a vs ns b with
  | none => rfl
  | some u =>
    rcases heap1_cases q with ⟨hb, _⟩ | ⟨rfl, _⟩
    · exact absurd (Option.some.inj (e.symm.trans (hT b hb))) n1
    · exact absurd (Option.some.inj (e.symm.trans ha)) n2
theorem tab_ne_list : tab0 ≠ lstO vs := fun z => by
  have := congrArg Obj.cls z
  cases this
theorem not_list (n : String) (hn : "list" ≠ n) (e : (lstO vs).cls = .type n) : False := hn (by
  have e : Value.type "list" = .type n := e
  injection e)
/-- a namespace stands as before where the followed objects are hidden -/
theorem heap1_ns (hT : ∀ p ∈ tabs, h.get? p = some tab0) (ha : h.get? a = some (lstO vs)) {L : Addr} {m : Str → Option Value} (n : h.Ns L m) : (hidT h (heap1 K tabs a vs ns)).Ns L m := by
  obtain ⟨o, es, ep, e, d, r⟩ := n
  refine ⟨o, es, ep, hidT_get e (heap1_not hT ha e (fun z => ?_) fun z => ?_), d, r⟩ <;> (subst z; cases d)
end
section
variable {P : Program} {w : World} {K : PySem.W.Frag} {mg mb : Str → Option Value} {k : Nat} {fa a : Addr} {cs : List (Addr × Addr)} {fd : FuncData} {x : Str} {sp : Sp} {s₁ : Shared} {vs : List Value} {ns : List Int}
theorem no_air {H : Hp} {s s' : Shared} {e : Value} (z : L2.CX P w [] H s (fun _ _ _ => False) e s') : False := by
  obtain ⟨_, _, _, _, _, _, _, _, _, _, _, _, z⟩ := z
  exact z
theorem law_callG {p : Program} {loose : List Str} {mean : ExcName → Option Value} (T : Top p loose mean mg mb s₁.heap) (KX : K.In s₁.heap) (hg : s₁.gens = #[])
    (hT : ∀ p ∈ cs, s₁.heap.get? p.2 = some tab0) (nT : ∀ p ∈ cs, K.lookup p.2 = none) (C : ∀ p ∈ cs, PySem.W.CodeHd s₁.heap p.1 p.2)
    (ha : s₁.heap.get? a = some (lstO vs)) (hi : IntsAre vs ns) (hl : ns.length ≤ sizeLine) (hr : Room k callerA)
    (F : ∀ base : Heap, K.In base → base.Ns mainGlobals mg → (∀ p ∈ cs, LamX.TabB base mg p.1 p.2) → FnG P w K mg base k fa fd [x] sp) (hbind : ∀ (s : Shared) (u : Value), BindsTo s fd ⟨[u], []⟩ [(x, u)])
    (hsp : ∀ H : Hp, (∀ p ∈ cs, H p.2 = some (.tbl #[])) → SqL K H a (ns.map V.int) → sp [.ref a] H (fun v _ => v = .bl true) fun _ _ _ => False) :
    codeAny (model P w) callerA (.call (.ref fa) ⟨[.ref a], []⟩) (fun r s' => r = .ok (.ret (.bool true)) ∧ OldK s₁.heap s'.heap ∧ s'.os = s₁.os ∧ AllBare s'.gens) s₁ := by
  obtain ⟨tabs, htabs⟩ : ∃ tabs : List Addr, tabs = cs.map Prod.snd := ⟨_, rfl⟩
  have mem : ∀ p ∈ cs, p.2 ∈ tabs := fun p hp => htabs ▸ List.mem_map_of_mem hp
  have back : ∀ b ∈ tabs, ∃ p ∈ cs, p.2 = b := fun b hb => List.mem_map.mp (htabs ▸ hb)
  have hTt : ∀ b ∈ tabs, s₁.heap.get? b = some tab0 := fun b hb => by
    obtain ⟨p, hp, rfl⟩ := back b hb
    exact hT p hp
  have aN : a ∉ tabs := fun z => tab_ne_list (Option.some.inj ((hTt a z).symm.trans ha))
  obtain ⟨H, hH⟩ : ∃ H : Hp, H = heap1 K tabs a vs ns := ⟨_, rfl⟩
  have keep : ∀ {b : Addr} {o : Obj}, s₁.heap.get? b = some o → o ≠ tab0 → o ≠ lstO vs → (hidT s₁.heap H).get? b = some o := fun e n1 n2 => hidT_get e (by rw [hH]; exact heap1_not hTt ha e n1 n2)
  have gns : ∀ {L : Addr} {m : Str → Option Value}, s₁.heap.Ns L m → (hidT s₁.heap H).Ns L m := fun n => by
    rw [hH]
    exact heap1_ns hTt ha n
  have kin : K.In (hidT s₁.heap H) := fun b o e => by
    refine hidT_get (KX b o e) ?_
    cases q : H b with
    | none => rfl
    | some u =>
      rw [hH] at q
      rcases heap1_cases q with ⟨hb, _⟩ | ⟨rfl, hk, _⟩
      · obtain ⟨p, hp, rfl⟩ := back b hb
        rw [nT p hp] at e
        cases e
      · rw [hk] at e
        cases e
  have tabB : ∀ p ∈ cs, LamX.TabB (hidT s₁.heap H) mg p.1 p.2 := fun p hp => by
    obtain ⟨o, us, file, tf, flags, tg, inF, text, tt, e1, e2, e3⟩ := C p hp
    obtain ⟨bm, ob, b1, b2, b3, b4, b5, b6⟩ := T.bmain
    obtain ⟨og, es, ep, g1, g2, _⟩ := T.g
    refine ⟨⟨o, us, file, tf, flags, tg, inF, text, tt, keep e1 (fun z => ?_) (fun z => ?_), e2, e3⟩, ⟨bm, ob, b1, b2, fun z => ?_, fun z => ?_, keep b3 (fun z => ?_) (fun z => ?_), b4, b5, b6⟩, fun z => ?_⟩
    · rw [z] at e2
      cases e2
    · rw [z] at e2
      exact not_list _ (by decide) e2
    · subst z
      rw [g1] at b3
      cases b3
      rw [g2] at b6
      cases b6
    · subst z
      rw [hT p hp] at b3
      cases b3
      cases b4
    · rw [z] at b4
      cases b4
    · rw [z] at b4
      exact not_list _ (by decide) b4
    · rw [z, hT p hp] at g1
      cases g1
      cases g2
  have hok : HOk P w H s₁.heap := fun b u q => by
    rw [hH] at q
    rcases heap1_cases q with ⟨hb, rfl⟩ | ⟨rfl, _, rfl⟩
    · exact hTt b hb
    · exact ⟨ha, by rw [List.length_map]; exact hl, vs, _, vals_ints hi, ha⟩
  have scr : SqL K H a (ns.map V.int) := by
    cases hk : K.lookup a with
    | none => exact .inl (.inr ⟨_, by rw [hH]; exact heap1_scr aN hk⟩)
    | some o =>
      have e := (KX a o hk).symm.trans ha
      cases e
      exact .inr ⟨_, vs.toArray, _, hk, rfl, rfl, rfl, by rw [List.size_toArray, hi.length]; exact hl, vals_ints hi⟩
  have tabsH : ∀ p ∈ cs, H p.2 = some (.tbl #[]) := fun p hp => by
    rw [hH]
    exact heap1_tab (mem p hp)
  have mod : L2.Mod K mg (hidT s₁.heap H) := ⟨kin, gns T.g, ⟨mb, gns T.b, T.builtins⟩, let ⟨mc, l1, l2⟩ := T.nolimit; ⟨mc, gns l1, l2⟩⟩
  have env : Env0 P w K mg (hidT s₁.heap H) callerA [] s₁ H := ⟨rfl, mod, fun b o e => of_hidT e, by rw [hidT_size]; exact Nat.le_refl _, trivial, fun b hb => (List.not_mem_nil hb).elim, hok, .of_eq hg⟩
  refine codeAny_mono ((F _ kin (gns T.g) tabB).run callerA [] s₁ H ⟨[.ref a], []⟩ [.ref a] [.ref a] _ _ hr rfl env (hbind s₁ (.ref a)) (.cons rfl .nil) (hsp H tabsH scr)) fun r s' q => ?_
  match r, q with
  | .error e, q => exact (no_air q).elim
  | .ok .next, q => exact q.elim
  | .ok .brk, q => exact q.elim
  | .ok .cont, q => exact q.elim
  | .ok (.ret u), ⟨v, H', os, bare, un, hok', rv, hv⟩ =>
    have hv : v = .bl true := hv
    subst hv
    have eu : u = Value.bool true := rv
    subst eu
    refine ⟨rfl, ⟨fun b o e => ?_, fun b o e => un.there b o e List.not_mem_nil⟩, os, bare⟩
    cases q : H b with
    | none => exact .inl (un.keep b o e q List.not_mem_nil List.not_mem_nil)
    | some z =>
      have q' := q
      rw [hH] at q'
      rcases heap1_cases q' with ⟨hb, rfl⟩ | ⟨rfl, _, rfl⟩
      · obtain ⟨p, hp, rfl⟩ := back b hb
        obtain ⟨more, em⟩ := un.tbls _ _ q
        have eo := Option.some.inj (e.symm.trans (hT p hp))
        subst eo
        have now : s'.heap.get? p.2 = some { cls := .none, data := .fields (#[] ++ more) } := hok' _ _ em
        exact .inr (.inl ⟨((C p hp).tab (hT p hp)).isCodeTable, rfl, #[], more, rfl, now⟩)
      · have eo := Option.some.inj (e.symm.trans ha)
        subst eo
        exact .inl (hok' _ _ (un.frzs _ _ _ q)).1
end
end B
set_option Elab.async false
set_option autoImplicit false
set_option linter.all false
set_option maxRecDepth 100000
set_option maxHeartbeats 4000000
/-! what the program's top has left, and all defs together. -/
namespace B
open PySem PySem.Spec PyProof.Rows L2
/-- the def x at f, its code cdv -/
structure Left (K : PySem.W.Frag) (x : Str) (st : Stmt) (f : Addr) (cdv : Value) : Prop where
  a : PySem.W.nsIn K mainGlobals x = some (some (.ref f))
  F : ∃ fd : FuncData, Fun K x x st f fd ∧ fd.code = cdv
theorem left_mk {K : PySem.W.Frag} {x : Str} {st : Stmt} {f : Addr} {oc : Value} {od an : Option Addr} {osl : Array (Option Value)} {kV doc pm cdv ct : Value} (a : PySem.W.nsIn K mainGlobals x = some (some (.ref f)))
    (l : K.lookup f = some ⟨oc, od, .func (PySem.W.fnOf x x (defArgs st) (defBody st) (defScope st) .none kV doc pm an cdv ct), osl⟩) (c : PySem.W.codeIn K cdv x = true) (k : PySem.W.keepIn K (.ref f) = true) : Left K x st f cdv := ⟨a, _, fun_mk l c k, rfl⟩
section
variable {P : Program} {w : World} {K : PySem.W.Frag} {h : Heap} {mg : Str → Option Value}
theorem Left.df {x : Str} {st : Stmt} {f : Addr} {cdv : Value} {ps : List Str} (L : Left K x st f cdv) (X : K.In h) (G : h.Ns mainGlobals mg)
    (hb : ∀ (kV doc pm : Value) (an : Option Addr) (cdv ct : Value) (us : List Value), us.length = ps.length → bindArgs (PySem.W.fnOf x x (defArgs st) (defBody st) (defScope st) .none kV doc pm an cdv ct) ⟨us, []⟩ = pure (ps.zip us)) : ∃ fd, Df K mg x st ps f fd ∧ fd.code = cdv := by
  obtain ⟨a, fd, F, e⟩ := L
  exact ⟨fd, ⟨F, PySem.W.mg_of X G a, F.binds hb⟩, e⟩
/-- an own exception's class -/
theorem txt_mk {nm : Str} {C fI cc cda : Addr} (X : K.In h) (G : h.Ns mainGlobals mg) {n q : Str} {N : Addr} {bs bm : List Value} {sn : List Str} {sub : List Value} {ab : Bool} {col : Option Bool} {dd : Option Addr} {k0 k1 k2 k3 k5 : Option Value} {oc : Value} {od : Option Addr} {q' text : Str} {doc pm : Value} {an : Option Addr} {ct : Value} {osl : Array (Option Value)} {p1 p2 q1 q2 q3 q4 q5 q6 q7 q8 q9 q10 : Pos}
    {cl : Value} {cld : Option Addr} {csl : Array (Option Value)} {ccl : Value} {cdd : Option Addr} {vs : Array Value} {ccs : Array (Option Value)} {file : Str} {tf : Tok}
    (gC : PySem.W.nsIn K mainGlobals nm = some (some (.ref C))) (cls : K.lookup C = some (excClassObj n q C N bs bm true sn sub ab col dd k0 k1 k2 k3 k5 "ValueError.__new__")) (bmv : PySem.HandSPX.refsVE bm = true)
    (sa : PySem.W.findIn K (.ref C) "__setattr__" = some (some (.builtin "object.__setattr__"))) (ga : PySem.W.findIn K (.ref C) "__getattribute__" = some (some (.builtin "BaseException.__getattribute__"))) (gg : PySem.W.findIn K (.ref C) "__getattr__" = some none) (noN : PySem.W.findIn K (.ref C) "at" = some none)
    (iC : PySem.W.findIn K (.ref C) "__init__" = some (some (.ref fI))) (tC : PySem.W.typeIn K (.ref fI) = some (.type "function")) (kC : PySem.W.keepIn K (.ref C) = true) (exC : PySem.W.subIn K (.ref C) (.type "BaseException") = some true) (veC : PySem.W.subIn K (.ref C) (.type "ValueError") = some true)
    (tyC : PySem.W.typeIn K (.ref C) = some (.type "type")) (hdC : PySem.W.hasDictIn K C = true) (mC : PySem.W.mroIn K C (.ref C) = some true)
    (fn : K.lookup fI = some ⟨oc, od, .func (PySem.W.ksFn "__init__" q' (BX.xPar p1 p2) (BX.xBody text q1 q2 q3 q4 q5 q6 q7 q8 q9 q10) BX.xScope .none .none doc pm an (.ref cda) ct cc), osl⟩) (fc : PySem.W.codeIn K (.ref cda) q' = true) (ln : (q3.endLine == q5.line) = true)
    (cell : K.lookup cc = some ⟨cl, cld, .cell (some (.ref C)), csl⟩) (code : K.lookup cda = some ⟨ccl, cdd, .fields vs, ccs⟩) (cv : vs[2]? = some (.str file tf)) (cf : ((P.main.file : Str) == file) = true)
    (sup : PySem.W.ks_superIn K C C "__init__" = some (some (.builtin "ValueError.__init__"))) (opq : PySem.W.nsIn K cStatics "thirdparty.any" = some none) (noS : PySem.W.nsIn K mainGlobals "super" = some none) (tp : (P.main.scope.names.lookup ("super" : Str)).isSome = false) : BX.Txt P K mg nm C fI cc cda where
  gC := PySem.W.mg_of X G gC
  cls := ⟨_, _, _, _, _, _, _, _, _, _, _, _, _, _, _, cls, bmv⟩
  sa := sa
  ga := ga
  gg := gg
  noN := noN
  iC := iC
  tC := tC
  kC := kC
  exC := exC
  veC := veC
  tyC := tyC
  hdC := hdC
  mC := mC
  sup := sup
  opq := opq
  noS := PySem.W.mg_none_of X G noS
  top := tp
  cell := ⟨_, _, _, cell⟩
  code := ⟨_, _, _, _, _, _, code, cv, cf⟩
  fn := ⟨_, _, _, _, _, _, _, _, _, _, _, _, _, _, _, _, _, _, _, _, _, fn, fc, ln⟩
/-- the law's def as the row's end wants it: its tables, its promise, and that it keeps it -/
def LawAtG (P : Program) (w : World) (K : PySem.W.Frag) (mg : Str → Option Value) (fa : Addr) (h : Heap) : Prop :=
  ∃ (fd : FuncData) (cs : List (Addr × Addr)) (sp : Sp), (∀ p ∈ cs, h.get? p.2 = some tab0) ∧ (∀ p ∈ cs, K.lookup p.2 = none) ∧ (∀ p ∈ cs, PySem.W.CodeHd h p.1 p.2) ∧ (∀ (s : Shared) (u : Value), BindsTo s fd ⟨[u], []⟩ [(("_law_script" : Str), u)]) ∧
    (∀ (H : Hp) (a : Addr) (ns : List Int), (∀ p ∈ cs, H p.2 = some (.tbl #[])) → SqL K H a (ns.map V.int) → sp [.ref a] H (fun v _ => v = .bl true) fun _ _ _ => False) ∧
    ∀ base : Heap, K.In base → base.Ns mainGlobals mg → (∀ p ∈ cs, LamX.TabB base mg p.1 p.2) → FnG P w K mg base 11 fa fd ["_law_script"] sp
theorem walk_ofG {l : PySem.W.OpenLaw} {n : Nat} {q : Program} {loose : List Str} {XP : (Str → Option Value) → Heap → Prop} {YP : World → Heap → Prop} {d : DefRec} {KK : Params → PySem.W.Frag} (hn : l.most = some n) (hn2 : n ≤ sizeLine) (hdf : d.params.defaults = []) (hr : Room 11 callerA)
    (hY : ∀ (w : World) (h : Heap), YP w h → (KK w.params).In h) (F : ∀ (w : World) (mg : Str → Option Value) (fa : Addr) (h : Heap), YP w h → (KK w.params).In h → h.Ns mainGlobals mg → mg d.name = some (.ref fa) → LawAtG l.prog w (KK w.params) mg fa h) :
    PySem.W.WalkO q loose XP YP l.row.toRowW d [] (fun f vs => PySem.call f vs) :=
  Att.attach_callB hn hdf fun w s₀ s₁ mg mb fa o pm cd doc a vs ns G Y ho hd hcd hmg hobj hints hlen hbits hg => by
    obtain ⟨fd, cs, sp, hT, nT, C, hb, hsp, hF⟩ := F w mg fa _ Y (hY w _ Y) G.T.g hmg
    exact law_callG G.T (hY w _ Y) hg hT nT C hobj hints (Nat.le_trans hlen hn2) hr hF hb fun H h1 h2 => hsp H a ns h1 h2
theorem all_mk {fa CS CR iS iR eS eR dS dR C fI c1 T1 c2 T2 c3 T3 c4 T4 : Addr} {fdI : FuncData} (X : K.In h) (G : h.Ns mainGlobals mg) (hfa : mg "law" = some (.ref fa))
    (xS : BX.Txt P K mg "InvalidState" CS iS eS dS) (xR : BX.Txt P K mg "Refused" CR iR eR dR) (ss : PySem.W.exmOne K (.ref CS) (.ref CS) = some true) (rr : PySem.W.exmOne K (.ref CR) (.ref CR) = some true) (rs : PySem.W.exmOne K (.ref CR) (.ref CS) = some false)
    (gC : PySem.W.nsIn K mainGlobals "Budget" = some (some (.ref C))) (cl : Cls K C) (n1 : NoAttr K C "key_count") (n2 : NoAttr K C "caps") (n3 : NoAttr K C "low") (n4 : NoAttr K C "high") (FI : L2.Fun K "__init__" "Budget.__init__" sInit fI fdI) (mkI : Mk K C fI)
    (ap : T1 ≠ T2 ∧ T1 ≠ T3 ∧ T1 ≠ T4 ∧ T2 ≠ T3 ∧ T2 ≠ T4 ∧ T3 ≠ T4)
    (m_is_integer : ∃ f cdv, Left K "is_integer" sIsInteger f cdv)
    (m_is_number : ∃ f cdv, Left K "is_number" sIsNumber f cdv)
    (m_is_index : ∃ f cdv, Left K "is_index" sIsIndex f cdv)
    (m_is_sequence : ∃ f cdv, Left K "is_sequence" sIsSequence f cdv)
    (m_is_row_below : ∃ f cdv, Left K "is_row_below" sRowBelow f cdv)
    (m_budget_row : ∃ f cdv, Left K "budget_row" sBudgetRow f cdv)
    (m_span_of : ∃ f cdv, Left K "span_of" sSpanOf f cdv)
    (m_free_keys : ∃ f cdv, Left K "free_keys" sFreeKeys f cdv)
    (m_budget_bundles : ∃ f cdv, Left K "budget_bundles" sBundles f cdv)
    (m_step_towards : ∃ f cdv, Left K "step_towards" sStep f cdv)
    (m_parts_above : ∃ f cdv, Left K "parts_above" sParts f cdv)
    (m_changes_needed : ∃ f cdv, Left K "changes_needed" sNeeded f cdv)
    (m__law_draw : ∃ f cdv, Left K "_law_draw" sDraw f cdv)
    (m__law_any : ∃ f cdv, Left K "_law_any" sAny f cdv)
    (m__law_of : ∃ f cdv, Left K "_law_of" sOf f cdv)
    (m__law_great : ∃ f cdv, Left K "_law_great" sGreat f cdv)
    (m__law_rows : ∃ f cdv, Left K "_law_rows" sRows f cdv)
    (m__law_refused : ∃ f cdv, Left K "_law_refused" sRefused f cdv)
    (m__law_small : ∃ f cdv, Left K "_law_small" sSmall f cdv)
    (m__law_lots : ∃ f cdv, Left K "_law_lots" sLots f cdv)
    (m__law_bundles : ∃ f cdv, Left K "_law_bundles" sLawBundles f cdv)
    (m__law_fewest : ∃ f cdv, Left K "_law_fewest" sFewest f cdv)
    (m__law_farthest : ∃ f cdv, Left K "_law_farthest" sFarthest f cdv)
    (m__law_odd : ∃ f cdv, Left K "_law_odd" sOdd f cdv)
    (m__law_counted : ∃ f cdv, Left K "_law_counted" sCounted f cdv)
    (m__law_pair : ∃ f cdv, Left K "_law_pair" sPair f cdv)
    (m__law_filled : ∃ f cdv, Left K "_law_filled" sFilled f cdv)
    (m_law : ∃ f cdv, Left K "law" sLaw f cdv)
    (m__law_walk : ∃ f, Left K "_law_walk" sWalk f (.ref c1)) (t1 : PySem.W.codeHdIn K c1 T1 = true) (u1 : K.lookup T1 = none) (v1 : h.get? T1 = some tab0)
    (m__law_bad : ∃ f, Left K "_law_bad" sBad f (.ref c2)) (t2 : PySem.W.codeHdIn K c2 T2 = true) (u2 : K.lookup T2 = none) (v2 : h.get? T2 = some tab0)
    (m__law_right : ∃ f, Left K "_law_right" sRight f (.ref c3)) (t3 : PySem.W.codeHdIn K c3 T3 = true) (u3 : K.lookup T3 = none) (v3 : h.get? T3 = some tab0)
    (m__law_large : ∃ f, Left K "_law_large" sLarge f (.ref c4)) (t4 : PySem.W.codeHdIn K c4 T4 = true) (u4 : K.lookup T4 = none) (v4 : h.get? T4 = some tab0)
    (z_isinstance : PySem.W.nsIn K mainGlobals "isinstance" = some none)
    (z_int : PySem.W.nsIn K mainGlobals "int" = some none)
    (z_bool : PySem.W.nsIn K mainGlobals "bool" = some none)
    (z_list : PySem.W.nsIn K mainGlobals "list" = some none)
    (z_tuple : PySem.W.nsIn K mainGlobals "tuple" = some none)
    (z_len : PySem.W.nsIn K mainGlobals "len" = some none)
    (z_all : PySem.W.nsIn K mainGlobals "all" = some none)
    (z_sum : PySem.W.nsIn K mainGlobals "sum" = some none)
    (z_min : PySem.W.nsIn K mainGlobals "min" = some none)
    (z_max : PySem.W.nsIn K mainGlobals "max" = some none)
    (z_range : PySem.W.nsIn K mainGlobals "range" = some none)
    (z_enumerate : PySem.W.nsIn K mainGlobals "enumerate" = some none)
    (z_zip : PySem.W.nsIn K mainGlobals "zip" = some none)
    (z_sorted : PySem.W.nsIn K mainGlobals "sorted" = some none)
    (z_repr : PySem.W.nsIn K mainGlobals "repr" = some none)
    (z_abs : PySem.W.nsIn K mainGlobals "abs" = some none) : LawAtG P w K mg fa h := by
  obtain ⟨f_is_integer, e_is_integer, L_is_integer⟩ := m_is_integer
  obtain ⟨d_is_integer, D_is_integer, _⟩ := L_is_integer.df (ps := ["value"]) X G (fun _ _ _ _ _ _ us hl => match us, hl with | [_], _ => rfl)
  obtain ⟨f_is_number, e_is_number, L_is_number⟩ := m_is_number
  obtain ⟨d_is_number, D_is_number, _⟩ := L_is_number.df (ps := ["value"]) X G (fun _ _ _ _ _ _ us hl => match us, hl with | [_], _ => rfl)
  obtain ⟨f_is_index, e_is_index, L_is_index⟩ := m_is_index
  obtain ⟨d_is_index, D_is_index, _⟩ := L_is_index.df (ps := ["value", "many"]) X G (fun _ _ _ _ _ _ us hl => match us, hl with | [_, _], _ => rfl)
  obtain ⟨f_is_sequence, e_is_sequence, L_is_sequence⟩ := m_is_sequence
  obtain ⟨d_is_sequence, D_is_sequence, _⟩ := L_is_sequence.df (ps := ["value"]) X G (fun _ _ _ _ _ _ us hl => match us, hl with | [_], _ => rfl)
  obtain ⟨f_is_row_below, e_is_row_below, L_is_row_below⟩ := m_is_row_below
  obtain ⟨d_is_row_below, D_is_row_below, _⟩ := L_is_row_below.df (ps := ["caps", "value"]) X G (fun _ _ _ _ _ _ us hl => match us, hl with | [_, _], _ => rfl)
  obtain ⟨f_budget_row, e_budget_row, L_budget_row⟩ := m_budget_row
  obtain ⟨d_budget_row, D_budget_row, _⟩ := L_budget_row.df (ps := ["budget", "value", "at"]) X G (fun _ _ _ _ _ _ us hl => match us, hl with | [_, _, _], _ => rfl)
  obtain ⟨f_span_of, e_span_of, L_span_of⟩ := m_span_of
  obtain ⟨d_span_of, D_span_of, _⟩ := L_span_of.df (ps := ["budget", "key"]) X G (fun _ _ _ _ _ _ us hl => match us, hl with | [_, _], _ => rfl)
  obtain ⟨f_free_keys, e_free_keys, L_free_keys⟩ := m_free_keys
  obtain ⟨d_free_keys, D_free_keys, _⟩ := L_free_keys.df (ps := ["budget"]) X G (fun _ _ _ _ _ _ us hl => match us, hl with | [_], _ => rfl)
  obtain ⟨f_budget_bundles, e_budget_bundles, L_budget_bundles⟩ := m_budget_bundles
  obtain ⟨d_budget_bundles, D_budget_bundles, _⟩ := L_budget_bundles.df (ps := ["budget"]) X G (fun _ _ _ _ _ _ us hl => match us, hl with | [_], _ => rfl)
  obtain ⟨f_step_towards, e_step_towards, L_step_towards⟩ := m_step_towards
  obtain ⟨d_step_towards, D_step_towards, _⟩ := L_step_towards.df (ps := ["budget", "one", "other"]) X G (fun _ _ _ _ _ _ us hl => match us, hl with | [_, _, _], _ => rfl)
  obtain ⟨f_parts_above, e_parts_above, L_parts_above⟩ := m_parts_above
  obtain ⟨d_parts_above, D_parts_above, _⟩ := L_parts_above.df (ps := ["amount", "size"]) X G (fun _ _ _ _ _ _ us hl => match us, hl with | [_, _], _ => rfl)
  obtain ⟨f_changes_needed, e_changes_needed, L_changes_needed⟩ := m_changes_needed
  obtain ⟨d_changes_needed, D_changes_needed, _⟩ := L_changes_needed.df (ps := ["budget", "one", "other"]) X G (fun _ _ _ _ _ _ us hl => match us, hl with | [_, _, _], _ => rfl)
  obtain ⟨f__law_draw, e__law_draw, L__law_draw⟩ := m__law_draw
  obtain ⟨d__law_draw, D__law_draw, _⟩ := L__law_draw.df (ps := pDraw) X G (fun _ _ _ _ _ _ us hl => match us, hl with | [_, _], _ => rfl)
  obtain ⟨f__law_any, e__law_any, L__law_any⟩ := m__law_any
  obtain ⟨d__law_any, D__law_any, _⟩ := L__law_any.df (ps := ["_law_deal", "_law_bound"]) X G (fun _ _ _ _ _ _ us hl => match us, hl with | [_, _], _ => rfl)
  obtain ⟨f__law_of, e__law_of, L__law_of⟩ := m__law_of
  obtain ⟨d__law_of, D__law_of, _⟩ := L__law_of.df (ps := ["_law_deal", "_law_some"]) X G (fun _ _ _ _ _ _ us hl => match us, hl with | [_, _], _ => rfl)
  obtain ⟨f__law_great, e__law_great, L__law_great⟩ := m__law_great
  obtain ⟨d__law_great, D__law_great, _⟩ := L__law_great.df (ps := ["_law_deal", "_law_bound"]) X G (fun _ _ _ _ _ _ us hl => match us, hl with | [_, _], _ => rfl)
  obtain ⟨f__law_rows, e__law_rows, L__law_rows⟩ := m__law_rows
  obtain ⟨d__law_rows, D__law_rows, _⟩ := L__law_rows.df (ps := ["_law_caps", "_law_low", "_law_high"]) X G (fun _ _ _ _ _ _ us hl => match us, hl with | [_, _, _], _ => rfl)
  obtain ⟨f__law_refused, e__law_refused, L__law_refused⟩ := m__law_refused
  obtain ⟨d__law_refused, D__law_refused, _⟩ := L__law_refused.df (ps := ["_law_work"]) X G (fun _ _ _ _ _ _ us hl => match us, hl with | [_], _ => rfl)
  obtain ⟨f__law_small, e__law_small, L__law_small⟩ := m__law_small
  obtain ⟨d__law_small, D__law_small, _⟩ := L__law_small.df (ps := ["_law_deal"]) X G (fun _ _ _ _ _ _ us hl => match us, hl with | [_], _ => rfl)
  obtain ⟨f__law_lots, e__law_lots, L__law_lots⟩ := m__law_lots
  obtain ⟨d__law_lots, D__law_lots, _⟩ := L__law_lots.df (ps := ["_law_some"]) X G (fun _ _ _ _ _ _ us hl => match us, hl with | [_], _ => rfl)
  obtain ⟨f__law_bundles, e__law_bundles, L__law_bundles⟩ := m__law_bundles
  obtain ⟨d__law_bundles, D__law_bundles, _⟩ := L__law_bundles.df (ps := ["_law_count", "_law_rows_here"]) X G (fun _ _ _ _ _ _ us hl => match us, hl with | [_, _], _ => rfl)
  obtain ⟨f__law_fewest, e__law_fewest, L__law_fewest⟩ := m__law_fewest
  obtain ⟨d__law_fewest, D__law_fewest, _⟩ := L__law_fewest.df (ps := ["_law_rows_here", "_law_one", "_law_other"]) X G (fun _ _ _ _ _ _ us hl => match us, hl with | [_, _, _], _ => rfl)
  obtain ⟨f__law_farthest, e__law_farthest, L__law_farthest⟩ := m__law_farthest
  obtain ⟨d__law_farthest, D__law_farthest, _⟩ := L__law_farthest.df (ps := ["_law_low", "_law_high", "_law_one", "_law_other", "_law_told"]) X G (fun _ _ _ _ _ _ us hl => match us, hl with | [_, _, _, _, _], _ => rfl)
  obtain ⟨f__law_odd, e__law_odd, L__law_odd⟩ := m__law_odd
  obtain ⟨d__law_odd, D__law_odd, _⟩ := L__law_odd.df (ps := ["_law_deal", "_law_row"]) X G (fun _ _ _ _ _ _ us hl => match us, hl with | [_, _], _ => rfl)
  obtain ⟨f__law_counted, e__law_counted, L__law_counted⟩ := m__law_counted
  obtain ⟨d__law_counted, D__law_counted, _⟩ := L__law_counted.df (ps := pCounted) X G (fun _ _ _ _ _ _ us hl => match us, hl with | [_, _, _, _], _ => rfl)
  obtain ⟨f__law_pair, e__law_pair, L__law_pair⟩ := m__law_pair
  obtain ⟨d__law_pair, D__law_pair, _⟩ := L__law_pair.df (ps := ["_law_deal", "_law_rows_here"]) X G (fun _ _ _ _ _ _ us hl => match us, hl with | [_, _], _ => rfl)
  obtain ⟨f__law_filled, e__law_filled, L__law_filled⟩ := m__law_filled
  obtain ⟨d__law_filled, D__law_filled, _⟩ := L__law_filled.df (ps := ["_law_deal", "_law_caps", "_law_total"]) X G (fun _ _ _ _ _ _ us hl => match us, hl with | [_, _, _], _ => rfl)
  obtain ⟨f_law, e_law, L_law⟩ := m_law
  obtain ⟨d_law, D_law, _⟩ := L_law.df (ps := ["_law_script"]) X G (fun _ _ _ _ _ _ us hl => match us, hl with | [_], _ => rfl)
  obtain ⟨f__law_walk, L__law_walk⟩ := m__law_walk
  obtain ⟨d__law_walk, D__law_walk, cd1⟩ := L__law_walk.df (ps := pWalk) X G (fun _ _ _ _ _ _ us hl => match us, hl with | [_, _, _, _, _, _], _ => rfl)
  obtain ⟨f__law_bad, L__law_bad⟩ := m__law_bad
  obtain ⟨d__law_bad, D__law_bad, cd2⟩ := L__law_bad.df (ps := pBad) X G (fun _ _ _ _ _ _ us hl => match us, hl with | [_, _, _, _], _ => rfl)
  obtain ⟨f__law_right, L__law_right⟩ := m__law_right
  obtain ⟨d__law_right, D__law_right, cd3⟩ := L__law_right.df (ps := pRight) X G (fun _ _ _ _ _ _ us hl => match us, hl with | [_, _, _, _, _], _ => rfl)
  obtain ⟨f__law_large, L__law_large⟩ := m__law_large
  obtain ⟨d__law_large, D__law_large, cd4⟩ := L__law_large.df (ps := pLarge) X G (fun _ _ _ _ _ _ us hl => match us, hl with | [_], _ => rfl)
  have nb : Nb mg := ⟨PySem.W.mg_none_of X G z_isinstance, PySem.W.mg_none_of X G z_int, PySem.W.mg_none_of X G z_bool, PySem.W.mg_none_of X G z_list, PySem.W.mg_none_of X G z_tuple, PySem.W.mg_none_of X G z_len, PySem.W.mg_none_of X G z_all, PySem.W.mg_none_of X G z_sum, PySem.W.mg_none_of X G z_min, PySem.W.mg_none_of X G z_max, PySem.W.mg_none_of X G z_range, PySem.W.mg_none_of X G z_enumerate, PySem.W.mg_none_of X G z_zip, PySem.W.mg_none_of X G z_sorted, PySem.W.mg_none_of X G z_repr, PySem.W.mg_none_of X G z_abs⟩
  have bI : L2.Binds K fdI ["self", "caps", "low", "high"] [] := FI.binds (fun _ _ _ _ _ _ us hl => match us, hl with | [_, _, _, _], _ => rfl)
  obtain ⟨θ, hθ⟩ : ∃ θ : Th, θ = Th.mk K C [(T1, ("_law_walk" ++ ".<locals>.") ++ "<lambda>"), (T2, ("_law_bad" ++ ".<locals>.") ++ "<lambda>"), (T3, ("_law_right" ++ ".<locals>.") ++ "<lambda>"), (T4, ("_law_large" ++ ".<locals>.") ++ "<lambda>")] (fun c => match c with | .refused => CR | _ => CS) := ⟨_, rfl⟩
  have th : ThOk P K mg θ := by
    subst hθ
    exact ⟨rfl, ⟨_, _, _, xS⟩, ⟨_, _, _, xR⟩, cl, n1, n2, n3, n4, PySem.W.mg_of X G gC⟩
  have ro : RefOk P K mg θ := by
    refine ⟨⟨_, _, D__law_refused⟩, th, ?_⟩
    subst hθ
    exact ⟨ss, rr, rs⟩
  obtain ⟨ap12, ap13, ap14, ap23, ap24, ap34⟩ := ap
  have efa : fa = f_law := by
    have e := hfa.symm.trans D_law.g
    cases e
    rfl
  subst efa
  refine ⟨d_law, [(c1, T1), (c2, T2), (c3, T3), (c4, T4)], spLaw θ, ?_, ?_, ?_, fun s u => ?_, fun H a ns h1 h2 => ⟨a, ns, rfl, by rw [th.eK]; exact h2, ?_, fun _ => rfl⟩, fun base kB gB tB => ?_⟩
  · simp only [List.mem_cons, List.not_mem_nil, or_false]
    rintro p (rfl | rfl | rfl | rfl)
    · exact v1
    · exact v2
    · exact v3
    · exact v4
  · simp only [List.mem_cons, List.not_mem_nil, or_false]
    rintro p (rfl | rfl | rfl | rfl)
    · exact u1
    · exact u2
    · exact u3
    · exact u4
  · simp only [List.mem_cons, List.not_mem_nil, or_false]
    rintro p (rfl | rfl | rfl | rfl)
    · exact PySem.W.codeHd_of_K X t1
    · exact PySem.W.codeHd_of_K X t2
    · exact PySem.W.codeHd_of_K X t3
    · exact PySem.W.codeHd_of_K X t4
  · obtain ⟨oc, od, kV, doc, pm, an, cdv, ct, osl, e, _⟩ := D_law.F.ex
    subst e
    exact .of_eq rfl
  · subst hθ
    simp only [List.mem_cons, List.not_mem_nil, or_false]
    rintro p (rfl | rfl | rfl | rfl)
    · exact h1 (c1, T1) (by simp)
    · exact h1 (c2, T2) (by simp)
    · exact h1 (c3, T3) (by simp)
    · exact h1 (c4, T4) (by simp)
  have TF : ∀ {x : Str} {fd : FuncData} {c T : Addr}, fd.code = .ref c → (c, T) ∈ [(c1, T1), (c2, T2), (c3, T3), (c4, T4)] → (T, (x ++ ".<locals>.") ++ "<lambda>") ∈ θ.T → (∀ p ∈ θ.T, p.1 = T → p.2 = (x ++ ".<locals>.") ++ "<lambda>") → TabF base mg θ x fd := fun e m1 m2 m3 => ⟨⟨_, _, e, tB _ m1, m2, m3⟩⟩
  have tf1 : TabF base mg θ "_law_walk" d__law_walk := TF (c := c1) (T := T1) cd1 (by simp) (by subst hθ; simp) (by
    subst hθ
    simp only [List.mem_cons, List.not_mem_nil, or_false]
    rintro p (rfl | rfl | rfl | rfl) e
    · rfl
    · exact absurd e.symm ap12
    · exact absurd e.symm ap13
    · exact absurd e.symm ap14)
  have tf2 : TabF base mg θ "_law_bad" d__law_bad := TF (c := c2) (T := T2) cd2 (by simp) (by subst hθ; simp) (by
    subst hθ
    simp only [List.mem_cons, List.not_mem_nil, or_false]
    rintro p (rfl | rfl | rfl | rfl) e
    · exact absurd e ap12
    · rfl
    · exact absurd e.symm ap23
    · exact absurd e.symm ap24)
  have tf3 : TabF base mg θ "_law_right" d__law_right := TF (c := c3) (T := T3) cd3 (by simp) (by subst hθ; simp) (by
    subst hθ
    simp only [List.mem_cons, List.not_mem_nil, or_false]
    rintro p (rfl | rfl | rfl | rfl) e
    · exact absurd e ap13
    · exact absurd e ap23
    · rfl
    · exact absurd e.symm ap34)
  have tf4 : TabF base mg θ "_law_large" d__law_large := TF (c := c4) (T := T4) cd4 (by simp) (by subst hθ; simp) (by
    subst hθ
    simp only [List.mem_cons, List.not_mem_nil, or_false]
    rintro p (rfl | rfl | rfl | rfl) e
    · exact absurd e ap14
    · exact absurd e ap24
    · exact absurd e ap34
    · rfl)
  have hK := th.eK
  have k_int := ok_isInteger (P := P) (w := w) (base := base) (θ := θ) D_is_integer hK nb
  have k_num := ok_isNumber D_is_number k_int
  have k_idx := ok_isIndex D_is_index k_num
  have k_seq := ok_isSequence (P := P) (w := w) (base := base) (θ := θ) D_is_sequence hK nb
  have k_row := ok_rowBelow D_is_row_below hK nb k_seq k_idx
  have k_bud := ok_budgetRow D_budget_row th nb k_row
  have k_span := ok_spanOf (w := w) (base := base) D_span_of th nb
  have k_free := ok_freeKeys D_free_keys th nb k_span
  have k_bund := ok_bundles D_budget_bundles th nb k_free
  have k_parts := ok_parts (P := P) (w := w) (base := base) (θ := θ) D_parts_above nb
  have k_step := ok_step D_step_towards th nb k_bud
  have k_need := ok_needed D_changes_needed th nb k_bud k_parts
  have k_init := ok_init FI (by subst hθ; exact mkI) bI th nb k_seq k_num
  have k_any := ok_any (w := w) (base := base) D__law_any th nb
  have k_of := ok_of D__law_of th nb k_any
  have k_great := ok_great D__law_great nb k_any
  have k_draw := ok_draw (w := w) (base := base) D__law_draw th nb
  have k_rows := ok_rows (w := w) (base := base) D__law_rows th nb
  have k_lots := ok_lots (w := w) (base := base) D__law_lots th nb
  have k_lb := ok_lawBundles D__law_bundles th nb k_lots
  have k_few := ok_fewest (w := w) (base := base) D__law_fewest th nb
  have k_far := ok_farthest (w := w) (base := base) D__law_farthest th nb
  have k_small := ok_small D__law_small th nb k_any k_of
  have k_pair := ok_pair D__law_pair th nb k_of
  have k_odd := ok_odd D__law_odd th nb k_any k_of
  have k_fill := ok_filled D__law_filled th nb k_any k_great
  have k_walk := ok_walk D__law_walk th nb ro tf1 D_step_towards k_step k_far
  have k_bad := ok_bad D__law_bad th nb ro tf2 k_step k_need k_odd
  have k_count := ok_counted D__law_counted th nb D_changes_needed k_need
  have c : Callees P w K mg base θ := ⟨th, nb, ro, k_any, k_of, k_great, k_need, k_bund, k_init, k_walk, k_bad⟩
  have k_right := ok_right D__law_right c tf3 D_budget_bundles k_lb k_pair k_few k_count
  have k_large := ok_large (g := fa) (gd := d_law) D__law_large c tf4 k_fill big_ok
  exact ok_law D_law c k_draw k_small k_rows k_right k_large fun caps lo hi hs => right_ok hs
end
end B
set_option Elab.async false
set_option autoImplicit false
set_option linter.all false
set_option maxRecDepth 100000
open PySem PySem.W PyProof.Rows
set_option maxHeartbeats 20000000 in
theorem PySem.Challenge.cw_bothplans_k31_whole_changes_of_budgets_holds : PySem.Challenge.rw_bothplans_k31_whole_changes_of_budgets.Holds := by
  w_on; o_law; k_head; (case hw => w_witness2)
  k_fill
  refine B.walk_ofG (l := PySem.Challenge.rw_bothplans_k31_whole_changes_of_budgets) (n := 63) rfl (by decide) rfl ⟨rfl, by decide, by decide⟩ (fun w h Y => PySem.W.km_in_of Y) ?F
  case F =>
    intro w mg fa h Y KX G hmg
    have YT := PySem.W.km_tabs_of Y
    refine' B.all_mk (T1 := 257) (T2 := 269) (T3 := 286) (T4 := 296) KX G hmg ?xS ?xR ?ss ?rr ?rs ?gC ?cl ?n1 ?n2 ?n3 ?n4 ?FI ?mkI ?ap ?m_is_integer ?m_is_number ?m_is_index ?m_is_sequence ?m_is_row_below ?m_budget_row ?m_span_of ?m_free_keys ?m_budget_bundles ?m_step_towards ?m_parts_above ?m_changes_needed ?m__law_draw ?m__law_any ?m__law_of ?m__law_great ?m__law_rows ?m__law_refused ?m__law_small ?m__law_lots ?m__law_bundles ?m__law_fewest ?m__law_farthest ?m__law_odd ?m__law_counted ?m__law_pair ?m__law_filled ?m_law ?m__law_walk ?t1 ?u1 ?v1 ?m__law_bad ?t2 ?u2 ?v2 ?m__law_right ?t3 ?u3 ?v3 ?m__law_large ?t4 ?u4 ?v4 ?z_isinstance ?z_int ?z_bool ?z_list ?z_tuple ?z_len ?z_all ?z_sum ?z_min ?z_max ?z_range ?z_enumerate ?z_zip ?z_sorted ?z_repr ?z_abs
    (case xS => refine' B.txt_mk KX G ?q1_gC ?q1_cls ?q1_bmv ?q1_sa ?q1_ga ?q1_gg ?q1_noN ?q1_iC ?q1_tC ?q1_kC ?q1_exC ?q1_veC ?q1_tyC ?q1_hdC ?q1_mC ?q1_fn ?q1_fc ?q1_ln ?q1_cell ?q1_code ?q1_cv ?q1_cf ?q1_sup ?q1_opq ?q1_noS ?q1_tp; (case q1_gC => k_is); (case q1_cls => k_is); (case q1_bmv => decide +kernel); (case q1_sa => k_is); (case q1_ga => k_is); (case q1_gg => k_is); (case q1_noN => k_is); (case q1_iC => k_is); (case q1_tC => k_is); (case q1_kC => k_is); (case q1_exC => k_is); (case q1_veC => k_is); (case q1_tyC => k_is); (case q1_hdC => k_is); (case q1_mC => k_is); (case q1_fn => k_is); (case q1_fc => k_is); (case q1_ln => decide +kernel); (case q1_cell => k_is); (case q1_code => k_is); (case q1_cv => rfl); (case q1_cf => decide +kernel); (case q1_sup => kernel_rfl); (case q1_opq => k_is); (case q1_noS => k_is); (case q1_tp => decide +kernel))
    (case xR => refine' B.txt_mk KX G ?q2_gC ?q2_cls ?q2_bmv ?q2_sa ?q2_ga ?q2_gg ?q2_noN ?q2_iC ?q2_tC ?q2_kC ?q2_exC ?q2_veC ?q2_tyC ?q2_hdC ?q2_mC ?q2_fn ?q2_fc ?q2_ln ?q2_cell ?q2_code ?q2_cv ?q2_cf ?q2_sup ?q2_opq ?q2_noS ?q2_tp; (case q2_gC => k_is); (case q2_cls => k_is); (case q2_bmv => decide +kernel); (case q2_sa => k_is); (case q2_ga => k_is); (case q2_gg => k_is); (case q2_noN => k_is); (case q2_iC => k_is); (case q2_tC => k_is); (case q2_kC => k_is); (case q2_exC => k_is); (case q2_veC => k_is); (case q2_tyC => k_is); (case q2_hdC => k_is); (case q2_mC => k_is); (case q2_fn => k_is); (case q2_fc => k_is); (case q2_ln => decide +kernel); (case q2_cell => k_is); (case q2_code => k_is); (case q2_cv => rfl); (case q2_cf => decide +kernel); (case q2_sup => kernel_rfl); (case q2_opq => k_is); (case q2_noS => k_is); (case q2_tp => decide +kernel))
    (case ss => kernel_rfl)
    (case rr => kernel_rfl)
    (case rs => kernel_rfl)
    (case gC => k_is)
    (case cl => refine' ⟨?q3_a, ?q3_b, ?q3_c, ?q3_d⟩; (case q3_a => k_is); (case q3_b => k_is); (case q3_c => k_is); (case q3_d => k_is))
    (case n1 => unfold L2.NoAttr; k_is)
    (case n2 => unfold L2.NoAttr; k_is)
    (case n3 => unfold L2.NoAttr; k_is)
    (case n4 => unfold L2.NoAttr; k_is)
    (case mkI => refine' ⟨?q4_a, ?q4_b, ?q4_c, ?q4_d⟩; (case q4_b => k_is); (case q4_a => k_is); (case q4_c => k_is); (case q4_d => k_is))
    (case FI => refine' L2.fun_mk ?q5_a ?q5_b ?q5_c; (case q5_a => k_is); (case q5_b => k_is); (case q5_c => k_is))
    (case m_is_integer => refine' ⟨_, _, ?q7_m⟩; (case q7_m => refine' B.left_mk ?q6_a ?q6_l ?q6_c ?q6_k; (case q6_a => k_is); (case q6_l => k_is); (case q6_c => k_is); (case q6_k => k_is)))
    (case m_is_number => refine' ⟨_, _, ?q9_m⟩; (case q9_m => refine' B.left_mk ?q8_a ?q8_l ?q8_c ?q8_k; (case q8_a => k_is); (case q8_l => k_is); (case q8_c => k_is); (case q8_k => k_is)))
    (case m_is_index => refine' ⟨_, _, ?q11_m⟩; (case q11_m => refine' B.left_mk ?q10_a ?q10_l ?q10_c ?q10_k; (case q10_a => k_is); (case q10_l => k_is); (case q10_c => k_is); (case q10_k => k_is)))
    (case m_is_sequence => refine' ⟨_, _, ?q13_m⟩; (case q13_m => refine' B.left_mk ?q12_a ?q12_l ?q12_c ?q12_k; (case q12_a => k_is); (case q12_l => k_is); (case q12_c => k_is); (case q12_k => k_is)))
    (case m_is_row_below => refine' ⟨_, _, ?q15_m⟩; (case q15_m => refine' B.left_mk ?q14_a ?q14_l ?q14_c ?q14_k; (case q14_a => k_is); (case q14_l => k_is); (case q14_c => k_is); (case q14_k => k_is)))
    (case m_budget_row => refine' ⟨_, _, ?q17_m⟩; (case q17_m => refine' B.left_mk ?q16_a ?q16_l ?q16_c ?q16_k; (case q16_a => k_is); (case q16_l => k_is); (case q16_c => k_is); (case q16_k => k_is)))
    (case m_span_of => refine' ⟨_, _, ?q19_m⟩; (case q19_m => refine' B.left_mk ?q18_a ?q18_l ?q18_c ?q18_k; (case q18_a => k_is); (case q18_l => k_is); (case q18_c => k_is); (case q18_k => k_is)))
    (case m_free_keys => refine' ⟨_, _, ?q21_m⟩; (case q21_m => refine' B.left_mk ?q20_a ?q20_l ?q20_c ?q20_k; (case q20_a => k_is); (case q20_l => k_is); (case q20_c => k_is); (case q20_k => k_is)))
    (case m_budget_bundles => refine' ⟨_, _, ?q23_m⟩; (case q23_m => refine' B.left_mk ?q22_a ?q22_l ?q22_c ?q22_k; (case q22_a => k_is); (case q22_l => k_is); (case q22_c => k_is); (case q22_k => k_is)))
    (case m_step_towards => refine' ⟨_, _, ?q25_m⟩; (case q25_m => refine' B.left_mk ?q24_a ?q24_l ?q24_c ?q24_k; (case q24_a => k_is); (case q24_l => k_is); (case q24_c => k_is); (case q24_k => k_is)))
    (case m_parts_above => refine' ⟨_, _, ?q27_m⟩; (case q27_m => refine' B.left_mk ?q26_a ?q26_l ?q26_c ?q26_k; (case q26_a => k_is); (case q26_l => k_is); (case q26_c => k_is); (case q26_k => k_is)))
    (case m_changes_needed => refine' ⟨_, _, ?q29_m⟩; (case q29_m => refine' B.left_mk ?q28_a ?q28_l ?q28_c ?q28_k; (case q28_a => k_is); (case q28_l => k_is); (case q28_c => k_is); (case q28_k => k_is)))
    (case m__law_draw => refine' ⟨_, _, ?q31_m⟩; (case q31_m => refine' B.left_mk ?q30_a ?q30_l ?q30_c ?q30_k; (case q30_a => k_is); (case q30_l => k_is); (case q30_c => k_is); (case q30_k => k_is)))
    (case m__law_any => refine' ⟨_, _, ?q33_m⟩; (case q33_m => refine' B.left_mk ?q32_a ?q32_l ?q32_c ?q32_k; (case q32_a => k_is); (case q32_l => k_is); (case q32_c => k_is); (case q32_k => k_is)))
    (case m__law_of => refine' ⟨_, _, ?q35_m⟩; (case q35_m => refine' B.left_mk ?q34_a ?q34_l ?q34_c ?q34_k; (case q34_a => k_is); (case q34_l => k_is); (case q34_c => k_is); (case q34_k => k_is)))
    (case m__law_great => refine' ⟨_, _, ?q37_m⟩; (case q37_m => refine' B.left_mk ?q36_a ?q36_l ?q36_c ?q36_k; (case q36_a => k_is); (case q36_l => k_is); (case q36_c => k_is); (case q36_k => k_is)))
    (case m__law_rows => refine' ⟨_, _, ?q39_m⟩; (case q39_m => refine' B.left_mk ?q38_a ?q38_l ?q38_c ?q38_k; (case q38_a => k_is); (case q38_l => k_is); (case q38_c => k_is); (case q38_k => k_is)))
    (case m__law_refused => refine' ⟨_, _, ?q41_m⟩; (case q41_m => refine' B.left_mk ?q40_a ?q40_l ?q40_c ?q40_k; (case q40_a => k_is); (case q40_l => k_is); (case q40_c => k_is); (case q40_k => k_is)))
    (case m__law_small => refine' ⟨_, _, ?q43_m⟩; (case q43_m => refine' B.left_mk ?q42_a ?q42_l ?q42_c ?q42_k; (case q42_a => k_is); (case q42_l => k_is); (case q42_c => k_is); (case q42_k => k_is)))
    (case m__law_lots => refine' ⟨_, _, ?q45_m⟩; (case q45_m => refine' B.left_mk ?q44_a ?q44_l ?q44_c ?q44_k; (case q44_a => k_is); (case q44_l => k_is); (case q44_c => k_is); (case q44_k => k_is)))
    (case m__law_bundles => refine' ⟨_, _, ?q47_m⟩; (case q47_m => refine' B.left_mk ?q46_a ?q46_l ?q46_c ?q46_k; (case q46_a => k_is); (case q46_l => k_is); (case q46_c => k_is); (case q46_k => k_is)))
    (case m__law_fewest => refine' ⟨_, _, ?q49_m⟩; (case q49_m => refine' B.left_mk ?q48_a ?q48_l ?q48_c ?q48_k; (case q48_a => k_is); (case q48_l => k_is); (case q48_c => k_is); (case q48_k => k_is)))
    (case m__law_farthest => refine' ⟨_, _, ?q51_m⟩; (case q51_m => refine' B.left_mk ?q50_a ?q50_l ?q50_c ?q50_k; (case q50_a => k_is); (case q50_l => k_is); (case q50_c => k_is); (case q50_k => k_is)))
    (case m__law_odd => refine' ⟨_, _, ?q53_m⟩; (case q53_m => refine' B.left_mk ?q52_a ?q52_l ?q52_c ?q52_k; (case q52_a => k_is); (case q52_l => k_is); (case q52_c => k_is); (case q52_k => k_is)))
    (case m__law_counted => refine' ⟨_, _, ?q55_m⟩; (case q55_m => refine' B.left_mk ?q54_a ?q54_l ?q54_c ?q54_k; (case q54_a => k_is); (case q54_l => k_is); (case q54_c => k_is); (case q54_k => k_is)))
    (case m__law_pair => refine' ⟨_, _, ?q57_m⟩; (case q57_m => refine' B.left_mk ?q56_a ?q56_l ?q56_c ?q56_k; (case q56_a => k_is); (case q56_l => k_is); (case q56_c => k_is); (case q56_k => k_is)))
    (case m__law_filled => refine' ⟨_, _, ?q59_m⟩; (case q59_m => refine' B.left_mk ?q58_a ?q58_l ?q58_c ?q58_k; (case q58_a => k_is); (case q58_l => k_is); (case q58_c => k_is); (case q58_k => k_is)))
    (case m_law => refine' ⟨_, _, ?q61_m⟩; (case q61_m => refine' B.left_mk ?q60_a ?q60_l ?q60_c ?q60_k; (case q60_a => k_is); (case q60_l => k_is); (case q60_c => k_is); (case q60_k => k_is)))
    (case m__law_walk => refine' ⟨_, ?q63_m⟩; (case q63_m => refine' B.left_mk ?q62_a ?q62_l ?q62_c ?q62_k; (case q62_a => k_is); (case q62_l => k_is); (case q62_c => k_is); (case q62_k => k_is)))
    (case m__law_bad => refine' ⟨_, ?q65_m⟩; (case q65_m => refine' B.left_mk ?q64_a ?q64_l ?q64_c ?q64_k; (case q64_a => k_is); (case q64_l => k_is); (case q64_c => k_is); (case q64_k => k_is)))
    (case m__law_right => refine' ⟨_, ?q67_m⟩; (case q67_m => refine' B.left_mk ?q66_a ?q66_l ?q66_c ?q66_k; (case q66_a => k_is); (case q66_l => k_is); (case q66_c => k_is); (case q66_k => k_is)))
    (case m__law_large => refine' ⟨_, ?q69_m⟩; (case q69_m => refine' B.left_mk ?q68_a ?q68_l ?q68_c ?q68_k; (case q68_a => k_is); (case q68_l => k_is); (case q68_c => k_is); (case q68_k => k_is)))
    (case z_isinstance => k_is)
    (case z_int => k_is)
    (case z_bool => k_is)
    (case z_list => k_is)
    (case z_tuple => k_is)
    (case z_len => k_is)
    (case z_all => k_is)
    (case z_sum => k_is)
    (case z_min => k_is)
    (case z_max => k_is)
    (case z_range => k_is)
    (case z_enumerate => k_is)
    (case z_zip => k_is)
    (case z_sorted => k_is)
    (case z_repr => k_is)
    (case z_abs => k_is)
    (case ap => decide)
    (case t1 => kernel_rfl); (case t2 => kernel_rfl); (case t3 => kernel_rfl); (case t4 => kernel_rfl)
    (case u1 => kernel_rfl); (case u2 => kernel_rfl); (case u3 => kernel_rfl); (case u4 => kernel_rfl)
    (case v1 => exact YT 257 (by decide)); (case v2 => exact YT 269 (by decide)); (case v3 => exact YT 286 (by decide)); (case v4 => exact YT 296 (by decide))
