import PyProof.Rows.All
import Wide.All
import OpenK.AllK
import Wide.FinOn
import HandS.ForMost
import HandS.ForExc
import HandS.Lambda
import HandS.TupAny
import HandS.Wide
import HandS.Deep
import HandS.Conv
import HandS.More
import HandS.ExcInit
import HandS.Small
import HandS.OwnEq
import PyProof.NeKinds
import HandS.IsInst
import HandS.Zip
import HandS.SortInts
import HandS.TupSets
import HandS.ListItems
import KE.KDictList
import HandS.Defaults
import KE.KDictSum
import HandS.Style
import KE.SortCalls
import HandS.TryMany
import HandS.RaiseMore
import HandS.ExcField
import HandS.ExcIs
import HandS.SetFor
import HandS.Strs
import HandS.List
import HandS.NoneIn
import KE.GoesEnum
import KE.KNestM
import HandS.DictTup
import KE.KDictPairs
import KE.KDictKeyed
import HandS.Iter
import HandS.DictSubView
import HandS.Text
import KE.KUnpackStar
import KE.DataMinMax
import KE.SortData
import PyProof.ReprRoads
import HandS.EndTab
import HandS.Head0
import HandS.Head1
import HandS.Head2
import HandS.HeadEnd
import HandS.HeadHook1
import HandS.HeadHook2
import HandS.Ends
import KE.KStateDown
import PySem.Challenge.RW_glueroom_k01_divisions_made
set_option Elab.async false
set_option linter.all false
set_option autoImplicit false
set_option maxRecDepth 100000
set_option maxHeartbeats 0
namespace DD
open PySem L2

/-- data without the heap -/
inductive D where
  | non | bl (b : Bool) | int (i : Int) | str (s : Str)
  | tup (ds : List D) | lst (ds : List D) | obj (c : Nat) (fs : List Str) (ds : List D) | dic (ks : List Key) (ds : List D) | dicT (ks : List (List Key)) (ds : List D)

mutual
inductive Rep (cA : Nat → Addr) (G : Hp) : V → D → Prop where
  | non : Rep cA G .non .non
  | bl (b : Bool) : Rep cA G (.bl b) (.bl b)
  | int (i : Int) : Rep cA G (.int i) (.int i)
  | str (s : Str) : Rep cA G (.str s) (.str s)
  | tup {p : Addr} {xs : List V} {ds : List D} (h : G p = some (.tup xs)) (r : Reps cA G xs ds) : Rep cA G (.ref p) (.tup ds)
  | lst {p : Addr} {xs : List V} {ds : List D} (h : G p = some (.lst xs)) (r : Reps cA G xs ds) : Rep cA G (.ref p) (.lst ds)
  | obj {p dx : Addr} {c : Nat} {fs : List Str} {xs : List V} {ds : List D} (h : G p = some (.ins (cA c) dx (fs.zip xs))) (l : fs.length = xs.length) (r : Reps cA G xs ds) : Rep cA G (.ref p) (.obj c fs ds)
  | dic {p : Addr} {ks : List Key} {xs : List V} {ds : List D} (h : G p = some (.dK (ks.zip xs))) (l : ks.length = xs.length) (r : Reps cA G xs ds) : Rep cA G (.ref p) (.dic ks ds)
  | dicT {p : Addr} {ks : List (List Key)} {xs : List V} {ds : List D} (h : G p = some (.dT (ks.zip xs))) (l : ks.length = xs.length) (r : Reps cA G xs ds) : Rep cA G (.ref p) (.dicT ks ds)
inductive Reps (cA : Nat → Addr) (G : Hp) : List V → List D → Prop where
  | nil : Reps cA G [] []
  | cons {x : V} {d : D} {xs : List V} {ds : List D} (r : Rep cA G x d) (rs : Reps cA G xs ds) : Reps cA G (x :: xs) (d :: ds)
end

def Sub (G H : Hp) : Prop := ∀ a o, G a = some o → H a = some o
theorem Sub.refl (G : Hp) : Sub G G := fun _ _ h => h
theorem Sub.trans {G H K : Hp} (a : Sub G H) (b : Sub H K) : Sub G K := fun x o h => b x o (a x o h)
theorem Sub.new {G H : Hp} {p : Addr} {o : HO} (s : Sub G H) (h : G p = none) : Sub G (upd H p o) := fun a u e => by
  rw [upd_ne (ne_of_none e h)]
  exact s a u e

section
variable {cA : Nat → Addr} {G G' : Hp}
mutual
theorem Rep.mono (s : Sub G G') : ∀ {v : V} {d : D}, Rep cA G v d → Rep cA G' v d
  | _, _, .non => .non
  | _, _, .bl b => .bl b
  | _, _, .int i => .int i
  | _, _, .str x => .str x
  | _, _, .tup h r => .tup (s _ _ h) (Reps.mono s r)
  | _, _, .lst h r => .lst (s _ _ h) (Reps.mono s r)
  | _, _, .obj h l r => .obj (s _ _ h) l (Reps.mono s r)
  | _, _, .dic h l r => .dic (s _ _ h) l (Reps.mono s r)
  | _, _, .dicT h l r => .dicT (s _ _ h) l (Reps.mono s r)
theorem Reps.mono (s : Sub G G') : ∀ {vs : List V} {ds : List D}, Reps cA G vs ds → Reps cA G' vs ds
  | _, _, .nil => .nil
  | _, _, .cons r rs => .cons (Rep.mono s r) (Reps.mono s rs)
end
end

/-! ### values, mutable cells, worlds -/
inductive W where
  | d (d : D) | r (n : Nat)
inductive Cell where
  /-- a mutable list of data; a mutable list of what may itself be mutable -/
  | lst (ds : List D) | lstW (ws : List W)
  | ins (c : Nat) (fs : List Str) (ws : List W)
  | dic (ks : List Key) (ds : List D)
  /-- keys are tuples of ints and texts -/
  | dicT (ks : List (List Key)) (ds : List D)
  /-- what is known to change no more -/
  | frz (d : D)
  /-- a table of code objects; a lambda -/
  | tab (P : Addr) (q : Str)
  | fn (f c : Addr) (q : Str)
  /-- the law's own script -/
  | scr (ns : List Int) (S : Addr → Prop)
def Cell.live : Cell → Bool
  | .frz _ => false
  | .scr _ _ => false
  | .fn _ _ _ => false
  | _ => true
abbrev M := List Cell
abbrev R := List (Option W)
abbrev Wd := List (List Addr)

/-- worlds grow -/
structure Le (G : Hp) (m : Wd) (G' : Hp) (m' : Wd) : Prop where
  g : Sub G G'
  m : ∀ (i : Nat) (as : List Addr), m[i]? = some as → m'[i]? = some as
theorem Le.refl (G : Hp) (m : Wd) : Le G m G m := ⟨Sub.refl G, fun _ _ h => h⟩
theorem Le.trans {G G1 G2 : Hp} {m m1 m2 : Wd} (a : Le G m G1 m1) (b : Le G1 m1 G2 m2) : Le G m G2 m2 := ⟨a.g.trans b.g, fun i as h => b.m i as (a.m i as h)⟩

inductive WRel (cA : Nat → Addr) (G : Hp) (m : Wd) : V → W → Prop where
  | d {v : V} {d : D} (r : Rep cA G v d) : WRel cA G m v (.d d)
  | r {n : Nat} {p : Addr} {as : List Addr} (h : m[n]? = some (p :: as)) : WRel cA G m (.ref p) (.r n)
inductive WRels (cA : Nat → Addr) (G : Hp) (m : Wd) : List V → List W → Prop where
  | nil : WRels cA G m [] []
  | cons {x : V} {w : W} {xs : List V} {ws : List W} (r : WRel cA G m x w) (rs : WRels cA G m xs ws) : WRels cA G m (x :: xs) (w :: ws)

/-- what stands at a cell's places as -/
def CellOk (cA : Nat → Addr) (G : Hp) (m : Wd) (H : Hp) (as : List Addr) : Cell → Prop
  | .lst ds => ∃ p xs, as = [p] ∧ H p = some (.lst xs) ∧ Reps cA G xs ds
  | .lstW ws => ∃ p xs, as = [p] ∧ H p = some (.lst xs) ∧ WRels cA G m xs ws
  | .ins c fs ws => ∃ p dx xs, as = [p] ∧ H p = some (.ins (cA c) dx (fs.zip xs)) ∧ fs.length = xs.length ∧ WRels cA G m xs ws
  | .dic ks ds => ∃ p xs, as = [p] ∧ H p = some (.dK (ks.zip xs)) ∧ ks.length = xs.length ∧ Reps cA G xs ds
  | .dicT ks ds => ∃ p xs, as = [p] ∧ H p = some (.dT (ks.zip xs)) ∧ ks.length = xs.length ∧ Reps cA G xs ds
  | .frz d => ∃ p, as = [p] ∧ Rep cA G (.ref p) d
  | .tab P q => as = [P] ∧ ∃ ps : Array Value, H P = some (.tbl ps) ∧ TriplesOk ps.toList ∧ ∀ (pos : Pos) (cv : Value), codeAmong pos ps.toList = some cv → ∃ c, cv = .ref c ∧ G c = some (LamX.CodeO c q)
  | .fn f c q => as = [f] ∧ G c = some (LamX.CodeO c q)
  | .scr ns S => ∃ p, as = [p] ∧ (Rd G p (.lst (ns.map V.int)) ∨ S p)

structure RelM (cA : Nat → Addr) (U G : Hp) (m : Wd) (μ : M) (H : Hp) : Prop where
  uh : Sub U H
  gh : Sub G H
  ug : ∀ a o, U a = some o → G a = none
  len : m.length = μ.length
  cell : ∀ (i : Nat) (c : Cell) (as : List Addr), μ[i]? = some c → m[i]? = some as → CellOk cA G m H as c
  nd : ∀ (i : Nat) (c : Cell) (as : List Addr), μ[i]? = some c → m[i]? = some as → c.live = true → as.Nodup
  apart : ∀ (i j : Nat) (c c' : Cell) (as as' : List Addr) (a : Addr), μ[i]? = some c → μ[j]? = some c' → m[i]? = some as → m[j]? = some as' → c.live = true → c'.live = true → a ∈ as → a ∈ as' → i = j
  free : ∀ (i : Nat) (c : Cell) (as : List Addr) (a : Addr), μ[i]? = some c → m[i]? = some as → c.live = true → a ∈ as → G a = none ∧ U a = none

def RelR (cA : Nat → Addr) (G : Hp) (m : Wd) (σ : L2.St) (ρ : R) : Prop := σ.length = ρ.length ∧ ∀ (i : Nat) (w : W), ρ[i]? = some (some w) → ∃ v, σ[i]? = some (some v) ∧ WRel cA G m v w

section
variable {cA : Nat → Addr} {G G' U H H' : Hp} {m m' : Wd} {μ : M} {σ : L2.St} {ρ : R}
theorem WRel.mono (l : Le G m G' m') {v : V} {w : W} (h : WRel cA G m v w) : WRel cA G' m' v w := by
  cases h with
  | d r => exact .d (r.mono l.g)
  | r h => exact .r (l.m _ _ h)
theorem WRels.mono (l : Le G m G' m') : ∀ {vs : List V} {ws : List W}, WRels cA G m vs ws → WRels cA G' m' vs ws
  | _, _, .nil => .nil
  | _, _, .cons r rs => .cons (r.mono l) (rs.mono l)
theorem RelR.mono (l : Le G m G' m') (h : RelR cA G m σ ρ) : RelR cA G' m' σ ρ := ⟨h.1, fun i w e => by
  obtain ⟨v, e1, r⟩ := h.2 i w e
  exact ⟨v, e1, r.mono l⟩⟩
theorem Reps.len : ∀ {vs : List V} {ds : List D}, Reps cA G vs ds → vs.length = ds.length
  | _, _, .nil => rfl
  | _, _, .cons _ rs => congrArg (· + 1) rs.len
theorem WRels.len : ∀ {vs : List V} {ws : List W}, WRels cA G m vs ws → vs.length = ws.length
  | _, _, .nil => rfl
  | _, _, .cons _ rs => congrArg (· + 1) rs.len
theorem Reps.get : ∀ {vs : List V} {ds : List D} {i : Nat} {v : V}, Reps cA G vs ds → vs[i]? = some v → ∃ d, ds[i]? = some d ∧ Rep cA G v d
  | _, _, i, _, .nil, h => by simp at h
  | _, _, 0, _, .cons r _, h => by simp at h; subst h; exact ⟨_, rfl, r⟩
  | _, _, i + 1, _, .cons _ rs, h => by simpa using rs.get (i := i) (by simpa using h)
theorem Reps.get' : ∀ {vs : List V} {ds : List D} {i : Nat} {d : D}, Reps cA G vs ds → ds[i]? = some d → ∃ v, vs[i]? = some v ∧ Rep cA G v d
  | _, _, i, _, .nil, h => by simp at h
  | _, _, 0, _, .cons r _, h => by simp at h; subst h; exact ⟨_, rfl, r⟩
  | _, _, i + 1, _, .cons _ rs, h => by simpa using rs.get' (i := i) (by simpa using h)
theorem WRels.get' : ∀ {vs : List V} {ws : List W} {i : Nat} {w : W}, WRels cA G m vs ws → ws[i]? = some w → ∃ v, vs[i]? = some v ∧ WRel cA G m v w
  | _, _, i, _, .nil, h => by simp at h
  | _, _, 0, _, .cons r _, h => by simp at h; subst h; exact ⟨_, rfl, r⟩
  | _, _, i + 1, _, .cons _ rs, h => by simpa using rs.get' (i := i) (by simpa using h)
theorem Reps.app : ∀ {vs us : List V} {ds es : List D}, Reps cA G vs ds → Reps cA G us es → Reps cA G (vs ++ us) (ds ++ es)
  | _, _, _, _, .nil, h => h
  | _, _, _, _, .cons r rs, h => .cons r (rs.app h)
theorem Reps.set {v : V} {d : D} (r : Rep cA G v d) : ∀ {vs : List V} {ds : List D} (i : Nat), Reps cA G vs ds → Reps cA G (vs.set i v) (ds.set i d)
  | _, _, _, .nil => .nil
  | _, _, 0, .cons _ rs => .cons r rs
  | _, _, i + 1, .cons r' rs => .cons r' (rs.set r i)
theorem Reps.drop : ∀ {vs : List V} {ds : List D} (n : Nat), Reps cA G vs ds → Reps cA G (vs.drop n) (ds.drop n)
  | _, _, 0, h => h
  | _, _, _ + 1, .nil => .nil
  | _, _, n + 1, .cons _ rs => rs.drop n
theorem Reps.take : ∀ {vs : List V} {ds : List D} (n : Nat), Reps cA G vs ds → Reps cA G (vs.take n) (ds.take n)
  | _, _, 0, _ => .nil
  | _, _, _ + 1, .nil => .nil
  | _, _, n + 1, .cons r rs => .cons r (rs.take n)
theorem Reps.erase : ∀ {vs : List V} {ds : List D} (n : Nat), Reps cA G vs ds → Reps cA G (vs.eraseIdx n) (ds.eraseIdx n)
  | _, _, _, .nil => .nil
  | _, _, 0, .cons _ rs => rs
  | _, _, n + 1, .cons r rs => .cons r (rs.erase n)

/-- the footprint of the live cells, the known part and the frame hold no new object -/
theorem RelM.new (r : RelM cA U G m μ H) {p : Addr} (h : H p = none) : G p = none ∧ U p = none := by
  constructor
  · cases e : G p with
    | none => rfl
    | some o => rw [r.gh p o e] at h; cases h
  · cases e : U p with
    | none => rfl
    | some o => rw [r.uh p o e] at h; cases h
theorem CellOk.at {as : List Addr} {c : Cell} (h : CellOk cA G m H as c) (gh : Sub G H) (lv : c.live = true) : ∀ a ∈ as, ∃ o, H a = some o := by
  cases c with
  | lst ds => obtain ⟨p, xs, rfl, e, _⟩ := h; intro a ha; simp at ha; subst ha; exact ⟨_, e⟩
  | lstW ws => obtain ⟨p, xs, rfl, e, _⟩ := h; intro a ha; simp at ha; subst ha; exact ⟨_, e⟩
  | ins c fs ws => obtain ⟨p, dx, xs, rfl, e, _⟩ := h; intro a ha; simp at ha; subst ha; exact ⟨_, e⟩
  | dic ks ds => obtain ⟨p, xs, rfl, e, _⟩ := h; intro a ha; simp at ha; subst ha; exact ⟨_, e⟩
  | dicT ks ds => obtain ⟨p, xs, rfl, e, _⟩ := h; intro a ha; simp at ha; subst ha; exact ⟨_, e⟩
  | frz d =>
    obtain ⟨p, rfl, r⟩ := h
    intro a ha
    simp at ha
    subst ha
    generalize hv : V.ref a = v at r
    cases r with
    | tup h _ => cases hv; exact ⟨_, gh _ _ h⟩
    | lst h _ => cases hv; exact ⟨_, gh _ _ h⟩
    | obj h _ _ => cases hv; exact ⟨_, gh _ _ h⟩
    | dic h _ _ => cases hv; exact ⟨_, gh _ _ h⟩
    | dicT h _ _ => cases hv; exact ⟨_, gh _ _ h⟩
    | _ => cases hv
  | tab P q => obtain ⟨rfl, ps, e, _⟩ := h; intro a ha; simp at ha; subst ha; exact ⟨_, e⟩
  | fn f c q => cases lv
  | scr ns S => cases lv
/-- the cell's heap may grow around it -/
theorem CellOk.mono {as : List Addr} {c : Cell} (l : Le G m G' m') (k : c.live = true → ∀ a ∈ as, ∀ o, H a = some o → H' a = some o) (h : CellOk cA G m H as c) : CellOk cA G' m' H' as c := by
  cases c with
  | lst ds => obtain ⟨p, xs, rfl, e, r⟩ := h; exact ⟨p, xs, rfl, k rfl p (by simp) _ e, r.mono l.g⟩
  | lstW ws => obtain ⟨p, xs, rfl, e, r⟩ := h; exact ⟨p, xs, rfl, k rfl p (by simp) _ e, r.mono l⟩
  | ins c fs ws => obtain ⟨p, dx, xs, rfl, e, n, r⟩ := h; exact ⟨p, dx, xs, rfl, k rfl p (by simp) _ e, n, r.mono l⟩
  | dic ks ds => obtain ⟨p, xs, rfl, e, n, r⟩ := h; exact ⟨p, xs, rfl, k rfl p (by simp) _ e, n, r.mono l.g⟩
  | dicT ks ds => obtain ⟨p, xs, rfl, e, n, r⟩ := h; exact ⟨p, xs, rfl, k rfl p (by simp) _ e, n, r.mono l.g⟩
  | frz d => obtain ⟨p, rfl, r⟩ := h; exact ⟨p, rfl, r.mono l.g⟩
  | tab P q => obtain ⟨rfl, ps, e, e2, e3⟩ := h; exact ⟨rfl, ps, k rfl P (by simp) _ e, e2, fun pos cv hc => by obtain ⟨c, z, z2⟩ := e3 pos cv hc; exact ⟨c, z, l.g _ _ z2⟩⟩
  | fn f c q => exact ⟨h.1, l.g _ _ h.2⟩
  | scr ns S => obtain ⟨p, rfl, e⟩ := h; exact ⟨p, rfl, e.imp (fun e => Or.imp (l.g _ _) (fun ⟨o, e⟩ => ⟨o, l.g _ _ e⟩) e) id⟩
/-- a new object stands, known to nobody -/
theorem RelM.grow (r : RelM cA U G m μ H) (s : Sub H H') : RelM cA U G m μ H' :=
  ⟨r.uh.trans s, r.gh.trans s, r.ug, r.len, fun i c as h1 h2 => (r.cell i c as h1 h2).mono (Le.refl G m) fun _ a _ o e => s a o e, r.nd, r.apart, r.free⟩
/-- a new object is known at once -/
theorem RelM.know (r : RelM cA U G m μ H) {p : Addr} {o : HO} (h : H p = none) : RelM cA U (upd G p o) m μ (upd H p o) := by
  obtain ⟨hg, hu⟩ := r.new h
  have l : Le G m (upd G p o) m := ⟨(Sub.refl G).new hg, fun _ _ e => e⟩
  have ne : ∀ (i : Nat) (c : Cell) (as : List Addr) (a : Addr), μ[i]? = some c → m[i]? = some as → c.live = true → a ∈ as → a ≠ p := fun i c as a h1 h2 lv h3 => by
    obtain ⟨o', e⟩ := (r.cell i c as h1 h2).at r.gh lv a h3
    exact ne_of_none e h
  refine ⟨r.uh.new hu, fun a u e => ?_, fun a u e => ?_, r.len, fun i c as h1 h2 => (r.cell i c as h1 h2).mono l fun lv a ha o' e => ?_, r.nd, r.apart, fun i c as a h1 h2 h3 h4 => ?_⟩
  · by_cases q : a = p
    · subst q; rw [upd_same] at e ⊢; exact e
    · rw [upd_ne q] at e ⊢; exact r.gh a u e
  · rw [upd_ne (ne_of_none e hu)]; exact r.ug a u e
  · rw [upd_ne (ne i c as a h1 h2 lv ha)]; exact e
  · rw [upd_ne (ne i c as a h1 h2 h3 h4)]; exact r.free i c as a h1 h2 h3 h4
theorem Le.know {p : Addr} (hg : G p = none) {o : HO} : Le G m (upd G p o) m := ⟨(Sub.refl G).new hg, fun _ _ e => e⟩
/-- a new cell of one place -/
theorem RelM.cellNew (r : RelM cA U G m μ H) {p : Addr} {o : HO} {c : Cell} (h : H p = none) (hc : CellOk cA G (m ++ [[p]]) (upd H p o) [p] c) : RelM cA U G (m ++ [[p]]) (μ ++ [c]) (upd H p o) := by
  obtain ⟨hg, hu⟩ := r.new h
  have ne : ∀ (i : Nat) (c : Cell) (as : List Addr) (a : Addr), μ[i]? = some c → m[i]? = some as → c.live = true → a ∈ as → a ≠ p := fun i c as a h1 h2 lv h3 => by
    obtain ⟨o', e⟩ := (r.cell i c as h1 h2).at r.gh lv a h3
    exact ne_of_none e h
  have l : Le G m G (m ++ [[p]]) := ⟨Sub.refl G, fun i as e => by rw [List.getElem?_append_left (List.getElem?_eq_some_iff.mp e).1]; exact e⟩
  have split : ∀ (i : Nat) (c' : Cell) (as : List Addr), (μ ++ [c])[i]? = some c' → (m ++ [[p]])[i]? = some as → (μ[i]? = some c' ∧ m[i]? = some as) ∨ (i = μ.length ∧ c' = c ∧ as = [p]) := fun i c' as h1 h2 => by
    have hl := r.len
    by_cases hi : i < μ.length
    · rw [List.getElem?_append_left hi] at h1
      rw [List.getElem?_append_left (by omega)] at h2
      exact .inl ⟨h1, h2⟩
    · have : i = μ.length := by
        have := (List.getElem?_eq_some_iff.mp h1).1
        simp at this
        omega
      subst this
      rw [List.getElem?_append_right (by omega)] at h1 h2
      simp [hl] at h1 h2
      exact .inr ⟨rfl, h1.symm, h2.symm⟩
  refine ⟨r.uh.new hu, r.gh.new hg, r.ug, by simp [r.len], fun i c' as h1 h2 => ?_, fun i c' as h1 h2 h3 => ?_, fun i j c1 c2 as as' a h1 h2 h3 h4 h5 h6 h7 h8 => ?_, fun i c' as a h1 h2 h3 h4 => ?_⟩
  · rcases split i c' as h1 h2 with ⟨e1, e2⟩ | ⟨_, rfl, rfl⟩
    · exact (r.cell i c' as e1 e2).mono l fun lv a ha o' e => by rw [upd_ne (ne i c' as a e1 e2 lv ha)]; exact e
    · exact hc
  · rcases split i c' as h1 h2 with ⟨e1, e2⟩ | ⟨_, rfl, rfl⟩
    · exact r.nd i c' as e1 e2 h3
    · simp
  · rcases split i c1 as h1 h3 with ⟨e1, e2⟩ | ⟨q1, rfl, rfl⟩
    · rcases split j c2 as' h2 h4 with ⟨e3, e4⟩ | ⟨q2, rfl, rfl⟩
      · exact r.apart i j c1 c2 as as' a e1 e3 e2 e4 h5 h6 h7 h8
      · simp at h8; exact absurd h8 (ne i c1 as a e1 e2 h5 h7)
    · rcases split j c2 as' h2 h4 with ⟨e3, e4⟩ | ⟨q2, rfl, rfl⟩
      · simp at h7; exact absurd h7 (ne j c2 as' a e3 e4 h6 h8)
      · omega
  · rcases split i c' as h1 h2 with ⟨e1, e2⟩ | ⟨_, rfl, rfl⟩
    · exact r.free i c' as a e1 e2 h3 h4
    · simp at h4; subst h4; exact ⟨hg, hu⟩
theorem Le.cellNew {p : Addr} : Le G m G (m ++ [[p]]) := ⟨Sub.refl G, fun i as e => by rw [List.getElem?_append_left (List.getElem?_eq_some_iff.mp e).1]; exact e⟩
/-- a live cell is written at one of its places -/
theorem RelM.write (r : RelM cA U G m μ H) {n : Nat} {c c' : Cell} {as : List Addr} {p : Addr} {o : HO} (h1 : μ[n]? = some c) (h2 : m[n]? = some as) (h3 : c.live = true) (hp : p ∈ as) (h4 : c'.live = true) (hc : CellOk cA G m (upd H p o) as c') :
    RelM cA U G m (μ.set n c') (upd H p o) := by
  obtain ⟨hg, hu⟩ := r.free n c as p h1 h2 h3 hp
  have hn : n < μ.length := (List.getElem?_eq_some_iff.mp h1).1
  have split : ∀ (i : Nat) (x : Cell), (μ.set n c')[i]? = some x → (i ≠ n ∧ μ[i]? = some x) ∨ (i = n ∧ x = c') := fun i x e => by
    by_cases q : i = n
    · subst q
      rw [List.getElem?_set_self hn] at e
      exact .inr ⟨rfl, (Option.some.inj e).symm⟩
    · rw [List.getElem?_set_ne (Ne.symm q)] at e
      exact .inl ⟨q, e⟩
  refine ⟨r.uh.new hu, r.gh.new hg, r.ug, by simp [r.len], fun i x bs e1 e2 => ?_, fun i x bs e1 e2 e3 => ?_, fun i j x y bs bs' a e1 e2 e3 e4 e5 e6 e7 e8 => ?_, fun i x bs a e1 e2 e3 e4 => ?_⟩
  · rcases split i x e1 with ⟨q, e⟩ | ⟨rfl, rfl⟩
    · refine (r.cell i x bs e e2).mono (Le.refl G m) fun lv a ha u e' => ?_
      rw [upd_ne]
      · exact e'
      · rintro rfl
        exact q (r.apart i n x c bs as a e h1 e2 h2 lv h3 ha hp)
    · rw [h2] at e2; cases e2; exact hc
  · rcases split i x e1 with ⟨q, e⟩ | ⟨rfl, rfl⟩
    · exact r.nd i x bs e e2 e3
    · rw [h2] at e2; cases e2; exact r.nd i c as h1 h2 h3
  · have to : ∀ (i : Nat) (x : Cell), (μ.set n c')[i]? = some x → x.live = true → ∃ z, μ[i]? = some z ∧ z.live = true := fun i x e lv => by
      rcases split i x e with ⟨_, e⟩ | ⟨rfl, rfl⟩
      · exact ⟨x, e, lv⟩
      · exact ⟨c, h1, h3⟩
    obtain ⟨z1, f1, g1⟩ := to i x e1 e5
    obtain ⟨z2, f2, g2⟩ := to j y e2 e6
    exact r.apart i j z1 z2 bs bs' a f1 f2 e3 e4 g1 g2 e7 e8
  · rcases split i x e1 with ⟨q, e⟩ | ⟨rfl, rfl⟩
    · exact r.free i x bs a e e2 e3 e4
    · rw [h2] at e2; cases e2; exact r.free i c as a h1 h2 h3 e4
/-- a live cell of one place becomes known -/
theorem RelM.freeze (r : RelM cA U G m μ H) {n : Nat} {c : Cell} {p : Addr} {o : HO} {d : D} (h1 : μ[n]? = some c) (h2 : m[n]? = some [p]) (h3 : c.live = true) (ho : H p = some o) (hd : Rep cA (upd G p o) (.ref p) d) :
    RelM cA U (upd G p o) m (μ.set n (.frz d)) H := by
  obtain ⟨hg, hu⟩ := r.free n c [p] p h1 h2 h3 (by simp)
  have hn : n < μ.length := (List.getElem?_eq_some_iff.mp h1).1
  have l : Le G m (upd G p o) m := Le.know hg
  have split : ∀ (i : Nat) (x : Cell), (μ.set n (.frz d))[i]? = some x → (i ≠ n ∧ μ[i]? = some x) ∨ (i = n ∧ x = .frz d) := fun i x e => by
    by_cases q : i = n
    · subst q
      rw [List.getElem?_set_self hn] at e
      exact .inr ⟨rfl, (Option.some.inj e).symm⟩
    · rw [List.getElem?_set_ne (Ne.symm q)] at e
      exact .inl ⟨q, e⟩
  refine ⟨r.uh, fun a u e => ?_, fun a u e => ?_, by simp [r.len], fun i x bs e1 e2 => ?_, fun i x bs e1 e2 e3 => ?_, fun i j x y bs bs' a e1 e2 e3 e4 e5 e6 e7 e8 => ?_, fun i x bs a e1 e2 e3 e4 => ?_⟩
  · by_cases q : a = p
    · subst q; rw [upd_same] at e; cases e; exact ho
    · rw [upd_ne q] at e; exact r.gh a u e
  · rw [upd_ne (ne_of_none e hu)]; exact r.ug a u e
  · rcases split i x e1 with ⟨q, e⟩ | ⟨rfl, rfl⟩
    · exact (r.cell i x bs e e2).mono l fun _ _ _ _ h => h
    · rw [h2] at e2; cases e2; exact ⟨p, rfl, hd⟩
  · rcases split i x e1 with ⟨q, e⟩ | ⟨rfl, rfl⟩
    · exact r.nd i x bs e e2 e3
    · cases e3
  · rcases split i x e1 with ⟨q, e⟩ | ⟨rfl, rfl⟩
    · rcases split j y e2 with ⟨q', e'⟩ | ⟨rfl, rfl⟩
      · exact r.apart i j x y bs bs' a e e' e3 e4 e5 e6 e7 e8
      · cases e6
    · cases e5
  · rcases split i x e1 with ⟨q, e⟩ | ⟨rfl, rfl⟩
    · rw [upd_ne]
      · exact r.free i x bs a e e2 e3 e4
      · rintro rfl
        exact q (r.apart i n x c bs [a] a e h1 e2 h2 e3 h3 e4 (by simp))
    · cases e3
end
end DD
namespace DD
open PySem L2

/-! ### reading a value, letting it go -/
@[simp] def unD : List W → Option (List D)
  | [] => some []
  | .d d :: ws => (unD ws).map (d :: ·)
  | .r _ :: _ => none
/-- what a value is now -/
@[simp] def rs (μ : M) : W → Option D
  | .d d => some d
  | .r n => match μ[n]? with
    | some (.lst ds) => some (.lst ds)
    | some (.dic ks ds) => some (.dic ks ds)
    | some (.dicT ks ds) => some (.dicT ks ds)
    | some (.frz d) => some d
    | some (.ins c fs ws) => (unD ws).map (.obj c fs)
    | some (.lstW ws) => (unD ws).map .lst
    | _ => none
/-- a value is let go: it is known from now on -/
@[simp] def esc0 (μ : M) : W → Option (D × M)
  | .d d => some (d, μ)
  | .r n => match μ[n]? with
    | some (.lst ds) => some (.lst ds, μ.set n (.frz (.lst ds)))
    | some (.dic ks ds) => some (.dic ks ds, μ.set n (.frz (.dic ks ds)))
    | some (.dicT ks ds) => some (.dicT ks ds, μ.set n (.frz (.dicT ks ds)))
    | some (.frz d) => some (d, μ)
    | some (.ins c fs ws) => (unD ws).map fun ds => (.obj c fs ds, μ.set n (.frz (.obj c fs ds)))
    | _ => none
@[simp] def escs0 (μ : M) : List W → Option (List D × M)
  | [] => some ([], μ)
  | w :: ws => match esc0 μ w with
    | some (d, μ1) => match escs0 μ1 ws with
      | some (ds, μ2) => some (d :: ds, μ2)
      | none => none
    | none => none
@[simp] def esc (μ : M) : W → Option (D × M)
  | .d d => some (d, μ)
  | .r n => match μ[n]? with
    | some (.lstW ws) => match escs0 μ ws with
      | some (ds, μ1) => match μ1[n]? with
        | some (.lstW _) => some (.lst ds, μ1.set n (.frz (.lst ds)))
        | _ => none
      | none => none
    | _ => esc0 μ (.r n)
@[simp] def escs (μ : M) : List W → Option (List D × M)
  | [] => some ([], μ)
  | w :: ws => match esc μ w with
    | some (d, μ1) => match escs μ1 ws with
      | some (ds, μ2) => some (d :: ds, μ2)
      | none => none
    | none => none
/-- v is d, its parts known -/
def Now (cA : Nat → Addr) (G H : Hp) (v : V) : D → Prop
  | .non => v = .non
  | .bl b => v = .bl b
  | .int i => v = .int i
  | .str s => v = .str s
  | .tup ds => ∃ p xs, v = .ref p ∧ H p = some (.tup xs) ∧ Reps cA G xs ds
  | .lst ds => ∃ p xs, v = .ref p ∧ H p = some (.lst xs) ∧ Reps cA G xs ds
  | .obj c fs ds => ∃ p dx xs, v = .ref p ∧ H p = some (.ins (cA c) dx (fs.zip xs)) ∧ fs.length = xs.length ∧ Reps cA G xs ds
  | .dic ks ds => ∃ p xs, v = .ref p ∧ H p = some (.dK (ks.zip xs)) ∧ ks.length = xs.length ∧ Reps cA G xs ds
  | .dicT ks ds => ∃ p xs, v = .ref p ∧ H p = some (.dT (ks.zip xs)) ∧ ks.length = xs.length ∧ Reps cA G xs ds
section
variable {cA : Nat → Addr} {G G' U H H' : Hp} {m m' : Wd} {μ μ' : M} {v : V} {w : W} {d : D}
theorem Rep.now (g : Sub G H) (r : Rep cA G v d) : Now cA G H v d := by
  cases r with
  | non => rfl
  | bl b => rfl
  | int i => rfl
  | str s => rfl
  | tup h r => exact ⟨_, _, rfl, g _ _ h, r⟩
  | lst h r => exact ⟨_, _, rfl, g _ _ h, r⟩
  | obj h l r => exact ⟨_, _, _, rfl, g _ _ h, l, r⟩
  | dic h l r => exact ⟨_, _, rfl, g _ _ h, l, r⟩
  | dicT h l r => exact ⟨_, _, rfl, g _ _ h, l, r⟩
theorem unD_ok : ∀ {ws : List W} {ds : List D} {xs : List V}, unD ws = some ds → WRels cA G m xs ws → Reps cA G xs ds
  | [], _, _, h, .nil => by simp [unD] at h; subst h; exact .nil
  | .d d :: ws, ds, _, h, .cons r rs => by
    cases r with
    | d r =>
      unfold unD at h
      cases e : unD ws with
      | none => rw [e] at h; simp at h
      | some es => rw [e] at h; simp at h; subst h; exact .cons r (unD_ok e rs)
  | .r n :: ws, ds, _, h, .cons _ _ => by simp [unD] at h
theorem lt_of_rel (r : RelM cA U G m μ H) {n : Nat} {as : List Addr} (h : m[n]? = some as) : ∃ c, μ[n]? = some c := by
  have := (List.getElem?_eq_some_iff.mp h).1
  exact ⟨μ[n]'(by rw [← r.len]; exact this), List.getElem?_eq_getElem _⟩
theorem rs_ok (r : RelM cA U G m μ H) (q : WRel cA G m v w) (h : rs μ w = some d) : Now cA G H v d := by
  cases q with
  | d q => simp [rs] at h; subst h; exact q.now r.gh
  | @r n p as e =>
    obtain ⟨c, hc⟩ := lt_of_rel r e
    have k := r.cell n c _ hc e
    simp only [rs, hc] at h
    cases c with
    | lst ds => cases h; obtain ⟨p', xs, e1, e2, e3⟩ := k; cases e1; exact ⟨p, xs, rfl, e2, e3⟩
    | dic ks ds => cases h; obtain ⟨p', xs, e1, e2, e3, e4⟩ := k; cases e1; exact ⟨p, xs, rfl, e2, e3, e4⟩
    | dicT ks ds => cases h; obtain ⟨p', xs, e1, e2, e3, e4⟩ := k; cases e1; exact ⟨p, xs, rfl, e2, e3, e4⟩
    | frz d' => cases h; obtain ⟨p', e1, e2⟩ := k; cases e1; exact e2.now r.gh
    | ins c fs ws =>
      obtain ⟨p', dx, xs, e1, e2, e3, e4⟩ := k
      cases e1
      dsimp only at h
      cases e : unD ws with
      | none => rw [e] at h; simp at h
      | some ds => rw [e] at h; simp at h; subst h; exact ⟨p, dx, xs, rfl, e2, e3, unD_ok e e4⟩
    | lstW ws =>
      obtain ⟨p', xs, e1, e2, e4⟩ := k
      cases e1
      dsimp only at h
      cases e : unD ws with
      | none => rw [e] at h; simp at h
      | some ds => rw [e] at h; simp at h; subst h; exact ⟨p, xs, rfl, e2, unD_ok e e4⟩
    | tab P q => cases h
    | fn f c q => cases h
    | scr ns S => cases h
theorem esc0_ok (r : RelM cA U G m μ H) (q : WRel cA G m v w) (h : esc0 μ w = some (d, μ')) : ∃ G', Le G m G' m ∧ RelM cA U G' m μ' H ∧ Rep cA G' v d := by
  cases q with
  | d q => simp [esc0] at h; obtain ⟨rfl, rfl⟩ := h; exact ⟨G, Le.refl G m, r, q⟩
  | @r n p as e =>
    obtain ⟨c, hc⟩ := lt_of_rel r e
    have k := r.cell n c _ hc e
    simp only [esc0, hc] at h
    cases c with
    | lst ds =>
      cases h
      obtain ⟨p', xs, e1, e2, e3⟩ := k
      cases e1
      have hg := (r.free n _ _ p hc e rfl (by simp)).1
      have rp : Rep cA (upd G p (.lst xs)) (.ref p) (.lst ds) := .lst upd_same (e3.mono (Le.know (m := m) hg).g)
      exact ⟨_, Le.know hg, r.freeze hc e rfl e2 rp, rp⟩
    | dic ks ds =>
      cases h
      obtain ⟨p', xs, e1, e2, e3, e4⟩ := k
      cases e1
      have hg := (r.free n _ _ p hc e rfl (by simp)).1
      have rp : Rep cA (upd G p (.dK (ks.zip xs))) (.ref p) (.dic ks ds) := .dic upd_same e3 (e4.mono (Le.know (m := m) hg).g)
      exact ⟨_, Le.know hg, r.freeze hc e rfl e2 rp, rp⟩
    | dicT ks ds =>
      cases h
      obtain ⟨p', xs, e1, e2, e3, e4⟩ := k
      cases e1
      have hg := (r.free n _ _ p hc e rfl (by simp)).1
      have rp : Rep cA (upd G p (.dT (ks.zip xs))) (.ref p) (.dicT ks ds) := .dicT upd_same e3 (e4.mono (Le.know (m := m) hg).g)
      exact ⟨_, Le.know hg, r.freeze hc e rfl e2 rp, rp⟩
    | frz d' => cases h; obtain ⟨p', e1, e2⟩ := k; cases e1; exact ⟨G, Le.refl G m, r, e2⟩
    | ins c fs ws =>
      obtain ⟨p', dx, xs, e1, e2, e3, e4⟩ := k
      cases e1
      dsimp only at h
      cases eu : unD ws with
      | none => rw [eu] at h; simp at h
      | some ds =>
        rw [eu] at h
        simp at h
        obtain ⟨rfl, rfl⟩ := h
        have hg := (r.free n _ _ p hc e rfl (by simp)).1
        have rp : Rep cA (upd G p (.ins (cA c) dx (fs.zip xs))) (.ref p) (.obj c fs ds) := .obj upd_same e3 ((unD_ok eu e4).mono (Le.know (m := m) hg).g)
        exact ⟨_, Le.know hg, r.freeze hc e rfl e2 rp, rp⟩
    | lstW ws => cases h
    | tab P q => cases h
    | fn f c q => cases h
    | scr ns S => cases h
theorem escs0_ok : ∀ {vs : List V} {ws : List W} {ds : List D} {G : Hp} {μ μ' : M}, RelM cA U G m μ H → WRels cA G m vs ws → escs0 μ ws = some (ds, μ') → ∃ G', Le G m G' m ∧ RelM cA U G' m μ' H ∧ Reps cA G' vs ds
  | _, _, _, G, _, _, r, .nil, h => by simp [escs0] at h; obtain ⟨rfl, rfl⟩ := h; exact ⟨G, Le.refl G m, r, .nil⟩
  | _, w :: ws, ds, G, μ, μ', r, .cons q qs, h => by
    unfold escs0 at h
    cases e : esc0 μ w with
    | none => rw [e] at h; simp at h
    | some z =>
      obtain ⟨d, μ1⟩ := z
      rw [e] at h
      simp only at h
      cases e2 : escs0 μ1 ws with
      | none => rw [e2] at h; simp at h
      | some z =>
        obtain ⟨es, μ2⟩ := z
        rw [e2] at h
        simp at h
        obtain ⟨rfl, rfl⟩ := h
        obtain ⟨G1, l1, r1, p1⟩ := esc0_ok r q e
        obtain ⟨G2, l2, r2, p2⟩ := escs0_ok r1 (qs.mono l1) e2
        exact ⟨G2, l1.trans l2, r2, .cons (p1.mono l2.g) p2⟩
/-- what escs0 leaves alone -/
theorem esc0_len (h : esc0 μ w = some (d, μ')) : μ'.length = μ.length ∧ ∀ (i : Nat) (ws : List W), μ'[i]? = some (.lstW ws) → μ[i]? = some (.lstW ws) := by
  cases w with
  | d _ => simp [esc0] at h; obtain ⟨_, rfl⟩ := h; exact ⟨rfl, fun _ _ z => z⟩
  | r n =>
    have key : ∀ (x : D), (μ.set n (.frz x)).length = μ.length ∧ ∀ (i : Nat) (ws : List W), (μ.set n (.frz x))[i]? = some (.lstW ws) → μ[i]? = some (.lstW ws) := fun x => ⟨by simp, fun i ws z => by
      by_cases q : n = i
      · subst q
        rw [List.getElem?_set] at z
        split at z
        · split at z <;> simp_all
        · simp_all
      · rw [List.getElem?_set_ne q] at z; exact z⟩
    simp only [esc0] at h
    split at h
    · cases h; exact key _
    · cases h; exact key _
    · cases h; exact key _
    · cases h; exact ⟨rfl, fun _ _ z => z⟩
    · rename_i c fs ws e
      cases e2 : unD ws with
      | none => rw [e2] at h; simp at h
      | some ds => rw [e2] at h; simp at h; obtain ⟨_, rfl⟩ := h; exact key _
    · cases h
theorem escs0_len : ∀ {ws : List W} {ds : List D} {μ μ' : M}, escs0 μ ws = some (ds, μ') → ∀ (i : Nat) (us : List W), μ'[i]? = some (.lstW us) → μ[i]? = some (.lstW us)
  | [], ds, μ, μ', h => by simp [escs0] at h; obtain ⟨_, rfl⟩ := h; exact fun _ _ z => z
  | w :: ws, ds, μ, μ', h => by
    unfold escs0 at h
    cases e : esc0 μ w with
    | none => rw [e] at h; simp at h
    | some z =>
      obtain ⟨d, μ1⟩ := z
      rw [e] at h
      simp only at h
      cases e2 : escs0 μ1 ws with
      | none => rw [e2] at h; simp at h
      | some z =>
        obtain ⟨es, μ2⟩ := z
        rw [e2] at h
        simp at h
        obtain ⟨_, rfl⟩ := h
        exact fun i us z => (esc0_len e).2 i us (escs0_len e2 i us z)
theorem esc_ok (r : RelM cA U G m μ H) (q : WRel cA G m v w) (h : esc μ w = some (d, μ')) : ∃ G', Le G m G' m ∧ RelM cA U G' m μ' H ∧ Rep cA G' v d := by
  cases w with
  | d x =>
    simp only [esc] at h
    exact esc0_ok r q (by simpa [esc0] using h)
  | r n =>
    simp only [esc] at h
    split at h
    · rename_i ws hc
      cases e : escs0 μ ws with
      | none => rw [e] at h; simp at h
      | some z =>
        obtain ⟨ds, μ1⟩ := z
        rw [e] at h
        simp only at h
        split at h
        · rename_i us hu
          cases h
          cases q with
          | @r _ p as em =>
            obtain ⟨p', xs, e1, e2, e3⟩ := r.cell n _ _ hc em
            cases e1
            obtain ⟨G1, l1, r1, p1⟩ := escs0_ok r e3 e
            have hg := (r1.free n _ _ p hu em rfl (by simp)).1
            have rp : Rep cA (upd G1 p (.lst xs)) (.ref p) (.lst ds) := .lst upd_same (p1.mono (Le.know (m := m) hg).g)
            exact ⟨_, l1.trans (Le.know hg), r1.freeze hu em rfl e2 rp, rp⟩
        · cases h
    · exact esc0_ok r q h
theorem escs_ok : ∀ {vs : List V} {ws : List W} {ds : List D} {G : Hp} {μ μ' : M}, RelM cA U G m μ H → WRels cA G m vs ws → escs μ ws = some (ds, μ') → ∃ G', Le G m G' m ∧ RelM cA U G' m μ' H ∧ Reps cA G' vs ds
  | _, _, _, G, _, _, r, .nil, h => by simp [escs] at h; obtain ⟨rfl, rfl⟩ := h; exact ⟨G, Le.refl G m, r, .nil⟩
  | _, w :: ws, ds, G, μ, μ', r, .cons q qs, h => by
    unfold escs at h
    cases e : esc μ w with
    | none => rw [e] at h; simp at h
    | some z =>
      obtain ⟨d, μ1⟩ := z
      rw [e] at h
      simp only at h
      cases e2 : escs μ1 ws with
      | none => rw [e2] at h; simp at h
      | some z =>
        obtain ⟨es, μ2⟩ := z
        rw [e2] at h
        simp at h
        obtain ⟨rfl, rfl⟩ := h
        obtain ⟨G1, l1, r1, p1⟩ := esc_ok r q e
        obtain ⟨G2, l2, r2, p2⟩ := escs_ok r1 (qs.mono l1) e2
        exact ⟨G2, l1.trans l2, r2, .cons (p1.mono l2.g) p2⟩
end

/-! ### judgements -/
structure Exc where
  c : Nat
  fs : List Str
  ds : List D
/-- what is fixed while a def's body runs -/
structure Bs where
  cA : Nat → Addr
  U : Hp
  G0 : Hp
  m0 : Wd
  xc : Exc → M → Prop
structure WOk (b : Bs) (G : Hp) (m : Wd) (μ : M) (H : Hp) : Prop where
  le : Le b.G0 b.m0 G m
  rel : RelM b.cA b.U G m μ H
abbrev DTE := R → M → (W → M → Prop) → Prop
abbrev DTT := R → M → (Bool → M → Prop) → Prop
abbrev DTA := R → M → (List W → M → Prop) → Prop
structure DE (X : Cx) (b : Bs) (e : Expr) (t : DTE) : Prop where
  ex : ∃ te : TE, PE X e te ∧ ∀ {G : Hp} {m : Wd} {ρ : R} {μ : M} {σ : L2.St} {H : Hp} {Q : W → M → Prop} {K : VK}, WOk b G m μ H → RelR b.cA G m σ ρ → t ρ μ Q →
    (∀ v H' G' m' w μ', Le G m G' m' → WOk b G' m' μ' H' → WRel b.cA G' m' v w → Q w μ' → K v H') → te σ H K
structure DT (X : Cx) (b : Bs) (e : Expr) (t : DTT) : Prop where
  ex : ∃ te : TT, PT X e te ∧ ∀ {G : Hp} {m : Wd} {ρ : R} {μ : M} {σ : L2.St} {H : Hp} {Q : Bool → M → Prop} {K : Bool → Hp → Prop}, WOk b G m μ H → RelR b.cA G m σ ρ → t ρ μ Q →
    (∀ c H' G' m' μ', Le G m G' m' → WOk b G' m' μ' H' → Q c μ' → K c H') → te σ H K
structure DPW (X : Cx) (b : Bs) (e : Expr) (t : DTT) : Prop where
  ex : ∃ te : TT, PW X e te ∧ ∀ {G : Hp} {m : Wd} {ρ : R} {μ : M} {σ : L2.St} {H : Hp} {Q : Bool → M → Prop} {K : Bool → Hp → Prop}, WOk b G m μ H → RelR b.cA G m σ ρ → t ρ μ Q →
    (∀ c H' G' m' μ', Le G m G' m' → WOk b G' m' μ' H' → Q c μ' → K c H') → te σ H K
structure DA (X : Cx) (b : Bs) (es : List Expr) (t : DTA) : Prop where
  ex : ∃ te : TA, PA X es te ∧ ∀ {G : Hp} {m : Wd} {ρ : R} {μ : M} {σ : L2.St} {H : Hp} {Q : List W → M → Prop} {K : List V → Hp → Prop}, WOk b G m μ H → RelR b.cA G m σ ρ → t ρ μ Q →
    (∀ vs H' G' m' ws μ', Le G m G' m' → WOk b G' m' μ' H' → WRels b.cA G' m' vs ws → Q ws μ' → K vs H') → te σ H K
theorem WOk.mono {b : Bs} {G G' : Hp} {m m' : Wd} {μ μ' : M} {H H' : Hp} (w : WOk b G m μ H) (l : Le G m G' m') (r : RelM b.cA b.U G' m' μ' H') : WOk b G' m' μ' H' := ⟨w.le.trans l, r⟩
section
variable {X : Cx} {b : Bs} {pos : Pos}
/-! ### names, constants -/
@[simp] def dVar (i : Nat) (ρ : R) (μ : M) (Q : W → M → Prop) : Prop := match ρ[i]? with
  | some (some w) => Q w μ
  | _ => False
theorem de_var {i : Nat} {x : Str} (h : PE X (.Name x pos) (tVar i)) : DE X b (.Name x pos) (dVar i) := by
  refine ⟨_, h, fun {G m ρ μ σ H Q K} o r t k => ?_⟩
  unfold dVar at t
  split at t
  · rename_i w e
    obtain ⟨v, e1, rv⟩ := r.2 i w e
    exact ⟨v, e1, k v H G m w μ (Le.refl G m) o rv t⟩
  · exact t.elim
@[simp] def dC (d : D) (_ρ : R) (μ : M) (Q : W → M → Prop) : Prop := Q (.d d) μ
theorem de_c {e : Expr} {v : V} {d : D} (h : PE X e (tC v)) (r : ∀ G, Rep b.cA G v d) : DE X b e (dC d) :=
  ⟨_, h, fun {G m ρ μ σ H Q K} o _ t k => k v H G m _ μ (Le.refl G m) o (.d (r G)) t⟩
theorem de_int {i : Int} {j} : DE X b (.Constant (.int i) j pos) (dC (.int i)) := de_c pe_int fun _ => .int i
theorem de_bl {c : Bool} {j} : DE X b (.Constant (.bool c) j pos) (dC (.bl c)) := de_c pe_bl fun _ => .bl c
theorem de_non {j} : DE X b (.Constant .none j pos) (dC .non) := de_c pe_non fun _ => .non
theorem de_str {x : Str} {j} : DE X b (.Constant (.str x) j pos) (dC (.str x)) := de_c pe_str fun _ => .str x
/-! ### argument lists -/
@[simp] def dNil (_ρ : R) (μ : M) (Q : List W → M → Prop) : Prop := Q [] μ
@[simp] def dCons (ta : DTE) (tr : DTA) (ρ : R) (μ : M) (Q : List W → M → Prop) : Prop := ta ρ μ fun w μ1 => tr ρ μ1 fun ws μ2 => Q (w :: ws) μ2
theorem da_nil : DA X b [] dNil := ⟨_, pa_nil, fun {G m ρ μ σ H Q K} o _ t k => k [] H G m [] μ (Le.refl G m) o .nil t⟩
theorem da_cons {e : Expr} {es : List Expr} {ta : DTE} {tr : DTA} (ha : DE X b e ta) (hr : DA X b es tr) (hs : starEach (e :: es) X.env = (false, eval e X.env) :: starEach es X.env := by rfl) : DA X b (e :: es) (dCons ta tr) := by
  obtain ⟨ta', pa, qa⟩ := ha.ex
  obtain ⟨tr', pr, qr⟩ := hr.ex
  refine ⟨_, pa_cons pa pr hs, fun {G m ρ μ σ H Q K} o r t k => ?_⟩
  refine qa o r t fun v H1 G1 m1 w μ1 l1 o1 r1 t1 => ?_
  refine qr o1 (r.mono l1) t1 fun vs H2 G2 m2 ws μ2 l2 o2 r2 t2 => ?_
  exact k _ H2 G2 m2 _ μ2 (l1.trans l2) o2 (.cons (r1.mono l2) r2) t2
/-! ### displays -/
@[simp] def dLet (f : List D → D) (ta : DTA) (ρ : R) (μ : M) (Q : W → M → Prop) : Prop := ta ρ μ fun ws μ1 => match escs μ1 ws with
  | some (ds, μ2) => ws.length ≤ sizeLine ∧ Q (.d (f ds)) μ2
  | none => False
/-- a tuple; a list that is known to change no more -/
theorem de_tup {es : List Expr} {j} {ta : DTA} (ha : DA X b es ta) : DE X b (.Tuple es j pos) (dLet .tup ta) := by
  obtain ⟨ta', pa, qa⟩ := ha.ex
  refine ⟨_, pe_tup pa, fun {G m ρ μ σ H Q K} o r t k => ?_⟩
  refine qa o r t fun vs H1 G1 m1 ws μ1 l1 o1 r1 t1 => ?_
  split at t1
  · rename_i ds μ2 e
    obtain ⟨G2, l2, r2, p2⟩ := escs_ok o1.rel r1 e
    refine ⟨by rw [r1.len]; exact t1.1, fun p hp => ?_⟩
    have hg := (r2.new hp).1
    have l3 : Le G2 m1 (upd G2 p (.tup vs)) m1 := Le.know hg
    exact k _ _ _ m1 _ μ2 (l1.trans (l2.trans l3)) (o1.mono (l2.trans l3) (r2.know hp)) (.d (.tup upd_same (p2.mono l3.g))) t1.2
  · exact t1.elim
theorem de_lst {es : List Expr} {ta : DTA} (ha : DA X b es ta) : DE X b (.List es pos) (dLet .lst ta) := by
  obtain ⟨ta', pa, qa⟩ := ha.ex
  refine ⟨_, pe_lst pa, fun {G m ρ μ σ H Q K} o r t k => ?_⟩
  refine qa o r t fun vs H1 G1 m1 ws μ1 l1 o1 r1 t1 => ?_
  split at t1
  · rename_i ds μ2 e
    obtain ⟨G2, l2, r2, p2⟩ := escs_ok o1.rel r1 e
    refine ⟨by rw [r1.len]; exact t1.1, fun p hp => ?_⟩
    have hg := (r2.new hp).1
    have l3 : Le G2 m1 (upd G2 p (.lst vs)) m1 := Le.know hg
    exact k _ _ _ m1 _ μ2 (l1.trans (l2.trans l3)) (o1.mono (l2.trans l3) (r2.know hp)) (.d (.lst upd_same (p2.mono l3.g))) t1.2
  · exact t1.elim
/-- a list that may change -/
@[simp] def dLstM (ta : DTA) (ρ : R) (μ : M) (Q : W → M → Prop) : Prop := ta ρ μ fun ws μ1 => match escs μ1 ws with
  | some (ds, μ2) => ws.length ≤ sizeLine ∧ Q (.r μ2.length) (μ2 ++ [.lst ds])
  | none => False
theorem de_lstM {es : List Expr} {ta : DTA} (ha : DA X b es ta) : DE X b (.List es pos) (dLstM ta) := by
  obtain ⟨ta', pa, qa⟩ := ha.ex
  refine ⟨_, pe_lst pa, fun {G m ρ μ σ H Q K} o r t k => ?_⟩
  refine qa o r t fun vs H1 G1 m1 ws μ1 l1 o1 r1 t1 => ?_
  split at t1
  · rename_i ds μ2 e
    obtain ⟨G2, l2, r2, p2⟩ := escs_ok o1.rel r1 e
    refine ⟨by rw [r1.len]; exact t1.1, fun p hp => ?_⟩
    have l3 : Le G2 m1 G2 (m1 ++ [[p]]) := Le.cellNew
    exact k _ _ _ _ _ _ (l1.trans (l2.trans l3)) (o1.mono (l2.trans l3) (r2.cellNew (c := .lst ds) hp ⟨p, vs, rfl, upd_same, p2⟩)) (.r (as := []) (by rw [← r2.len]; simp)) t1.2
  · exact t1.elim
/-! ### operators over data -/
def Op2 (b : Bs) (r : R2) (f : D → D → (D → Prop) → Prop) : Prop :=
  ∀ {G : Hp} {m : Wd} {μ : M} {H : Hp} {v u : V} {x y : D} {q : D → Prop} {K : VK}, WOk b G m μ H → Now b.cA G H v x → Now b.cA G H u y → f x y q →
    (∀ v' H' G' z, Le G m G' m → WOk b G' m μ H' → Rep b.cA G' v' z → q z → K v' H') → r v u H K
@[simp] def dOp (f : D → D → (D → Prop) → Prop) (ta tb : DTE) (ρ : R) (μ : M) (Q : W → M → Prop) : Prop := ta ρ μ fun x μ1 => tb ρ μ1 fun y μ2 => match rs μ2 x, rs μ2 y with
  | some a, some c => f a c fun z => Q (.d z) μ2
  | _, _ => False
theorem dop_core {r : R2} {f : D → D → (D → Prop) → Prop} (hf : Op2 b r f) {G : Hp} {m : Wd} {ρ : R} {μ μ1 : M} {H1 H2 : Hp} {G1 G2 : Hp} {m1 m2 : Wd} {μ2 : M} {x y : V} {w1 w2 : W} {Q : W → M → Prop} {K : VK}
    (l1 : Le G m G1 m1) (l2 : Le G1 m1 G2 m2) (o2 : WOk b G2 m2 μ2 H2) (r1 : WRel b.cA G1 m1 x w1) (r2 : WRel b.cA G2 m2 y w2)
    (t : match rs μ2 w1, rs μ2 w2 with
      | some a, some c => f a c fun z => Q (.d z) μ2
      | _, _ => False)
    (k : ∀ v H' G' m' w μ', Le G m G' m' → WOk b G' m' μ' H' → WRel b.cA G' m' v w → Q w μ' → K v H') : r x y H2 K := by
  split at t
  · rename_i a c e1 e2
    refine hf o2 (rs_ok o2.rel (r1.mono l2) e1) (rs_ok o2.rel r2 e2) t fun v' H' G' z l o3 rp qz => ?_
    exact k v' H' G' m2 (.d z) μ2 (l1.trans (l2.trans l)) o3 (.d rp) qz
  · exact t.elim
theorem de_op {op : Operator} {r : R2} {f : D → D → (D → Prop) → Prop} {e1 e2 : Expr} {ta tb : DTE} (ho : OpR X (binaryOp op) r) (hf : Op2 b r f) (ha : DE X b e1 ta) (hb : DE X b e2 tb) : DE X b (.BinOp e1 op e2 pos) (dOp f ta tb) := by
  obtain ⟨ta', pa, qa⟩ := ha.ex
  obtain ⟨tb', pb, qb⟩ := hb.ex
  refine ⟨_, pe_op ho pa pb, fun {G m ρ μ σ H Q K} o r t k => ?_⟩
  refine qa o r t fun x H1 G1 m1 w1 μ1 l1 o1 r1 t1 => ?_
  refine qb o1 (r.mono l1) t1 fun y H2 G2 m2 w2 μ2 l2 o2 r2 t2 => ?_
  exact dop_core (ρ := ρ) (μ := μ) (μ1 := μ1) (H1 := H1) hf l1 l2 o2 r1 r2 t2 k
theorem de_cmp {op : CmpOp} {r : R2} {f : D → D → (D → Prop) → Prop} {e1 e2 : Expr} {ta tb : DTE} (ho : OpR X (compareOp op) r) (hf : Op2 b r f) (ha : DE X b e1 ta) (hb : DE X b e2 tb) (hm : behindInMarks op e2 = false) : DE X b (.Compare e1 [op] [e2] pos) (dOp f ta tb) := by
  obtain ⟨ta', pa, qa⟩ := ha.ex
  obtain ⟨tb', pb, qb⟩ := hb.ex
  refine ⟨_, pe_cmpR ho pa pb hm, fun {G m ρ μ σ H Q K} o r t k => ?_⟩
  refine qa o r t fun x H1 G1 m1 w1 μ1 l1 o1 r1 t1 => ?_
  refine qb o1 (r.mono l1) t1 fun y H2 G2 m2 w2 μ2 l2 o2 r2 t2 => ?_
  exact dop_core (ρ := ρ) (μ := μ) (μ1 := μ1) (H1 := H1) hf l1 l2 o2 r1 r2 t2 k
/-- a value that is True or False, as a test -/
@[simp] def dB (t : DTE) (ρ : R) (μ : M) (Q : Bool → M → Prop) : Prop := t ρ μ fun w μ1 => match w with
  | .d (.bl c) => Q c μ1
  | _ => False
theorem isBl {cA : Nat → Addr} {G : Hp} {m : Wd} {v : V} {c : Bool} (h : WRel cA G m v (.d (.bl c))) : v = .bl c := by
  cases h with
  | d h => cases h; rfl
theorem dt_val {e : Expr} {t : DTE} (h : DE X b e t) (he : ∀ whole, isTrue e X.env whole = (do let v ← whole; standAt e.pos; holding [v] (truthy v)) := by intro _; rfl) : DT X b e (dB t) := by
  obtain ⟨t', p, q⟩ := h.ex
  refine ⟨_, pt_val p he, fun {G m ρ μ σ H Q K} o r t k => ?_⟩
  refine q o r t fun x H1 G1 m1 w1 μ1 l1 o1 r1 t1 => ?_
  split at t1
  · rename_i c
    exact ⟨c, isBl r1, k c H1 G1 m1 μ1 l1 o1 t1⟩
  · exact t1.elim
theorem dt_cmp {op : CmpOp} {r : R2} {f : D → D → (D → Prop) → Prop} {e1 e2 : Expr} {ta tb : DTE} (ho : OpR X (compareOp op) r) (hf : Op2 b r f) (ha : DE X b e1 ta) (hb : DE X b e2 tb) (hm : behindInMarks op e2 = false) : DT X b (.Compare e1 [op] [e2] pos) (dB (dOp f ta tb)) := by
  obtain ⟨ta', pa, qa⟩ := ha.ex
  obtain ⟨tb', pb, qb⟩ := hb.ex
  refine ⟨_, pt_cmpR ho pa pb hm, fun {G m ρ μ σ H Q K} o r t k => ?_⟩
  refine qa o r t fun x H1 G1 m1 w1 μ1 l1 o1 r1 t1 => ?_
  refine qb o1 (r.mono l1) t1 fun y H2 G2 m2 w2 μ2 l2 o2 r2 t2 => ?_
  refine dop_core (ρ := ρ) (μ := μ) (μ1 := μ1) (H1 := H1) (Q := fun w μ1 => match w with
    | .d (.bl c) => Q c μ1
    | _ => False) hf l1 l2 o2 r1 r2 t2 fun v H' G' m' w μ' l o' r' q' => ?_
  split at q'
  · rename_i c
    exact ⟨c, isBl r', k c H' G' m' μ' l o' q'⟩
  · exact q'.elim
end
end DD
namespace DD
open PySem L2

section
variable {X : Cx} {b : Bs} {pos : Pos}
/-- a new object of data -/
theorem give_new {G : Hp} {m : Wd} {μ : M} {H : Hp} {q : D → Prop} {K : VK} {p : Addr} {o : HO} {d : D} (w : WOk b G m μ H) (hp : H p = none) (hd : ∀ G', Sub G G' → G' p = some o → Rep b.cA G' (.ref p) d) (hq : q d)
    (k : ∀ v' H' G' z, Le G m G' m → WOk b G' m μ H' → Rep b.cA G' v' z → q z → K v' H') : K (.ref p) (upd H p o) := by
  have hg := (w.rel.new hp).1
  have l : Le G m (upd G p o) m := Le.know hg
  exact k _ _ _ d l (w.mono l (w.rel.know hp)) (hd _ l.g upd_same) hq
theorem give_old {G : Hp} {m : Wd} {μ : M} {H : Hp} {q : D → Prop} {K : VK} {v : V} {d : D} (w : WOk b G m μ H) (hd : Rep b.cA G v d) (hq : q d)
    (k : ∀ v' H' G' z, Le G m G' m → WOk b G' m μ H' → Rep b.cA G' v' z → q z → K v' H') : K v H := k v H G d (Le.refl G m) w hd hq
/-! ### + -/
@[simp] def fAdd : D → D → (D → Prop) → Prop
  | .int i, .int j, q => q (.int (i + j))
  | .str s, .str t, q => s.length + t.length ≤ sizeLine ∧ q (.str (s ++ t))
  | .lst xs, .lst ys, q => xs.length + ys.length ≤ sizeLine ∧ q (.lst (xs ++ ys))
  | .tup xs, .tup ys, q => xs.length + ys.length ≤ sizeLine ∧ xs ≠ [] ∧ ys ≠ [] ∧ q (.tup (xs ++ ys))
  | _, _, _ => False
theorem de_add {e1 e2 : Expr} {ta tb : DTE} (ha : DE X b e1 ta) (hb : DE X b e2 tb) : DE X b (.BinOp e1 .Add e2 pos) (dOp fAdd ta tb) := by
  refine de_op ((op_add.or op_add_str).or (op_cat.or op_catA)) ?_ ha hb
  intro G m μ H v u x y q K w nx ny f k
  match x, y, nx, ny, f with
  | .int i, .int j, nx, ny, f => cases nx; cases ny; exact .inl (.inl ⟨i, j, rfl, rfl, give_old w (.int _) f k⟩)
  | .str s, .str t, nx, ny, f => cases nx; cases ny; exact .inl (.inr ⟨s, t, rfl, rfl, f.1, give_old w (.str _) f.2 k⟩)
  | .lst xs, .lst ys, nx, ny, f =>
    obtain ⟨p, vs, rfl, h1, r1⟩ := nx
    obtain ⟨p2, us, rfl, h2, r2⟩ := ny
    exact .inr (.inl ⟨p, p2, vs, us, rfl, rfl, h1, h2, by rw [r1.len, r2.len]; exact f.1, fun a ha => give_new w ha (fun G' s e => .lst e ((r1.app r2).mono s)) f.2 k⟩)
  | .tup xs, .tup ys, nx, ny, f =>
    obtain ⟨p, vs, rfl, h1, r1⟩ := nx
    obtain ⟨p2, us, rfl, h2, r2⟩ := ny
    refine .inr (.inr ⟨p, p2, vs, us, rfl, rfl, SqT.of h1, SqT.of h2, by rw [r1.len, r2.len]; exact f.1, fun e => ?_, fun _ e => ?_, fun _ _ a ha => give_new w ha (fun G' s e => .tup e ((r1.app r2).mono s)) f.2.2.2 k⟩)
    · subst e; cases r1; exact (f.2.1 rfl).elim
    · subst e; cases r2; exact (f.2.2.1 rfl).elim
/-! ### arithmetic -/
@[simp] def fI (C : Int → Int → Prop) (g : Int → Int → D) : D → D → (D → Prop) → Prop
  | .int i, .int j, q => C i j ∧ q (g i j)
  | _, _, _ => False
theorem op2_I {C C' : Int → Int → Prop} {g : Int → Int → V} {g' : Int → Int → D} (hC : ∀ i j, C' i j → C i j) (hg : ∀ (G : Hp) i j, Rep b.cA G (g i j) (g' i j)) : Op2 b (rI C g) (fI C' g') := by
  intro G m μ H v u x y q K w nx ny f k
  match x, y, nx, ny, f with
  | .int i, .int j, nx, ny, f => cases nx; cases ny; exact ⟨i, j, rfl, rfl, hC i j f.1, give_old w (hg G i j) f.2 k⟩
@[simp] def fI0 (g : Int → Int → D) : D → D → (D → Prop) → Prop
  | .int i, .int j, q => q (g i j)
  | _, _, _ => False
theorem op2_I0 {g : Int → Int → V} {g' : Int → Int → D} (hg : ∀ (G : Hp) i j, Rep b.cA G (g i j) (g' i j)) : Op2 b (rI0 g) (fI0 g') := by
  intro G m μ H v u x y q K w nx ny f k
  match x, y, nx, ny, f with
  | .int i, .int j, nx, ny, f => cases nx; cases ny; exact ⟨i, j, rfl, rfl, give_old w (hg G i j) f k⟩
variable {e1 e2 : Expr} {ta tb : DTE}
abbrev fSub := fI0 fun i j => .int (i - j)
abbrev fMul := fI CMul fun i j => .int (i * j)
abbrev fDiv := fI (fun _ j => 0 < j ∧ j < 1073741824) fun i j => .int (i / j)
abbrev fMod := fI (fun _ j => 0 < j) fun i j => .int (i % j)
abbrev fPow := fI CPow fun i j => .int (i ^ j.toNat)
theorem de_sub (ha : DE X b e1 ta) (hb : DE X b e2 tb) : DE X b (.BinOp e1 .Sub e2 pos) (dOp fSub ta tb) := de_op op_sub (op2_I0 fun _ _ _ => .int _) ha hb
theorem de_mul (ha : DE X b e1 ta) (hb : DE X b e2 tb) : DE X b (.BinOp e1 .Mult e2 pos) (dOp fMul ta tb) := de_op op_mul (op2_I (fun _ _ h => h) fun _ _ _ => .int _) ha hb
theorem de_fdiv (ha : DE X b e1 ta) (hb : DE X b e2 tb) : DE X b (.BinOp e1 .FloorDiv e2 pos) (dOp fDiv ta tb) := de_op op_fdiv (op2_I (fun _ _ h => h) fun _ _ _ => .int _) ha hb
theorem de_mod (ha : DE X b e1 ta) (hb : DE X b e2 tb) : DE X b (.BinOp e1 .Mod e2 pos) (dOp fMod ta tb) := de_op op_mod (op2_I (fun _ _ h => h) fun _ _ _ => .int _) ha hb
theorem de_pow (ha : DE X b e1 ta) (hb : DE X b e2 tb) : DE X b (.BinOp e1 .Pow e2 pos) (dOp fPow ta tb) := de_op op_pow (op2_I (fun _ _ h => h) fun _ _ _ => .int _) ha hb
@[simp] def dNeg (ta : DTE) (ρ : R) (μ : M) (Q : W → M → Prop) : Prop := ta ρ μ fun w μ1 => match w with
  | .d (.int i) => Q (.d (.int (-i))) μ1
  | _ => False
theorem isInt {cA : Nat → Addr} {G : Hp} {m : Wd} {v : V} {c : Int} (h : WRel cA G m v (.d (.int c))) : v = .int c := by
  cases h with
  | d h => cases h; rfl
theorem de_neg (ha : DE X b e1 ta) : DE X b (.UnaryOp .USub e1 pos) (dNeg ta) := by
  obtain ⟨ta', pa, qa⟩ := ha.ex
  refine ⟨_, pe_un un_neg pa, fun {G m ρ μ σ H Q K} o r t k => ?_⟩
  refine qa o r t fun v H1 G1 m1 w μ1 l1 o1 r1 t1 => ?_
  split at t1
  · rename_i i
    exact ⟨i, isInt r1, k _ H1 G1 m1 _ μ1 l1 o1 (.d (.int _)) t1⟩
  · exact t1.elim
/-! ### order of ints, of texts -/
@[simp] def fCmp (g : Int → Int → Bool) : D → D → (D → Prop) → Prop := fI0 fun i j => .bl (g i j)
abbrev fLt := fCmp fun i j => decide (i < j)
abbrev fLe := fCmp fun i j => decide (i ≤ j)
abbrev fGt := fCmp fun i j => decide (j < i)
abbrev fGe := fCmp fun i j => decide (j ≤ i)
theorem o2_lt : Op2 b (rI0 fun i j => .bl (decide (i < j))) fLt := op2_I0 fun _ _ _ => .bl _
theorem o2_le : Op2 b (rI0 fun i j => .bl (decide (i ≤ j))) fLe := op2_I0 fun _ _ _ => .bl _
theorem o2_gt : Op2 b (rI0 fun i j => .bl (decide (j < i))) fGt := op2_I0 fun _ _ _ => .bl _
theorem o2_ge : Op2 b (rI0 fun i j => .bl (decide (j ≤ i))) fGe := op2_I0 fun _ _ _ => .bl _
theorem de_lt (ha : DE X b e1 ta) (hb : DE X b e2 tb) : DE X b (.Compare e1 [.Lt] [e2] pos) (dOp fLt ta tb) := de_cmp op_lt o2_lt ha hb (nomark _)
theorem de_le (ha : DE X b e1 ta) (hb : DE X b e2 tb) : DE X b (.Compare e1 [.LtE] [e2] pos) (dOp fLe ta tb) := de_cmp op_le o2_le ha hb (nomark _)
theorem de_gt (ha : DE X b e1 ta) (hb : DE X b e2 tb) : DE X b (.Compare e1 [.Gt] [e2] pos) (dOp fGt ta tb) := de_cmp op_gt o2_gt ha hb (nomark _)
theorem de_ge (ha : DE X b e1 ta) (hb : DE X b e2 tb) : DE X b (.Compare e1 [.GtE] [e2] pos) (dOp fGe ta tb) := de_cmp op_ge o2_ge ha hb (nomark _)
theorem dt_lt (ha : DE X b e1 ta) (hb : DE X b e2 tb) : DT X b (.Compare e1 [.Lt] [e2] pos) (dB (dOp fLt ta tb)) := dt_cmp op_lt o2_lt ha hb (nomark _)
theorem dt_le (ha : DE X b e1 ta) (hb : DE X b e2 tb) : DT X b (.Compare e1 [.LtE] [e2] pos) (dB (dOp fLe ta tb)) := dt_cmp op_le o2_le ha hb (nomark _)
theorem dt_gt (ha : DE X b e1 ta) (hb : DE X b e2 tb) : DT X b (.Compare e1 [.Gt] [e2] pos) (dB (dOp fGt ta tb)) := dt_cmp op_gt o2_gt ha hb (nomark _)
theorem dt_ge (ha : DE X b e1 ta) (hb : DE X b e2 tb) : DT X b (.Compare e1 [.GtE] [e2] pos) (dB (dOp fGe ta tb)) := dt_cmp op_ge o2_ge ha hb (nomark _)
/-- a < b <= c of ints -/
@[simp] def dCh (g g' : Int → Int → Bool) (ta tb tc : DTE) (ρ : R) (μ : M) (Q : W → M → Prop) : Prop := ta ρ μ fun x μ1 => tb ρ μ1 fun y μ2 => match x, y with
  | .d (.int i), .d (.int j) => if g i j = true then tc ρ μ2 fun z μ3 => (match z with
      | .d (.int n) => Q (.d (.bl (g' j n))) μ3
      | _ => False) else Q (.d (.bl false)) μ2
  | _, _ => False
theorem dt_chain {op op' : CmpOp} {e3 : Expr} {tc : DTE} {g g' : Int → Int → Bool} (ho : OpR X (compareOp op) (rI0 fun i j => .bl (g i j))) (ho' : OpR X (compareOp op') (rI0 fun i j => .bl (g' i j))) (ha : DE X b e1 ta) (hb : DE X b e2 tb) (hc : DE X b e3 tc)
    (pt : ∀ {ta tb tc : TE}, PE X e1 ta → PE X e2 tb → PE X e3 tc → PT X (.Compare e1 [op, op'] [e2, e3] pos) (tTest (tChain (rI0 fun i j => .bl (g i j)) (rI0 fun i j => .bl (g' i j)) ta tb tc))) : DT X b (.Compare e1 [op, op'] [e2, e3] pos) (dB (dCh g g' ta tb tc)) := by
  obtain ⟨ta', pa, qa⟩ := ha.ex
  obtain ⟨tb', pb, qb⟩ := hb.ex
  obtain ⟨tc', pc, qc⟩ := hc.ex
  refine ⟨_, pt pa pb pc, fun {G m ρ μ σ H Q K} o r t k => ?_⟩
  refine qa o r t fun x H1 G1 m1 w1 μ1 l1 o1 r1 t1 => ?_
  refine qb o1 (r.mono l1) t1 fun y H2 G2 m2 w2 μ2 l2 o2 r2 t2 => ?_
  split at t2
  · rename_i i j
    refine ⟨i, j, isInt r1, isInt r2, g i j, rfl, ?_⟩
    split
    · rename_i e
      rw [if_pos e] at t2
      refine qc o2 ((r.mono l1).mono l2) t2 fun z H3 G3 m3 w3 μ3 l3 o3 r3 t3 => ?_
      split at t3
      · rename_i n
        exact ⟨j, n, isInt r2, isInt r3, _, rfl, k _ H3 G3 m3 μ3 (l1.trans (l2.trans l3)) o3 t3⟩
      · exact t3.elim
    · rename_i e
      rw [if_neg e] at t2
      exact ⟨_, rfl, k _ H2 G2 m2 μ2 (l1.trans l2) o2 t2⟩
  · exact t2.elim
end
end DD
namespace DD
open PySem L2

/-! ### == of data -/
mutual
def deq : D → D → Bool
  | .non, .non => true
  | .bl a, .bl b => a == b
  | .bl a, .int j => (if a then 1 else 0) == j
  | .int i, .bl b => i == (if b then 1 else 0)
  | .int i, .int j => i == j
  | .str x, .str y => x == y
  | .lst xs, .lst ys => deqs xs ys
  | .tup xs, .tup ys => deqs xs ys
  | .obj c _ xs, .obj c' _ ys => c == c' && deqs xs ys
  | _, _ => false
def deqs : List D → List D → Bool
  | [], [] => true
  | x :: xs, y :: ys => deq x y && deqs xs ys
  | [], _ :: _ => false
  | _ :: _, [] => false
end
mutual
def toP : D → Option PyData
  | .non => some .none
  | .bl b => some (.bool b)
  | .int i => some (.int i)
  | .str s => some (.str s)
  | .lst ds => (toPs ds).map .list
  | .tup ds => (toPs ds).map .tuple
  | _ => none
def toPs : List D → Option (List PyData)
  | [] => some []
  | d :: ds => (toP d).bind fun p => (toPs ds).map (p :: ·)
end
mutual
def okD : Nat → D → Bool
  | _, .non => true
  | _, .bl _ => true
  | _, .int _ => true
  | _, .str s => PyData.strOk s
  | 0, _ => false
  | n + 1, .lst ds => okDs n ds
  | n + 1, .tup ds => okDs n ds
  | _, _ => false
def okDs : Nat → List D → Bool
  | _, [] => true
  | n, d :: ds => okD n d && okDs n ds
end
theorem okDs_all (n : Nat) : ∀ ds : List D, okDs n ds = ds.all (okD n)
  | [] => by simp [okDs]
  | d :: ds => by simp [okDs, okDs_all n ds]

mutual
theorem okD_toP : ∀ (n : Nat) (d : D), okD n d = true → ∃ p, toP d = some p ∧ PyData.canLay0 p = true ∧ p.depth ≤ n
  | n, .non, h => ⟨_, rfl, rfl, Nat.zero_le _⟩
  | n, .bl b, h => ⟨_, rfl, rfl, Nat.zero_le _⟩
  | n, .int i, h => ⟨_, rfl, rfl, Nat.zero_le _⟩
  | n, .str s, h => ⟨_, rfl, by simpa [okD, PyData.canLay0] using h, Nat.zero_le _⟩
  | 0, .lst ds, h => by simp [okD] at h
  | 0, .tup ds, h => by simp [okD] at h
  | n, .obj c fs ds, h => by cases n <;> simp [okD] at h
  | n, .dic ks ds, h => by cases n <;> simp [okD] at h
  | n, .dicT ks ds, h => by cases n <;> simp [okD] at h
  | n + 1, .lst ds, h => by
    obtain ⟨ps, e, c, l⟩ := okDs_toPs n ds (by simpa [okD] using h)
    exact ⟨_, by simp [toP, e]; rfl, by simpa [PyData.canLay0] using c, by simp [PyData.depth]; exact l⟩
  | n + 1, .tup ds, h => by
    obtain ⟨ps, e, c, l⟩ := okDs_toPs n ds (by simpa [okD] using h)
    exact ⟨_, by simp [toP, e]; rfl, by simpa [PyData.canLay0] using c, by simp [PyData.depth]; exact l⟩
theorem okDs_toPs : ∀ (n : Nat) (ds : List D), okDs n ds = true → ∃ ps, toPs ds = some ps ∧ PyData.canLayAll0 ps = true ∧ PyData.depthAll ps ≤ n
  | n, [], h => ⟨[], rfl, rfl, Nat.zero_le _⟩
  | n, d :: ds, h => by
    simp [okDs] at h
    obtain ⟨p, e, c, l⟩ := okD_toP n d h.1
    obtain ⟨ps, es, cs, ls⟩ := okDs_toPs n ds h.2
    exact ⟨p :: ps, by simp [toPs, e, es], by simp [PyData.canLayAll0, c, cs], by simp [PyData.depthAll]; omega⟩
end
mutual
theorem eqv_deq : ∀ (x y : D) (p r : PyData), toP x = some p → toP y = some r → PyData.eqv p r = deq x y
  | .non, y, p, r, h, k => by
    simp [toP] at h; subst h
    cases y <;> simp [toP] at k
    all_goals first | (subst k; rfl) | (obtain ⟨a, _, rfl⟩ := k; rfl)
  | .bl b, y, p, r, h, k => by
    simp [toP] at h; subst h
    cases y <;> simp [toP] at k
    all_goals first | (subst k; simp [PyData.eqv, deq]) | (obtain ⟨a, _, rfl⟩ := k; simp [PyData.eqv, deq])
  | .int i, y, p, r, h, k => by
    simp [toP] at h; subst h
    cases y <;> simp [toP] at k
    all_goals first | (subst k; simp [PyData.eqv, deq]) | (obtain ⟨a, _, rfl⟩ := k; simp [PyData.eqv, deq])
  | .str s, y, p, r, h, k => by
    simp [toP] at h; subst h
    cases y <;> simp [toP] at k
    all_goals first | (subst k; simp [PyData.eqv, deq]) | (obtain ⟨a, _, rfl⟩ := k; simp [PyData.eqv, deq])
  | .lst ds, y, p, r, h, k => by
    simp [toP] at h
    obtain ⟨ps, hp, rfl⟩ := h
    cases y with
    | lst es =>
      simp [toP] at k
      obtain ⟨rs, hr, rfl⟩ := k
      simp [PyData.eqv, deq, eqvs_deqs ds es ps rs hp hr]
    | _ => simp [toP] at k <;> first | (subst k; simp [PyData.eqv, deq]) | (obtain ⟨a, _, rfl⟩ := k; simp [PyData.eqv, deq])
  | .tup ds, y, p, r, h, k => by
    simp [toP] at h
    obtain ⟨ps, hp, rfl⟩ := h
    cases y with
    | tup es =>
      simp [toP] at k
      obtain ⟨rs, hr, rfl⟩ := k
      simp [PyData.eqv, deq, eqvs_deqs ds es ps rs hp hr]
    | _ => simp [toP] at k <;> first | (subst k; simp [PyData.eqv, deq]) | (obtain ⟨a, _, rfl⟩ := k; simp [PyData.eqv, deq])
  | .obj c fs ds, y, p, r, h, k => by simp [toP] at h
  | .dic ks ds, y, p, r, h, k => by simp [toP] at h
  | .dicT ks ds, y, p, r, h, k => by simp [toP] at h
theorem eqvs_deqs : ∀ (xs ys : List D) (ps rs : List PyData), toPs xs = some ps → toPs ys = some rs → PyData.eqvAll ps rs = deqs xs ys
  | [], ys, ps, rs, h, k => by
    simp [toPs] at h; subst h
    cases ys with
    | nil => simp [toPs] at k; subst k; simp [PyData.eqvAll, deqs]
    | cons y ys =>
      simp [toPs, Option.bind_eq_some_iff] at k
      obtain ⟨a, _, c, _, rfl⟩ := k
      simp [PyData.eqvAll, deqs]
  | x :: xs, ys, ps, rs, h, k => by
    simp [toPs, Option.bind_eq_some_iff] at h
    obtain ⟨p, hp, qs, hq, rfl⟩ := h
    cases ys with
    | nil => simp [toPs] at k; subst k; simp [PyData.eqvAll, deqs]
    | cons y ys =>
      simp [toPs, Option.bind_eq_some_iff] at k
      obtain ⟨a, ha, c, hc, rfl⟩ := k
      simp [PyData.eqvAll, deqs, eqv_deq x y p a hp ha, eqvs_deqs xs ys qs c hq hc]
end
section
variable {K : PySem.W.Frag} {cA : Nat → Addr} {G H : Hp}
mutual
theorem Rep.dp (g : Sub G H) : ∀ {v : V} {d : D} {p : PyData}, Rep cA G v d → toP d = some p → Dp K H v p
  | _, _, _, .non, e => by cases e; exact .non
  | _, _, _, .bl b, e => by cases e; exact .bl b
  | _, _, _, .int i, e => by cases e; exact .int i
  | _, _, _, .str s, e => by cases e; exact .str s
  | _, _, _, .tup h r, e => by
    simp [toP] at e
    obtain ⟨ps, e, rfl⟩ := e
    exact .tup (SqT.of (g _ _ h)) (Reps.dps g r e)
  | _, _, _, .lst h r, e => by
    simp [toP] at e
    obtain ⟨ps, e, rfl⟩ := e
    exact .lst (SqL.of (g _ _ h)) (Reps.dps g r e)
  | _, _, _, .obj _ _ _, e => by simp [toP] at e
  | _, _, _, .dic _ _ _, e => by simp [toP] at e
  | _, _, _, .dicT _ _ _, e => by simp [toP] at e
theorem Reps.dps (g : Sub G H) : ∀ {vs : List V} {ds : List D} {ps : List PyData}, Reps cA G vs ds → toPs ds = some ps → DpAll K H vs ps
  | _, _, _, .nil, e => by cases e; exact .nil
  | _, _, _, .cons r rs, e => by
    simp [toPs, Option.bind_eq_some_iff] at e
    obtain ⟨p, h1, ps, h2, rfl⟩ := e
    exact .cons (Rep.dp g r h1) (Reps.dps g rs h2)
end
theorem Now.dp {v : V} {d : D} {p : PyData} (g : Sub G H) (n : Now cA G H v d) (e : toP d = some p) : Dp K H v p := by
  cases d with
  | non => cases n; cases e; exact .non
  | bl b => cases n; cases e; exact .bl b
  | int i => cases n; cases e; exact .int i
  | str s => cases n; cases e; exact .str s
  | tup ds =>
    obtain ⟨q, xs, rfl, h, r⟩ := n
    simp [toP] at e
    obtain ⟨ps, e, rfl⟩ := e
    exact .tup (SqT.of h) (r.dps g e)
  | lst ds =>
    obtain ⟨q, xs, rfl, h, r⟩ := n
    simp [toP] at e
    obtain ⟨ps, e, rfl⟩ := e
    exact .lst (SqL.of h) (r.dps g e)
  | obj c fs ds => simp [toP] at e
  | dic ks ds => simp [toP] at e
  | dicT ks ds => simp [toP] at e
end
section
variable {X : Cx} {b : Bs} {pos : Pos} {e1 e2 : Expr} {ta tb : DTE}
def fEq (x y : D) (q : D → Prop) : Prop := okD 60 x = true ∧ okD 60 y = true ∧ q (.bl (deq x y))
def fNe (x y : D) (q : D → Prop) : Prop := okD 60 x = true ∧ okD 60 y = true ∧ q (.bl (!deq x y))
theorem shaped_ok {p : PyData} (c : PyData.canLay0 p = true) (l : p.depth ≤ 60) : SeqAt.shaped p = true := by
  unfold SeqAt.shaped
  rw [c, decide_eq_true (by omega)]
  rfl
theorem o2_eq {K : PySem.W.Frag} : Op2 b (rEqD K) fEq := by
  intro G m μ H v u x y q Kq w nx ny f k
  obtain ⟨o1, o2, f⟩ := f
  obtain ⟨p, e1, c1, l1⟩ := okD_toP _ _ o1
  obtain ⟨r, e2, c2, l2⟩ := okD_toP _ _ o2
  refine ⟨p, r, nx.dp w.rel.gh e1, ny.dp w.rel.gh e2, shaped_ok c1 l1, shaped_ok c2 l2, ?_⟩
  rw [eqv_deq x y p r e1 e2]
  exact give_old w (.bl _) f k
theorem o2_ne {K : PySem.W.Frag} : Op2 b (rNeD K) fNe := by
  intro G m μ H v u x y q Kq w nx ny f k
  obtain ⟨o1, o2, f⟩ := f
  obtain ⟨p, e1, c1, l1⟩ := okD_toP _ _ o1
  obtain ⟨r, e2, c2, l2⟩ := okD_toP _ _ o2
  refine ⟨p, r, nx.dp w.rel.gh e1, ny.dp w.rel.gh e2, shaped_ok c1 l1, shaped_ok c2 l2, ?_⟩
  rw [eqv_deq x y p r e1 e2]
  exact give_old w (.bl _) f k
theorem de_eq (hu : X.A.units + 64 < cLine) (ha : DE X b e1 ta) (hb : DE X b e2 tb) : DE X b (.Compare e1 [.Eq] [e2] pos) (dOp fEq ta tb) := de_cmp (op_eqD hu) o2_eq ha hb (nomark _)
theorem de_ne (hu : X.A.units + 64 < cLine) (ha : DE X b e1 ta) (hb : DE X b e2 tb) : DE X b (.Compare e1 [.NotEq] [e2] pos) (dOp fNe ta tb) := de_cmp (op_neD hu) o2_ne ha hb (nomark _)
theorem dt_eq (hu : X.A.units + 64 < cLine) (ha : DE X b e1 ta) (hb : DE X b e2 tb) : DT X b (.Compare e1 [.Eq] [e2] pos) (dB (dOp fEq ta tb)) := dt_cmp (op_eqD hu) o2_eq ha hb (nomark _)
theorem dt_ne (hu : X.A.units + 64 < cLine) (ha : DE X b e1 ta) (hb : DE X b e2 tb) : DT X b (.Compare e1 [.NotEq] [e2] pos) (dB (dOp fNe ta tb)) := dt_cmp (op_neD hu) o2_ne ha hb (nomark _)
/-! ### is None -/
def D.isNon : D → Bool
  | .non => true
  | _ => false
def fIsN (x y : D) (q : D → Prop) : Prop := match y with
  | .non => q (.bl x.isNon)
  | _ => False
def fNotN (x y : D) (q : D → Prop) : Prop := match y with
  | .non => q (.bl (!x.isNon))
  | _ => False
theorem now_non {cA : Nat → Addr} {G H : Hp} {v : V} {x : D} (n : Now cA G H v x) : decide (v = .non) = x.isNon := by
  cases x with
  | non => cases n; rfl
  | bl b => cases n; rfl
  | int i => cases n; rfl
  | str s => cases n; rfl
  | tup ds => obtain ⟨p, xs, rfl, _⟩ := n; rfl
  | lst ds => obtain ⟨p, xs, rfl, _⟩ := n; rfl
  | obj c fs ds => obtain ⟨p, dx, xs, rfl, _⟩ := n; rfl
  | dic ks ds => obtain ⟨p, xs, rfl, _⟩ := n; rfl
  | dicT ks ds => obtain ⟨p, xs, rfl, _⟩ := n; rfl
theorem o2_isN : Op2 b (fun x y H Q => y = .non ∧ Q (.bl (decide (x = .non))) H) fIsN := by
  intro G m μ H v u x y q Kq w nx ny f k
  match y, ny, f with
  | .non, ny, f =>
    cases ny
    refine ⟨rfl, ?_⟩
    rw [now_non nx]
    exact give_old w (.bl _) f k
theorem o2_notN : Op2 b (fun x y H Q => y = .non ∧ Q (.bl (!decide (x = .non))) H) fNotN := by
  intro G m μ H v u x y q Kq w nx ny f k
  match y, ny, f with
  | .non, ny, f =>
    cases ny
    refine ⟨rfl, ?_⟩
    rw [now_non nx]
    exact give_old w (.bl _) f k
theorem de_isN (ha : DE X b e1 ta) (hb : DE X b e2 tb) : DE X b (.Compare e1 [.Is] [e2] pos) (dOp fIsN ta tb) := de_cmp op_isN o2_isN ha hb (nomark _)
theorem de_notN (ha : DE X b e1 ta) (hb : DE X b e2 tb) : DE X b (.Compare e1 [.IsNot] [e2] pos) (dOp fNotN ta tb) := de_cmp op_notN o2_notN ha hb (nomark _)
theorem dt_isN (ha : DE X b e1 ta) (hb : DE X b e2 tb) : DT X b (.Compare e1 [.Is] [e2] pos) (dB (dOp fIsN ta tb)) := dt_cmp op_isN o2_isN ha hb (nomark _)
theorem dt_notN (ha : DE X b e1 ta) (hb : DE X b e2 tb) : DT X b (.Compare e1 [.IsNot] [e2] pos) (dB (dOp fNotN ta tb)) := dt_cmp op_notN o2_notN ha hb (nomark _)
end
end DD
namespace DD
open PySem L2

section
variable {X : Cx} {b : Bs} {pos : Pos} {e1 e2 e3 : Expr} {ta tb tc : DTE} {tt tu : DTT} {rest : List Expr}
/-! ### and, or, not, if -/
@[simp] def dAnd (t u : DTT) (ρ : R) (μ : M) (Q : Bool → M → Prop) : Prop := t ρ μ fun c μ1 => if c = true then u ρ μ1 Q else Q false μ1
@[simp] def dOr (t u : DTT) (ρ : R) (μ : M) (Q : Bool → M → Prop) : Prop := t ρ μ fun c μ1 => if c = true then Q true μ1 else u ρ μ1 Q
@[simp] def dNot (t : DTT) (ρ : R) (μ : M) (Q : Bool → M → Prop) : Prop := t ρ μ fun c μ1 => Q (!c) μ1
theorem dw_and1 (ha : DT X b e1 tt) : DPW X b (.BoolOp .And [e1] pos) tt := by
  obtain ⟨t', p, q⟩ := ha.ex
  exact ⟨_, pw_and1 p, q⟩
theorem dw_or1 (ha : DT X b e1 tt) : DPW X b (.BoolOp .Or [e1] pos) tt := by
  obtain ⟨t', p, q⟩ := ha.ex
  exact ⟨_, pw_or1 p, q⟩
theorem dw_and (ha : DT X b e1 tt) (hb : DPW X b (.BoolOp .And (e2 :: rest) pos) tu) : DPW X b (.BoolOp .And (e1 :: e2 :: rest) pos) (dAnd tt tu) := by
  obtain ⟨t', p, q⟩ := ha.ex
  obtain ⟨u', p', q'⟩ := hb.ex
  refine ⟨_, pw_and p p', fun {G m ρ μ σ H Q K} o r t k => ?_⟩
  refine q o r t fun c H1 G1 m1 μ1 l1 o1 t1 => ?_
  cases c with
  | true => exact q' o1 (r.mono l1) t1 fun c H2 G2 m2 μ2 l2 o2 t2 => k c H2 G2 m2 μ2 (l1.trans l2) o2 t2
  | false => exact k false H1 G1 m1 μ1 l1 o1 t1
theorem dw_or (ha : DT X b e1 tt) (hb : DPW X b (.BoolOp .Or (e2 :: rest) pos) tu) : DPW X b (.BoolOp .Or (e1 :: e2 :: rest) pos) (dOr tt tu) := by
  obtain ⟨t', p, q⟩ := ha.ex
  obtain ⟨u', p', q'⟩ := hb.ex
  refine ⟨_, pw_or p p', fun {G m ρ μ σ H Q K} o r t k => ?_⟩
  refine q o r t fun c H1 G1 m1 μ1 l1 o1 t1 => ?_
  cases c with
  | false => exact q' o1 (r.mono l1) t1 fun c H2 G2 m2 μ2 l2 o2 t2 => k c H2 G2 m2 μ2 (l1.trans l2) o2 t2
  | true => exact k true H1 G1 m1 μ1 l1 o1 t1
theorem DPW.dt (h : DPW X b e1 tt) : DT X b e1 tt := by
  obtain ⟨t', p, q⟩ := h.ex
  exact ⟨_, p.pt, q⟩
theorem dt_not (ha : DT X b e1 tt) : DT X b (.UnaryOp .Not e1 pos) (dNot tt) := by
  obtain ⟨t', p, q⟩ := ha.ex
  exact ⟨_, pt_not p, fun {G m ρ μ σ H Q K} o r t k => q o r t fun c H1 G1 m1 μ1 l1 o1 t1 => k (!c) H1 G1 m1 μ1 l1 o1 t1⟩
@[simp] def dIf (t : DTT) (ta tb : DTE) (ρ : R) (μ : M) (Q : W → M → Prop) : Prop := t ρ μ fun c μ1 => if c = true then ta ρ μ1 Q else tb ρ μ1 Q
theorem de_ifx (hc : DT X b e1 tt) (ha : DE X b e2 ta) (hb : DE X b e3 tb) : DE X b (.IfExp e1 e2 e3 pos) (dIf tt ta tb) := by
  obtain ⟨t', p, q⟩ := hc.ex
  obtain ⟨ta', pa, qa⟩ := ha.ex
  obtain ⟨tb', pb, qb⟩ := hb.ex
  refine ⟨_, pe_ifExp p pa pb, fun {G m ρ μ σ H Q K} o r t k => ?_⟩
  refine q o r t fun c H1 G1 m1 μ1 l1 o1 t1 => ?_
  cases c with
  | true => exact qa o1 (r.mono l1) t1 fun v H2 G2 m2 w μ2 l2 o2 r2 t2 => k v H2 G2 m2 w μ2 (l1.trans l2) o2 r2 t2
  | false => exact qb o1 (r.mono l1) t1 fun v H2 G2 m2 w μ2 l2 o2 r2 t2 => k v H2 G2 m2 w μ2 (l1.trans l2) o2 r2 t2
/-- as values -/
@[simp] def dAndV (t : DTE) (u : DTE) (ρ : R) (μ : M) (Q : W → M → Prop) : Prop := t ρ μ fun w μ1 => match w with
  | .d (.bl true) => u ρ μ1 Q
  | .d (.bl false) => Q (.d (.bl false)) μ1
  | _ => False
@[simp] def dOrV (t : DTE) (u : DTE) (ρ : R) (μ : M) (Q : W → M → Prop) : Prop := t ρ μ fun w μ1 => match w with
  | .d (.bl false) => u ρ μ1 Q
  | .d (.bl true) => Q (.d (.bl true)) μ1
  | _ => False
@[simp] def dNotV (t : DTE) (ρ : R) (μ : M) (Q : W → M → Prop) : Prop := t ρ μ fun w μ1 => match w with
  | .d (.bl c) => Q (.d (.bl (!c))) μ1
  | _ => False
theorem de_one {op} (ha : DE X b e1 ta) : DE X b (.BoolOp op [e1] pos) ta := by
  obtain ⟨t', p, q⟩ := ha.ex
  exact ⟨_, pe_one p, q⟩
theorem de_and (ha : DE X b e1 ta) (hb : DE X b (.BoolOp .And (e2 :: rest) pos) tb) : DE X b (.BoolOp .And (e1 :: e2 :: rest) pos) (dAndV ta tb) := by
  obtain ⟨t', p, q⟩ := ha.ex
  obtain ⟨u', p', q'⟩ := hb.ex
  refine ⟨_, pe_and p p', fun {G m ρ μ σ H Q K} o r t k => ?_⟩
  refine q o r t fun v H1 G1 m1 w μ1 l1 o1 r1 t1 => ?_
  split at t1
  · exact ⟨true, isBl r1, q' o1 (r.mono l1) t1 fun v H2 G2 m2 w μ2 l2 o2 r2 t2 => k v H2 G2 m2 w μ2 (l1.trans l2) o2 r2 t2⟩
  · exact ⟨false, isBl r1, k _ H1 G1 m1 _ μ1 l1 o1 (.d (.bl _)) t1⟩
  · exact t1.elim
theorem de_or (ha : DE X b e1 ta) (hb : DE X b (.BoolOp .Or (e2 :: rest) pos) tb) : DE X b (.BoolOp .Or (e1 :: e2 :: rest) pos) (dOrV ta tb) := by
  obtain ⟨t', p, q⟩ := ha.ex
  obtain ⟨u', p', q'⟩ := hb.ex
  refine ⟨_, pe_or p p', fun {G m ρ μ σ H Q K} o r t k => ?_⟩
  refine q o r t fun v H1 G1 m1 w μ1 l1 o1 r1 t1 => ?_
  split at t1
  · exact ⟨false, isBl r1, q' o1 (r.mono l1) t1 fun v H2 G2 m2 w μ2 l2 o2 r2 t2 => k v H2 G2 m2 w μ2 (l1.trans l2) o2 r2 t2⟩
  · exact ⟨true, isBl r1, k _ H1 G1 m1 _ μ1 l1 o1 (.d (.bl _)) t1⟩
  · exact t1.elim
theorem de_not (ha : DE X b e1 ta) : DE X b (.UnaryOp .Not e1 pos) (dNotV ta) := by
  obtain ⟨t', p, q⟩ := ha.ex
  refine ⟨_, pe_not p, fun {G m ρ μ σ H Q K} o r t k => ?_⟩
  refine q o r t fun v H1 G1 m1 w μ1 l1 o1 r1 t1 => ?_
  split at t1
  · exact ⟨_, isBl r1, k _ H1 G1 m1 _ μ1 l1 o1 (.d (.bl _)) t1⟩
  · exact t1.elim
/-! ### an item -/
theorem reps_atI {cA : Nat → Addr} {G : Hp} {vs : List V} {ds : List D} {i : Int} {d : D} (r : Reps cA G vs ds) (h : atI ds i = some d) : ∃ v, atI vs i = some v ∧ Rep cA G v d := by
  unfold atI at h ⊢
  rw [r.len]
  cases e : ixN ds.length i with
  | none => rw [e] at h; cases h
  | some j =>
    rw [e] at h
    obtain ⟨v, h1, h2⟩ := r.get' (i := j) h
    exact ⟨v, h1, h2⟩
@[simp] def fIx : D → D → (D → Prop) → Prop
  | .lst ds, .int i, q => match atI ds i with
    | some d => q d
    | none => False
  | .tup ds, .int i, q => match atI ds i with
    | some d => q d
    | none => False
  | .str s, .int i, q => s.length ≤ sizeLine ∧ match atI s.cps.toList i with
    | some c => q (.str ⟨#[c]⟩)
    | none => False
  | _, _, _ => False
theorem o2_ix {K : PySem.W.Frag} : Op2 b (rIx K) fIx := by
  intro G m μ H v u x y q Kq w nx ny f k
  match x, y, nx, ny, f with
  | .lst ds, .int i, nx, ny, f =>
    obtain ⟨p, xs, rfl, h, r⟩ := nx
    cases ny
    simp only [fIx] at f
    split at f
    · rename_i d e
      obtain ⟨z, e2, r2⟩ := reps_atI r e
      exact .inl ⟨p, xs, i, z, rfl, rfl, SqL.of h, e2, give_old w r2 f k⟩
    · exact f.elim
  | .tup ds, .int i, nx, ny, f =>
    obtain ⟨p, xs, rfl, h, r⟩ := nx
    cases ny
    simp only [fIx] at f
    split at f
    · rename_i d e
      obtain ⟨z, e2, r2⟩ := reps_atI r e
      exact .inr (.inl ⟨p, xs, i, z, rfl, rfl, SqT.of h, e2, give_old w r2 f k⟩)
    · exact f.elim
  | .str s, .int i, nx, ny, f =>
    cases nx
    cases ny
    simp only [fIx] at f
    obtain ⟨f1, f⟩ := f
    split at f
    · rename_i d e
      exact .inr (.inr ⟨s, i, d, rfl, rfl, f1, e, give_old w (.str _) f k⟩)
    · exact f.elim
theorem de_ix (ha : DE X b e1 ta) (hb : DE X b e2 tb) (hs : PlainIx e2 := by exact fun _ _ => rfl) : DE X b (.Subscript e1 e2 pos) (dOp fIx ta tb) := by
  obtain ⟨ta', pa, qa⟩ := ha.ex
  obtain ⟨tb', pb, qb⟩ := hb.ex
  refine ⟨_, pe_ix ix_seq pa pb hs, fun {G m ρ μ σ H Q K} o r t k => ?_⟩
  refine qa o r t fun x H1 G1 m1 w1 μ1 l1 o1 r1 t1 => ?_
  refine qb o1 (r.mono l1) t1 fun y H2 G2 m2 w2 μ2 l2 o2 r2 t2 => ?_
  exact dop_core (ρ := ρ) (μ := μ) (μ1 := μ1) (H1 := H1) o2_ix l1 l2 o2 r1 r2 t2 k
/-! ### in, not in -/
def flatD : D → Bool
  | .non => true
  | .bl _ => true
  | .int _ => true
  | .str _ => true
  | _ => false
theorem rep_flat {cA : Nat → Addr} {G : Hp} {v : V} {d : D} (r : Rep cA G v d) (f : flatD d = true) : flatV v = true := by
  cases r <;> first | rfl | cases f
theorem eqV_deq {cA : Nat → Addr} {G G' : Hp} {v u : V} {d e : D} (r : Rep cA G v d) (r' : Rep cA G' u e) (f : flatD d = true) (f' : flatD e = true) : eqV v u = deq d e := by
  cases r <;> first | (cases f; done) | (cases r' <;> first | (cases f'; done) | simp [eqV, deq])
theorem reps_in {cA : Nat → Addr} {G G' : Hp} {u : V} {e : D} (r' : Rep cA G' u e) (f' : flatD e = true) : ∀ {vs : List V} {ds : List D}, Reps cA G vs ds → ds.all flatD = true → inV u vs = (ds.any fun d => deq d e) ∧ vs.all flatV = true
  | _, _, .nil, _ => ⟨rfl, rfl⟩
  | _, _, .cons r rs, h => by
    simp only [List.all_cons, Bool.and_eq_true] at h
    obtain ⟨i1, i2⟩ := reps_in r' f' rs h.2
    refine ⟨?_, by simp [rep_flat r h.1, i2]⟩
    unfold inV at i1 ⊢
    rw [List.any_cons, List.any_cons, i1, eqV_deq r r' h.1 f']
theorem now_flat {cA : Nat → Addr} {G H : Hp} {v : V} {x : D} (n : Now cA G H v x) (f : flatD x = true) : Rep cA G v x := by
  cases x with
  | non => cases n; exact .non
  | bl b => cases n; exact .bl b
  | int i => cases n; exact .int i
  | str s => cases n; exact .str s
  | _ => cases f
def fIn (neg : Bool) : D → D → (D → Prop) → Prop
  | x, .lst ds, q => okD 60 x = true ∧ okDs 59 ds = true ∧ q (.bl (if neg then !(ds.any fun d => deq d x) else ds.any fun d => deq d x))
  | x, .tup ds, q => flatD x = true ∧ ds.all flatD = true ∧ q (.bl (if neg then !(ds.any fun d => deq d x) else ds.any fun d => deq d x))
  | .str s, .str t, q => q (.bl (if neg then !(!(Builtin.Str.occurrences t s 0 t.length 1).isEmpty) else !(Builtin.Str.occurrences t s 0 t.length 1).isEmpty))
  | _, _, _ => False
theorem any_eqv : ∀ (ds : List D) (ps : List PyData) (x : D) (p : PyData), toPs ds = some ps → toP x = some p → (ps.any fun z => PyData.eqv z p) = ds.any fun d => deq d x
  | [], ps, x, p, h, _ => by simp [toPs] at h; subst h; rfl
  | d :: ds, ps, x, p, h, hx => by
    simp [toPs, Option.bind_eq_some_iff] at h
    obtain ⟨a, h1, c, h2, rfl⟩ := h
    rw [List.any_cons, List.any_cons, any_eqv ds c x p h2 hx, eqv_deq d x a p h1 hx]
theorem o2_in {K : PySem.W.Frag} : Op2 b (fun x y H Q => (rInD K x y H Q ∨ rIn K false x y H Q) ∨ ∃ i j, x = .str i ∧ y = .str j ∧ Q (.bl (!(Builtin.Str.occurrences j i 0 j.length 1).isEmpty)) H) (fIn false) := by
  intro G m μ H v u x y q Kq w nx ny f k
  cases y with
  | lst ds =>
    obtain ⟨o1, o2, f⟩ : okD 60 x = true ∧ okDs 59 ds = true ∧ q (.bl (ds.any fun d => deq d x)) := by cases x <;> exact f
    obtain ⟨p, e1, c1, l1⟩ := okD_toP _ _ o1
    obtain ⟨ps, e2, c2, l2⟩ := okDs_toPs _ _ o2
    have e3 : toP (.lst ds) = some (.list ps) := by simp [toP, e2]
    refine .inl (.inl ⟨p, ps, nx.dp w.rel.gh e1, Now.dp w.rel.gh ny e3, shaped_ok c1 l1, shaped_ok c2 (by simp [PyData.depth]; omega), ?_⟩)
    rw [any_eqv ds ps x p e2 e1]
    exact give_old w (.bl _) f k
  | tup ds =>
    obtain ⟨o1, o2, f⟩ : flatD x = true ∧ ds.all flatD = true ∧ q (.bl (ds.any fun d => deq d x)) := by cases x <;> exact f
    obtain ⟨p, xs, rfl, h, r⟩ := ny
    obtain ⟨i1, i2⟩ := reps_in (now_flat nx o1) o1 r o2
    refine .inl (.inr ⟨p, xs, rfl, .inr (SqT.of h), rep_flat (now_flat nx o1) o1, i2, ?_⟩)
    rw [if_neg Bool.false_ne_true, i1]
    exact give_old w (.bl _) f k
  | str t =>
    cases x with
    | str s => cases nx; cases ny; exact .inr ⟨s, t, rfl, rfl, give_old w (.bl _) f k⟩
    | _ => exact f.elim
  | _ => cases x <;> exact f.elim
theorem o2_notIn {K : PySem.W.Frag} : Op2 b (fun x y H Q => (rNotInD K x y H Q ∨ rIn K true x y H Q) ∨ ∃ i j, x = .str i ∧ y = .str j ∧ Q (.bl (!(!(Builtin.Str.occurrences j i 0 j.length 1).isEmpty))) H) (fIn true) := by
  intro G m μ H v u x y q Kq w nx ny f k
  cases y with
  | lst ds =>
    obtain ⟨o1, o2, f⟩ : okD 60 x = true ∧ okDs 59 ds = true ∧ q (.bl (!ds.any fun d => deq d x)) := by cases x <;> exact f
    obtain ⟨p, e1, c1, l1⟩ := okD_toP _ _ o1
    obtain ⟨ps, e2, c2, l2⟩ := okDs_toPs _ _ o2
    have e3 : toP (.lst ds) = some (.list ps) := by simp [toP, e2]
    refine .inl (.inl ⟨p, ps, nx.dp w.rel.gh e1, Now.dp w.rel.gh ny e3, shaped_ok c1 l1, shaped_ok c2 (by simp [PyData.depth]; omega), ?_⟩)
    rw [any_eqv ds ps x p e2 e1]
    exact give_old w (.bl _) f k
  | tup ds =>
    obtain ⟨o1, o2, f⟩ : flatD x = true ∧ ds.all flatD = true ∧ q (.bl (!ds.any fun d => deq d x)) := by cases x <;> exact f
    obtain ⟨p, xs, rfl, h, r⟩ := ny
    obtain ⟨i1, i2⟩ := reps_in (now_flat nx o1) o1 r o2
    refine .inl (.inr ⟨p, xs, rfl, .inr (SqT.of h), rep_flat (now_flat nx o1) o1, i2, ?_⟩)
    rw [if_pos rfl, i1]
    exact give_old w (.bl _) f k
  | str t =>
    cases x with
    | str s => cases nx; cases ny; exact .inr ⟨s, t, rfl, rfl, give_old w (.bl _) f k⟩
    | _ => exact f.elim
  | _ => cases x <;> exact f.elim
theorem de_in (hu : X.A.units + 65 < cLine) (ha : DE X b e1 ta) (hb : DE X b e2 tb) (hm : behindInMarks .In e2 = false) : DE X b (.Compare e1 [.In] [e2] pos) (dOp (fIn false) ta tb) := de_cmp (((op_inD hu).or op_in_seq).or op_in_str) o2_in ha hb hm
theorem de_notIn (hu : X.A.units + 65 < cLine) (ha : DE X b e1 ta) (hb : DE X b e2 tb) (hm : behindInMarks .NotIn e2 = false) : DE X b (.Compare e1 [.NotIn] [e2] pos) (dOp (fIn true) ta tb) := de_cmp (((op_notInD hu).or op_notIn_seq).or op_notin_str) o2_notIn ha hb hm
theorem dt_in (hu : X.A.units + 65 < cLine) (ha : DE X b e1 ta) (hb : DE X b e2 tb) (hm : behindInMarks .In e2 = false) : DT X b (.Compare e1 [.In] [e2] pos) (dB (dOp (fIn false) ta tb)) := dt_cmp (((op_inD hu).or op_in_seq).or op_in_str) o2_in ha hb hm
theorem dt_notIn (hu : X.A.units + 65 < cLine) (ha : DE X b e1 ta) (hb : DE X b e2 tb) (hm : behindInMarks .NotIn e2 = false) : DT X b (.Compare e1 [.NotIn] [e2] pos) (dB (dOp (fIn true) ta tb)) := dt_cmp (((op_notInD hu).or op_notIn_seq).or op_notin_str) o2_notIn ha hb hm
/-! ### a field -/
/-- the fields' values by name -/
@[simp] def lookW (fs : List Str) (ws : List W) (f : Str) : Option W := (fs.zip ws).lookup f
structure CF (K : PySem.W.Frag) (cA : Nat → Addr) (fl : Nat → List Str) : Prop where
  cl : ∀ c, fl c ≠ [] → Cls K (cA c)
  no : ∀ c f, f ∈ fl c → NoAttr K (cA c) f
theorem wrels_look {cA : Nat → Addr} {G : Hp} {m : Wd} {f : Str} {w : W} : ∀ {fs : List Str} {xs : List V} {ws : List W}, WRels cA G m xs ws → (fs.zip ws).lookup f = some w → ∃ v, (fs.zip xs).lookup f = some v ∧ WRel cA G m v w
  | [], _, _, _, h => by simp at h
  | a :: fs, _, _, .nil, h => by simp at h
  | a :: fs, _, _, .cons r rs, h => by
    rw [List.zip_cons_cons, List.lookup_cons] at h ⊢
    cases e : f == a with
    | true => rw [e] at h; cases h; exact ⟨_, rfl, r⟩
    | false => rw [e] at h; exact wrels_look rs h
theorem reps_wrels {cA : Nat → Addr} {G : Hp} {m : Wd} : ∀ {xs : List V} {ds : List D}, Reps cA G xs ds → WRels cA G m xs (ds.map .d)
  | _, _, .nil => .nil
  | _, _, .cons r rs => .cons (.d r) (reps_wrels rs)
/-- what an instance is -/
@[simp] def insOf (μ : M) : W → Option (Nat × List Str × List W)
  | .d (.obj c fs ds) => some (c, fs, ds.map .d)
  | .r n => match μ[n]? with
    | some (.ins c fs ws) => some (c, fs, ws)
    | some (.frz (.obj c fs ds)) => some (c, fs, ds.map .d)
    | _ => none
  | _ => none
theorem insOf_ok {cA : Nat → Addr} {U G H : Hp} {m : Wd} {μ : M} {v : V} {w : W} {c : Nat} {fs : List Str} {ws : List W} (r : RelM cA U G m μ H) (q : WRel cA G m v w) (h : insOf μ w = some (c, fs, ws)) :
    ∃ p dx xs, v = .ref p ∧ H p = some (.ins (cA c) dx (fs.zip xs)) ∧ fs.length = xs.length ∧ WRels cA G m xs ws := by
  have ofRep : ∀ {v : V} {fs ds}, Rep cA G v (.obj c fs ds) → ∃ p dx xs, v = .ref p ∧ H p = some (.ins (cA c) dx (fs.zip xs)) ∧ fs.length = xs.length ∧ WRels cA G m xs (ds.map .d) := fun q => by
    obtain ⟨p, dx, xs, e1, e2, e3, e4⟩ := q.now r.gh
    exact ⟨p, dx, xs, e1, e2, e3, reps_wrels e4⟩
  cases q with
  | @d _ d q =>
    cases d with
    | obj c' fs' ds => simp [insOf] at h; obtain ⟨rfl, rfl, rfl⟩ := h; exact ofRep q
    | _ => simp [insOf] at h
  | @r n p as e =>
    obtain ⟨x, hc⟩ := lt_of_rel r e
    have k := r.cell n x _ hc e
    simp only [insOf, hc] at h
    cases x with
    | ins c' fs' ws' => cases h; obtain ⟨p', dx, xs, e1, e2, e3, e4⟩ := k; cases e1; exact ⟨p, dx, xs, rfl, e2, e3, e4⟩
    | frz d =>
      cases d with
      | obj c' fs' ds => cases h; obtain ⟨p', e1, e2⟩ := k; cases e1; exact ofRep e2
      | _ => cases h
    | _ => cases h
@[simp] def dFld (fl : Nat → List Str) (f : Str) (ta : DTE) (ρ : R) (μ : M) (Q : W → M → Prop) : Prop := ta ρ μ fun w μ1 => match insOf μ1 w with
  | some (c, fs, ws) => f ∈ fl c ∧ match lookW fs ws f with
    | some z => Q z μ1
    | none => False
  | none => False
theorem de_fld {fl : Nat → List Str} {f : Str} (cf : CF X.K b.cA fl) (ha : DE X b e1 ta) (hb : attributeBase e1 f X.env (eval e1 X.env) = eval e1 X.env := by rfl) : DE X b (.Attribute e1 f pos) (dFld fl f ta) := by
  obtain ⟨ta', pa, qa⟩ := ha.ex
  refine ⟨_, pe_fld pa hb, fun {G m ρ μ σ H Q K} o r t k => ?_⟩
  refine qa o r t fun v H1 G1 m1 w μ1 l1 o1 r1 t1 => ?_
  split at t1
  · rename_i c fs ws e
    obtain ⟨hf, t1⟩ := t1
    split at t1
    · rename_i z ez
      obtain ⟨p, dx, xs, rfl, e2, e3, e4⟩ := insOf_ok o1.rel r1 e
      obtain ⟨x, e5, e6⟩ := wrels_look e4 ez
      exact ⟨p, b.cA c, dx, _, x, rfl, e2, cf.cl c (List.ne_nil_of_mem hf), cf.no c f hf, e5, k x H1 G1 m1 z μ1 l1 o1 e6 t1⟩
    · exact t1.elim
  · exact t1.elim
end
end DD
namespace DD
open PySem L2

structure DEnds where
  nx : R → M → Prop
  rt : W → M → Prop
  bk : R → M → Prop := fun _ _ => False
  ct : R → M → Prop := fun _ _ => False
abbrev DTS := DEnds → R → M → Prop
abbrev DTG := W → R → M → (R → M → Prop) → Prop
structure EOk (b : Bs) (G : Hp) (m : Wd) (D : DEnds) (E : Ends) : Prop where
  nx : ∀ σ' H' G' m' ρ' μ', Le G m G' m' → WOk b G' m' μ' H' → RelR b.cA G' m' σ' ρ' → D.nx ρ' μ' → E.nx σ' H'
  rt : ∀ v H' G' m' w μ', Le G m G' m' → WOk b G' m' μ' H' → WRel b.cA G' m' v w → D.rt w μ' → E.rt v H'
  bk : ∀ σ' H' G' m' ρ' μ', Le G m G' m' → WOk b G' m' μ' H' → RelR b.cA G' m' σ' ρ' → D.bk ρ' μ' → E.bk σ' H'
  ct : ∀ σ' H' G' m' ρ' μ', Le G m G' m' → WOk b G' m' μ' H' → RelR b.cA G' m' σ' ρ' → D.ct ρ' μ' → E.ct σ' H'
theorem EOk.mono {b : Bs} {G G' : Hp} {m m' : Wd} {D : DEnds} {E : Ends} (l : Le G m G' m') (e : EOk b G m D E) : EOk b G' m' D E :=
  ⟨fun σ H G1 m1 ρ μ l1 => e.nx σ H G1 m1 ρ μ (l.trans l1), fun v H G1 m1 w μ l1 => e.rt v H G1 m1 w μ (l.trans l1), fun σ H G1 m1 ρ μ l1 => e.bk σ H G1 m1 ρ μ (l.trans l1), fun σ H G1 m1 ρ μ l1 => e.ct σ H G1 m1 ρ μ (l.trans l1)⟩
structure DS (X : Cx) (b : Bs) (st : Stmt) (t : DTS) : Prop where
  ex : ∃ ts : TS, PS X st ts ∧ ∀ {G : Hp} {m : Wd} {ρ : R} {μ : M} {σ : L2.St} {H : Hp} {D : DEnds} {E : Ends}, WOk b G m μ H → RelR b.cA G m σ ρ → t D ρ μ → EOk b G m D E → ts E σ H
structure DSs (X : Cx) (b : Bs) (sts : List Stmt) (t : DTS) : Prop where
  ex : ∃ ts : TS, PSs X sts ts ∧ ∀ {G : Hp} {m : Wd} {ρ : R} {μ : M} {σ : L2.St} {H : Hp} {D : DEnds} {E : Ends}, WOk b G m μ H → RelR b.cA G m σ ρ → t D ρ μ → EOk b G m D E → ts E σ H
structure DG (X : Cx) (b : Bs) (tg : Expr) (t : DTG) : Prop where
  ex : ∃ g : TG, PG X tg g ∧ ∀ {G : Hp} {m : Wd} {ρ : R} {μ : M} {σ : L2.St} {H : Hp} {v : V} {w : W} {Q : R → M → Prop} {K : L2.St → Hp → Prop}, WOk b G m μ H → RelR b.cA G m σ ρ → WRel b.cA G m v w → t w ρ μ Q →
    (∀ σ' H' G' m' ρ' μ', Le G m G' m' → WOk b G' m' μ' H' → RelR b.cA G' m' σ' ρ' → Q ρ' μ' → K σ' H') → g v σ H K
structure DGs (X : Cx) (b : Bs) (tgs : List Expr) (t : List D → R → M → (R → M → Prop) → Prop) : Prop where
  ex : ∃ g : TGs, PGs X tgs g ∧ ∀ {G : Hp} {m : Wd} {ρ : R} {μ : M} {σ : L2.St} {H : Hp} {vs : List V} {ds : List D} {Q : R → M → Prop} {K : L2.St → Hp → Prop}, WOk b G m μ H → RelR b.cA G m σ ρ → Reps b.cA G vs ds → t ds ρ μ Q →
    (∀ σ' H' G' m' ρ' μ', Le G m G' m' → WOk b G' m' μ' H' → RelR b.cA G' m' σ' ρ' → Q ρ' μ' → K σ' H') → g vs σ H K
section
variable {X : Cx} {b : Bs} {pos : Pos} {st : Stmt} {sts : List Stmt} {t u : DTS} {e : Expr} {te : DTE}
/-! ### blocks -/
@[simp] def dSkip (D : DEnds) (ρ : R) (μ : M) : Prop := D.nx ρ μ
@[simp] def dSeq (t u : DTS) (D : DEnds) (ρ : R) (μ : M) : Prop := t { D with nx := u D } ρ μ
theorem ds_nil : DSs X b [] dSkip := ⟨_, pss_nil, fun {G m ρ μ σ H D E} o r t k => k.nx σ H G m ρ μ (Le.refl G m) o r t⟩
theorem ds_cons (h1 : DS X b st t) (h2 : DSs X b sts u) : DSs X b (st :: sts) (dSeq t u) := by
  obtain ⟨t', p1, q1⟩ := h1.ex
  obtain ⟨u', p2, q2⟩ := h2.ex
  refine ⟨_, pss_cons p1 p2, fun {G m ρ μ σ H D E} o r tt k => ?_⟩
  exact q1 o r tt ⟨fun σ' H' G' m' ρ' μ' l o' r' t' => q2 o' r' t' (k.mono l), k.rt, k.bk, k.ct⟩
theorem ds_last (h1 : DS X b st t) : DSs X b [st] t := by
  obtain ⟨t', p1, q1⟩ := h1.ex
  exact ⟨_, pss_one p1, q1⟩
theorem ds_pass : DS X b (.Pass pos) dSkip := ⟨_, ps_pass, fun {G m ρ μ σ H D E} o r t k => k.nx σ H G m ρ μ (Le.refl G m) o r t⟩
@[simp] def dNo (_D : DEnds) (_ρ : R) (_μ : M) : Prop := False
theorem ds_no : DS X b st dNo := ⟨_, ps_never, fun _ _ h _ => h.elim⟩
theorem dss_no : DSs X b sts dNo := ⟨_, pss_never, fun _ _ h _ => h.elim⟩
/-! ### small statements -/
@[simp] def dDrop (te : DTE) (D : DEnds) (ρ : R) (μ : M) : Prop := te ρ μ fun _ μ1 => D.nx ρ μ1
theorem ds_expr (h : DE X b e te) (hs : swapsWith e none pos.line X.env = pure false := by rfl) : DS X b (.Expr e pos) (dDrop te) := by
  obtain ⟨t', p, q⟩ := h.ex
  exact ⟨_, ps_expr p hs, fun {G m ρ μ σ H D E} o r t k => q o r t fun v H1 G1 m1 w μ1 l1 o1 r1 t1 => k.nx σ H1 G1 m1 ρ μ1 l1 o1 (r.mono l1) t1⟩
@[simp] def dRet (te : DTE) (D : DEnds) (ρ : R) (μ : M) : Prop := te ρ μ fun w μ1 => D.rt w μ1
theorem ds_ret (h : DE X b e te) : DS X b (.Return (some e) pos) (dRet te) := by
  obtain ⟨t', p, q⟩ := h.ex
  exact ⟨_, ps_ret p, fun {G m ρ μ σ H D E} o r t k => q o r t fun v H1 G1 m1 w μ1 l1 o1 r1 t1 => k.rt v H1 G1 m1 w μ1 l1 o1 r1 t1⟩
@[simp] def dRetN (D : DEnds) (ρ : R) (μ : M) : Prop := D.rt (.d .non) μ
theorem ds_retN : DS X b (.Return none pos) dRetN := ⟨_, ps_retN, fun {G m ρ μ σ H D E} o r t k => k.rt .non H G m _ μ (Le.refl G m) o (.d .non) t⟩
@[simp] def dIfS (c : DTT) (t u : DTS) (D : DEnds) (ρ : R) (μ : M) : Prop := c ρ μ fun x μ1 => if x = true then t D ρ μ1 else u D ρ μ1
theorem ds_if {c : Expr} {sa sb : List Stmt} {tc : DTT} (hc : DT X b c tc) (ha : DSs X b sa t) (hb : DSs X b sb u) : DS X b (.If c sa sb pos) (dIfS tc t u) := by
  obtain ⟨c', pc, qc⟩ := hc.ex
  obtain ⟨t', p1, q1⟩ := ha.ex
  obtain ⟨u', p2, q2⟩ := hb.ex
  refine ⟨_, ps_if pc p1 p2, fun {G m ρ μ σ H D E} o r tt k => ?_⟩
  refine qc o r tt fun x H1 G1 m1 μ1 l1 o1 t1 => ?_
  cases x with
  | true => exact q1 o1 (r.mono l1) t1 (k.mono l1)
  | false => exact q2 o1 (r.mono l1) t1 (k.mono l1)
/-! ### targets -/
theorem RelR.set {cA : Nat → Addr} {G : Hp} {m : Wd} {σ : L2.St} {ρ : R} {v : V} {w : W} (r : RelR cA G m σ ρ) (q : WRel cA G m v w) (i : Nat) : RelR cA G m (σ.set i (some v)) (ρ.set i (some w)) := by
  refine ⟨by simp [r.1], fun j z h => ?_⟩
  by_cases e : i = j
  · subst e
    have hl : i < ρ.length := by
      have := (List.getElem?_eq_some_iff.mp h).1
      simpa using this
    rw [List.getElem?_set_self hl] at h
    cases h
    exact ⟨v, by rw [List.getElem?_set_self (by rw [r.1]; exact hl)], q⟩
  · rw [List.getElem?_set_ne e] at h
    obtain ⟨x, h1, h2⟩ := r.2 j z h
    exact ⟨x, by rw [List.getElem?_set_ne e]; exact h1, h2⟩
@[simp] def gN (i : Nat) (w : W) (ρ : R) (μ : M) (Q : R → M → Prop) : Prop := Q (ρ.set i (some w)) μ
theorem dg_name {i : Nat} {x : Str} (h : PG X (.Name x pos) (gName i)) : DG X b (.Name x pos) (gN i) :=
  ⟨_, h, fun {G m ρ μ σ H v w Q K} o r q t k => k _ H G m _ μ (Le.refl G m) o (r.set q i) t⟩
@[simp] def gsNil (ds : List D) (ρ : R) (μ : M) (Q : R → M → Prop) : Prop := match ds with
  | [] => Q ρ μ
  | _ => False
@[simp] def gsCons (t : DTG) (u : List D → R → M → (R → M → Prop) → Prop) (ds : List D) (ρ : R) (μ : M) (Q : R → M → Prop) : Prop := match ds with
  | d :: ds => t (.d d) ρ μ fun ρ1 μ1 => u ds ρ1 μ1 Q
  | _ => False
theorem dgs_nil : DGs X b [] gsNil := by
  refine ⟨_, pgs_nil, fun {G m ρ μ σ H vs ds Q K} o r q t k => ?_⟩
  cases q with
  | nil => exact ⟨rfl, k σ H G m ρ μ (Le.refl G m) o r t⟩
  | cons _ _ => exact t.elim
theorem dgs_cons {es : List Expr} {t : DTG} {u : List D → R → M → (R → M → Prop) → Prop} (h1 : DG X b e t) (h2 : DGs X b es u) (hs : (assignEach (e :: es) X.env).map (·.2) = assign e X.env :: (assignEach es X.env).map (·.2) := by rfl) : DGs X b (e :: es) (gsCons t u) := by
  obtain ⟨g, p, q⟩ := h1.ex
  obtain ⟨gs, ps, qs⟩ := h2.ex
  refine ⟨_, pgs_cons p ps hs, fun {G m ρ μ σ H vs ds Q K} o r rr t k => ?_⟩
  cases rr with
  | nil => exact t.elim
  | cons r1 rs => exact ⟨_, _, rfl, q o r (.d r1) t fun σ' H' G' m' ρ' μ' l o' r' t' => qs o' r' (rs.mono l.g) t' fun σ2 H2 G2 m2 ρ2 μ2 l2 o2 r2 t2 => k σ2 H2 G2 m2 ρ2 μ2 (l.trans l2) o2 r2 t2⟩
/-- (a, b, ..) = a tuple -/
@[simp] def gTp (n : Nat) (t : List D → R → M → (R → M → Prop) → Prop) (w : W) (ρ : R) (μ : M) (Q : R → M → Prop) : Prop := match w with
  | .d (.tup ds) => ds.length = n ∧ t ds ρ μ Q
  | _ => False
theorem dg_tup {es : List Expr} {j n : Nat} {t : List D → R → M → (R → M → Prop) → Prop} (hc : X.calm = true) (h : DGs X b es t) (hn : (assignEach es X.env).length = n := by rfl) (hst : (assignEach es X.env).findIdx? (·.1) = none := by rfl) : DG X b (.Tuple es j pos) (gTp n t) := by
  obtain ⟨gs, ps, qs⟩ := h.ex
  refine ⟨_, pg_tup hc ps hn hst, fun {G m ρ μ σ H v w Q K} o r q t k => ?_⟩
  unfold gTp at t
  split at t
  · rename_i ds
    cases q with
    | d q =>
      obtain ⟨p, xs, rfl, h1, r1⟩ := q.now o.rel.gh
      exact ⟨p, xs, rfl, SqT.of h1, by rw [r1.len]; exact t.1, qs o r r1 t.2 k⟩
  · exact t.elim
@[simp] def dAsg (te : DTE) (g : DTG) (D : DEnds) (ρ : R) (μ : M) : Prop := te ρ μ fun w μ1 => g w ρ μ1 D.nx
theorem ds_asg {tg : Expr} {g : DTG} (he : DE X b e te) (hg : DG X b tg g) (hs : swapsWithSole [tg] e pos.line X.env = pure false := by rfl) (hw : swappedStores [tg] e X.env = pure none := by rfl)
    (h1 : (assignEach [tg] X.env).map (·.2) = [assign tg X.env] := by rfl) : DS X b (.Assign [tg] e pos) (dAsg te g) := by
  obtain ⟨t', p, q⟩ := he.ex
  obtain ⟨g', pg, qg⟩ := hg.ex
  refine ⟨_, ps_asg p pg hs hw h1, fun {G m ρ μ σ H D E} o r t k => ?_⟩
  exact q o r t fun v H1 G1 m1 w μ1 l1 o1 r1 t1 => qg o1 (r.mono l1) r1 t1 fun σ' H' G' m' ρ' μ' l o' r' t' => k.nx σ' H' G' m' ρ' μ' (l1.trans l) o' r' t'
theorem ds_set {i : Nat} {x : Str} {pos' : Pos} (he : DE X b e te) (hp : ∀ {te : TE}, PE X e te → PS X (.Assign [.Name x pos'] e pos) (tAsg te (gName i))) : DS X b (.Assign [.Name x pos'] e pos) (dAsg te (gN i)) := by
  obtain ⟨t', p, q⟩ := he.ex
  refine ⟨_, hp p, fun {G m ρ μ σ H D E} o r t k => ?_⟩
  exact q o r t fun v H1 G1 m1 w μ1 l1 o1 r1 t1 => k.nx _ H1 G1 m1 _ μ1 l1 o1 ((r.mono l1).set r1 i) t1
/-- a, b = x, y -/
@[simp] def dPar (i j : Nat) (ta : DTA) (D : DEnds) (ρ : R) (μ : M) : Prop := ta ρ μ fun ws μ1 => match ws with
  | [w, z] => D.nx ((ρ.set i (some w)).set j (some z)) μ1
  | _ => False
theorem ds_par {i j : Nat} {es : List Expr} {ta : DTA} (ha : DA X b es ta) (hp : ∀ {ta : TA}, PA X es ta → PS X st (tPar i j ta)) : DS X b st (dPar i j ta) := by
  obtain ⟨t', p, q⟩ := ha.ex
  refine ⟨_, hp p, fun {G m ρ μ σ H D E} o r t k => ?_⟩
  refine q o r t fun vs H1 G1 m1 ws μ1 l1 o1 r1 t1 => ?_
  match ws, r1, t1 with
  | [w, z], .cons r1 (.cons r2 .nil), t1 => exact ⟨_, _, rfl, k.nx _ H1 G1 m1 _ μ1 l1 o1 (((r.mono l1).set r1 i).set r2 j) t1⟩
/-! ### while -/
def dWhile (c : DTT) (t : DTS) (D : DEnds) (ρ : R) (μ : M) : Prop := ∃ P : Nat → R → M → Prop, (∃ n, P n ρ μ) ∧ ∀ n ρ μ, P n ρ μ → c ρ μ fun x μ1 =>
  if x = true then t { D with nx := fun ρ' μ' => ∃ n', n' < n ∧ P n' ρ' μ', ct := fun ρ' μ' => ∃ n', n' < n ∧ P n' ρ' μ', bk := D.nx } ρ μ1 else D.nx ρ μ1
theorem ds_while {c : Expr} {tc : DTT} (hp : PassesOwn (model X.prog X.w) X.A X.env X.xe) (hc : DT X b c tc) (hb : DSs X b sts t) : DS X b (.While c sts [] pos) (dWhile tc t) := by
  obtain ⟨c', pc, qc⟩ := hc.ex
  obtain ⟨t', p1, q1⟩ := hb.ex
  refine ⟨_, ps_while hp pc p1, fun {G m ρ μ σ H D E} o r tt k => ?_⟩
  obtain ⟨P, ⟨n0, h0⟩, turn⟩ := tt
  refine ⟨fun n σ H => ∃ G' m' ρ' μ', Le G m G' m' ∧ WOk b G' m' μ' H ∧ RelR b.cA G' m' σ ρ' ∧ P n ρ' μ', ⟨n0, G, m, ρ, μ, Le.refl G m, o, r, h0⟩, ?_⟩
  rintro n σ1 H1 ⟨G1, m1, ρ1, μ1, l1, o1, r1, h1⟩
  refine qc o1 r1 (turn n ρ1 μ1 h1) fun x H2 G2 m2 μ2 l2 o2 t2 => ?_
  cases x with
  | true =>
    rw [if_pos rfl] at t2 ⊢
    refine ⟨fun σ' H' => ∃ n', n' < n ∧ ∃ G' m' ρ' μ', Le G m G' m' ∧ WOk b G' m' μ' H' ∧ RelR b.cA G' m' σ' ρ' ∧ P n' ρ' μ', fun _ _ z => z, ?_⟩
    have again : ∀ σ' H' G' m' ρ' μ', Le G2 m2 G' m' → WOk b G' m' μ' H' → RelR b.cA G' m' σ' ρ' → (∃ n', n' < n ∧ P n' ρ' μ') → ∃ n', n' < n ∧ ∃ G' m' ρ' μ', Le G m G' m' ∧ WOk b G' m' μ' H' ∧ RelR b.cA G' m' σ' ρ' ∧ P n' ρ' μ' :=
      fun σ' H' G' m' ρ' μ' l o' r' ⟨n', hn, hP⟩ => ⟨n', hn, G', m', ρ', μ', l1.trans (l2.trans l), o', r', hP⟩
    exact q1 o2 (r1.mono l2) t2 ⟨again, fun v H' G' m' w μ' l => k.rt v H' G' m' w μ' (l1.trans (l2.trans l)), fun σ' H' G' m' ρ' μ' l => k.nx σ' H' G' m' ρ' μ' (l1.trans (l2.trans l)), again⟩
  | false =>
    rw [if_neg Bool.false_ne_true] at t2 ⊢
    exact k.nx σ1 H2 G2 m2 ρ1 μ2 (l1.trans l2) o2 (r1.mono l2) t2
/-! ### what is walked -/
structure Src where
  items : List W
  ok : M → Prop
/-- the walked thing stands for those items -/
structure SrcOk (b : Bs) (G : Hp) (m : Wd) (s : Src) (J : It) : Prop where
  go : ∀ {G' m' μ' H' i}, Le G m G' m' → WOk b G' m' μ' H' → s.ok μ' → i < s.items.length → J.go i H'
  yld : ∀ {G' m' μ' H' i x H2}, Le G m G' m' → WOk b G' m' μ' H' → s.ok μ' → J.yld i H' x H2 → i < s.items.length → ∃ G2 w, Le G' m' G2 m' ∧ WOk b G2 m' μ' H2 ∧ s.items[i]? = some w ∧ WRel b.cA G2 m' x w
  stop : ∀ {G' m' μ' H'}, Le G m G' m' → WOk b G' m' μ' H' → s.ok μ' → J.stop s.items.length H'
abbrev DTI := R → M → (Src → M → Prop) → Prop
structure DI (X : Cx) (b : Bs) (tg e : Expr) (t : DTI) : Prop where
  ex : ∃ wi : TI, PI X tg e wi ∧ ∀ {G : Hp} {m : Wd} {ρ : R} {μ : M} {σ : L2.St} {H : Hp} {Q : Src → M → Prop} {K : It → Hp → Prop}, WOk b G m μ H → RelR b.cA G m σ ρ → t ρ μ Q →
    (∀ J H' G' m' s μ', Le G m G' m' → WOk b G' m' μ' H' → SrcOk b G' m' s J → Q s μ' → K J H') → wi σ H K
/-- for: P by the turn -/
def dFor (ti : DTI) (g : DTG) (t : DTS) (D : DEnds) (ρ : R) (μ : M) : Prop := ti ρ μ fun s μ1 => ∃ P : Nat → R → M → Prop, P 0 ρ μ1 ∧
  (∀ i ρ' μ', i ≤ s.items.length → P i ρ' μ' → s.ok μ') ∧
  (∀ i w ρ' μ', s.items[i]? = some w → P i ρ' μ' → g w ρ' μ' fun ρ2 μ2 => t { D with nx := P (i + 1), ct := P (i + 1), bk := D.nx } ρ2 μ2) ∧
  (∀ ρ' μ', P s.items.length ρ' μ' → D.nx ρ' μ')
theorem ds_for {iter tg : Expr} {ti : DTI} {g : DTG} (hp : PassesOwn (model X.prog X.w) X.A X.env X.xe) (hc : X.calm = true) (hi : DI X b tg iter ti) (hg : DG X b tg g) (hb : DSs X b sts t)
    (hs : ∀ x, foldedSetIterable iter X.env x = pure x := by intro _; rfl) : DS X b (.For tg iter sts [] pos) (dFor ti g t) := by
  obtain ⟨wi, p1, q1⟩ := hi.ex
  obtain ⟨g', p2, q2⟩ := hg.ex
  obtain ⟨t', p3, q3⟩ := hb.ex
  refine ⟨_, ps_for hp hc p1 p2 p3 hs, fun {G m ρ μ σ H D E} o r tt k => ?_⟩
  refine q1 o r tt fun J H1 G1 m1 s μ1 l1 o1 so ⟨P, h0, hok, hstep, hend⟩ => ?_
  refine ⟨fun i n σ H => n = s.items.length - i ∧ i ≤ s.items.length ∧ ∃ G' m' ρ' μ', Le G1 m1 G' m' ∧ WOk b G' m' μ' H ∧ RelR b.cA G' m' σ ρ' ∧ P i ρ' μ', ⟨s.items.length, by simp, Nat.zero_le _, G1, m1, ρ, μ1, Le.refl _ _, o1, r.mono l1, h0⟩, ?_⟩
  rintro i n σ2 H2 ⟨rfl, hi', G2, m2, ρ2, μ2, l2, o2, r2, hP⟩
  have ok2 := hok i ρ2 μ2 hi' hP
  by_cases hlt : i < s.items.length
  · refine .inr ⟨so.go l2 o2 ok2 hlt, fun σ' H' => ∃ G' m' ρ' μ', Le G1 m1 G' m' ∧ WOk b G' m' μ' H' ∧ RelR b.cA G' m' σ' ρ' ∧ P (i + 1) ρ' μ', fun σ' H' z => ⟨_, by omega, rfl, hlt, z⟩, fun x H3 y => ?_⟩
    obtain ⟨G3, d, l3, o3, e3, r3⟩ := so.yld l2 o2 ok2 y hlt
    refine q2 o3 (r2.mono l3) r3 (hstep i d ρ2 μ2 e3 hP) fun σ4 H4 G4 m4 ρ4 μ4 l4 o4 r4 t4 => ?_
    have lo : Le G1 m1 G4 m4 := l2.trans (l3.trans l4)
    exact q3 o4 r4 t4 ⟨fun σ' H' G' m' ρ' μ' l o' r' z => ⟨G', m', ρ', μ', lo.trans l, o', r', z⟩, fun v H' G' m' w μ' l => k.rt v H' G' m' w μ' (l1.trans (lo.trans l)), fun σ' H' G' m' ρ' μ' l => k.nx σ' H' G' m' ρ' μ' (l1.trans (lo.trans l)), fun σ' H' G' m' ρ' μ' l o' r' z => ⟨G', m', ρ', μ', lo.trans l, o', r', z⟩⟩
  · have e : i = s.items.length := by omega
    subst e
    exact .inl ⟨so.stop l2 o2 ok2, k.nx σ2 H2 G2 m2 ρ2 μ2 (l1.trans l2) o2 r2 (hend ρ2 μ2 hP)⟩
/-! ### lists, tuples, ranges walked -/
theorem PI.or {tg iter : Expr} {w1 w2 : TI} (h : PI X tg iter w1) (h' : PI X tg iter w2) : PI X tg iter (fun σ H R => w1 σ H R ∨ w2 σ H R) :=
  ⟨fun pins s σ H R I hw => hw.elim (h.run pins s σ H R I) (h'.run pins s σ H R I)⟩
@[simp] def iSeq (te : DTE) (ρ : R) (μ : M) (Q : Src → M → Prop) : Prop := te ρ μ fun w μ1 => match w with
  | .d (.tup ds) => Q ⟨ds.map .d, fun _ => True⟩ μ1
  | .d (.lst ds) => Q ⟨ds.map .d, fun _ => True⟩ μ1
  | .r n => match μ1[n]? with
    | some (.lst ds) => Q ⟨ds.map .d, fun μ' => μ'[n]? = some (.lst ds)⟩ μ1
    | some (.lstW ws) => Q ⟨ws, fun μ' => μ'[n]? = some (.lstW ws)⟩ μ1
    | some (.frz (.lst ds)) => Q ⟨ds.map .d, fun μ' => μ'[n]? = some (.frz (.lst ds))⟩ μ1
    | _ => False
  | _ => False
theorem Reps.wrels {cA : Nat → Addr} {G : Hp} {m : Wd} : ∀ {xs : List V} {ds : List D}, Reps cA G xs ds → WRels cA G m xs (ds.map .d)
  | _, _, .nil => .nil
  | _, _, .cons r rs => .cons (.d r) rs.wrels
theorem WRels.get {cA : Nat → Addr} {G : Hp} {m : Wd} : ∀ {vs : List V} {ws : List W} {i : Nat} {v : V}, WRels cA G m vs ws → vs[i]? = some v → ∃ w, ws[i]? = some w ∧ WRel cA G m v w
  | _, _, i, _, .nil, h => by simp at h
  | _, _, 0, _, .cons r _, h => by simp at h; subst h; exact ⟨_, rfl, r⟩
  | _, _, i + 1, _, .cons _ rs, h => by simpa using rs.get (i := i) (by simpa using h)
theorem src_list {K : PySem.W.Frag} {G : Hp} {m : Wd} {v : V} {ds : List W} {ok : M → Prop} {p : Addr}
    (key : ∀ {G' m' μ' H'}, Le G m G' m' → WOk b G' m' μ' H' → ok μ' → ∃ xs, H' p = some (.lst xs) ∧ WRels b.cA G' m' xs ds) : SrcOk b G m ⟨ds, ok⟩ (Itl K p) := by
  refine ⟨fun {G' m' μ' H' i} l o k h => ?_, fun {G' m' μ' H' i x H2} l o k y h => ?_, fun {G' m' μ' H'} l o k => ?_⟩
  · obtain ⟨xs, e, r⟩ := key l o k
    have hl := r.len
    exact ⟨xs, xs[i]'(by rw [hl]; exact h), SqL.of e, List.getElem?_eq_getElem _⟩
  · obtain ⟨xs, e, r⟩ := key l o k
    obtain ⟨rfl, y⟩ := y
    obtain ⟨d, h1, h2⟩ := r.get (y xs (SqL.of e))
    exact ⟨G', d, Le.refl _ _, o, h1, h2⟩
  · obtain ⟨xs, e, r⟩ := key l o k
    exact ⟨xs, SqL.of e, by rw [r.len]; exact Nat.le_refl _⟩
theorem src_tup {K : PySem.W.Frag} {G : Hp} {m : Wd} {v : V} {ds : List W} {ok : M → Prop} {p : Addr}
    (key : ∀ {G' m' μ' H'}, Le G m G' m' → WOk b G' m' μ' H' → ok μ' → ∃ xs, H' p = some (.tup xs) ∧ WRels b.cA G' m' xs ds) : SrcOk b G m ⟨ds, ok⟩ (Itt K p) := by
  refine ⟨fun {G' m' μ' H' i} l o k h => ?_, fun {G' m' μ' H' i x H2} l o k y h => ?_, fun {G' m' μ' H'} l o k => ?_⟩
  · obtain ⟨xs, e, r⟩ := key l o k
    have hl := r.len
    exact ⟨xs, xs[i]'(by rw [hl]; exact h), SqT.of e, List.getElem?_eq_getElem _⟩
  · obtain ⟨xs, e, r⟩ := key l o k
    obtain ⟨rfl, y⟩ := y
    obtain ⟨d, h1, h2⟩ := r.get (y xs (SqT.of e))
    exact ⟨G', d, Le.refl _ _, o, h1, h2⟩
  · obtain ⟨xs, e, r⟩ := key l o k
    exact ⟨xs, SqT.of e, by rw [r.len]; exact Nat.le_refl _⟩
theorem now_lst {cA : Nat → Addr} {G H : Hp} {p : Addr} {ds : List D} (h : Now cA G H (.ref p) (.lst ds)) : ∃ xs, H p = some (.lst xs) ∧ Reps cA G xs ds := by
  obtain ⟨q, xs, e, h1, h2⟩ := h
  cases e
  exact ⟨xs, h1, h2⟩
theorem now_tup {cA : Nat → Addr} {G H : Hp} {p : Addr} {ds : List D} (h : Now cA G H (.ref p) (.tup ds)) : ∃ xs, H p = some (.tup xs) ∧ Reps cA G xs ds := by
  obtain ⟨q, xs, e, h1, h2⟩ := h
  cases e
  exact ⟨xs, h1, h2⟩
/-- a list or a tuple walked, whichever it is -/
theorem pi_seq {tg l : Expr} {tl : TE} (hl : PE X l tl) : PI X tg l (fun σ H R => tl σ H fun x H1 => ∃ a, x = .ref a ∧ (((∃ xs, SqL X.K H1 a xs) ∧ R (Itl X.K a) H1) ∨ ((∃ xs, SqT X.K H1 a xs) ∧ R (Itt X.K a) H1))) := by
  constructor
  intro pins s σ H R I h
  refine thn (hl.run pins s σ H _ I h) ?_
  rintro v s1 ⟨x, H1, I1, r1, a, rfl, q⟩
  cases r1
  have fresh : ∀ b ∈ [s1.heap.objs.size], FpOk X pins H1 b := fun b hb => by
    rw [List.mem_singleton.mp hb]
    exact I1.fpOk (Nat.le_refl _) (I1.hok.fresh (Nat.le_refl _))
  have grow : ∀ (o : Obj) (tk : Nat), Inv X pins σ H1 { s1 with heap := s1.heap.push o, toks := tk } := fun o tk => I1.kept fun _ _ e => Heap.get?_push_of_some _ e
  rcases q with ⟨⟨xs, hq⟩, q⟩ | ⟨⟨xs, hq⟩, q⟩
  · obtain ⟨its, rv, pl, hz⟩ := I1.list hq
    exact wpAny_pyIter_list pl.isList ⟨_, [s1.heap.objs.size], _, _, H1, rfl, grow _ _, turn_list a _, ⟨_, Heap.get?_push_size _ rfl, rfl, rfl⟩, fresh, q⟩
  · obtain ⟨its, rv, pl, hz⟩ := I1.tuple hq
    exact wpAny_pyIter_tuple (show s1.heap.IsTuple a its.toArray from pl) ⟨_, [s1.heap.objs.size], _, _, H1, rfl, grow _ _, turn_tuple a _, ⟨_, Heap.get?_push_size _ rfl, rfl, rfl⟩, fresh, q⟩
theorem di_seq {tg : Expr} (h : DE X b e te) : DI X b tg e (iSeq te) := by
  obtain ⟨t', p, q⟩ := h.ex
  refine ⟨_, pi_seq p, fun {G m ρ μ σ H Q K} o r t k => ?_⟩
  refine q o r t fun v H1 G1 m1 w μ1 l1 o1 r1 t1 => ?_
  cases w with
  | d d =>
    cases r1 with
    | d r1 =>
    cases d with
    | lst ds =>
      have n1 := r1.now o1.rel.gh
      obtain ⟨a, xs, rfl, h1, h2⟩ := n1
      refine ⟨a, rfl, .inl ⟨⟨xs, SqL.of h1⟩, k _ H1 G1 m1 _ μ1 l1 o1 (src_list (v := .ref a) fun {G' m' μ' H'} l o' _ => (let ⟨ys, z1, z2⟩ := now_lst ((r1.mono l.g).now o'.rel.gh); ⟨ys, z1, z2.wrels⟩)) t1⟩⟩
    | tup ds =>
      have n1 := r1.now o1.rel.gh
      obtain ⟨a, xs, rfl, h1, h2⟩ := n1
      refine ⟨a, rfl, .inr ⟨⟨xs, SqT.of h1⟩, k _ H1 G1 m1 _ μ1 l1 o1 (src_tup (v := .ref a) fun {G' m' μ' H'} l o' _ => (let ⟨ys, z1, z2⟩ := now_tup ((r1.mono l.g).now o'.rel.gh); ⟨ys, z1, z2.wrels⟩)) t1⟩⟩
    | _ => exact t1.elim
  | r n =>
    cases r1 with
    | @r _ a as em =>
    dsimp only at t1
    split at t1
    · rename_i ds e
      obtain ⟨a', xs, e1, e2, e3⟩ := o1.rel.cell n _ _ e em
      cases e1
      refine ⟨a, rfl, .inl ⟨⟨xs, SqL.of e2⟩, k _ H1 G1 m1 _ μ1 l1 o1 (src_list (v := .ref a) fun {G' m' μ' H'} l o' e' => ?_) t1⟩⟩
      obtain ⟨a2, ys, f1, f2, f3⟩ := o'.rel.cell n _ _ e' (l.m _ _ em)
      cases f1
      exact ⟨ys, f2, f3.wrels⟩
    · rename_i ws e
      obtain ⟨a', xs, e1, e2, e3⟩ := o1.rel.cell n _ _ e em
      cases e1
      refine ⟨a, rfl, .inl ⟨⟨xs, SqL.of e2⟩, k _ H1 G1 m1 _ μ1 l1 o1 (src_list (v := .ref a) fun {G' m' μ' H'} l o' e' => ?_) t1⟩⟩
      obtain ⟨a2, ys, f1, f2, f3⟩ := o'.rel.cell n _ _ e' (l.m _ _ em)
      cases f1
      exact ⟨ys, f2, f3⟩
    · rename_i ds e
      obtain ⟨a', e1, e2⟩ := o1.rel.cell n _ _ e em
      cases e1
      obtain ⟨xs, h1, h2⟩ := now_lst (e2.now o1.rel.gh)
      refine ⟨a, rfl, .inl ⟨⟨xs, SqL.of h1⟩, k _ H1 G1 m1 _ μ1 l1 o1 (src_list (v := .ref a) fun {G' m' μ' H'} l o' e' => ?_) t1⟩⟩
      obtain ⟨a2, f1, f2⟩ := o'.rel.cell n _ _ e' (l.m _ _ em)
      cases f1
      obtain ⟨ys, z1, z2⟩ := now_lst (f2.now o'.rel.gh)
      exact ⟨ys, z1, z2.wrels⟩
    · exact t1.elim
/-- range(n), range(a, b) -/
def rng (lo : Int) (n : Nat) : List W := (List.range n).map fun (i : Nat) => W.d (.int (lo + (i : Int)))
theorem src_rng {G : Hp} {m : Wd} {lo : Int} {n : Nat} : SrcOk b G m ⟨rng lo n, fun _ => True⟩ (Itr lo n) := by
  have hl : (rng lo n).length = n := by simp [rng]
  refine ⟨fun {G' m' μ' H' i} l o k h => by rw [hl] at h; exact h, fun {G' m' μ' H' i x H2} l o k y h => ?_, fun {G' m' μ' H'} l o k => by rw [hl]; exact Nat.le_refl _⟩
  obtain ⟨rfl, rfl⟩ := y
  rw [hl] at h
  exact ⟨G', .d (.int (lo + i)), Le.refl _ _, o, by simp [rng, h], .d (.int _)⟩
@[simp] def iR1 (ta : DTA) (ρ : R) (μ : M) (Q : Src → M → Prop) : Prop := ta ρ μ fun ws μ1 => match ws with
  | [.d (.int j)] => (-(2 ^ 62) ≤ j ∧ j < 2 ^ 62) ∧ Q ⟨rng 0 j.toNat, fun _ => True⟩ μ1
  | _ => False
@[simp] def iR2 (ta : DTA) (ρ : R) (μ : M) (Q : Src → M → Prop) : Prop := ta ρ μ fun ws μ1 => match ws with
  | [.d (.int i), .d (.int j)] => (-(2 ^ 62) ≤ i ∧ i < 2 ^ 62 ∧ -(2 ^ 62) ≤ j ∧ j < 2 ^ 62) ∧ Q ⟨rng i (j - i).toNat, fun _ => True⟩ μ1
  | _ => False
theorem di_range1 {tg a : Expr} {ta : DTA} {p : Pos} (hg : Gl X "range") (hm : X.mg "range" = none) (ha : DA X b [a] ta) (hs : starEach [a] X.env = [(false, eval a X.env)] := by rfl) : DI X b tg (.Call (.Name "range" p) [a] [] pos) (iR1 ta) := by
  obtain ⟨t', p1, q⟩ := ha.ex
  refine ⟨_, pi_range1 hg hm p1 hs, fun {G m ρ μ σ H Q K} o r t k => ?_⟩
  refine q o r t fun vs H1 G1 m1 ws μ1 l1 o1 r1 t1 => ?_
  match ws, r1, t1 with
  | [.d (.int j)], .cons r1 .nil, t1 =>
    cases isInt r1
    exact ⟨j, rfl, t1.1.1, t1.1.2, k _ H1 G1 m1 _ μ1 l1 o1 src_rng t1.2⟩
theorem di_range2 {tg a c : Expr} {ta : DTA} {p : Pos} (hg : Gl X "range") (hm : X.mg "range" = none) (ha : DA X b [a, c] ta) (hs : starEach [a, c] X.env = [(false, eval a X.env), (false, eval c X.env)] := by rfl) (hs2 : starEach [c] X.env = [(false, eval c X.env)] := by rfl) :
    DI X b tg (.Call (.Name "range" p) [a, c] [] pos) (iR2 ta) := by
  obtain ⟨t', p1, q⟩ := ha.ex
  refine ⟨_, pi_range2 hg hm p1 hs hs2, fun {G m ρ μ σ H Q K} o r t k => ?_⟩
  refine q o r t fun vs H1 G1 m1 ws μ1 l1 o1 r1 t1 => ?_
  match ws, r1, t1 with
  | [.d (.int i), .d (.int j)], .cons r1 (.cons r2 .nil), t1 =>
    cases isInt r1
    cases isInt r2
    exact ⟨i, j, rfl, t1.1, k _ H1 G1 m1 _ μ1 l1 o1 src_rng t1.2⟩
end
end DD
namespace DD
open PySem L2

/-! ### contracts -/
inductive Res where
  | ret (w : W) | exc (e : Exc)
/-- a def's contract over data: its arguments, the cells that they reach, what is wanted of the end -/
abbrev FS := List W → M → (Res → M → Prop) → Prop
def ExcAt (cA : Nat → Addr) (G H : Hp) (cls : Value) (d : Option Addr) (e : Exc) : Prop :=
  cls = .ref (cA e.c) ∧ ((e.fs = [] ∧ e.ds = [] ∧ d = none) ∨ ∃ dd xs, d = some dd ∧ H dd = some (.xd (e.fs.zip xs)) ∧ e.fs.length = xs.length ∧ Reps cA G xs e.ds)
def EndD (cA : Nat → Addr) (G : Hp) (m : Wd) (H : Hp) (Q : VK) (E : XK) : Res → Prop
  | .ret w => ∀ v, WRel cA G m v w → Q v H
  | .exc e => ∀ cls d, ExcAt cA G H cls d e → E cls d H
def spD (cA : Nat → Addr) (S : FS) : Sp := fun vs H Q E => ∃ U G m ws μ Post, RelM cA U G m μ H ∧ WRels cA G m vs ws ∧ S ws μ Post ∧
  ∀ r μ' G' m' H', Post r μ' → Le G m G' m' → RelM cA U G' m' μ' H' → EndD cA G' m' H' Q E r
/-- what the body lets out -/
def EX (b : Bs) : XK := fun cls d H => ∃ e G m μ, Le b.G0 b.m0 G m ∧ RelM b.cA b.U G m μ H ∧ ExcAt b.cA G H cls d e ∧ b.xc e μ
abbrev XOk (X : Cx) (b : Bs) : Prop := Passes (L2.CX X.prog X.w) X (EX b)

def closedC (k : Nat) : Cell → Bool
  | .ins _ _ ws => ws.all fun w => match w with
    | .r n => decide (n < k)
    | _ => true
  | .lstW ws => ws.all fun w => match w with
    | .r n => decide (n < k)
    | _ => true
  | _ => true
def closedB (k : Nat) (μ : M) : Bool := μ.all (closedC k)
inductive Mode where
  | d | i | l
@[simp] def rtOf (md : Mode) (k : Nat) (P : Res → M → Prop) (w : W) (μ : M) : Prop := match md with
  | .d => match esc μ w with
    | some (d, μ1) => closedB k (μ1.take k) = true ∧ P (.ret (.d d)) (μ1.take k)
    | none => False
  | .i => P (.ret w) μ
  | .l => match w with
    | .r n => match μ[n]? with
      | some (.lst ds) => k ≤ n ∧ closedB k (μ.take k) = true ∧ P (.ret (.r k)) (μ.take k ++ [.lst ds])
      | _ => False
    | _ => False
@[simp] def xcOf (k : Nat) (P : Res → M → Prop) (e : Exc) (μ : M) : Prop := closedB k (μ.take k) = true ∧ P (.exc e) (μ.take k)
@[simp] def endsOf (md : Mode) (k : Nat) (P : Res → M → Prop) : DEnds where
  nx := fun _ μ => rtOf md k P (.d .non) μ
  rt := rtOf md k P
section
variable {cA : Nat → Addr} {U G G' H : Hp} {m m' : Wd} {μ : M}
theorem wrels_take {k : Nat} : ∀ {xs : List V} {ws : List W}, WRels cA G m xs ws → (ws.all fun w => match w with
    | .r n => decide (n < k)
    | _ => true) = true → WRels cA G (m.take k) xs ws
  | _, _, .nil, _ => .nil
  | _, w :: ws, .cons r rs, h => by
    simp only [List.all_cons, Bool.and_eq_true] at h
    refine .cons ?_ (wrels_take rs h.2)
    cases r with
    | d r => exact .d r
    | r e => exact .r (by rw [List.getElem?_take_of_lt (by simpa using h.1)]; exact e)
theorem cell_take {k : Nat} {c : Cell} {as : List Addr} (h : CellOk cA G m H as c) (hc : closedC k c = true) : CellOk cA G (m.take k) H as c := by
  cases c with
  | ins c fs ws => obtain ⟨p, dx, xs, e1, e2, e3, e4⟩ := h; exact ⟨p, dx, xs, e1, e2, e3, wrels_take e4 hc⟩
  | lstW ws => obtain ⟨p, xs, e1, e2, e4⟩ := h; exact ⟨p, xs, e1, e2, wrels_take e4 hc⟩
  | _ => exact h
theorem closed_at {k i : Nat} {c : Cell} (h : closedB k (μ.take k) = true) (hi : i < k) (e : μ[i]? = some c) : closedC k c = true := by
  refine List.all_eq_true.mp h c ?_
  exact List.mem_of_getElem? (i := i) (by rw [List.getElem?_take_of_lt hi]; exact e)
theorem rel_take {k : Nat} (r : RelM cA U G m μ H) (h : closedB k (μ.take k) = true) : RelM cA U G (m.take k) (μ.take k) H := by
  have lt : ∀ {α : Type} {l : List α} {i : Nat} {a : α}, (l.take k)[i]? = some a → i < k ∧ l[i]? = some a := fun {α l i a} e => by
    have hi : i < k := by
      have := (List.getElem?_eq_some_iff.mp e).1
      rw [List.length_take] at this
      omega
    rw [List.getElem?_take_of_lt hi] at e
    exact ⟨hi, e⟩
  refine ⟨r.uh, r.gh, r.ug, by simp [r.len], fun i c as h1 h2 => ?_, fun i c as h1 h2 => r.nd i c as (lt h1).2 (lt h2).2, fun i j c c' as as' a h1 h2 h3 h4 => r.apart i j c c' as as' a (lt h1).2 (lt h2).2 (lt h3).2 (lt h4).2, fun i c as a h1 h2 => r.free i c as a (lt h1).2 (lt h2).2⟩
  exact cell_take (r.cell i c as (lt h1).2 (lt h2).2) (closed_at h (lt h1).1 (lt h1).2)
/-- the first k cells and one more list -/
theorem rel_pick {k n : Nat} {ds : List D} {as : List Addr} (r : RelM cA U G m μ H) (h : closedB k (μ.take k) = true) (hn : k ≤ n) (e : μ[n]? = some (.lst ds)) (ea : m[n]? = some as) : RelM cA U G (m.take k ++ [as]) (μ.take k ++ [.lst ds]) H := by
  have hnl : n < μ.length := (List.getElem?_eq_some_iff.mp e).1
  have hk : (μ.take k).length = k := by rw [List.length_take]; omega
  have hk' : (m.take k).length = k := by rw [List.length_take, r.len]; omega
  have at_ : ∀ {i : Nat} {c : Cell} {bs : List Addr}, (μ.take k ++ [.lst ds])[i]? = some c → (m.take k ++ [as])[i]? = some bs → ∃ j, μ[j]? = some c ∧ m[j]? = some bs ∧ (i < k → j = i) ∧ (k ≤ i → i = k ∧ j = n) := fun {i c bs} h1 h2 => by
    by_cases hi : i < k
    · rw [List.getElem?_append_left (by omega), List.getElem?_take_of_lt hi] at h1 h2
      exact ⟨i, h1, h2, fun _ => rfl, fun _ => by omega⟩
    · rw [List.getElem?_append_right (by omega)] at h1 h2
      rw [hk] at h1
      rw [hk'] at h2
      have : i = k := by
        have := (List.getElem?_eq_some_iff.mp h1).1
        simp at this
        omega
      subst this
      simp at h1 h2
      subst h1 h2
      exact ⟨n, e, ea, fun _ => by omega, fun _ => ⟨rfl, rfl⟩⟩
  refine ⟨r.uh, r.gh, r.ug, by simp [r.len], fun i c bs h1 h2 => ?_, fun i c bs h1 h2 h3 => ?_, fun i j c c' bs bs' a h1 h2 h3 h4 h5 h6 h7 h8 => ?_, fun i c bs a h1 h2 h3 h4 => ?_⟩
  · obtain ⟨j, e1, e2, e3, e4⟩ := at_ h1 h2
    have q := r.cell j c bs e1 e2
    by_cases hi : i < k
    · have := e3 hi
      subst this
      have q2 := cell_take q (closed_at h hi e1)
      refine q2.mono ⟨Sub.refl G, fun x y z => ?_⟩ fun _ _ _ _ z => z
      rw [List.getElem?_append_left (List.getElem?_eq_some_iff.mp z).1]
      exact z
    · obtain ⟨_, rfl⟩ := e4 (by omega)
      rw [e] at e1
      cases e1
      exact q
  · obtain ⟨j, e1, e2, _⟩ := at_ h1 h2
    exact r.nd j c bs e1 e2 h3
  · obtain ⟨i', e1, e2, e3, e4⟩ := at_ h1 h3
    obtain ⟨j', f1, f2, f3, f4⟩ := at_ h2 h4
    have q := r.apart i' j' c c' bs bs' a e1 f1 e2 f2 h5 h6 h7 h8
    by_cases hi : i < k
    · have := e3 hi
      by_cases hj : j < k
      · have := f3 hj; omega
      · have := f4 (by omega); omega
    · have := e4 (by omega)
      by_cases hj : j < k
      · have := f3 hj; omega
      · have := f4 (by omega); omega
  · obtain ⟨j, e1, e2, _⟩ := at_ h1 h2
    exact r.free j c bs a e1 e2 h3 h4
theorem le_take {m0 : Wd} {k : Nat} (l : Le G m0 G' m) (hk : m0.length = k) : Le G m0 G' (m.take k) := ⟨l.g, fun i as e => by
  have := (List.getElem?_eq_some_iff.mp e).1
  rw [List.getElem?_take_of_lt (by omega)]
  exact l.m i as e⟩
/-- an end as the contract wants it -/
theorem rt_end {md : Mode} {G0 : Hp} {m0 : Wd} {P : Res → M → Prop} {Q : VK} {E : XK} {v : V} {w : W} (l : Le G0 m0 G m) (r : RelM cA U G m μ H) (q : WRel cA G m v w) (t : rtOf md m0.length P w μ)
    (k : ∀ r μ' G' m' H', P r μ' → Le G0 m0 G' m' → RelM cA U G' m' μ' H' → EndD cA G' m' H' Q E r) : Q v H := by
  cases md with
  | d =>
    simp only [rtOf] at t
    split at t
    · rename_i d μ1 e
      obtain ⟨G1, l1, r1, p1⟩ := esc_ok r q e
      exact k _ _ G1 _ H t.2 (le_take (l.trans l1) rfl) (rel_take r1 t.1) v (.d p1)
    · exact t.elim
  | i => exact k _ _ G m H t l r v q
  | l =>
    simp only [rtOf] at t
    split at t
    · rename_i n
      split at t
      · rename_i ds e
        cases q with
        | @r _ p as ea =>
          refine k _ _ G _ H t.2.2 ?_ (rel_pick r t.2.1 t.1 e ea) _ (.r (p := p) (as := as) ?_)
          · exact ⟨l.g, fun i bs z => by
              have hi := (List.getElem?_eq_some_iff.mp z).1
              have hn := (List.getElem?_eq_some_iff.mp ea).1
              rw [List.getElem?_append_left (by rw [List.length_take]; omega), List.getElem?_take_of_lt hi]
              exact l.m i bs z⟩
          · have hn := (List.getElem?_eq_some_iff.mp ea).1
            have : (m.take m0.length).length = m0.length := by rw [List.length_take]; omega
            rw [List.getElem?_append_right (by omega), this]
            simp
      · exact t.elim
    · exact t.elim
end

/-! ### a def keeps its contract -/
section
variable {P : Program} {w : World} {K : PySem.W.Frag} {mg : Str → Option Value} {base : Heap}
theorem wrels_start {cA : Nat → Addr} {G : Hp} {m : Wd} {N : List Str} : ∀ {vs : List V} {ws : List W}, WRels cA G m vs ws → RelR cA G m (L2.start N vs) (ws.map some ++ List.replicate (N.length - ws.length) none) := fun {vs ws} r => by
  refine ⟨by simp [L2.start, r.len], fun i z h => ?_⟩
  by_cases hi : i < ws.length
  · rw [List.getElem?_append_left (by simpa using hi), List.getElem?_map] at h
    obtain ⟨y, e1, e2⟩ := Option.map_eq_some_iff.mp h
    cases e2
    obtain ⟨v, h1, h2⟩ := r.get' e1
    exact ⟨v, by unfold L2.start; rw [List.getElem?_append_left (by simpa [r.len] using hi), List.getElem?_map, h1]; rfl, h2⟩
  · rw [List.getElem?_append_right (by simpa using hi)] at h
    have := List.mem_of_getElem? h
    simp at this
/-- the frame of a def's body -/
abbrev fX (P : Program) (w : World) (K : PySem.W.Frag) (mg : Str → Option Value) (base : Heap) (N : List Str) (qual : Str) (sc : Scope) (f : Addr) (cdv : Value) (A : Around) (outer : List Env) (s : Shared) (H : Hp) (E : XK) : Cx :=
  cxOf (L2.CX P w) P w K mg base N qual sc f cdv A outer s H E
theorem fn_okD {x qual : Str} {st : Stmt} {f : Addr} {fd : FuncData} {N ps : List Str} {k : Nat} {cA : Nat → Addr} {S : FS} (md : Mode) (F : L2.Fun K x qual st f fd) (Sc : FnScope N ps (defScope st)) (len : ∀ ws μ P, S ws μ P → ws.length = ps.length)
    (body : ∀ (X : Cx) (b : Bs), X.prog = P → X.w = w → X.K = K → X.mg = mg → X.base = base → X.N = N → X.env.scope = defScope st → X.calm = true → Room k X.A → PassesOwn (model X.prog X.w) X.A X.env X.xe → XOk X b → b.cA = cA →
      (∀ W, (∀ cls d σ H, W cls d σ H → EX b cls d H) → Takes X W) → (∃ cdv A outer s H E, X = fX P w K mg base N qual (defScope st) f cdv A outer s H E) →
      ∃ t, DSs X b (defBody st) t ∧ ∀ ws μ Post, S ws μ Post → b.xc = xcOf μ.length Post → t (endsOf md μ.length Post) (ws.map some ++ List.replicate (N.length - ws.length) none) μ) :
    FnOk P w K mg base (L2.CX P w) (k + 1) f fd ps (spD cA S) := by
  refine F.okX Sc (fun vs H Q E h => ?_) (fun cdv A outer s H vs Q E hr h => ?_)
  · obtain ⟨U, G, m, ws, μ, Post, _, r, hS, _⟩ := h
    rw [r.len]
    exact len ws μ Post hS
  · obtain ⟨U, G, m, ws, μ, Post, rm, rw', hS, hk⟩ := h
    let b : Bs := ⟨cA, U, G, m, xcOf μ.length Post⟩
    have hx : ∀ cls d H', EX b cls d H' → E cls d H' := fun cls d H' ⟨e, G', m', μ', l, r, ea, hc⟩ => by
      have hl : m.length = μ.length := rm.len
      have hc' : xcOf μ.length Post e μ' := hc
      unfold xcOf at hc'
      rw [← hl] at hc'
      exact hk _ _ G' _ H' hc'.2 (le_take l rfl) (rel_take r hc'.1) cls d ea
    have tk : Takes (cxOf (L2.CX P w) P w K mg base N qual (defScope st) f cdv A outer s H E) (fun cls d _ H => E cls d H) := takes_of rfl rfl rfl rfl
    obtain ⟨t, ht, hw⟩ := body (cxOf (L2.CX P w) P w K mg base N qual (defScope st) f cdv A outer s H E) b rfl rfl rfl rfl rfl rfl rfl rfl hr (passes_of rfl)
      (fun pins σ H' s' e s'' I c => passes_call (X := cxOf (L2.CX P w) P w K mg base N qual (defScope st) f cdv A outer s H E) tk (fun cls d σ H' h => hx cls d H' h) pins σ H' s' e s'' I c) rfl
      (fun W hW => tk.imp fun cls d σ H' h => hx cls d H' (hW cls d σ H' h)) ⟨cdv, A, outer, s, H, E, rfl⟩
    obtain ⟨ts, p, q⟩ := ht.ex
    refine ⟨ts, p, ?_⟩
    have o : WOk b G m μ H := ⟨Le.refl G m, rm⟩
    have hl : μ.length = m.length := rm.len.symm
    refine q o (wrels_start rw') (hw ws μ Post hS rfl) ⟨fun σ' H' G' m' ρ' μ' l o' r' t' => ?_, fun v H' G' m' w μ' l o' r' t' => ?_, fun _ _ _ _ _ _ _ _ _ z => z.elim, fun _ _ _ _ _ _ _ _ _ z => z.elim⟩
    · have t' : rtOf md μ.length Post (.d .non) μ' := t'
      rw [hl] at t'
      exact rt_end (v := .non) l o'.rel (.d .non) t' hk
    · have t' : rtOf md μ.length Post w μ' := t'
      rw [hl] at t'
      exact rt_end l o'.rel r' t' hk
end
end DD
namespace DD
open PySem L2

/-! ### which cells a call reaches -/
def refsW : W → List Nat
  | .r n => [n]
  | .d _ => []
def refsC : Cell → List Nat
  | .ins _ _ ws => ws.flatMap refsW
  | .lstW ws => ws.flatMap refsW
  | _ => []
def reach (μ : M) : Nat → List Nat → List Nat → List Nat
  | 0, _, acc => acc
  | _ + 1, [], acc => acc
  | f + 1, n :: t, acc => if acc.contains n then reach μ f t acc else reach μ f ((match μ[n]? with
    | some c => refsC c
    | none => []) ++ t) (acc ++ [n])
def ren (js : List Nat) : W → W
  | .r n => .r (js.idxOf n)
  | .d d => .d d
def renC (f : W → W) : Cell → Cell
  | .ins c fs ws => .ins c fs (ws.map f)
  | .lst ds => .lst ds
  | .lstW ws => .lstW (ws.map f)
  | .dic ks ds => .dic ks ds
  | .dicT ks ds => .dicT ks ds
  | .frz d => .frz d
  | .scr ns S => .scr ns S
  | .tab P q => .tab P q
  | .fn f c q => .fn f c q
/-- the callee's place i is the caller's -/
def thI (js : List Nat) (n i : Nat) : Nat := match js[i]? with
  | some j => j
  | none => n + (i - js.length)
def th (js : List Nat) (n : Nat) : W → W
  | .r i => .r (thI js n i)
  | .d d => .d d
def okJs (μ : M) (ws : List W) (js : List Nat) : Bool :=
  decide js.Nodup && js.all (fun j => decide (j < μ.length)) && (ws.flatMap refsW).all (fun n => js.contains n) && js.all fun j => match μ[j]? with
    | some c => (refsC c).all fun n => js.contains n
    | none => false
def cellsOf (μ : M) (js : List Nat) : M := js.map fun j => match μ[j]? with
  | some c => renC (ren js) c
  | none => .frz .non
def setAll (μ : M) : List Nat → M → M
  | j :: js, c :: cs => setAll (μ.set j c) js cs
  | _, _ => μ
def merge (μ : M) (js : List Nat) (μ2 : M) : M := setAll μ js ((μ2.take js.length).map (renC (th js μ.length))) ++ (μ2.drop js.length).map (renC (th js μ.length))
def callS (S : FS) (ws : List W) (μ : M) (Q : W → M → Prop) (xc : Exc → M → Prop) : Prop :=
  okJs μ ws (reach μ 60 (ws.flatMap refsW) []) = true ∧ S (ws.map (ren (reach μ 60 (ws.flatMap refsW) []))) (cellsOf μ (reach μ 60 (ws.flatMap refsW) [])) fun r μ2 =>
    (reach μ 60 (ws.flatMap refsW) []).length ≤ μ2.length ∧ match r with
      | .ret w => Q (th (reach μ 60 (ws.flatMap refsW) []) μ.length w) (merge μ (reach μ 60 (ws.flatMap refsW) []) μ2)
      | .exc e => xc e (merge μ (reach μ 60 (ws.flatMap refsW) []) μ2)

theorem setAll_length : ∀ (js : List Nat) (μ cs : M), (setAll μ js cs).length = μ.length
  | [], μ, cs => by unfold setAll; rfl
  | j :: js, μ, [] => by unfold setAll; rfl
  | j :: js, μ, c :: cs => by unfold setAll; rw [setAll_length js]; simp
theorem setAll_out : ∀ (js : List Nat) (μ cs : M) (i : Nat), i ∉ js → (setAll μ js cs)[i]? = μ[i]?
  | [], μ, cs, i, _ => by unfold setAll; rfl
  | j :: js, μ, [], i, _ => by unfold setAll; rfl
  | j :: js, μ, c :: cs, i, h => by
    unfold setAll
    rw [setAll_out js _ cs i (fun z => h (List.mem_cons_of_mem _ z)), List.getElem?_set_ne]
    rintro rfl
    exact h List.mem_cons_self
theorem setAll_in : ∀ (js : List Nat) (μ cs : M) (i : Nat) (c : Cell), js.Nodup → (∀ j ∈ js, j < μ.length) → i < js.length → cs[i]? = some c → ∀ j, js[i]? = some j → (setAll μ js cs)[j]? = some c
  | [], μ, cs, i, c, _, _, h, _ => by simp at h
  | a :: js, μ, [], i, c, _, _, _, h => by simp at h
  | a :: js, μ, d :: cs, 0, c, nd, lt, h, e => fun j hj => by
    simp at e hj
    subst e hj
    unfold setAll
    rw [setAll_out js _ cs a (List.nodup_cons.mp nd).1, List.getElem?_set_self (lt a List.mem_cons_self)]
  | a :: js, μ, d :: cs, i + 1, c, nd, lt, h, e => fun j hj => by
    unfold setAll
    refine setAll_in js _ cs i c (List.nodup_cons.mp nd).2 (fun j hj => ?_) (by simpa using h) (by simpa using e) j (by simpa using hj)
    simpa using lt j (List.mem_cons_of_mem _ hj)
theorem idx_at {js : List Nat} (nd : js.Nodup) {i j : Nat} (h : js[i]? = some j) : js.idxOf j = i := by
  obtain ⟨hi, rfl⟩ := List.getElem?_eq_some_iff.mp h
  exact nd.idxOf_getElem i hi
theorem at_idx {js : List Nat} {j : Nat} (h : j ∈ js) : js[js.idxOf j]? = some j := by
  have := List.idxOf_lt_length_of_mem h
  rw [List.getElem?_eq_getElem this, List.getElem_idxOf]

section
variable {cA : Nat → Addr} {U G G' H H' : Hp} {m m2 : Wd} {μ μ2 : M} {js : List Nat}
structure JsOk (μ : M) (js : List Nat) : Prop where
  nd : js.Nodup
  lt : ∀ j ∈ js, j < μ.length
  cl : ∀ (j : Nat) (c : Cell), j ∈ js → μ[j]? = some c → ∀ n ∈ refsC c, n ∈ js
theorem okJs_ok {ws : List W} (h : okJs μ ws js = true) : JsOk μ js ∧ ∀ n ∈ ws.flatMap refsW, n ∈ js := by
  unfold okJs at h
  simp only [Bool.and_eq_true, List.all_eq_true, decide_eq_true_eq, List.contains_iff_mem] at h
  obtain ⟨⟨⟨h1, h2⟩, h3⟩, h4⟩ := h
  refine ⟨⟨h1, h2, fun j c hj e n hn => ?_⟩, h3⟩
  have := h4 j hj
  rw [e] at this
  simp only [List.all_eq_true, List.contains_iff_mem] at this
  exact this n hn
/-- the callee's world -/
def sub (m : Wd) (js : List Nat) : Wd := js.map fun j => m.getD j []
theorem sub_at {n : Nat} {as : List Addr} (hn : n ∈ js) (e : m[n]? = some as) : (sub m js)[js.idxOf n]? = some as := by
  unfold sub
  rw [List.getElem?_map, at_idx hn]
  simp [List.getD, e]
theorem sub_get {i : Nat} {as : List Addr} (e : (sub m js)[i]? = some as) (lt : ∀ j ∈ js, j < m.length) : ∃ j, js[i]? = some j ∧ m[j]? = some as := by
  unfold sub at e
  rw [List.getElem?_map] at e
  obtain ⟨j, h1, h2⟩ := Option.map_eq_some_iff.mp e
  refine ⟨j, h1, ?_⟩
  have := lt j (List.mem_of_getElem? h1)
  rw [← h2]
  simp [List.getD, List.getElem?_eq_getElem this]
theorem ren_rel {v : V} {w : W} (q : WRel cA G m v w) (h : ∀ n ∈ refsW w, n ∈ js) : WRel cA G (sub m js) v (ren js w) := by
  cases q with
  | d r => exact .d r
  | @r n p as e => exact .r (sub_at (h n (by simp [refsW])) e)
theorem ren_rels : ∀ {vs : List V} {ws : List W}, WRels cA G m vs ws → (∀ n ∈ ws.flatMap refsW, n ∈ js) → WRels cA G (sub m js) vs (ws.map (ren js))
  | _, _, .nil, _ => .nil
  | _, w :: ws, .cons r rs, h => .cons (ren_rel r fun n hn => h n (by simp [hn])) (ren_rels rs fun n hn => h n (by simp at hn ⊢; exact .inr hn))
/-- a live cell that the call does not reach -/
def Out (m : Wd) (μ : M) (js : List Nat) (a : Addr) : Prop := ∃ (i : Nat) (c : Cell) (as : List Addr), i ∉ js ∧ μ[i]? = some c ∧ m[i]? = some as ∧ c.live = true ∧ a ∈ as
open Classical in
noncomputable def frame (U H : Hp) (m : Wd) (μ : M) (js : List Nat) : Hp := fun a => if Out m μ js a then H a else U a
theorem cells_at {i : Nat} {c : Cell} (e : (cellsOf μ js)[i]? = some c) (lt : ∀ j ∈ js, j < μ.length) : ∃ j c0, js[i]? = some j ∧ μ[j]? = some c0 ∧ c = renC (ren js) c0 := by
  unfold cellsOf at e
  rw [List.getElem?_map] at e
  obtain ⟨j, h1, h2⟩ := Option.map_eq_some_iff.mp e
  have := lt j (List.mem_of_getElem? h1)
  rw [List.getElem?_eq_getElem this] at h2
  exact ⟨j, μ[j], h1, List.getElem?_eq_getElem this, h2.symm⟩
theorem renC_live (f : W → W) (c : Cell) : (renC f c).live = c.live := by cases c <;> rfl
theorem frame_out {a : Addr} (h : Out m μ js a) : frame U H m μ js a = H a := if_pos h
theorem frame_in {a : Addr} (h : ¬ Out m μ js a) : frame U H m μ js a = U a := if_neg h
theorem out_free (r : RelM cA U G m μ H) {a : Addr} (h : Out m μ js a) : G a = none ∧ U a = none ∧ ∃ o, H a = some o := by
  obtain ⟨i, c, as, _, e1, e2, lv, ha⟩ := h
  obtain ⟨f1, f2⟩ := r.free i c as a e1 e2 lv ha
  exact ⟨f1, f2, (r.cell i c as e1 e2).at r.gh lv a ha⟩
theorem rel_sub (r : RelM cA U G m μ H) (ok : JsOk μ js) : RelM cA (frame U H m μ js) G (sub m js) (cellsOf μ js) H := by
  have ltm : ∀ j ∈ js, j < m.length := fun j hj => by rw [r.len]; exact ok.lt j hj
  have notOut : ∀ (i : Nat) (c : Cell) (as : List Addr) (a : Addr), i ∈ js → μ[i]? = some c → m[i]? = some as → c.live = true → a ∈ as → ¬ Out m μ js a := fun i c as a hi e1 e2 lv ha ⟨i', c', as', h1, h2, h3, h4, h5⟩ => by
    have := r.apart i i' c c' as as' a e1 h2 e2 h3 lv h4 ha h5
    subst this
    exact h1 hi
  refine ⟨fun a o h => ?_, r.gh, fun a o h => ?_, by simp [sub, cellsOf], fun i c as h1 h2 => ?_, fun i c as h1 h2 h3 => ?_, fun i j c c' as as' a h1 h2 h3 h4 h5 h6 h7 h8 => ?_, fun i c as a h1 h2 h3 h4 => ?_⟩
  · by_cases q : Out m μ js a
    · rw [frame_out q] at h; exact h
    · rw [frame_in q] at h; exact r.uh a o h
  · by_cases q : Out m μ js a
    · exact (out_free r q).1
    · rw [frame_in q] at h; exact r.ug a o h
  · obtain ⟨j, c0, e1, e2, rfl⟩ := cells_at h1 ok.lt
    obtain ⟨j', e3, e4⟩ := sub_get h2 ltm
    rw [e1] at e3
    cases e3
    have k := r.cell j c0 as e2 e4
    cases c0 with
    | ins c fs ws =>
      obtain ⟨p, dx, xs, f1, f2, f3, f4⟩ := k
      exact ⟨p, dx, xs, f1, f2, f3, ren_rels f4 fun n hn => ok.cl j _ (List.mem_of_getElem? e1) e2 n hn⟩
    | lstW ws =>
      obtain ⟨p, xs, f1, f2, f4⟩ := k
      exact ⟨p, xs, f1, f2, ren_rels f4 fun n hn => ok.cl j _ (List.mem_of_getElem? e1) e2 n hn⟩
    | _ => exact k
  · obtain ⟨j, c0, e1, e2, rfl⟩ := cells_at h1 ok.lt
    obtain ⟨j', e3, e4⟩ := sub_get h2 ltm
    rw [e1] at e3
    cases e3
    rw [renC_live] at h3
    exact r.nd j c0 as e2 e4 h3
  · obtain ⟨x, c0, e1, e2, rfl⟩ := cells_at h1 ok.lt
    obtain ⟨x', e3, e4⟩ := sub_get h3 ltm
    rw [e1] at e3
    cases e3
    obtain ⟨y, c1, f1, f2, rfl⟩ := cells_at h2 ok.lt
    obtain ⟨y', f3, f4⟩ := sub_get h4 ltm
    rw [f1] at f3
    cases f3
    rw [renC_live] at h5 h6
    have := r.apart x y c0 c1 as as' a e2 f2 e4 f4 h5 h6 h7 h8
    subst this
    have g1 := idx_at ok.nd e1
    have g2 := idx_at ok.nd f1
    omega
  · obtain ⟨j, c0, e1, e2, rfl⟩ := cells_at h1 ok.lt
    obtain ⟨j', e3, e4⟩ := sub_get h2 ltm
    rw [e1] at e3
    cases e3
    rw [renC_live] at h3
    obtain ⟨f1, f2⟩ := r.free j c0 as a e2 e4 h3 h4
    exact ⟨f1, by rw [frame_in (notOut j c0 as a (List.mem_of_getElem? e1) e2 e4 h3 h4)]; exact f2⟩
/-- where the caller's cell i stands for the callee -/
theorem merge_at {i : Nat} {c : Cell} (ok : JsOk μ js) (hk : js.length ≤ μ2.length) (e : (merge μ js μ2)[i]? = some c) :
    (i ∉ js ∧ μ[i]? = some c) ∨ ∃ j c2, thI js μ.length j = i ∧ μ2[j]? = some c2 ∧ c = renC (th js μ.length) c2 ∧ (i < μ.length → js[j]? = some i) ∧ (μ.length ≤ i → j = js.length + (i - μ.length)) := by
  unfold merge at e
  by_cases hi : i < μ.length
  · rw [List.getElem?_append_left (by rw [setAll_length]; exact hi)] at e
    by_cases hj : i ∈ js
    · have h1 := at_idx hj
      have hlt := List.idxOf_lt_length_of_mem hj
      have h2 : ((μ2.take js.length).map (renC (th js μ.length)))[js.idxOf i]? = some (renC (th js μ.length) (μ2[js.idxOf i]'(by omega))) := by
        rw [List.getElem?_map, List.getElem?_take_of_lt hlt, List.getElem?_eq_getElem (by omega)]
        rfl
      rw [setAll_in js μ _ (js.idxOf i) _ ok.nd ok.lt hlt h2 i h1] at e
      cases e
      exact .inr ⟨js.idxOf i, _, by unfold thI; rw [h1], List.getElem?_eq_getElem _, rfl, fun _ => h1, fun z => by omega⟩
    · rw [setAll_out js μ _ i hj] at e
      exact .inl ⟨hj, e⟩
  · rw [List.getElem?_append_right (by rw [setAll_length]; omega), setAll_length, List.getElem?_map, List.getElem?_drop] at e
    obtain ⟨c2, h1, h2⟩ := Option.map_eq_some_iff.mp e
    refine .inr ⟨js.length + (i - μ.length), c2, ?_, h1, h2.symm, fun z => by omega, fun _ => rfl⟩
    unfold thI
    rw [List.getElem?_eq_none (by omega)]
    dsimp only
    omega
/-- the caller's world behind the call -/
def back (m : Wd) (js : List Nat) (m2 : Wd) : Wd := m ++ m2.drop js.length
theorem back_th (hl : m.length = μ.length) (l : Le G (sub m js) G' m2) (lt : ∀ j ∈ js, j < m.length) {i : Nat} {as : List Addr} (e : m2[i]? = some as) : (back m js m2)[thI js μ.length i]? = some as := by
  unfold back thI
  cases h : js[i]? with
  | some j =>
    have hj := lt j (List.mem_of_getElem? h)
    dsimp only
    rw [List.getElem?_append_left hj]
    have h1 : (sub m js)[i]? = some (m.getD j []) := by unfold sub; rw [List.getElem?_map, h]; rfl
    have := l.m i _ h1
    rw [e] at this
    cases this
    simp [List.getD, List.getElem?_eq_getElem hj]
  | none =>
    have hi : js.length ≤ i := List.getElem?_eq_none_iff.mp h
    dsimp only
    rw [List.getElem?_append_right (by omega), List.getElem?_drop]
    rw [← e]
    congr 1
    omega
theorem th_rel (hl : m.length = μ.length) (l : Le G (sub m js) G' m2) (lt : ∀ j ∈ js, j < m.length) {v : V} {w : W} (q : WRel cA G' m2 v w) : WRel cA G' (back m js m2) v (th js μ.length w) := by
  cases q with
  | d r => exact .d r
  | r e => exact .r (back_th hl l lt e)
theorem th_rels (hl : m.length = μ.length) (l : Le G (sub m js) G' m2) (lt : ∀ j ∈ js, j < m.length) : ∀ {vs : List V} {ws : List W}, WRels cA G' m2 vs ws → WRels cA G' (back m js m2) vs (ws.map (th js μ.length))
  | _, _, .nil => .nil
  | _, _, .cons r rs => .cons (th_rel hl l lt r) (th_rels hl l lt rs)
theorem rel_back (r : RelM cA U G m μ H) (ok : JsOk μ js) (l : Le G (sub m js) G' m2) (r2 : RelM cA (frame U H m μ js) G' m2 μ2 H') (hk : js.length ≤ μ2.length) :
    RelM cA U G' (back m js m2) (merge μ js μ2) H' ∧ Le G m G' (back m js m2) := by
  have ltm : ∀ j ∈ js, j < m.length := fun j hj => by rw [r.len]; exact ok.lt j hj
  have lb : Le G m G' (back m js m2) := ⟨l.g, fun i as e => by unfold back; rw [List.getElem?_append_left (List.getElem?_eq_some_iff.mp e).1]; exact e⟩
  have old : ∀ {i : Nat} {c : Cell} {as : List Addr}, i ∉ js → μ[i]? = some c → (back m js m2)[i]? = some as → m[i]? = some as := fun {i c as} _ e1 e2 => by
    have := (List.getElem?_eq_some_iff.mp e1).1
    unfold back at e2
    rw [List.getElem?_append_left (by rw [r.len]; exact this)] at e2
    exact e2
  have keep : ∀ a, Out m μ js a → H' a = H a := fun a h => by
    obtain ⟨_, _, o, e⟩ := out_free r h
    rw [e]
    exact r2.uh a o (by rw [frame_out h]; exact e)
  have new : ∀ {i j : Nat} {c2 : Cell} {as : List Addr}, thI js μ.length j = i → μ2[j]? = some c2 → (back m js m2)[i]? = some as → m2[j]? = some as := fun {i j c2 as} h e1 e2 => by
    have := (List.getElem?_eq_some_iff.mp e1).1
    have h3 : m2[j]? = some (m2[j]'(by rw [r2.len]; exact this)) := List.getElem?_eq_getElem _
    have h4 := back_th (μ := μ) r.len l ltm h3
    rw [h, e2] at h4
    rw [h3]
    exact h4.symm
  have uout : ∀ a o, U a = some o → ¬ Out m μ js a := fun a o h q => by
    rw [(out_free r q).2.1] at h
    cases h
  refine ⟨⟨fun a o h => ?_, r2.gh, fun a o h => ?_, ?_, fun i c as h1 h2 => ?_, fun i c as h1 h2 h3 => ?_, fun i j c c' as as' a h1 h2 h3 h4 h5 h6 h7 h8 => ?_, fun i c as a h1 h2 h3 h4 => ?_⟩, lb⟩
  · exact r2.uh a o (by rw [frame_in (uout a o h)]; exact h)
  · exact r2.ug a o (by rw [frame_in (uout a o h)]; exact h)
  · unfold back merge
    rw [List.length_append, List.length_append, setAll_length, List.length_map, List.length_drop, List.length_drop, r.len, r2.len]
  · rcases merge_at ok hk h1 with ⟨hj, e⟩ | ⟨j, c2, e1, e2, rfl, _⟩
    · have hm := old hj e h2
      refine (r.cell i c as e hm).mono lb fun lv a ha o ho => ?_
      rw [keep a ⟨i, c, as, hj, e, hm, lv, ha⟩]
      exact ho
    · have hm := new e1 e2 h2
      have k := r2.cell j c2 as e2 hm
      cases c2 with
      | ins c fs ws =>
        obtain ⟨p, dx, xs, f1, f2, f3, f4⟩ := k
        exact ⟨p, dx, xs, f1, f2, f3, th_rels r.len l ltm f4⟩
      | lstW ws =>
        obtain ⟨p, xs, f1, f2, f4⟩ := k
        exact ⟨p, xs, f1, f2, th_rels r.len l ltm f4⟩
      | _ => exact k
  · rcases merge_at ok hk h1 with ⟨hj, e⟩ | ⟨j, c2, e1, e2, rfl, _⟩
    · exact r.nd i c as e (old hj e h2) h3
    · rw [renC_live] at h3
      exact r2.nd j c2 as e2 (new e1 e2 h2) h3
  · rcases merge_at ok hk h1 with ⟨hi, e⟩ | ⟨x, c2, e1, e2, rfl, e3, e4⟩
    · have hm := old hi e h3
      rcases merge_at ok hk h2 with ⟨hj, f⟩ | ⟨y, c3, f1, f2, rfl, f3, f4⟩
      · exact r.apart i j c c' as as' a e f hm (old hj f h4) h5 h6 h7 h8
      · rw [renC_live] at h6
        have q : Out m μ js a := ⟨i, c, as, hi, e, hm, h5, h7⟩
        have z := (r2.free y c3 as' a f2 (new f1 f2 h4) h6 h8).2
        rw [frame_out q] at z
        obtain ⟨_, _, o, e'⟩ := out_free r q
        rw [e'] at z
        cases z
    · rw [renC_live] at h5
      rcases merge_at ok hk h2 with ⟨hj, f⟩ | ⟨y, c3, f1, f2, rfl, f3, f4⟩
      · have hm := old hj f h4
        have q : Out m μ js a := ⟨j, c', as', hj, f, hm, h6, h8⟩
        have z := (r2.free x c2 as a e2 (new e1 e2 h3) h5 h7).2
        rw [frame_out q] at z
        obtain ⟨_, _, o, e'⟩ := out_free r q
        rw [e'] at z
        cases z
      · rw [renC_live] at h6
        have := r2.apart x y c2 c3 as as' a e2 f2 (new e1 e2 h3) (new f1 f2 h4) h5 h6 h7 h8
        subst this
        rw [← e1, ← f1]
  · rcases merge_at ok hk h1 with ⟨hi, e⟩ | ⟨x, c2, e1, e2, rfl, e3, e4⟩
    · have hm := old hi e h2
      have q : Out m μ js a := ⟨i, c, as, hi, e, hm, h3, h4⟩
      obtain ⟨_, u, o, e'⟩ := out_free r q
      exact ⟨r2.ug a o (by rw [frame_out q]; exact e'), u⟩
    · rw [renC_live] at h3
      obtain ⟨g, z⟩ := r2.free x c2 as a e2 (new e1 e2 h2) h3 h4
      refine ⟨g, ?_⟩
      by_cases q : Out m μ js a
      · exact (out_free r q).2.1
      · rw [frame_in q] at z; exact z
end
/-! ### a call of a def with a contract -/
theorem call_core {b : Bs} {S : FS} {G : Hp} {m : Wd} {μ : M} {H : Hp} {vs : List V} {ws : List W} {Q : W → M → Prop} {K : VK} (o : WOk b G m μ H) (r : WRels b.cA G m vs ws) (t : callS S ws μ Q b.xc)
    (k : ∀ v H' G' m' w μ', Le G m G' m' → WOk b G' m' μ' H' → WRel b.cA G' m' v w → Q w μ' → K v H') : spD b.cA S vs H K (EX b) := by
  obtain ⟨hj, t⟩ := t
  obtain ⟨ok, hw⟩ := okJs_ok hj
  refine ⟨_, G, _, _, _, _, rel_sub o.rel ok, ren_rels r hw, t, fun r2 μ2 G2 m2 H2 hp l rm => ?_⟩
  obtain ⟨hk, hp⟩ := hp
  obtain ⟨rb, lb⟩ := rel_back o.rel ok l rm hk
  cases r2 with
  | ret w =>
    intro v q
    exact k v H2 G2 _ _ _ lb (o.mono lb rb) (th_rel o.rel.len l (fun j hj => by rw [o.rel.len]; exact ok.lt j hj) q) hp
  | exc e => exact fun cls d ea => ⟨e, G2, _, _, o.le.trans lb, rb, ea, hp⟩
section
variable {X : Cx} {b : Bs} {pos : Pos} {k : Nat} {f : Addr} {fd : FuncData} {ps : List Str} {S : FS} {x : Str} {p : Pos} {e : Expr} {es : List Expr} {ta : DTA}
@[simp] def dCall (S : FS) (xc : Exc → M → Prop) (ta : DTA) (ρ : R) (μ : M) (Q : W → M → Prop) : Prop := ta ρ μ fun ws μ1 => callS S ws μ1 Q xc
theorem de_call (F : FnOk X.prog X.w X.K X.mg X.base (L2.CX X.prog X.w) k f fd ps (spD b.cA S)) (hr : Room k X.A) (hx : XOk X b) (hm : X.mg x = some (.ref f)) (hk : PySem.W.keepIn X.K (.ref f) = true) (hb : Binds X.K fd ps []) (ha : DA X b (e :: es) ta) (hg : Gl X x)
    (hdb : (x == ("__debug__" : Str)) = false := by decide) (he : starEach (e :: es) X.env = (false, eval e X.env) :: starEach es X.env := by rfl) (hpl : (backTo pos (starEach es X.env)).any (·.1) = false := by rfl) :
    DE X b (.Call (.Name x p) (e :: es) [] pos) (dCall S b.xc ta) := by
  obtain ⟨t', pa, qa⟩ := ha.ex
  refine ⟨_, pe_call F hr hg hm hk hb .nil hx pa hdb he hpl, fun {G m ρ μ σ H Q K} o r t kk => ?_⟩
  refine qa o r t fun vs H1 G1 m1 ws μ1 l1 o1 r1 t1 => ?_
  rw [List.append_nil]
  exact call_core o1 r1 t1 fun v H' G' m' w μ' l o' q t' => kk v H' G' m' w μ' (l1.trans l) o' q t'
theorem de_call0 (F : FnOk X.prog X.w X.K X.mg X.base (L2.CX X.prog X.w) k f fd ps (spD b.cA S)) (hr : Room k X.A) (hx : XOk X b) (hm : X.mg x = some (.ref f)) (hk : PySem.W.keepIn X.K (.ref f) = true) (hb : Binds X.K fd ps []) (hg : Gl X x)
    (hdb : (x == ("__debug__" : Str)) = false := by decide) : DE X b (.Call (.Name x p) [] [] pos) (dCall S b.xc dNil) := by
  refine ⟨_, pe_call0 F hr hg hm hk hb .nil hx hdb, fun {G m ρ μ σ H Q K} o r t kk => ?_⟩
  exact call_core o .nil t fun v H' G' m' w μ' l o' q t' => kk v H' G' m' w μ' l o' q t'
end
end DD
namespace DD
open PySem L2

/-! ### built-ins over data -/
@[simp] def rss (μ : M) : List W → Option (List D)
  | [] => some []
  | w :: ws => match rs μ w with
    | some d => match rss μ ws with
      | some ds => some (d :: ds)
      | none => none
    | none => none
def Nows (cA : Nat → Addr) (G H : Hp) : List V → List D → Prop
  | [], [] => True
  | v :: vs, d :: ds => Now cA G H v d ∧ Nows cA G H vs ds
  | _, _ => False
theorem rss_ok {cA : Nat → Addr} {U G H : Hp} {m : Wd} {μ : M} (r : RelM cA U G m μ H) : ∀ {vs : List V} {ws : List W} {ds : List D}, WRels cA G m vs ws → rss μ ws = some ds → Nows cA G H vs ds
  | _, _, _, .nil, h => by cases h; exact True.intro
  | _, w :: ws, ds, .cons q qs, h => by
    unfold rss at h
    cases e : rs μ w with
    | none => rw [e] at h; cases h
    | some d =>
      rw [e] at h
      dsimp only at h
      cases e2 : rss μ ws with
      | none => rw [e2] at h; cases h
      | some es => rw [e2] at h; cases h; exact ⟨rs_ok r q e, rss_ok r qs e2⟩
def OpN (b : Bs) (r : List V → Hp → VK → Prop) (f : List D → (D → Prop) → Prop) : Prop :=
  ∀ {G : Hp} {m : Wd} {μ : M} {H : Hp} {vs : List V} {ds : List D} {q : D → Prop} {K : VK}, WOk b G m μ H → Nows b.cA G H vs ds → f ds q →
    (∀ v' H' G' z, Le G m G' m → WOk b G' m μ H' → Rep b.cA G' v' z → q z → K v' H') → r vs H K
@[simp] def dFn (f : List D → (D → Prop) → Prop) (ta : DTA) (ρ : R) (μ : M) (Q : W → M → Prop) : Prop := ta ρ μ fun ws μ1 => match rss μ1 ws with
  | some ds => f ds fun z => Q (.d z) μ1
  | none => False
section
variable {X : Cx} {b : Bs} {pos p : Pos} {e : Expr} {es : List Expr} {te : DTE} {ta : DTA}
theorem de_fn {r : List V → Hp → VK → Prop} {f : List D → (D → Prop) → Prop} {c : Expr} (hf : OpN b r f) (ha : DA X b es ta) (hp : ∀ {ta : TA}, PA X es ta → PE X c (tCB r ta)) : DE X b c (dFn f ta) := by
  obtain ⟨t', pa, qa⟩ := ha.ex
  refine ⟨_, hp pa, fun {G m ρ μ σ H Q K} o r t k => ?_⟩
  refine qa o r t fun vs H1 G1 m1 ws μ1 l1 o1 r1 t1 => ?_
  split at t1
  · rename_i ds e1
    exact hf o1 (rss_ok o1.rel r1 e1) t1 fun v' H' G' z l o' rp qz => k v' H' G' m1 _ μ1 (l1.trans l) o' (.d rp) qz
  · exact t1.elim
/-- a new list that may change -/
@[simp] def dFnM (f : List D → Option (List D)) (ta : DTA) (ρ : R) (μ : M) (Q : W → M → Prop) : Prop := ta ρ μ fun ws μ1 => match rss μ1 ws with
  | some ds => match f ds with
    | some xs => Q (.r μ1.length) (μ1 ++ [.lst xs])
    | none => False
  | none => False
theorem nows1 {cA : Nat → Addr} {G H : Hp} {vs : List V} {d : D} (h : Nows cA G H vs [d]) : ∃ v, vs = [v] ∧ Now cA G H v d := by
  match vs, h with
  | [v], h => exact ⟨v, rfl, h.1⟩
theorem nows2 {cA : Nat → Addr} {G H : Hp} {vs : List V} {d e : D} (h : Nows cA G H vs [d, e]) : ∃ v u, vs = [v, u] ∧ Now cA G H v d ∧ Now cA G H u e := by
  match vs, h with
  | [v, u], h => exact ⟨v, u, rfl, h.1, h.2.1⟩
/-! len -/
def fLen : List D → (D → Prop) → Prop
  | [.lst ds], q => q (.int ds.length)
  | [.tup ds], q => q (.int ds.length)
  | [.str s], q => s.length ≤ sizeLine ∧ q (.int s.length)
  | _, _ => False
theorem on_len {K : PySem.W.Frag} : OpN b (fun xs H Q => ∃ x n, xs = [x] ∧ LenV K x H n ∧ Q (.int n) H) fLen := by
  intro G m μ H vs ds q Kq w n f k
  match ds, n, f with
  | [.lst ds], n, f =>
    obtain ⟨v, rfl, a, xs, rfl, h, r⟩ := nows1 n
    exact ⟨.ref a, xs.length, rfl, .inl ⟨xs, SqL.of h, rfl⟩, by rw [r.len]; exact give_old w (.int _) f k⟩
  | [.tup ds], n, f =>
    obtain ⟨v, rfl, a, xs, rfl, h, r⟩ := nows1 n
    exact ⟨.ref a, xs.length, rfl, .inr ⟨xs, SqT.of h, rfl⟩, by rw [r.len]; exact give_old w (.int _) f k⟩
  | [.str s], n, f =>
    obtain ⟨v, rfl, n1⟩ := nows1 n
    cases (show v = .str s from n1)
    exact ⟨.str s, s.length, rfl, ⟨f.1, rfl⟩, give_old w (.int _) f.2 k⟩
theorem de_len (hm : X.mg "len" = none) (ha : DA X b [e] ta) (hg : Gl X "len") (he : starEach [e] X.env = [(false, eval e X.env)] := by rfl) (hpl : (backTo pos (starEach [] X.env)).any (·.1) = false := by rfl) : DE X b (.Call (.Name "len" p) [e] [] pos) (dFn fLen ta) :=
  de_fn on_len ha fun pa => pe_callB call_len hg hm PySem.boot_len pa (he := he) (hpl := hpl)
/-! list(x), tuple(x) -/
@[simp] def seqIn : List D → Option (List D)
  | [.lst ds] => some ds
  | [.tup ds] => some ds
  | _ => none
@[simp] def fList (ds : List D) (q : D → Prop) : Prop := match seqIn ds with
  | some xs => q (.lst xs)
  | none => False
def fTup (ds : List D) (q : D → Prop) : Prop := match seqIn ds with
  | some xs => q (.tup xs)
  | none => False
theorem seq_at {K : PySem.W.Frag} {cA : Nat → Addr} {G H : Hp} {vs : List V} {ds xs : List D} (n : Nows cA G H vs ds) (e : seqIn ds = some xs) : ∃ a us, vs = [.ref a] ∧ ((SqL K H a us ∧ ds = [.lst xs]) ∨ (SqT K H a us ∧ ds = [.tup xs])) ∧ Reps cA G us xs := by
  match ds, n, e with
  | [.lst ds], n, e =>
    cases e
    obtain ⟨v, rfl, a, us, rfl, h, r⟩ := nows1 n
    exact ⟨a, us, rfl, .inl ⟨SqL.of h, rfl⟩, r⟩
  | [.tup ds], n, e =>
    cases e
    obtain ⟨v, rfl, a, us, rfl, h, r⟩ := nows1 n
    exact ⟨a, us, rfl, .inr ⟨SqT.of h, rfl⟩, r⟩
theorem on_list {K : PySem.W.Frag} : OpN b (fun xs H Q => ∃ p ys, xs = [.ref p] ∧ (SqL K H p ys ∨ SqT K H p ys) ∧ ∀ l, H l = none → Q (.ref l) (upd H l (.lst ys))) fList := by
  intro G m μ H vs ds q Kq w n f k
  unfold fList at f
  split at f
  · rename_i xs e
    obtain ⟨a, us, rfl, h, r⟩ := seq_at n e
    exact ⟨a, us, rfl, h.imp (·.1) (·.1), fun l hl => give_new w hl (fun G' s e => .lst e (r.mono s)) f k⟩
  · exact f.elim
theorem on_tup {K : PySem.W.Frag} : OpN b (fun xs H Q => ∃ p ys, xs = [.ref p] ∧ ((SqL K H p ys ∧ ∀ l, H l = none → Q (.ref l) (upd H l (.tup ys))) ∨ (SqT K H p ys ∧ Q (.ref p) H))) (fun ds q => match ds with
    | [.lst xs] => q (.tup xs)
    | _ => False) := by
  intro G m μ H vs ds q Kq w n f k
  match ds, n, f with
  | [.lst xs], n, f =>
    obtain ⟨a, us, rfl, h, r⟩ := seq_at (K := K) n (xs := xs) rfl
    rcases h with ⟨h, _⟩ | ⟨_, h⟩
    · exact ⟨a, us, rfl, .inl ⟨h, fun l hl => give_new w hl (fun G' s e => .tup e (r.mono s)) f k⟩⟩
    · cases h
theorem de_list (hm : X.mg "list" = none) (ha : DA X b [e] ta) (hg : Gl X "list") (he : starEach [e] X.env = [(false, eval e X.env)] := by rfl) (hpl : (backTo pos (starEach [] X.env)).any (·.1) = false := by rfl) : DE X b (.Call (.Name "list" p) [e] [] pos) (dFn fList ta) :=
  de_fn on_list ha fun pa => pe_callTy call_list_of hg hm (by decide +kernel) pa (he := he) (hpl := hpl)
theorem de_listM (hm : X.mg "list" = none) (ha : DA X b [e] ta) (hg : Gl X "list") (he : starEach [e] X.env = [(false, eval e X.env)] := by rfl) (hpl : (backTo pos (starEach [] X.env)).any (·.1) = false := by rfl) : DE X b (.Call (.Name "list" p) [e] [] pos) (dFnM seqIn ta) := by
  obtain ⟨t', pa, qa⟩ := ha.ex
  refine ⟨_, pe_callTy call_list_of hg hm (by decide +kernel) pa (he := he) (hpl := hpl), fun {G m ρ μ σ H Q K} o r t k => ?_⟩
  refine qa o r t fun vs H1 G1 m1 ws μ1 l1 o1 r1 t1 => ?_
  split at t1
  · rename_i ds e1
    split at t1
    · rename_i xs e2
      obtain ⟨a, us, rfl, h, rp⟩ := seq_at (K := X.K) (rss_ok o1.rel r1 e1) e2
      refine ⟨a, us, rfl, h.imp (·.1) (·.1), fun l hl => ?_⟩
      exact k _ _ _ _ _ _ (l1.trans Le.cellNew) (o1.mono Le.cellNew (o1.rel.cellNew (c := .lst xs) hl ⟨l, us, rfl, upd_same, rp⟩)) (.r (as := []) (by rw [← o1.rel.len]; simp)) t1
    · exact t1.elim
  · exact t1.elim
/-- tuple(x): of a list a new one, of a tuple itself -/
@[simp] def dTupOf (ta : DTA) (ρ : R) (μ : M) (Q : W → M → Prop) : Prop := ta ρ μ fun ws μ1 => match ws with
  | [.d (.tup ds)] => Q (.d (.tup ds)) μ1
  | ws => match rss μ1 ws with
    | some [.lst ds] => Q (.d (.tup ds)) μ1
    | _ => False
theorem de_tupOf (hm : X.mg "tuple" = none) (ha : DA X b [e] ta) (hg : Gl X "tuple") (he : starEach [e] X.env = [(false, eval e X.env)] := by rfl) (hpl : (backTo pos (starEach [] X.env)).any (·.1) = false := by rfl) : DE X b (.Call (.Name "tuple" p) [e] [] pos) (dTupOf ta) := by
  obtain ⟨t', pa, qa⟩ := ha.ex
  refine ⟨_, pe_callTy call_tuple_of hg hm (by decide +kernel) pa (he := he) (hpl := hpl), fun {G m ρ μ σ H Q K} o r t k => ?_⟩
  refine qa o r t fun vs H1 G1 m1 ws μ1 l1 o1 r1 t1 => ?_
  unfold dTupOf at t
  split at t1
  · rename_i ds
    cases r1 with
    | cons r1 rs =>
    cases rs
    cases r1 with
    | d r1 =>
    obtain ⟨a, us, rfl, h, rp⟩ := r1.now o1.rel.gh
    exact ⟨a, us, rfl, .inr ⟨SqT.of h, k _ H1 G1 m1 _ μ1 l1 o1 (.d r1) t1⟩⟩
  · split at t1
    · rename_i ds e1
      refine on_tup (b := b) o1 (rss_ok o1.rel r1 e1) t1 fun v' H' G' z l o' rp qz => k v' H' G' m1 (.d z) μ1 (l1.trans l) o' (.d rp) qz
    · exact t1.elim
/-! list(range(n)) -/
def rngD (lo : Int) (n : Nat) : List D := (List.range n).map fun (i : Nat) => D.int (lo + (i : Int))
def dLRng1 (mu : Bool) (te : DTE) (ρ : R) (μ : M) (Q : W → M → Prop) : Prop := te ρ μ fun w μ1 => match w with
  | .d (.int n) => (-(2 ^ 62) ≤ n ∧ n ≤ 16777216) ∧ if mu then Q (.r μ1.length) (μ1 ++ [.lst (rngD 0 n.toNat)]) else Q (.d (.lst (rngD 0 n.toNat))) μ1
  | _ => False
theorem reps_rng {cA : Nat → Addr} {G : Hp} {lo hi : Int} : Reps cA G (rgV lo hi) (rngD lo (hi - lo).toNat) := by
  unfold rgV rngD
  generalize List.range (hi - lo).toNat = l
  induction l with
  | nil => exact .nil
  | cons a l ih => exact .cons (.int _) ih
theorem de_lrng1 (mu : Bool) {p2 pos2 : Pos} (hc : X.calm = true) (hm : X.mg "list" = none) (hm2 : X.mg "range" = none) (ha : DE X b e te) (hg : Gl X "list") (hg2 : Gl X "range") (na : starEach [e] X.env = (false, eval e X.env) :: starEach [] X.env := by rfl)
    (nb : starEach [.Call (.Name "range" p2) [e] [] pos2] X.env = (false, eval (.Call (.Name "range" p2) [e] [] pos2) X.env) :: starEach [] X.env := by rfl) : DE X b (.Call (.Name "list" p) [.Call (.Name "range" p2) [e] [] pos2] [] pos) (dLRng1 mu te) := by
  obtain ⟨t', pa, qa⟩ := ha.ex
  refine ⟨_, pe_listRg hc hg hm (prg_1 hg2 hm2 pa na) nb, fun {G m ρ μ σ H Q K} o r t k => ?_⟩
  refine qa o r t fun v H1 G1 m1 w μ1 l1 o1 r1 t1 => ?_
  split at t1
  · rename_i n
    obtain ⟨⟨h1, h2⟩, t1⟩ := t1
    refine ⟨n, isInt r1, ⟨by decide, by decide, h1, by omega, by omega⟩, fun q hq => ?_⟩
    have rp : Reps b.cA G1 (rgV 0 n) (rngD 0 n.toNat) := by
      have := reps_rng (cA := b.cA) (G := G1) (lo := 0) (hi := n)
      rwa [Int.sub_zero] at this
    cases mu with
    | true =>
      exact k _ _ _ _ _ _ (l1.trans Le.cellNew) (o1.mono Le.cellNew (o1.rel.cellNew (c := .lst (rngD 0 n.toNat)) hq ⟨q, _, rfl, upd_same, rp⟩)) (.r (as := []) (by rw [← o1.rel.len]; simp)) t1
    | false =>
      have hg := (o1.rel.new hq).1
      have l2 : Le G1 m1 (upd G1 q (.lst (rgV 0 n))) m1 := Le.know hg
      exact k _ _ _ m1 _ μ1 (l1.trans l2) (o1.mono l2 (o1.rel.know hq)) (.d (.lst upd_same (rp.mono l2.g))) t1
  · exact t1.elim
/-! abs, max, min, int -/
@[simp] def fI1 (g : Int → Int) : List D → (D → Prop) → Prop
  | [.int i], q => q (.int (g i))
  | _, _ => False
@[simp] def fI2 (g : Int → Int → Int) : List D → (D → Prop) → Prop
  | [.int i, .int j], q => q (.int (g i j))
  | _, _ => False
theorem on_I2 {g : Int → Int → Int} : OpN b (fun xs H Q => ∃ i j, xs = [.int i, .int j] ∧ Q (.int (g i j)) H) (fI2 g) := by
  intro G m μ H vs ds q Kq w n f k
  match ds, n, f with
  | [.int i, .int j], n, f =>
    obtain ⟨v, u, rfl, n1, n2⟩ := nows2 n
    cases n1
    cases n2
    exact ⟨i, j, rfl, give_old w (.int _) f k⟩
theorem on_I1 {g : Int → Int} : OpN b (fun xs H Q => ∃ i, xs = [.int i] ∧ Q (.int (g i)) H) (fI1 g) := by
  intro G m μ H vs ds q Kq w n f k
  match ds, n, f with
  | [.int i], n, f =>
    obtain ⟨v, rfl, n1⟩ := nows1 n
    cases n1
    exact ⟨i, rfl, give_old w (.int _) f k⟩
theorem de_abs (hm : X.mg "abs" = none) (ha : DA X b [e] ta) (hg : Gl X "abs") (he : starEach [e] X.env = [(false, eval e X.env)] := by rfl) (hpl : (backTo pos (starEach [] X.env)).any (·.1) = false := by rfl) : DE X b (.Call (.Name "abs" p) [e] [] pos) (dFn (fI1 fun i => if i < 0 then -i else i) ta) :=
  de_fn on_I1 ha fun pa => pe_callB call_abs hg hm (by decide +kernel) pa (he := he) (hpl := hpl)
theorem de_max2 {e2 : Expr} (hc : X.calm = true) (hm : X.mg "max" = none) (ha : DA X b [e, e2] ta) (hg : Gl X "max") (he : starEach [e, e2] X.env = (false, eval e X.env) :: starEach [e2] X.env := by rfl) (hpl : (backTo pos (starEach [e2] X.env)).any (·.1) = false := by rfl) :
    DE X b (.Call (.Name "max" p) [e, e2] [] pos) (dFn (fI2 fun i j => if j > i then j else i) ta) := de_fn on_I2 ha fun pa => pe_callB (call_max2 hc) hg hm (by decide +kernel) pa (he := he) (hpl := hpl)
theorem de_min2 {e2 : Expr} (hc : X.calm = true) (hm : X.mg "min" = none) (ha : DA X b [e, e2] ta) (hg : Gl X "min") (he : starEach [e, e2] X.env = (false, eval e X.env) :: starEach [e2] X.env := by rfl) (hpl : (backTo pos (starEach [e2] X.env)).any (·.1) = false := by rfl) :
    DE X b (.Call (.Name "min" p) [e, e2] [] pos) (dFn (fI2 fun i j => if j < i then j else i) ta) := de_fn on_I2 ha fun pa => pe_callB (call_min2 hc) hg hm (by decide +kernel) pa (he := he) (hpl := hpl)
@[simp] def fInt : List D → (D → Prop) → Prop
  | [.int i], q => q (.int i)
  | [.bl c], q => q (.int (if c then 1 else 0))
  | _, _ => False
theorem on_int : OpN b (fun xs H Q => (∃ i, xs = [.int i] ∧ Q (.int i) H) ∨ ∃ k, xs = [.bl k] ∧ Q (.int (if k then 1 else 0)) H) fInt := by
  intro G m μ H vs ds q Kq w n f k
  match ds, n, f with
  | [.int i], n, f =>
    obtain ⟨v, rfl, n1⟩ := nows1 n
    cases n1
    exact .inl ⟨i, rfl, give_old w (.int _) f k⟩
  | [.bl c], n, f =>
    obtain ⟨v, rfl, n1⟩ := nows1 n
    cases n1
    exact .inr ⟨c, rfl, give_old w (.int _) f k⟩
theorem de_int1 (hm : X.mg "int" = none) (ha : DA X b [e] ta) (hg : Gl X "int") (he : starEach [e] X.env = [(false, eval e X.env)] := by rfl) (hpl : (backTo pos (starEach [] X.env)).any (·.1) = false := by rfl) : DE X b (.Call (.Name "int" p) [e] [] pos) (dFn fInt ta) :=
  de_fn on_int ha fun pa => pe_callTy call_int1 hg hm (by decide +kernel) pa (he := he) (hpl := hpl)
/-! any, all of a list of truth values -/
def bls : List D → Option (List Bool)
  | [] => some []
  | .bl c :: ds => (bls ds).map (c :: ·)
  | _ => none
theorem bls_ok {cA : Nat → Addr} {G : Hp} : ∀ {ds : List D} {bs : List Bool} {xs : List V}, bls ds = some bs → Reps cA G xs ds → xs = bs.map V.bl
  | [], _, _, h, .nil => by cases h; rfl
  | d :: ds, bs, _, h, .cons r rs => by
    cases d with
    | bl c =>
      unfold bls at h
      cases e : bls ds with
      | none => rw [e] at h; cases h
      | some es => rw [e] at h; cases h; cases r; rw [bls_ok e rs]; rfl
    | _ => cases h
def fBl (g : List Bool → Bool) : List D → (D → Prop) → Prop
  | [.lst ds], q => match bls ds with
    | some bs => q (.bl (g bs))
    | none => False
  | _, _ => False
theorem on_bl {K : PySem.W.Frag} {g : List Bool → Bool} : OpN b (fun vs H Q => ∃ (a : Addr) (bs : List Bool), vs = [V.ref a] ∧ SqL K H a (bs.map V.bl) ∧ Q (.bl (g bs)) H) (fBl g) := by
  intro G m μ H vs ds q Kq w n f k
  match ds, n, f with
  | [.lst ds], n, f =>
    obtain ⟨v, rfl, a, xs, rfl, h, r⟩ := nows1 n
    simp only [fBl] at f
    split at f
    · rename_i bs e
      have hx := bls_ok e r
      subst hx
      exact ⟨a, bs, rfl, SqL.of h, give_old w (.bl _) f k⟩
    · exact f.elim
theorem de_any (hc : X.calm = true) (hm : X.mg "any" = none) (ha : DA X b [e] ta) (hg : Gl X "any") (he : starEach [e] X.env = [(false, eval e X.env)] := by rfl) (hpl : (backTo pos (starEach [] X.env)).any (·.1) = false := by rfl) : DE X b (.Call (.Name "any" p) [e] [] pos) (dFn (fBl fun bs => bs.any id) ta) :=
  de_fn on_bl ha fun pa => pe_callB (cr_any hc) hg hm (by decide +kernel) pa (he := he) (hpl := hpl)
theorem de_all (hc : X.calm = true) (hm : X.mg "all" = none) (ha : DA X b [e] ta) (hg : Gl X "all") (he : starEach [e] X.env = [(false, eval e X.env)] := by rfl) (hpl : (backTo pos (starEach [] X.env)).any (·.1) = false := by rfl) : DE X b (.Call (.Name "all" p) [e] [] pos) (dFn (fBl fun bs => bs.all id) ta) :=
  de_fn on_bl ha fun pa => pe_callB (cr_all hc) hg hm (by decide +kernel) pa (he := he) (hpl := hpl)
end
end DD
namespace DD
open PySem L2

/-! ### methods that change a list -/
def OpM (b : Bs) (r : V → List V → Hp → VK → Prop) (f : List D → List D → (List D → D → Prop) → Prop) : Prop :=
  ∀ {G H : Hp} {p : Addr} {us vs : List V} {ds es : List D} {q : List D → D → Prop} {K : VK}, H p = some (.lst us) → Reps b.cA G us ds → Reps b.cA G vs es → f ds es q →
    (∀ us' v' ds' z, Reps b.cA G us' ds' → Rep b.cA G v' z → q ds' z → K v' (upd H p (.lst us'))) → r (.ref p) vs H K
@[simp] def isLst (μ : M) (n : Nat) : Bool := match μ[n]? with
  | some (.lst _) => true
  | _ => false
@[simp] def dMut (f : List D → List D → (List D → D → Prop) → Prop) (to : DTE) (ta : DTA) (ρ : R) (μ : M) (Q : W → M → Prop) : Prop := to ρ μ fun w μ1 => match w with
  | .r n => isLst μ1 n = true ∧ ta ρ μ1 fun ws μ2 => match escs μ2 ws with
    | some (es, μ3) => match μ3[n]? with
      | some (.lst ds) => f ds es fun ds' z => Q (.d z) (μ3.set n (.lst ds'))
      | _ => False
    | none => False
  | _ => False
theorem isLst_at {b : Bs} {G H : Hp} {m : Wd} {μ : M} {n : Nat} {v : V} (o : WOk b G m μ H) (r : WRel b.cA G m v (.r n)) (h : isLst μ n = true) : ∃ p us, v = .ref p ∧ H p = some (.lst us) ∧ m[n]? = some [p] := by
  cases r with
  | @r _ p as e =>
  unfold isLst at h
  split at h
  · rename_i ds hc
    obtain ⟨p', xs, e1, e2, e3⟩ := o.rel.cell n _ _ hc e
    cases e1
    exact ⟨p, xs, rfl, e2, e⟩
  · cases h
theorem mut_core {b : Bs} {r : V → List V → Hp → VK → Prop} {f : List D → List D → (List D → D → Prop) → Prop} (hf : OpM b r f) {G H : Hp} {m : Wd} {μ2 : M} {n : Nat} {p : Addr} {vs : List V} {ws : List W} {Q : W → M → Prop} {K : VK} (o2 : WOk b G m μ2 H) (hp : m[n]? = some [p]) (r2 : WRels b.cA G m vs ws)
    (t : match escs μ2 ws with
      | some (es, μ3) => match μ3[n]? with
        | some (.lst ds) => f ds es fun ds' z => Q (.d z) (μ3.set n (.lst ds'))
        | _ => False
      | none => False)
    (k : ∀ v H' G' m' w μ', Le G m G' m' → WOk b G' m' μ' H' → WRel b.cA G' m' v w → Q w μ' → K v H') : r (.ref p) vs H K := by
  split at t
  · rename_i es μ3 e1
    obtain ⟨G3, l3, r3, rp⟩ := escs_ok o2.rel r2 e1
    split at t
    · rename_i ds hc
      obtain ⟨p', us, e2, e3, e4⟩ := r3.cell n _ _ hc hp
      cases e2
      refine hf e3 e4 rp t fun us' v' ds' z q1 q2 q3 => ?_
      exact k v' _ G3 m (.d z) _ l3 (o2.mono l3 (r3.write (c' := .lst ds') hc hp rfl (by simp) rfl ⟨p, us', rfl, upd_same, q1⟩)) (.d q2) q3
    · exact t.elim
  · exact t.elim
section
variable {X : Cx} {b : Bs} {pos apos : Pos} {o e : Expr} {es : List Expr} {to te : DTE} {ta : DTA} {name : Str}
theorem de_mut {r : V → List V → Hp → VK → Prop} {f : List D → List D → (List D → D → Prop) → Prop} (hf : OpM b r f) (ho : DE X b o to) (ha : DA X b (e :: es) ta)
    (hp : ∀ {to : TE} {ta : TA}, PE X o to → PA X (e :: es) ta → PE X (.Call (.Attribute o name apos) (e :: es) [] pos) (tBM X.K "list" r to ta)) : DE X b (.Call (.Attribute o name apos) (e :: es) [] pos) (dMut f to ta) := by
  obtain ⟨to', po, qo⟩ := ho.ex
  obtain ⟨ta', pa, qa⟩ := ha.ex
  refine ⟨_, hp po pa, fun {G m ρ μ σ H Q K} ok rr t k => ?_⟩
  refine qo ok rr t fun v H1 G1 m1 w μ1 l1 o1 r1 t1 => ?_
  split at t1
  · rename_i n
    obtain ⟨p, us, rfl, h1, h2⟩ := isLst_at o1 r1 t1.1
    refine ⟨.inl ⟨rfl, us, SqL.of h1⟩, ?_⟩
    refine qa o1 (rr.mono l1) t1.2 fun vs H2 G2 m2 ws μ2 l2 o2 r2 t2 => ?_
    exact mut_core hf o2 (l2.m _ _ h2) r2 t2 fun v H' G' m' w μ' l => k v H' G' m' w μ' (l1.trans (l2.trans l))
  · exact t1.elim
theorem de_mut0 {r : V → List V → Hp → VK → Prop} {f : List D → List D → (List D → D → Prop) → Prop} (hf : OpM b r f) (ho : DE X b o to)
    (hp : ∀ {to : TE}, PE X o to → PE X (.Call (.Attribute o name apos) [] [] pos) (tBM0 X.K "list" r to)) : DE X b (.Call (.Attribute o name apos) [] [] pos) (dMut f to dNil) := by
  obtain ⟨to', po, qo⟩ := ho.ex
  refine ⟨_, hp po, fun {G m ρ μ σ H Q K} ok rr t k => ?_⟩
  refine qo ok rr t fun v H1 G1 m1 w μ1 l1 o1 r1 t1 => ?_
  split at t1
  · rename_i n
    obtain ⟨p, us, rfl, h1, h2⟩ := isLst_at o1 r1 t1.1
    exact ⟨.inl ⟨rfl, us, SqL.of h1⟩, mut_core hf o1 h2 .nil t1.2 fun v H' G' m' w μ' l => k v H' G' m' w μ' (l1.trans l)⟩
  · exact t1.elim
@[simp] def mApp (ds es : List D) (q : List D → D → Prop) : Prop := match es with
  | [d] => ds.length < sizeLine ∧ q (ds ++ [d]) .non
  | _ => False
theorem om_app : OpM b rAppend mApp := by
  intro G H p us vs ds es q K h r1 r2 f k
  match es, r2, f with
  | [d], .cons r2 .nil, f => exact ⟨p, us, _, rfl, rfl, h, by rw [r1.len]; exact f.1, k _ _ _ _ (r1.app (.cons r2 .nil)) .non f.2⟩
def mPop (ds es : List D) (q : List D → D → Prop) : Prop := match es with
  | [] => match ds[ds.length - 1]? with
    | some d => q ds.dropLast d
    | none => False
  | [.int i] => (-(2 ^ 63) ≤ i ∧ i < 2 ^ 63) ∧ match seqIndex? i ds.length with
    | some k => match ds[k]? with
      | some d => q (ds.eraseIdx k) d
      | none => False
    | none => False
  | _ => False
theorem om_popAt : OpM b rPopAt (fun ds es q => match es with
    | [.int i] => mPop ds [.int i] q
    | _ => False) := by
  intro G H p us vs ds es q K h r1 r2 f k
  match es, r2, f with
  | [.int i], .cons r2 .nil, f =>
    cases r2
    obtain ⟨⟨h1, h2⟩, f⟩ := f
    split at f
    · rename_i n e
      split at f
      · rename_i d e2
        obtain ⟨v, e3, e4⟩ := r1.get' e2
        exact ⟨p, us, i, n, v, rfl, rfl, h, h1, h2, by rw [r1.len]; exact e, e3, k _ _ _ _ (r1.erase n) e4 f⟩
      · exact f.elim
    · exact f.elim
theorem reps_dropLast {cA : Nat → Addr} {G : Hp} {vs : List V} {ds : List D} (r : Reps cA G vs ds) : Reps cA G vs.dropLast ds.dropLast := by
  rw [List.dropLast_eq_take, List.dropLast_eq_take, r.len]
  exact r.take _
theorem om_pop : OpM b rPop (fun ds es q => match es with
    | [] => mPop ds [] q
    | _ => False) := by
  intro G H p us vs ds es q K h r1 r2 f k
  match es, r2, f with
  | [], .nil, f =>
    unfold mPop at f
    dsimp only at f
    split at f
    · rename_i d e
      obtain ⟨v, e3, e4⟩ := r1.get' e
      exact ⟨p, us, v, rfl, rfl, h, by rw [r1.len]; exact e3, k _ _ _ _ (reps_dropLast r1) e4 f⟩
    · exact f.elim
def mClear (ds es : List D) (q : List D → D → Prop) : Prop := match es with
  | [] => q [] .non
  | _ => False
theorem om_clear : OpM b rClear mClear := by
  intro G H p us vs ds es q K h r1 r2 f k
  match es, r2, f with
  | [], .nil, f => exact ⟨p, us, rfl, rfl, h, k _ _ _ _ .nil .non f⟩
theorem reps_rev {cA : Nat → Addr} {G : Hp} : ∀ {vs : List V} {ds : List D}, Reps cA G vs ds → Reps cA G vs.reverse ds.reverse
  | _, _, .nil => .nil
  | _, _, .cons r rs => by
    rw [List.reverse_cons, List.reverse_cons]
    exact (reps_rev rs).app (.cons r .nil)
@[simp] def mRev (ds es : List D) (q : List D → D → Prop) : Prop := match es with
  | [] => q ds.reverse .non
  | _ => False
theorem om_rev : OpM b rReverse mRev := by
  intro G H p us vs ds es q K h r1 r2 f k
  match es, r2, f with
  | [], .nil, f => exact ⟨p, us, rfl, rfl, h, k _ _ _ _ (reps_rev r1) .non f⟩
def mIns (ds es : List D) (q : List D → D → Prop) : Prop := match es with
  | [.int i, d] => ds.length < sizeLine ∧ (0 ≤ i ∧ i < 2 ^ 63) ∧ q (ds.take i.toNat ++ [d] ++ ds.drop i.toNat) .non
  | _ => False
theorem om_ins : OpM b (fun x vs H Q => ∃ (l : Addr) (xs : List V) (i : Int) (y : V), x = .ref l ∧ vs = [.int i, y] ∧ H l = some (.lst xs) ∧ xs.length < sizeLine ∧ 0 ≤ i ∧ i < 2 ^ 63 ∧
    Q .non (upd H l (.lst (xs.take i.toNat ++ [y] ++ xs.drop i.toNat)))) mIns := by
  intro G H p us vs ds es q K h r1 r2 f k
  match es, r2, f with
  | [.int i, d], .cons r2 (.cons r3 .nil), f =>
    cases r2
    exact ⟨p, us, i, _, rfl, rfl, h, by rw [r1.len]; exact f.1, f.2.1.1, f.2.1.2, k _ _ _ _ (((r1.take _).app (.cons r3 .nil)).app (r1.drop _)) .non f.2.2⟩
/-! ### l[i] = e on a mutable list -/
@[simp] def dgIx (to ti : DTE) (x : W) (ρ : R) (μ : M) (Q : R → M → Prop) : Prop := to ρ μ fun w μ1 => ti ρ μ1 fun i μ2 => match w, i with
  | .r n, .d (.int i) => match esc μ2 x with
    | some (d, μ3) => match μ3[n]? with
      | some (.lst ds) => match ixN ds.length i with
        | some j => Q ρ (μ3.set n (.lst (ds.set j d)))
        | none => False
      | _ => False
    | none => False
  | _, _ => False
theorem dg_ix {i : Expr} {ti : DTE} (ho : DE X b o to) (hi : DE X b i ti) (ha : ∀ v, assign (.Subscript o i pos) X.env v = (do
      let ov ← holding [v] (eval o X.env)
      let iv ← holding [v, ov] (eval i X.env)
      standAt pos
      holding [v, ov, iv] (setItem ov iv v)
      release [v, ov, iv] []) := by intro _; rfl) : DG X b (.Subscript o i pos) (dgIx to ti) := by
  obtain ⟨to', po, qo⟩ := ho.ex
  obtain ⟨ti', pi, qi⟩ := hi.ex
  refine ⟨_, pg_sub po pi set_list ha, fun {G m ρ μ σ H v x Q K} ok rr rx t k => ?_⟩
  refine qo ok rr t fun v1 H1 G1 m1 w μ1 l1 o1 r1 t1 => ?_
  refine qi o1 (rr.mono l1) t1 fun v2 H2 G2 m2 z μ2 l2 o2 r2 t2 => ?_
  split at t2
  · rename_i n j
    split at t2
    · rename_i d μ3 e1
      obtain ⟨G3, l3, r3, rp⟩ := esc_ok o2.rel ((rx.mono l1).mono l2) e1
      split at t2
      · rename_i ds hc
        split at t2
        · rename_i jj e4
          cases r1 with
          | @r _ p as e =>
          have hm := l2.m _ _ e
          obtain ⟨p', us, e5, e6, e7⟩ := r3.cell n _ _ hc hm
          cases e5
          refine ⟨p, us, j, jj, rfl, isInt r2, e6, by rw [e7.len]; exact e4, ?_⟩
          have lf := l1.trans (l2.trans l3)
          exact k σ _ G3 m2 ρ _ lf (o2.mono l3 (r3.write (c' := .lst (ds.set jj d)) hc hm rfl (by simp) rfl ⟨p, _, rfl, upd_same, e7.set rp jj⟩)) (rr.mono lf) t2
        · exact t2.elim
      · exact t2.elim
    · exact t2.elim
  · exact t2.elim
end
end DD
namespace DD
open PySem L2

def Bs.q (b : Bs) : Bs := { b with xc := fun _ _ => False }
theorem WOk.q {b : Bs} {G : Hp} {m : Wd} {μ : M} {H : Hp} (o : WOk b G m μ H) : WOk b.q G m μ H := ⟨o.le, o.rel⟩
theorem WOk.unq {b : Bs} {G : Hp} {m : Wd} {μ : M} {H : Hp} (o : WOk b.q G m μ H) : WOk b G m μ H := ⟨o.le, o.rel⟩
theorem xok_q {X : Cx} {b : Bs} : XOk X b.q := by
  intro pins σ H s e s' I c
  obtain ⟨_, _, _, cls, d, _, _, _, _, _, _, _, z⟩ := c
  obtain ⟨_, _, _, _, _, _, _, f⟩ := z
  exact f.elim
/-! ### one reading for all contexts of a family -/
def can (X : Cx) (e : Expr) : TE := fun σ H Q => ∀ (pins : List (Addr × Obj)) (s : Shared), Inv X pins σ H s → wpAny (model X.prog X.w) X.A (eval e X.env) (EP X pins σ Q) X.xe s
theorem uni_e {F : Cx → Prop} {b : Bs} {e : Expr} {t : DTE} (h : ∀ X, F X → DE X b e t) : ∃ te : TE, (∀ X, F X → PE X e te) ∧ ∀ {G : Hp} {m : Wd} {ρ : R} {μ : M} {σ : L2.St} {H : Hp} {Q : W → M → Prop} {K : VK}, WOk b G m μ H → RelR b.cA G m σ ρ → t ρ μ Q →
    (∀ v H' G' m' w μ', Le G m G' m' → WOk b G' m' μ' H' → WRel b.cA G' m' v w → Q w μ' → K v H') → te σ H K := by
  refine ⟨fun σ H Q => ∀ X, F X → can X e σ H Q, fun X hX => ⟨fun pins s σ H Q I q => q X hX pins s I⟩, fun {G m ρ μ σ H Q K} o r t' k X hX pins s I => ?_⟩
  obtain ⟨te, p, q⟩ := (h X hX).ex
  exact p.run pins s σ H K I (q o r t' k)
structure DTs (X : Cx) (b : Bs) (ifs : List Expr) (t : DTT) : Prop where
  ex : ∃ te : TT, PTs X ifs te ∧ ∀ {G : Hp} {m : Wd} {ρ : R} {μ : M} {σ : L2.St} {H : Hp} {Q : Bool → M → Prop} {K : Bool → Hp → Prop}, WOk b G m μ H → RelR b.cA G m σ ρ → t ρ μ Q →
    (∀ c H' G' m' μ', Le G m G' m' → WOk b G' m' μ' H' → Q c μ' → K c H') → te σ H K
@[simp] def dYes (_ρ : R) (μ : M) (Q : Bool → M → Prop) : Prop := Q true μ
theorem dts_nil {X : Cx} {b : Bs} : DTs X b [] dYes := ⟨_, pts_nil, fun {G m ρ μ σ H Q K} o r t k => k true H G m μ (Le.refl G m) o t⟩
theorem dts_one {X : Cx} {b : Bs} {c : Expr} {t : DTT} (h : DT X b c t) : DTs X b [c] t := by
  obtain ⟨t', p, q⟩ := h.ex
  exact ⟨_, pts_one p, q⟩
theorem uni_t {F : Cx → Prop} {b : Bs} {ifs : List Expr} {t : DTT} (h : ∀ X, F X → DTs X b ifs t) : ∃ te : TT, (∀ X, F X → PTs X ifs te) ∧ ∀ {G : Hp} {m : Wd} {ρ : R} {μ : M} {σ : L2.St} {H : Hp} {Q : Bool → M → Prop} {K : Bool → Hp → Prop}, WOk b G m μ H → RelR b.cA G m σ ρ → t ρ μ Q →
    (∀ c H' G' m' μ', Le G m G' m' → WOk b G' m' μ' H' → Q c μ' → K c H') → te σ H K := by
  refine ⟨fun σ H Q => ∀ X, F X → ∀ (pins : List (Addr × Obj)) (s : Shared), Inv X pins σ H s →
    wpAny (model X.prog X.w) X.A (forIn ifs true fun c r => if r = true then do let ok ← isTrue c X.env (eval c X.env); pure (ForInStep.yield ok) else pure (ForInStep.yield r)) (TP X pins σ Q) X.xe s, fun X hX => ⟨fun pins s σ H Q I q => q X hX pins s I⟩, fun {G m ρ μ σ H Q K} o r t' k X hX pins s I => ?_⟩
  obtain ⟨te, p, q⟩ := (h X hX).ex
  exact p.run pins s σ H K I (q o r t' k)
/-! ### targets that store the block's own names only -/
def wipeR (ρ : R) : List Nat → R
  | [] => ρ
  | v :: vs => (wipeR ρ vs).set v none
theorem RelR.wipe {cA : Nat → Addr} {G : Hp} {m : Wd} {σ : L2.St} {ρ : R} (r : RelR cA G m σ ρ) : ∀ vs : List Nat, RelR cA G m (L2.wipe σ vs) (wipeR ρ vs)
  | [] => r
  | v :: vs => by
    have ih := r.wipe vs
    unfold L2.wipe wipeR
    refine ⟨by simp [ih.1], fun i w h => ?_⟩
    by_cases e : v = i
    · subst e
      have hl : v < (wipeR ρ vs).length := by
        have := (List.getElem?_eq_some_iff.mp h).1
        simpa using this
      rw [List.getElem?_set_self hl] at h
      cases h
    · rw [List.getElem?_set_ne e] at h ⊢
      exact ih.2 i w h
theorem wipe_set {σ : L2.St} {i : Nat} {x : Option V} : ∀ {vs : List Nat}, i ∈ vs → L2.wipe (σ.set i x) vs = L2.wipe σ vs
  | v :: vs, h => by
    unfold L2.wipe
    by_cases e : i ∈ vs
    · rw [wipe_set e]
    · have hv : i = v := (List.mem_cons.mp h).resolve_right e
      subst hv
      have key : ∀ {vs : List Nat} (τ : L2.St), i ∉ vs → L2.wipe (τ.set i x) vs = (L2.wipe τ vs).set i x := fun {vs} τ => by
        induction vs with
        | nil => intro _; rfl
        | cons a as ih =>
          intro hn
          unfold L2.wipe
          rw [ih (fun z => hn (List.mem_cons_of_mem _ z)), List.set_comm]
          intro q
          exact hn (by rw [q]; exact List.mem_cons_self)
      rw [key σ e, List.set_set]
theorem wipe_wipe {σ : L2.St} (vs : List Nat) : L2.wipe (L2.wipe σ vs) vs = L2.wipe σ vs := by
  apply List.ext_getElem?
  intro i
  by_cases h : i ∈ vs
  · have key : ∀ (τ τ' : L2.St), τ.length = τ'.length → ∀ vs : List Nat, i ∈ vs → (L2.wipe τ vs)[i]? = (L2.wipe τ' vs)[i]? := fun τ τ' hl vs => by
      induction vs with
      | nil => intro z; cases z
      | cons a as ih =>
        intro hm
        unfold L2.wipe
        by_cases q : a = i
        · subst q
          by_cases ha : a < τ.length
          · rw [List.getElem?_set_self (by rw [wipe_length]; exact ha), List.getElem?_set_self (by rw [wipe_length, ← hl]; exact ha)]
          · rw [List.getElem?_eq_none (by simp [wipe_length]; omega), List.getElem?_eq_none (by simp [wipe_length]; omega)]
        · rw [List.getElem?_set_ne q, List.getElem?_set_ne q]
          exact ih ((List.mem_cons.mp hm).resolve_left (Ne.symm q))
    exact key _ _ (wipe_length σ vs) vs h
  · exact wipe_out h
structure DGo (X : Cx) (b : Bs) (vs : List Nat) (tg : Expr) (t : DTG) : Prop where
  ex : ∃ g : TG, PG X tg g ∧ ∀ {G : Hp} {m : Wd} {ρ : R} {μ : M} {σ : L2.St} {H : Hp} {v : V} {w : W} {Q : R → M → Prop} {K : L2.St → Hp → Prop}, WOk b G m μ H → RelR b.cA G m σ ρ → WRel b.cA G m v w → t w ρ μ Q →
    (∀ σ' H' G' m' ρ' μ', Le G m G' m' → WOk b G' m' μ' H' → RelR b.cA G' m' σ' ρ' → L2.wipe σ' vs = L2.wipe σ vs → Q ρ' μ' → K σ' H') → g v σ H K
structure DGos (X : Cx) (b : Bs) (vs : List Nat) (tgs : List Expr) (t : List D → R → M → (R → M → Prop) → Prop) : Prop where
  ex : ∃ g : TGs, PGs X tgs g ∧ ∀ {G : Hp} {m : Wd} {ρ : R} {μ : M} {σ : L2.St} {H : Hp} {us : List V} {ds : List D} {Q : R → M → Prop} {K : L2.St → Hp → Prop}, WOk b G m μ H → RelR b.cA G m σ ρ → Reps b.cA G us ds → t ds ρ μ Q →
    (∀ σ' H' G' m' ρ' μ', Le G m G' m' → WOk b G' m' μ' H' → RelR b.cA G' m' σ' ρ' → L2.wipe σ' vs = L2.wipe σ vs → Q ρ' μ' → K σ' H') → g us σ H K
section
variable {X : Cx} {b : Bs} {pos : Pos} {vs : List Nat} {e : Expr}
theorem dgo_name {i : Nat} {x : Str} (h : PG X (.Name x pos) (gName i)) (hi : i ∈ vs) : DGo X b vs (.Name x pos) (gN i) :=
  ⟨_, h, fun {G m ρ μ σ H v w Q K} o r q t k => k _ H G m _ μ (Le.refl G m) o (r.set q i) (wipe_set hi) t⟩
theorem dgos_nil : DGos X b vs [] gsNil := by
  refine ⟨_, pgs_nil, fun {G m ρ μ σ H us ds Q K} o r q t k => ?_⟩
  cases q with
  | nil => exact ⟨rfl, k σ H G m ρ μ (Le.refl G m) o r rfl t⟩
  | cons _ _ => exact t.elim
theorem dgos_cons {es : List Expr} {t : DTG} {u : List D → R → M → (R → M → Prop) → Prop} (h1 : DGo X b vs e t) (h2 : DGos X b vs es u) (hs : (assignEach (e :: es) X.env).map (·.2) = assign e X.env :: (assignEach es X.env).map (·.2) := by rfl) : DGos X b vs (e :: es) (gsCons t u) := by
  obtain ⟨g, p, q⟩ := h1.ex
  obtain ⟨gs, ps, qs⟩ := h2.ex
  refine ⟨_, pgs_cons p ps hs, fun {G m ρ μ σ H us ds Q K} o r rr t k => ?_⟩
  cases rr with
  | nil => exact t.elim
  | cons r1 rs => exact ⟨_, _, rfl, q o r (.d r1) t fun σ' H' G' m' ρ' μ' l o' r' z t' => qs o' r' (rs.mono l.g) t' fun σ2 H2 G2 m2 ρ2 μ2 l2 o2 r2 z2 t2 => k σ2 H2 G2 m2 ρ2 μ2 (l.trans l2) o2 r2 (z2.trans z) t2⟩
theorem dgo_tup {es : List Expr} {j n : Nat} {t : List D → R → M → (R → M → Prop) → Prop} (hc : X.calm = true) (h : DGos X b vs es t) (hn : (assignEach es X.env).length = n := by rfl) (hst : (assignEach es X.env).findIdx? (·.1) = none := by rfl) : DGo X b vs (.Tuple es j pos) (gTp n t) := by
  obtain ⟨gs, ps, qs⟩ := h.ex
  refine ⟨_, pg_tup hc ps hn hst, fun {G m ρ μ σ H v w Q K} o r q t k => ?_⟩
  unfold gTp at t
  split at t
  · rename_i ds
    cases q with
    | d q =>
      obtain ⟨p, xs, rfl, h1, r1⟩ := q.now o.rel.gh
      exact ⟨p, xs, rfl, SqT.of h1, by rw [r1.len]; exact t.1, qs o r r1 t.2 k⟩
  · exact t.elim
end
theorem uni_g {F : Cx → Prop} {b : Bs} {vs : List Nat} {tg : Expr} {t : DTG} (h : ∀ X, F X → DGo X b vs tg t) : ∃ g : TG, (∀ X, F X → PG X tg g) ∧ ∀ {G : Hp} {m : Wd} {ρ : R} {μ : M} {σ : L2.St} {H : Hp} {v : V} {w : W} {Q : R → M → Prop} {K : L2.St → Hp → Prop}, WOk b G m μ H → RelR b.cA G m σ ρ → WRel b.cA G m v w → t w ρ μ Q →
    (∀ σ' H' G' m' ρ' μ', Le G m G' m' → WOk b G' m' μ' H' → RelR b.cA G' m' σ' ρ' → L2.wipe σ' vs = L2.wipe σ vs → Q ρ' μ' → K σ' H') → g v σ H K := by
  refine ⟨fun v σ H Q => ∀ X, F X → ∀ (pins : List (Addr × Obj)) (s : Shared) (u : Value), Inv X pins σ H s → RelV v u → wpAny (model X.prog X.w) X.A (assign tg X.env u) (fun _ s' => ∃ σ' H', Inv X pins σ' H' s' ∧ Q σ' H') X.xe s,
    fun X hX => ⟨fun pins s σ H v u Q I rv q => q X hX pins s u I rv⟩, fun {G m ρ μ σ H v w Q K} o r q t' k X hX pins s u I rv => ?_⟩
  obtain ⟨g, p, q'⟩ := (h X hX).ex
  exact p.run pins s σ H v u K I rv (q' o r q t' k)

/-! ### a last cell that goes -/
theorem rel_last {cA : Nat → Addr} {U G H : Hp} {m : Wd} {μ : M} (r : RelM cA U G m μ H) (h : closedB (μ.length - 1) μ.dropLast = true) : RelM cA U G m.dropLast μ.dropLast H := by
  have e1 : μ.dropLast = μ.take (μ.length - 1) := List.dropLast_eq_take
  have e2 : m.dropLast = m.take (μ.length - 1) := by rw [List.dropLast_eq_take, r.len]
  rw [e1] at h ⊢
  rw [e2]
  exact rel_take r h
theorem closed_of {cA : Nat → Addr} {U G H : Hp} {m : Wd} {μ : M} (r : RelM cA U G m μ H) : closedB μ.length μ = true := by
  refine List.all_eq_true.mpr fun c hc => ?_
  obtain ⟨i, hi, rfl⟩ := List.getElem_of_mem hc
  have k := r.cell i μ[i] (m[i]'(by rw [r.len]; exact hi)) (List.getElem?_eq_getElem hi) (List.getElem?_eq_getElem _)
  generalize μ[i] = c at k
  cases c with
  | ins c fs ws =>
    obtain ⟨p, dx, xs, _, _, _, q⟩ := k
    refine List.all_eq_true.mpr fun w hw => ?_
    obtain ⟨j, hj, rfl⟩ := List.getElem_of_mem hw
    obtain ⟨v, _, rv⟩ := q.get' (List.getElem?_eq_getElem hj)
    generalize ws[j] = w at rv
    cases rv with
    | d _ => rfl
    | r e => exact decide_eq_true (by rw [← r.len]; exact (List.getElem?_eq_some_iff.mp e).1)
  | lstW ws =>
    obtain ⟨p, xs, _, _, q⟩ := k
    refine List.all_eq_true.mpr fun w hw => ?_
    obtain ⟨j, hj, rfl⟩ := List.getElem_of_mem hw
    obtain ⟨v, _, rv⟩ := q.get' (List.getElem?_eq_getElem hj)
    generalize ws[j] = w at rv
    cases rv with
    | d _ => rfl
    | r e => exact decide_eq_true (by rw [← r.len]; exact (List.getElem?_eq_some_iff.mp e).1)
  | _ => rfl
/-! ### list comprehensions -/
def closeL (n : Nat) (acc : List D) (μ : M) : Prop := μ.length = n + 1 ∧ μ.getLast? = some (.lst acc) ∧ closedB n μ.dropLast = true
def dLc (mu : Bool) (ti : DTI) (g : DTG) (tt : DTT) (te : DTE) (vs : List Nat) (ρ : R) (μ : M) (Q : W → M → Prop) : Prop := ti ρ μ fun s μ1 => ∃ P : Nat → List D → M → Prop, P 0 [] μ1 ∧
  (∀ i acc μ', i ≤ s.items.length → P i acc μ' → s.ok (μ' ++ [.lst acc])) ∧
  (∀ i w acc μ', s.items[i]? = some w → P i acc μ' → acc.length < sizeLine ∧ g w (wipeR ρ vs) (μ' ++ [.lst acc]) fun ρ2 μ2 => tt ρ2 μ2 fun c μ3 =>
    if c = true then te ρ2 μ3 fun w μ4 => match esc μ4 w with
      | some (d', μ5) => closeL μ'.length acc μ5 ∧ P (i + 1) (acc ++ [d']) μ5.dropLast
      | none => False
    else closeL μ'.length acc μ3 ∧ P (i + 1) acc μ3.dropLast) ∧
  ∀ acc μ', P s.items.length acc μ' → if mu then Q (.r μ'.length) (μ' ++ [.lst acc]) else Q (.d (.lst acc)) μ'
theorem dropLast_app {α : Type} (l : List α) (a : α) : (l ++ [a]).dropLast = l := by simp
theorem last_app {α : Type} {l : List α} {a : α} (h : l.getLast? = some a) : l.dropLast ++ [a] = l := by
  rw [List.getLast?_eq_some_iff] at h
  obtain ⟨ys, rfl⟩ := h
  simp
theorem lc_coreD {X : Cx} {b : Bs} {wi : TI} {g : TG} {tt : TT} {te : TE} {ti : DTI} {dg : DTG} {dt : DTT} {de : DTE} {vs : List Nat} {mu : Bool}
    (qi : ∀ {G : Hp} {m : Wd} {ρ : R} {μ : M} {σ : L2.St} {H : Hp} {Q : Src → M → Prop} {K : It → Hp → Prop}, WOk b G m μ H → RelR b.cA G m σ ρ → ti ρ μ Q → (∀ J H' G' m' s μ', Le G m G' m' → WOk b G' m' μ' H' → SrcOk b G' m' s J → Q s μ' → K J H') → wi σ H K)
    (qg : ∀ {G : Hp} {m : Wd} {ρ : R} {μ : M} {σ : L2.St} {H : Hp} {v : V} {w : W} {Q : R → M → Prop} {K : L2.St → Hp → Prop}, WOk b.q G m μ H → RelR b.q.cA G m σ ρ → WRel b.q.cA G m v w → dg w ρ μ Q →
      (∀ σ' H' G' m' ρ' μ', Le G m G' m' → WOk b.q G' m' μ' H' → RelR b.q.cA G' m' σ' ρ' → L2.wipe σ' vs = L2.wipe σ vs → Q ρ' μ' → K σ' H') → g v σ H K)
    (qt : ∀ {G : Hp} {m : Wd} {ρ : R} {μ : M} {σ : L2.St} {H : Hp} {Q : Bool → M → Prop} {K : Bool → Hp → Prop}, WOk b.q G m μ H → RelR b.q.cA G m σ ρ → dt ρ μ Q → (∀ c H' G' m' μ', Le G m G' m' → WOk b.q G' m' μ' H' → Q c μ' → K c H') → tt σ H K)
    (qe : ∀ {G : Hp} {m : Wd} {ρ : R} {μ : M} {σ : L2.St} {H : Hp} {Q : W → M → Prop} {K : VK}, WOk b.q G m μ H → RelR b.q.cA G m σ ρ → de ρ μ Q → (∀ v H' G' m' w μ', Le G m G' m' → WOk b.q G' m' μ' H' → WRel b.q.cA G' m' v w → Q w μ' → K v H') → te σ H K)
    {G : Hp} {m : Wd} {ρ : R} {μ : M} {σ : L2.St} {H : Hp} {Q : W → M → Prop} {K : VK} (o : WOk b G m μ H) (r : RelR b.cA G m σ ρ) (t : dLc mu ti dg dt de vs ρ μ Q)
    (k : ∀ v H' G' m' w μ', Le G m G' m' → WOk b G' m' μ' H' → WRel b.cA G' m' v w → Q w μ' → K v H') : tLc wi g tt te vs σ H K := by
  refine qi o r t fun J H1 G1 m1 s μ1 l1 o1 so ⟨P, h0, hok, hstep, hend⟩ D hD => ?_
  -- the new list is the last cell
  refine ⟨fun i n H => n = s.items.length - i ∧ i ≤ s.items.length ∧ ∃ acc G' m' μ', Le G1 m1 G' m' ∧ WOk b G' (m' ++ [[D]]) (μ' ++ [.lst acc]) H ∧ m'.length = μ'.length ∧ closedB μ'.length μ' = true ∧ P i acc μ', ⟨s.items.length, by simp, Nat.zero_le _, [], G1, m1, μ1, Le.refl _ _, ?_, o1.rel.len, closed_of o1.rel, h0⟩, ?_⟩
  · exact o1.mono Le.cellNew (o1.rel.cellNew (c := .lst []) hD ⟨D, [], rfl, upd_same, .nil⟩)
  rintro i n H2 ⟨rfl, hi, acc, G2, m2, μ2, l2, o2, hl, hcl, hP⟩
  have lx : Le G1 m1 G2 (m2 ++ [[D]]) := l2.trans Le.cellNew
  have ok2 := hok i acc μ2 hi hP
  by_cases hlt : i < s.items.length
  · refine .inr ⟨so.go lx o2 ok2 hlt, fun H' => ∃ acc G' m' μ', Le G1 m1 G' m' ∧ WOk b G' (m' ++ [[D]]) (μ' ++ [.lst acc]) H' ∧ m'.length = μ'.length ∧ closedB μ'.length μ' = true ∧ P (i + 1) acc μ', fun H' z => ⟨_, by omega, rfl, hlt, z⟩, fun x H3 y => ?_⟩
    obtain ⟨G3, d, l3, o3, e3, r3⟩ := so.yld lx o2 ok2 y hlt
    obtain ⟨hz, st⟩ := hstep i d acc μ2 e3 hP
    have r2 : RelR b.cA G3 (m2 ++ [[D]]) (L2.wipe σ vs) (wipeR ρ vs) := (((r.mono l1).mono lx).mono l3).wipe vs
    -- behind the element: the list is still the last cell
    have back : ∀ {G5 : Hp} {m5 : Wd} {μ5 : M} {H5 : Hp}, Le G3 (m2 ++ [[D]]) G5 m5 → RelM b.cA b.U G5 m5 μ5 H5 → closeL μ2.length acc μ5 → Le G1 m1 G5 m5.dropLast ∧ m5 = m5.dropLast ++ [[D]] ∧ μ5 = μ5.dropLast ++ [.lst acc] ∧ m5.dropLast.length = μ5.dropLast.length ∧ closedB μ5.dropLast.length μ5.dropLast = true := fun {G5 m5 μ5 H5} l5 o5 ⟨c0, c1, c2⟩ => by
      have hm5 : m5.length = m2.length + 1 := by rw [o5.len, c0, hl]
      have hD5 : m5[m2.length]? = some [D] := l5.m _ _ (by simp)
      have e5 : m5.dropLast ++ [[D]] = m5 := by
        apply last_app
        rw [List.getLast?_eq_getElem?, hm5]
        exact hD5
      refine ⟨⟨l2.g.trans (l3.g.trans l5.g), fun j as e => ?_⟩, e5.symm, (last_app c1).symm, by simp [o5.len], by rw [List.length_dropLast, c0]; exact c2⟩
      have h1 := l2.m j as e
      have h2 := l5.m j as (by rw [List.getElem?_append_left (List.getElem?_eq_some_iff.mp h1).1]; exact h1)
      have hj := (List.getElem?_eq_some_iff.mp h1).1
      rw [← e5, List.getElem?_append_left (by rw [List.length_dropLast, hm5]; omega)] at h2
      exact h2
    have wipe2 : L2.wipe (L2.wipe σ vs) vs = L2.wipe σ vs := wipe_wipe vs
    refine qg (v := x) (w := d) o3.q r2 r3 st fun σ4 H4 G4 m4 ρ4 μ4 l4 o4 r4 z4 t4 => ⟨z4.trans wipe2, ?_⟩
    refine qt o4 r4 t4 fun c H5 G5 m5 μ5 l5 o5 t5 => ?_
    cases c with
    | false =>
      obtain ⟨c5, h5⟩ := t5
      obtain ⟨b1, b2, b3, b4, b5⟩ := back (l4.trans l5) o5.rel c5
      exact ⟨acc, G5, m5.dropLast, μ5.dropLast, b1, by rw [← b2, ← b3]; exact o5.unq, b4, b5, h5⟩
    | true =>
      refine qe o5 (r4.mono l5) t5 fun y H6 G6 m6 w6 μ6 l6 o6 r6 t6 => ?_
      split at t6
      · rename_i d' μ7 e7
        obtain ⟨G7, l7, r7, p7⟩ := esc_ok o6.rel r6 e7
        obtain ⟨c7, h7⟩ := t6
        have lf : Le G3 (m2 ++ [[D]]) G7 m6 := l4.trans (l5.trans (l6.trans l7))
        obtain ⟨b1, b2, b3, b4, b5⟩ := back lf r7 c7
        have hn : m6[μ7.dropLast.length]? = some [D] := by
          rw [b2, ← b4]
          simp
        have hc : μ7[μ7.dropLast.length]? = some (.lst acc) := by
          rw [b3]
          simp
        obtain ⟨p', xs, e8, e9, e10⟩ := r7.cell _ _ _ hc hn
        cases e8
        refine ⟨xs, e9, by rw [e10.len]; exact hz, acc ++ [d'], G7, m6.dropLast, μ7.dropLast, b1, ?_, b4, b5, h7⟩
        have rw7 := r7.write (p := D) (o := .lst (xs ++ [y])) (c' := .lst (acc ++ [d'])) hc hn rfl (by simp) rfl ⟨D, _, rfl, upd_same, e10.app (.cons p7 .nil)⟩
        have e11 : μ7.set μ7.dropLast.length (.lst (acc ++ [d'])) = μ7.dropLast ++ [.lst (acc ++ [d'])] := by
          have e12 : ∀ (l : M) (x y : Cell), (l ++ [x]).set l.length y = l ++ [y] := fun l x y => by simp
          have e13 := e12 μ7.dropLast (.lst acc) (.lst (acc ++ [d']))
          rw [← b3] at e13
          exact e13
        rw [e11] at rw7
        rw [← b2]
        have le : Le b.G0 b.m0 G7 m6 := (o3.le.trans lf)
        exact ⟨le, rw7⟩
      · exact t6.elim
  · have e : i = s.items.length := by omega
    subst e
    refine .inl ⟨so.stop lx o2 ok2, ?_⟩
    have he := hend acc μ2 hP
    have hn : (m2 ++ [[D]])[μ2.length]? = some [D] := by rw [← hl]; simp
    have hc : (μ2 ++ [Cell.lst acc])[μ2.length]? = some (.lst acc) := by simp
    obtain ⟨p', xs, e8, e9, e10⟩ := o2.rel.cell _ _ _ hc hn
    cases e8
    cases mu with
    | true =>
      have he : Q (.r μ2.length) (μ2 ++ [.lst acc]) := he
      exact k _ H2 G2 (m2 ++ [[D]]) (.r μ2.length) (μ2 ++ [.lst acc]) (l1.trans lx) o2 (.r (as := []) hn) he
    | false =>
    have he : Q (.d (.lst acc)) μ2 := he
    have hg := (o2.rel.free _ _ _ D hc hn rfl (by simp)).1
    have rp : Rep b.cA (upd G2 D (.lst xs)) (.ref D) (.lst acc) := .lst upd_same (e10.mono (Le.know (m := m2) hg).g)
    have rz := o2.rel.freeze hc hn rfl e9 rp
    have e1 : ((μ2 ++ [Cell.lst acc]).set μ2.length (.frz (.lst acc))) = μ2 ++ [.frz (.lst acc)] := by simp
    rw [e1] at rz
    have rl := rel_last rz (by simpa using hcl)
    rw [dropLast_app, dropLast_app] at rl
    have lk : Le G2 m2 (upd G2 D (.lst xs)) m2 := Le.know hg
    have le : Le b.G0 b.m0 G1 m1 := o1.le
    exact k _ H2 _ m2 _ μ2 (l1.trans (l2.trans lk)) ⟨le.trans (l2.trans lk), rl⟩ (.d rp) he
/-- the contexts of a block's element -/
def Blk (X : Cx) (scope : Scope) (X' : Cx) : Prop := ∃ (s : Shared) (H : Hp) (C : Addr) (cl : List (Str × Addr)) (fp : List Addr), X' = X.blk s H scope (compEnvC scope cl C X.env) fp
section
variable {X : Cx} {b : Bs} {elt tg iter : Expr} {ifs : List Expr} {scope : Scope} {own : List (Str × Nat)} {pos : Pos} {ti : DTI} {g : DTG} {tt : DTT} {te : DTE}
theorem de_lc (mu : Bool) (hc : X.calm = true) (hN : X.N.Nodup) (hi : DI X b tg iter ti) (ok : BlkOk X.N X.env.scope scope own) (hg : ∀ X', Blk X scope X' → DGo X' b.q (own.map (·.2)) tg g) (ht : ∀ X', Blk X scope X' → DTs X' b.q ifs tt) (he : ∀ X', Blk X scope X' → DE X' b.q elt te)
    (hs : ∀ x, foldedSetIterable iter X.env x = pure x := by intro _; rfl) : DE X b (.ListComp elt [⟨tg, iter, ifs, 0⟩] scope pos) (dLc mu ti g tt te (own.map (·.2))) := by
  obtain ⟨wi, p1, q1⟩ := hi.ex
  obtain ⟨g', p2, q2⟩ := uni_g hg
  obtain ⟨t', p3, q3⟩ := uni_t ht
  obtain ⟨e', p4, q4⟩ := uni_e he
  refine ⟨_, pe_lc hc hN p1 ok (fun s H C cl fp => p2 _ ⟨s, H, C, cl, fp, rfl⟩) (fun s H C cl fp => p3 _ ⟨s, H, C, cl, fp, rfl⟩) (fun s H C cl fp => p4 _ ⟨s, H, C, cl, fp, rfl⟩) hs, fun {G m ρ μ σ H Q K} o r t k => ?_⟩
  exact lc_coreD (X := X) q1 q2 q3 q4 o r t k
/-- name = [..] on one line -/
theorem ds_setLc (mu : Bool) {i : Nat} {y : Str} {py spos : Pos} (hc : X.calm = true) (hN : X.N.Nodup) (hy : X.N[i]? = some y) (hyl : X.env.scope.names.lookup y = some .local) (hsw : swapsWith (.ListComp elt [⟨tg, iter, ifs, 0⟩] scope pos) (some (.Name y py)) spos.line X.env = pure true)
    (hi : DI X b tg iter ti) (ok : BlkOk X.N X.env.scope scope own) (hg : ∀ X', Blk X scope X' → DGo X' b.q (own.map (·.2)) tg g) (ht : ∀ X', Blk X scope X' → DTs X' b.q ifs tt) (he : ∀ X', Blk X scope X' → DE X' b.q elt te)
    (hs : ∀ x, foldedSetIterable iter X.env x = pure x := by intro _; rfl) : DS X b (.Assign [.Name y py] (.ListComp elt [⟨tg, iter, ifs, 0⟩] scope pos) spos) (dAsg (dLc mu ti g tt te (own.map (·.2))) (gN i)) := by
  obtain ⟨wi, p1, q1⟩ := hi.ex
  obtain ⟨g', p2, q2⟩ := uni_g hg
  obtain ⟨t', p3, q3⟩ := uni_t ht
  obtain ⟨e', p4, q4⟩ := uni_e he
  refine ⟨_, ps_setLc hc hN hy hyl hsw p1 ok (fun s H C cl fp => p2 _ ⟨s, H, C, cl, fp, rfl⟩) (fun s H C cl fp => p3 _ ⟨s, H, C, cl, fp, rfl⟩) (fun s H C cl fp => p4 _ ⟨s, H, C, cl, fp, rfl⟩) hs, fun {G m ρ μ σ H D E} o r t k => ?_⟩
  exact lc_coreD (X := X) q1 q2 q3 q4 o r t fun v H' G' m' w μ' l o' r' t' => k.nx _ H' G' m' _ μ' l o' ((r.mono l).set r' i) t'
end
end DD
namespace DD
open PySem L2

/-! ### an attribute is stored -/
@[simp] def putN (f : Str) : List Str → List Str
  | [] => [f]
  | g :: fs => if g = f then g :: fs else g :: putN f fs
@[simp] def putA {α : Type} (f : Str) (w : α) : List Str → List α → List α
  | g :: fs, x :: ws => if g = f then w :: ws else x :: putA f w fs ws
  | _, _ => [w]
theorem putF_zip (f : Str) (y : V) : ∀ (fs : List Str) (xs : List V), fs.length = xs.length → putF f y (fs.zip xs) = (putN f fs).zip (putA f y fs xs) ∧ (putN f fs).length = (putA f y fs xs).length
  | [], [], _ => ⟨rfl, rfl⟩
  | g :: fs, x :: xs, h => by
    obtain ⟨i1, i2⟩ := putF_zip f y fs xs (by simpa using h)
    unfold putN putA
    rw [List.zip_cons_cons]
    show (if g = f then (g, y) :: fs.zip xs else (g, x) :: putF f y (fs.zip xs)) = _ ∧ _
    by_cases e : g = f
    · rw [if_pos e, if_pos e, if_pos e]
      exact ⟨rfl, by simpa using h⟩
    · rw [if_neg e, if_neg e, if_neg e, i1]
      exact ⟨rfl, by simp [i2]⟩
theorem putA_rel {cA : Nat → Addr} {G : Hp} {m : Wd} {f : Str} {y : V} {w : W} (q : WRel cA G m y w) : ∀ {fs : List Str} {xs : List V} {ws : List W}, fs.length = xs.length → WRels cA G m xs ws → WRels cA G m (putA f y fs xs) (putA f w fs ws)
  | [], _, _, h, .nil => .cons q .nil
  | [], _, _, h, .cons r rs => by simp at h
  | g :: fs, _, _, h, .nil => by simp at h
  | g :: fs, _, _, h, .cons r rs => by
    unfold putA
    by_cases e : g = f
    · rw [if_pos e, if_pos e]; exact .cons q rs
    · rw [if_neg e, if_neg e]; exact .cons r (putA_rel q (by simpa using h) rs)
section
variable {X : Cx} {b : Bs} {pos pos' p apos : Pos} {o e : Expr} {es : List Expr} {to te : DTE} {ta : DTA} {f x : Str}
@[simp] def dFldSet (fl : Nat → List Str) (f : Str) (to te : DTE) (D : DEnds) (ρ : R) (μ : M) : Prop := te ρ μ fun x μ1 => to ρ μ1 fun w μ2 => match w with
  | .r n => match μ2[n]? with
    | some (.ins c fs ws) => (f ∈ fl c ∧ fs.length < 1000) ∧ D.nx ρ (μ2.set n (.ins c (putN f fs) (putA f x fs ws)))
    | _ => False
  | _ => False
theorem ds_fld {fl : Nat → List Str} (cf : CF X.K b.cA fl) (ho : DE X b o to) (he : DE X b e te) (hs : swapsWith e (some (.Attribute o f pos')) pos.line X.env = pure false := by rfl) : DS X b (.Assign [.Attribute o f pos'] e pos) (dFldSet fl f to te) := by
  obtain ⟨to', po, qo⟩ := ho.ex
  obtain ⟨te', pe, qe⟩ := he.ex
  refine ⟨_, ps_fld po pe hs, fun {G m ρ μ σ H D E} ok r t k => ?_⟩
  refine qe ok r t fun v H1 G1 m1 x μ1 l1 o1 r1 t1 => ?_
  refine qo o1 (r.mono l1) t1 fun u H2 G2 m2 w μ2 l2 o2 r2 t2 => ?_
  split at t2
  · rename_i n
    split at t2
    · rename_i c fs ws hc
      cases r2 with
      | @r _ a as hm =>
      obtain ⟨a', dx, xs, e1, e2, e3, e4⟩ := o2.rel.cell n _ _ hc hm
      cases e1
      obtain ⟨⟨h1, h2⟩, t2⟩ := t2
      refine ⟨a, b.cA c, dx, _, rfl, e2, cf.cl c (List.ne_nil_of_mem h1), cf.no c f h1, by rw [List.length_zip]; omega, ?_⟩
      obtain ⟨z1, z2⟩ := putF_zip f v fs xs e3
      rw [z1]
      have lf := l1.trans l2
      exact k.nx σ _ G2 m2 ρ _ lf (o2.mono (Le.refl _ _) (o2.rel.write (c' := .ins c (putN f fs) (putA f x fs ws)) hc hm rfl (by simp) rfl ⟨a, dx, _, rfl, upd_same, z2, putA_rel (r1.mono l2) e3 e4⟩)) (r.mono lf) t2
    · exact t2.elim
  · exact t2.elim
/-! ### an instance is made -/
def dMakeC (S : FS) (c : Nat) (xc : Exc → M → Prop) (ta : DTA) (fin : Nat → M → (W → M → Prop) → Prop) (ρ : R) (μ : M) (Q : W → M → Prop) : Prop := ta ρ μ fun ws μ1 => callS S (.r μ1.length :: ws) (μ1 ++ [.ins c [] []]) (fun w μ2 => w = .d .non ∧ fin μ1.length μ2 Q) xc
/-- .. that changes no more -/
def finD (n : Nat) (μ2 : M) (Q : W → M → Prop) : Prop := match esc μ2 (.r n) with
  | some (d, μ3) => closedB n (μ3.take n) = true ∧ Q (.d d) (μ3.take n)
  | none => False
/-- .. that may change -/
def finM (n : Nat) (μ2 : M) (Q : W → M → Prop) : Prop := Q (.r n) μ2
abbrev dMakeD (S : FS) (c : Nat) (xc : Exc → M → Prop) (ta : DTA) : DTE := dMakeC S c xc ta finD
abbrev dMakeM (S : FS) (c : Nat) (xc : Exc → M → Prop) (ta : DTA) : DTE := dMakeC S c xc ta finM
theorem make_core {S : FS} {c : Nat} {fin : Nat → M → (W → M → Prop) → Prop} (hfin : ∀ {G H : Hp} {m : Wd} {n : Nat} {μ : M} {a : Addr} {as : List Addr} {Q : W → M → Prop} {K : VK} {G0 : Hp} {m0 : Wd}, Le G0 m0 G m → m0.length = n → WOk b G m μ H → m[n]? = some (a :: as) → fin n μ Q →
      (∀ v H' G' m' w μ', Le G0 m0 G' m' → WOk b G' m' μ' H' → WRel b.cA G' m' v w → Q w μ' → K v H') → Le b.G0 b.m0 G0 m0 → K (.ref a) H)
    {G H1 : Hp} {m1 : Wd} {μ1 : M} {vs : List V} {ws : List W} {Q : W → M → Prop} {K : VK} (o1 : WOk b G m1 μ1 H1) (r1 : WRels b.cA G m1 vs ws) (t : callS S (.r μ1.length :: ws) (μ1 ++ [.ins c [] []]) (fun w μ2 => w = .d .non ∧ fin μ1.length μ2 Q) b.xc)
    (k : ∀ v H' G' m' w μ', Le G m1 G' m' → WOk b G' m' μ' H' → WRel b.cA G' m' v w → Q w μ' → K v H') (a dx : Addr) (ha : H1 a = none) (hd : H1 dx = none) (hne : dx ≠ a) :
    spD b.cA S (.ref a :: (vs ++ [])) (upd (upd H1 dx (.own a)) a (.ins (b.cA c) dx [])) (fun v H2 => v = .non ∧ K (.ref a) H2) (EX b) := by
  rw [List.append_nil]
  have g1 : RelM b.cA b.U G m1 μ1 (upd H1 dx (.own a)) := o1.rel.grow ((Sub.refl H1).new hd)
  have ha' : upd H1 dx (.own a) a = none := by rw [upd_ne (Ne.symm hne)]; exact ha
  have g2 := g1.cellNew (c := .ins c [] []) ha' ⟨a, dx, [], rfl, upd_same, rfl, .nil⟩
  have l2 : Le G m1 G (m1 ++ [[a]]) := Le.cellNew
  refine call_core (b := b) (Q := fun w μ2 => w = .d .non ∧ fin μ1.length μ2 Q) ⟨o1.le.trans l2, g2⟩ (.cons (.r (as := []) (by rw [← o1.rel.len]; simp)) (r1.mono l2)) t fun v H' G' m' w μ' l o' q t' => ?_
  obtain ⟨rfl, t'⟩ := t'
  cases q with
  | d q =>
  cases q
  refine ⟨rfl, ?_⟩
  have hm : m'[μ1.length]? = some [a] := l.m _ _ (by rw [← o1.rel.len]; simp)
  exact hfin (l2.trans l) o1.rel.len o' hm t' k o1.le
theorem finD_ok {G H : Hp} {m : Wd} {n : Nat} {μ : M} {a : Addr} {as : List Addr} {Q : W → M → Prop} {K : VK} {G0 : Hp} {m0 : Wd} (l : Le G0 m0 G m) (hn : m0.length = n) (o : WOk b G m μ H) (hm : m[n]? = some (a :: as)) (t : finD n μ Q)
    (k : ∀ v H' G' m' w μ', Le G0 m0 G' m' → WOk b G' m' μ' H' → WRel b.cA G' m' v w → Q w μ' → K v H') (lb : Le b.G0 b.m0 G0 m0) : K (.ref a) H := by
  unfold finD at t
  split at t
  · rename_i d μ3 e
    obtain ⟨G3, l3, r3, p3⟩ := esc_ok o.rel (.r hm) e
    have lt : Le G0 m0 G3 (m.take n) := le_take (l.trans l3) hn
    exact k _ H G3 _ (.d d) _ lt ⟨lb.trans lt, rel_take r3 t.1⟩ (.d p3) t.2
  · exact t.elim
theorem finM_ok {G H : Hp} {m : Wd} {n : Nat} {μ : M} {a : Addr} {as : List Addr} {Q : W → M → Prop} {K : VK} {G0 : Hp} {m0 : Wd} (l : Le G0 m0 G m) (hn : m0.length = n) (o : WOk b G m μ H) (hm : m[n]? = some (a :: as)) (t : finM n μ Q)
    (k : ∀ v H' G' m' w μ', Le G0 m0 G' m' → WOk b G' m' μ' H' → WRel b.cA G' m' v w → Q w μ' → K v H') (lb : Le b.G0 b.m0 G0 m0) : K (.ref a) H := k _ H G m (.r n) μ l o (.r hm) t
variable {k : Nat} {fa : Addr} {fd : FuncData} {ps : List Str} {S : FS} {c : Nat}
theorem de_makeD (Mk : L2.Mk X.K (b.cA c) fa) (F : FnOk X.prog X.w X.K X.mg X.base (L2.CX X.prog X.w) k fa fd ps (spD b.cA S)) (hr : Room (k + 1) X.A) (hx : XOk X b) (hm : X.mg x = some (.ref (b.cA c))) (hb : Binds X.K fd ps []) (ha : DA X b (e :: es) ta) (hg : Gl X x)
    (hdb : (x == ("__debug__" : Str)) = false := by decide) (he : starEach (e :: es) X.env = (false, eval e X.env) :: starEach es X.env := by rfl) (hpl : (backTo pos (starEach es X.env)).any (·.1) = false := by rfl) : DE X b (.Call (.Name x p) (e :: es) [] pos) (dMakeD S c b.xc ta) := by
  obtain ⟨t', pa, qa⟩ := ha.ex
  refine ⟨_, pe_make Mk F hr hg hm hb .nil hx pa hdb he hpl, fun {G m ρ μ σ H Q K} o r t kk => ?_⟩
  refine qa o r t fun vs H1 G1 m1 ws μ1 l1 o1 r1 t1 a dx ha hd hne => ?_
  exact make_core finD_ok o1 r1 t1 (fun v H' G' m' w μ' l => kk v H' G' m' w μ' (l1.trans l)) a dx ha hd hne
theorem de_makeM (Mk : L2.Mk X.K (b.cA c) fa) (F : FnOk X.prog X.w X.K X.mg X.base (L2.CX X.prog X.w) k fa fd ps (spD b.cA S)) (hr : Room (k + 1) X.A) (hx : XOk X b) (hm : X.mg x = some (.ref (b.cA c))) (hb : Binds X.K fd ps []) (ha : DA X b (e :: es) ta) (hg : Gl X x)
    (hdb : (x == ("__debug__" : Str)) = false := by decide) (he : starEach (e :: es) X.env = (false, eval e X.env) :: starEach es X.env := by rfl) (hpl : (backTo pos (starEach es X.env)).any (·.1) = false := by rfl) : DE X b (.Call (.Name x p) (e :: es) [] pos) (dMakeM S c b.xc ta) := by
  obtain ⟨t', pa, qa⟩ := ha.ex
  refine ⟨_, pe_make Mk F hr hg hm hb .nil hx pa hdb he hpl, fun {G m ρ μ σ H Q K} o r t kk => ?_⟩
  refine qa o r t fun vs H1 G1 m1 ws μ1 l1 o1 r1 t1 a dx ha hd hne => ?_
  exact make_core finM_ok o1 r1 t1 (fun v H' G' m' w μ' l => kk v H' G' m' w μ' (l1.trans l)) a dx ha hd hne
/-! ### o.m(..) -/
/-- the class has a method m with that contract -/
structure MetOk (X : Cx) (b : Bs) (m : Str) (c : Nat) (S : FS) : Prop where
  cl : Cls X.K (b.cA c)
  ok : ∃ (f : Addr) (fd : FuncData) (ps : List Str) (k : Nat), Meth X.K (b.cA c) m f ∧ FnOk X.prog X.w X.K X.mg X.base (L2.CX X.prog X.w) k f fd ps (spD b.cA S) ∧ Room k X.A ∧ Binds X.K fd ps []
@[simp] def dMeth (tab : List (Nat × FS)) (m : Str) (xc : Exc → M → Prop) (to : DTE) (ta : DTA) (ρ : R) (μ : M) (Q : W → M → Prop) : Prop := to ρ μ fun w μ1 => match insOf μ1 w with
  | some (c, fs, _) => m ∉ fs ∧ ∃ S, tab.lookup c = some S ∧ ta ρ μ1 fun ws μ2 => callS S (w :: ws) μ2 Q xc
  | none => False
theorem look_none {m : Str} : ∀ {fs : List Str} {xs : List V}, m ∉ fs → (fs.zip xs).lookup m = none
  | [], _, _ => by simp
  | g :: fs, [], _ => by simp
  | g :: fs, x :: xs, h => by
    rw [List.zip_cons_cons, List.lookup_cons]
    have : (m == g) = false := beq_eq_false_iff_ne.mpr fun e => h (by rw [e]; exact List.mem_cons_self)
    rw [this]
    exact look_none fun z => h (List.mem_cons_of_mem _ z)
theorem look_mem {c : Nat} {S : FS} : ∀ {tab : List (Nat × FS)}, tab.lookup c = some S → (c, S) ∈ tab
  | [], h => by simp at h
  | (d, T) :: tab, h => by
    rw [List.lookup_cons] at h
    cases e : c == d with
    | true => rw [e] at h; cases h; rw [beq_iff_eq.mp e]; exact List.mem_cons_self
    | false => rw [e] at h; exact List.mem_cons_of_mem _ (look_mem h)
theorem de_meth {pl : Sem Bool} {m : Str} {tab : List (Nat × FS)} (hx : XOk X b) (hT : ∀ q ∈ tab, MetOk X b m q.1 q.2) (ho : DE X b o to) (ha : DA X b (e :: es) ta)
    (hst : starEach (e :: es) X.env = (false, eval e X.env) :: starEach es X.env := by rfl) (hpl : (backTo pos (starEach es X.env)).any (·.1) = false := by rfl)
    (ht : eval (.Call (.Attribute o m apos) (e :: es) [] pos) X.env = (do
      let ov ← eval o X.env
      standAt apos.atName
      let (f, first) ← holding [ov] (getMethod ov m pl)
      callWith pos f first (backTo pos (starEach (e :: es) X.env)) (backToKw pos (keywordEach [] X.env))) := by rfl) : DE X b (.Call (.Attribute o m apos) (e :: es) [] pos) (dMeth tab m b.xc to ta) := by
  obtain ⟨to', po, qo⟩ := ho.ex
  obtain ⟨ta', pa, qa⟩ := ha.ex
  refine ⟨fun σ H Q => to' σ H fun x H1 => ∃ (c : Nat) (S : FS) (a dx : Addr) (fs : List (Str × V)), MetOk X b m c S ∧ x = .ref a ∧ H1 a = some (.ins (b.cA c) dx fs) ∧ fs.lookup m = none ∧ ta' σ H1 fun vs H2 => spD b.cA S (x :: vs) H2 Q (EX b), ⟨fun pins s σ H Q I h => ?_⟩, fun {G w ρ μ σ H Q K} ok r t k => ?_⟩
  · refine PySem.W.methodCall_KW (pl := pl) (thn (po.run pins s σ H _ I h) ?_) ht
    rintro u s1 ⟨x, H1, I1, rx, c, S, a, dx, fs, M1, rfl, ea, l, q⟩
    obtain rfl : u = Value.ref a := rx
    obtain ⟨f, fd, ps, kk, hm, F, hr, hb⟩ := M1.ok
    refine getmeth_ok I1 ea M1.cl hm l ?_
    refine PySem.W.callWith_K (first := [.ref a]) (h₀ := X.base) I1.ok.mod.kin hm.kp (thn (pa.run pos pins s1 σ H1 _ I1 q) ?_) hst hpl
    rintro us s2 ⟨vs, H2, I2, r, q2⟩
    exact ⟨I2.kIn, run_fn (us := .ref a :: us) (vs := .ref a :: vs) F hr hb .nil hx I2 (.cons rfl r) (by rw [List.append_nil]; exact q2)⟩
  · refine qo ok r t fun v H1 G1 m1 z μ1 l1 o1 r1 t1 => ?_
    split at t1
    · rename_i c fs ws hc
      obtain ⟨hn, S, hS, t1⟩ := t1
      obtain ⟨a, dx, xs, rfl, e2, e3, e4⟩ := insOf_ok o1.rel r1 hc
      refine ⟨c, S, a, dx, _, hT _ (look_mem hS), rfl, e2, look_none hn, ?_⟩
      refine qa o1 (r.mono l1) t1 fun vs H2 G2 m2 ws μ2 l2 o2 r2 t2 => ?_
      exact call_core o2 (.cons (r1.mono l2) r2) t2 fun v H' G' m' w μ' l => k v H' G' m' w μ' (l1.trans (l2.trans l))
    · exact t1.elim
theorem de_meth0 {pl : Sem Bool} {m : Str} {tab : List (Nat × FS)} (hx : XOk X b) (hT : ∀ q ∈ tab, MetOk X b m q.1 q.2) (ho : DE X b o to)
    (ht : eval (.Call (.Attribute o m apos) [] [] pos) X.env = (do
      let ov ← eval o X.env
      standAt apos.atName
      let (f, first) ← holding [ov] (getMethod ov m pl)
      callWith pos f first (backTo pos (starEach [] X.env)) (backToKw pos (keywordEach [] X.env))) := by rfl) : DE X b (.Call (.Attribute o m apos) [] [] pos) (dMeth tab m b.xc to dNil) := by
  obtain ⟨to', po, qo⟩ := ho.ex
  refine ⟨fun σ H Q => to' σ H fun x H1 => ∃ (c : Nat) (S : FS) (a dx : Addr) (fs : List (Str × V)), MetOk X b m c S ∧ x = .ref a ∧ H1 a = some (.ins (b.cA c) dx fs) ∧ fs.lookup m = none ∧ spD b.cA S [x] H1 Q (EX b), ⟨fun pins s σ H Q I h => ?_⟩, fun {G w ρ μ σ H Q K} ok r t k => ?_⟩
  · refine PySem.W.methodCall_KW (pl := pl) (thn (po.run pins s σ H _ I h) ?_) ht
    rintro u s1 ⟨x, H1, I1, rx, c, S, a, dx, fs, M1, rfl, ea, l, q⟩
    obtain rfl : u = Value.ref a := rx
    obtain ⟨f, fd, ps, kk, hm, F, hr, hb⟩ := M1.ok
    refine getmeth_ok I1 ea M1.cl hm l ?_
    exact PySem.W.callWith_K0 (first := [.ref a]) I1.kIn hm.kp (run_fn (us := [.ref a]) (vs := [.ref a]) F hr hb .nil hx I1 (.cons rfl .nil) q)
  · refine qo ok r t fun v H1 G1 m1 z μ1 l1 o1 r1 t1 => ?_
    split at t1
    · rename_i c fs ws hc
      obtain ⟨hn, S, hS, t1⟩ := t1
      obtain ⟨a, dx, xs, rfl, e2, e3, e4⟩ := insOf_ok o1.rel r1 hc
      refine ⟨c, S, a, dx, _, hT _ (look_mem hS), rfl, e2, look_none hn, ?_⟩
      exact call_core o1 (.cons r1 .nil) t1 fun v H' G' m' w μ' l => k v H' G' m' w μ' (l1.trans l)
    · exact t1.elim
end
end DD
namespace DD
open PySem PySem.SeqAt
open AutoSeq1 (wpAny_loadPart')
open MeetsSeq MeetsSeq2 MeetsSeq3 SeqRoads2
section
variable {prog : Program} {w : World} {A : Around} {R : Result → Shared → Prop}
/-- the two lists at each turn; what == tells of the i-th two -/
def Seqs2 (prog : Program) (w : World) (A : Around) (R : Result → Shared → Prop) (l r : Addr) (N : Nat) (cs : Nat → Bool) (J : Shared → Prop) : Prop :=
  ∀ s, J s → ∃ (zs ys : Array Value) (n n2 : Nat), s.heap.get? l = some { cls := .type "list", data := .seq zs n } ∧ s.heap.get? r = some { cls := .type "list", data := .seq ys n2 } ∧ zs.size = N ∧ ys.size = N ∧
    ∀ i (h1 : i < zs.size) (h2 : i < ys.size), wpAny (model prog w) A.in1 (eqBool zs[i] ys[i]) (fun c z => c = cs i ∧ J z) (fun e z => R (.error e) z) s

theorem lpEq (l r : Addr) (N : Nat) (cs : Nat → Bool) (J : Shared → Prop) (hl : Seqs2 prog w A R l r N cs J) (fin : ∀ s (z : Bool), J s → z = ((List.range N).all cs) → R (.ok (.ret (.bool z))) s) (k : Nat) :
    ∀ i : Nat, N - i = k → i ≤ N → ((List.range i).all cs = true) → ∀ s, J s → wpAny (model prog w) A.in1 (Builtin.«list.__eq__.loop» ⟨[.ref l, .ref r, rawInt i, rawInt 2], []⟩) (GQ.FinOf prog w A R) (fun e z => R (.error e) z) s := by
  induction k with
  | zero =>
    intro i hk hi ha s h
    obtain ⟨zs, ys, n, n2, q1, q2, q3, q4, _⟩ := hl _ h
    have hi' : i = N := by omega
    subst hi'
    have hR : R (.ok (.ret (.bool (true)))) s := fin s _ h (by rw [ha])
    obtain ⟨hp, g, d, tk, os⟩ := s
    wp_walk using wpAny_loadPart' q1, wpAny_loadPart' q2
    have j1 : zs[((i : Nat) : Int).toNat]? = none := by simp [q3]
    have j2 : ys[((i : Nat) : Int).toNat]? = none := by simp [q4]
    rw [j1, j2]
    wp_walk using wpAny_loadPart' q1, wpAny_loadPart' q2
    show R (.ok (.ret (.bool (zs.size == ys.size)))) _
    rw [q3, q4]
    simpa using hR
  | succ k ih =>
    intro i hk hi ha s h
    obtain ⟨zs, ys, n, n2, q1, q2, q3, q4, turn⟩ := hl _ h
    have g1 : i < zs.size := by omega
    have g2 : i < ys.size := by omega
    have ht := turn i g1 g2
    obtain ⟨hp, g, d, tk, os⟩ := s
    wp_walk using wpAny_loadPart' q1, wpAny_loadPart' q2
    have j1 : zs[((i : Nat) : Int).toNat]? = some zs[i] := by simp [g1]
    have j2 : ys[((i : Nat) : Int).toNat]? = some ys[i] := by simp [g2]
    have hc : ((i : Int) + 1) = ((i + 1 : Nat) : Int) := by omega
    rw [j1, j2]
    refine wpAny_bind (wpAny_mono ht (fun c s2 h2 => ?_) fun _ _ x => x)
    obtain ⟨hr, h2⟩ := h2
    subst hr
    cases hz : cs i with
    | true =>
      have hrec := ih (i + 1) (by omega) (by omega) (by rw [List.range_succ, List.all_append, ha]; simp [hz]) s2 h2
      obtain ⟨hp2, g2, d2, tk2, os2⟩ := s2
      wp_walk
      rw [hc]
      exact ⟨plainId_quiet plain_eq_loop _, codeAny_builtin entry_eq_loop (by rw [Around.under_plainId plain_eq_loop _]; exact hrec)⟩
    | false =>
      have hR : R (.ok (.ret (.bool (false)))) s2 := fin s2 _ h2 (by
        have : (List.range N).all cs = false := by
          rw [List.all_eq_false]
          exact ⟨i, List.mem_range.mpr (by omega), by simp [hz]⟩
        rw [this])
      obtain ⟨zs2, ys2, m, m2, p1, p2, p3, p4, _⟩ := hl _ h2
      obtain ⟨hp2, g2, d2, tk2, os2⟩ := s2
      wp_walk using wpAny_loadPart' p1, wpAny_loadPart' p2
      have k1 : zs2[((i : Nat) : Int).toNat]? = some (zs2[i]'(by omega)) := by simp [show i < zs2.size by omega]
      have k2 : ys2[((i : Nat) : Int).toNat]? = some (ys2[i]'(by omega)) := by simp [show i < ys2.size by omega]
      rw [k1, k2]
      wp_walk
      simpa using hR
theorem liEq (l r : Addr) (N : Nat) (cs : Nat → Bool) (J : Shared → Prop) (hl : Seqs2 prog w A R l r N cs J) (fin : ∀ s (z : Bool), J s → z = ((List.range N).all cs) → R (.ok (.ret (.bool z))) s) {s : Shared} (h : J s) :
    wpAny (model prog w) A.in1 (Builtin.«list.__eq__» ⟨[.ref l, .ref r], []⟩) (GQ.FinOf prog w A R) (fun e z => R (.error e) z) s := by
  obtain ⟨zs, ys, n, n2, q1, q2, q3, q4, _⟩ := hl _ h
  have hrec := lpEq (A := A) (R := R) l r N cs J hl fin _ 0 rfl (Nat.zero_le _) rfl s h
  obtain ⟨hp, g, d, tk, os⟩ := s
  have f3 := AutoSeq1.sub_list_list
  have hne : ¬ (zs.size != ys.size) = true := by simp [q3, q4]
  wp_walk using wpAny_loadPart' q1, wpAny_loadPart' q2
  exact ⟨plainId_quiet plain_eq_loop _, codeAny_builtin entry_eq_loop (by rw [Around.under_plainId plain_eq_loop _]; exact hrec)⟩
theorem tuEq (l r : Addr) (zs ys : Array Value) (n n2 : Nat) (dd dd2 : Option Addr) (sl sl2 : Array (Option Value)) (cs : Nat → Bool) (J : Shared → Prop)
    (turn : ∀ i (h1 : i < zs.size) (h2 : i < ys.size) s, J s → wpAny (model prog w) A.in1 (eqBool zs[i] ys[i]) (fun c z => c = cs i ∧ J z) (fun e z => R (.error e) z) s)
    (fin : ∀ s (z : Bool), J s → z = ((List.range (min zs.size ys.size)).all cs && zs.size == ys.size) → R (.ok (.ret (.bool z))) s) {s : Shared} (q1 : s.heap.get? l = some { cls := .type "tuple", dict := dd, data := .seq zs n, slots := sl }) (q2 : s.heap.get? r = some { cls := .type "tuple", dict := dd2, data := .seq ys n2, slots := sl2 }) (h : J s) :
    wpAny (model prog w) A.in1 (Builtin.«tuple.__eq__» ⟨[.ref l, .ref r], []⟩) (GQ.FinOf prog w A R) (fun e z => R (.error e) z) s := by
  have f2 := AutoSeq1.sub_tuple_tuple
  have hZ : (zs.toList.zip ys.toList).length = min zs.size ys.size := by simp
  have h0 := h
  obtain ⟨hp, g, d, tk, os⟩ := s
  wp_walk using wpAny_loadPart' q1, wpAny_loadPart' q2, wpAny_forIn_list _ (fun rest b s' => b.1 = none ∧ ∃ i, rest = (zs.toList.zip ys.toList).drop i ∧ ((List.range i).all cs = true) ∧ i ≤ min zs.size ys.size ∧ J s') _
  case turn =>
    rintro ⟨y, x⟩ rest b s' ⟨hb', i, hz, ha, hi, hI⟩
    have hlt : i < (zs.toList.zip ys.toList).length := by
      rcases Nat.lt_or_ge i (zs.toList.zip ys.toList).length with h' | h'
      · exact h'
      · rw [List.drop_of_length_le h'] at hz; cases hz
    have hm : i < min zs.size ys.size := hZ ▸ hlt
    have h1 : i < zs.size := by omega
    have h2 : i < ys.size := by omega
    rw [List.drop_eq_getElem_cons hlt] at hz
    injection hz with hyx hrest
    have hy : y = zs[i] := by have := congrArg Prod.fst hyx; simpa using this
    have hx : x = ys[i] := by have := congrArg Prod.snd hyx; simpa using this
    subst hy hx
    refine wpAny_bind (wpAny_mono (turn i h1 h2 s' hI) (fun c s2 q2 => ?_) fun _ _ x => x)
    obtain ⟨hr, q2⟩ := q2
    subst hr
    cases hz : cs i with
    | true =>
      wp_walk
      exact ⟨rfl, i + 1, hrest, by rw [List.range_succ, List.all_append, ha]; simp [hz], hm, q2⟩
    | false =>
      have hR : R (.ok (.ret (.bool (false)))) s2 := fin s2 _ q2 (by
        have : (List.range (min zs.size ys.size)).all cs = false := by
          rw [List.all_eq_false]
          exact ⟨i, List.mem_range.mpr hm, by simp [hz]⟩
        rw [this]; rfl)
      wp_walk
      simpa using hR
  case fin =>
    rintro ⟨b1, b2⟩ s' ⟨hb', i, hz, ha, hi, hI⟩
    simp only at hb'
    subst hb'
    have hge : min zs.size ys.size ≤ i := by
      rcases Nat.lt_or_ge i (zs.toList.zip ys.toList).length with h' | h'
      · rw [List.drop_eq_getElem_cons h'] at hz; cases hz
      · exact hZ ▸ h'
    have e : i = min zs.size ys.size := by omega
    have hR : R (.ok (.ret (.bool (zs.size == ys.size)))) s' := fin s' _ hI (by rw [← e, ha]; rfl)
    wp_walk
    simpa [Builtin.Tuple.tupleCompareSizes, bne] using hR
  case h => exact ⟨rfl, 0, rfl, rfl, Nat.zero_le _, h0⟩


theorem lpNe (l r : Addr) (N : Nat) (cs : Nat → Bool) (J : Shared → Prop) (hl : Seqs2 prog w A R l r N cs J) (fin : ∀ s (z : Bool), J s → z = (!((List.range N).all cs)) → R (.ok (.ret (.bool z))) s) (k : Nat) :
    ∀ i : Nat, N - i = k → i ≤ N → ((List.range i).all cs = true) → ∀ s, J s → wpAny (model prog w) A.in1 (Builtin.«list.__eq__.loop» ⟨[.ref l, .ref r, rawInt i, rawInt 3], []⟩) (GQ.FinOf prog w A R) (fun e z => R (.error e) z) s := by
  induction k with
  | zero =>
    intro i hk hi ha s h
    obtain ⟨zs, ys, n, n2, q1, q2, q3, q4, _⟩ := hl _ h
    have hi' : i = N := by omega
    subst hi'
    have hR : R (.ok (.ret (.bool (!(true))))) s := fin s _ h (by rw [ha])
    obtain ⟨hp, g, d, tk, os⟩ := s
    wp_walk using wpAny_loadPart' q1, wpAny_loadPart' q2
    have j1 : zs[((i : Nat) : Int).toNat]? = none := by simp [q3]
    have j2 : ys[((i : Nat) : Int).toNat]? = none := by simp [q4]
    rw [j1, j2]
    wp_walk using wpAny_loadPart' q1, wpAny_loadPart' q2
    show R (.ok (.ret (.bool (zs.size != ys.size)))) _
    rw [q3, q4]
    simpa using hR
  | succ k ih =>
    intro i hk hi ha s h
    obtain ⟨zs, ys, n, n2, q1, q2, q3, q4, turn⟩ := hl _ h
    have g1 : i < zs.size := by omega
    have g2 : i < ys.size := by omega
    have ht := turn i g1 g2
    obtain ⟨hp, g, d, tk, os⟩ := s
    wp_walk using wpAny_loadPart' q1, wpAny_loadPart' q2
    have j1 : zs[((i : Nat) : Int).toNat]? = some zs[i] := by simp [g1]
    have j2 : ys[((i : Nat) : Int).toNat]? = some ys[i] := by simp [g2]
    have hc : ((i : Int) + 1) = ((i + 1 : Nat) : Int) := by omega
    rw [j1, j2]
    refine wpAny_bind (wpAny_mono ht (fun c s2 h2 => ?_) fun _ _ x => x)
    obtain ⟨hr, h2⟩ := h2
    subst hr
    cases hz : cs i with
    | true =>
      have hrec := ih (i + 1) (by omega) (by omega) (by rw [List.range_succ, List.all_append, ha]; simp [hz]) s2 h2
      obtain ⟨hp2, g2, d2, tk2, os2⟩ := s2
      wp_walk
      rw [hc]
      exact ⟨plainId_quiet plain_eq_loop _, codeAny_builtin entry_eq_loop (by rw [Around.under_plainId plain_eq_loop _]; exact hrec)⟩
    | false =>
      have hR : R (.ok (.ret (.bool (!(false))))) s2 := fin s2 _ h2 (by
        have : (List.range N).all cs = false := by
          rw [List.all_eq_false]
          exact ⟨i, List.mem_range.mpr (by omega), by simp [hz]⟩
        rw [this])
      obtain ⟨zs2, ys2, m, m2, p1, p2, p3, p4, _⟩ := hl _ h2
      obtain ⟨hp2, g2, d2, tk2, os2⟩ := s2
      wp_walk using wpAny_loadPart' p1, wpAny_loadPart' p2
      have k1 : zs2[((i : Nat) : Int).toNat]? = some (zs2[i]'(by omega)) := by simp [show i < zs2.size by omega]
      have k2 : ys2[((i : Nat) : Int).toNat]? = some (ys2[i]'(by omega)) := by simp [show i < ys2.size by omega]
      rw [k1, k2]
      wp_walk
      simpa using hR
theorem liNe (l r : Addr) (N : Nat) (cs : Nat → Bool) (J : Shared → Prop) (hl : Seqs2 prog w A R l r N cs J) (fin : ∀ s (z : Bool), J s → z = (!((List.range N).all cs)) → R (.ok (.ret (.bool z))) s) {s : Shared} (h : J s) :
    wpAny (model prog w) A.in1 (Builtin.«list.__ne__» ⟨[.ref l, .ref r], []⟩) (GQ.FinOf prog w A R) (fun e z => R (.error e) z) s := by
  obtain ⟨zs, ys, n, n2, q1, q2, q3, q4, _⟩ := hl _ h
  have hrec := lpNe (A := A) (R := R) l r N cs J hl fin _ 0 rfl (Nat.zero_le _) rfl s h
  obtain ⟨hp, g, d, tk, os⟩ := s
  have f3 := AutoSeq1.sub_list_list
  have hne : ¬ (zs.size != ys.size) = true := by simp [q3, q4]
  wp_walk using wpAny_loadPart' q1, wpAny_loadPart' q2
  exact ⟨plainId_quiet plain_eq_loop _, codeAny_builtin entry_eq_loop (by rw [Around.under_plainId plain_eq_loop _]; exact hrec)⟩
theorem tuNe (l r : Addr) (zs ys : Array Value) (n n2 : Nat) (dd dd2 : Option Addr) (sl sl2 : Array (Option Value)) (cs : Nat → Bool) (J : Shared → Prop)
    (turn : ∀ i (h1 : i < zs.size) (h2 : i < ys.size) s, J s → wpAny (model prog w) A.in1 (eqBool zs[i] ys[i]) (fun c z => c = cs i ∧ J z) (fun e z => R (.error e) z) s)
    (fin : ∀ s (z : Bool), J s → z = (!((List.range (min zs.size ys.size)).all cs && zs.size == ys.size)) → R (.ok (.ret (.bool z))) s) {s : Shared} (q1 : s.heap.get? l = some { cls := .type "tuple", dict := dd, data := .seq zs n, slots := sl }) (q2 : s.heap.get? r = some { cls := .type "tuple", dict := dd2, data := .seq ys n2, slots := sl2 }) (h : J s) :
    wpAny (model prog w) A.in1 (Builtin.«tuple.__ne__» ⟨[.ref l, .ref r], []⟩) (GQ.FinOf prog w A R) (fun e z => R (.error e) z) s := by
  have f2 := AutoSeq1.sub_tuple_tuple
  have hZ : (zs.toList.zip ys.toList).length = min zs.size ys.size := by simp
  have h0 := h
  obtain ⟨hp, g, d, tk, os⟩ := s
  wp_walk using wpAny_loadPart' q1, wpAny_loadPart' q2, wpAny_forIn_list _ (fun rest b s' => b.1 = none ∧ ∃ i, rest = (zs.toList.zip ys.toList).drop i ∧ ((List.range i).all cs = true) ∧ i ≤ min zs.size ys.size ∧ J s') _
  case turn =>
    rintro ⟨y, x⟩ rest b s' ⟨hb', i, hz, ha, hi, hI⟩
    have hlt : i < (zs.toList.zip ys.toList).length := by
      rcases Nat.lt_or_ge i (zs.toList.zip ys.toList).length with h' | h'
      · exact h'
      · rw [List.drop_of_length_le h'] at hz; cases hz
    have hm : i < min zs.size ys.size := hZ ▸ hlt
    have h1 : i < zs.size := by omega
    have h2 : i < ys.size := by omega
    rw [List.drop_eq_getElem_cons hlt] at hz
    injection hz with hyx hrest
    have hy : y = zs[i] := by have := congrArg Prod.fst hyx; simpa using this
    have hx : x = ys[i] := by have := congrArg Prod.snd hyx; simpa using this
    subst hy hx
    refine wpAny_bind (wpAny_mono (turn i h1 h2 s' hI) (fun c s2 q2 => ?_) fun _ _ x => x)
    obtain ⟨hr, q2⟩ := q2
    subst hr
    cases hz : cs i with
    | true =>
      wp_walk
      exact ⟨rfl, i + 1, hrest, by rw [List.range_succ, List.all_append, ha]; simp [hz], hm, q2⟩
    | false =>
      have hR : R (.ok (.ret (.bool (!(false))))) s2 := fin s2 _ q2 (by
        have : (List.range (min zs.size ys.size)).all cs = false := by
          rw [List.all_eq_false]
          exact ⟨i, List.mem_range.mpr hm, by simp [hz]⟩
        rw [this]; rfl)
      wp_walk
      simpa using hR
  case fin =>
    rintro ⟨b1, b2⟩ s' ⟨hb', i, hz, ha, hi, hI⟩
    simp only at hb'
    subst hb'
    have hge : min zs.size ys.size ≤ i := by
      rcases Nat.lt_or_ge i (zs.toList.zip ys.toList).length with h' | h'
      · rw [List.drop_eq_getElem_cons h'] at hz; cases hz
      · exact hZ ▸ h'
    have e : i = min zs.size ys.size := by omega
    have hR : R (.ok (.ret (.bool (!(zs.size == ys.size))))) s' := fin s' _ hI (by rw [← e, ha]; rfl)
    wp_walk
    simpa [Builtin.Tuple.tupleCompareSizes, bne] using hR
  case h => exact ⟨rfl, 0, rfl, rfl, Nat.zero_le _, h0⟩

end
end DD
namespace DD
open PySem PySem.Spec PyProof.Rows PySem.SeqAt
section
variable {M : Model} {prog : Program} {w : World} {A : Around} {E : Value → Shared → Prop} {s : Shared} {K : PySem.W.Frag} {x C f : Addr} {ox : Obj} {od : Option Obj} {a : Value}
theorem bound_ne {args : List Value} {Q : Option Value → Shared → Prop} (X : K.In s.heap) (I : PySem.W.InstAt s.heap x ox C od) (hs : PySem.W.findIn K (.ref C) "__ne__" = some (some (.builtin "object.__ne__")))
    (h : wpAny M A (call (.builtin "object.__ne__") (.ref x :: args)) (fun v => Q (some v)) E s) : wpAny M A (callSpecialIfBound? (.ref x) "__ne__" args) Q E s := by
  simp only [callSpecialIfBound?, bindSpecialIfBound?]
  refine wpAny_holding (wpAny_bind (wpAny_bind (wpAny_bind (I.type.here ((PySem.W.looks_findIn X hs).here ?_)))))
  refine wpAny_bind (wpAny_askSetting (wpAny_ite ?_))
  have fin : wpAny M A (call (.builtin "object.__ne__") ([.ref x] ++ args) >>= fun v => pure (some v)) Q E s := wpAny_bind (wpAny_mono h (fun _ _ q => wpAny_pure q) fun _ _ q => q)
  split
  · exact wpAny_bind (wpAny_of_eq (F.cmp_object.ne.bind _) (wpAny_pure (by exact fin)))
  · exact wpAny_tryCatch (wpAny_bind (wpAny_of_eq (F.cmp_object.ne.bind _) (wpAny_pure (by exact fin))))
theorem entry_ne {Q : Fin → Shared → Prop} (X : K.In s.heap) (I : PySem.W.InstAt s.heap x ox C od) (hs : PySem.W.findIn K (.ref C) "__eq__" = some (some (.ref f))) (hf : PySem.W.isFn K (.ref f) = true) (hu : A.units < cLine)
    (h : wpAny M A (call (.ref f) [.ref x, a]) (fun v z => ∃ c, v = .bool c ∧ Q (.done (.ret (.bool (!c)))) z) E s) : wpAny M A (Builtin.«object.__ne__» ⟨[.ref x, a], []⟩) Q E s := by
  unfold Builtin.«object.__ne__»
  refine wpAny_bind (wpAny_pure ?_)
  refine wpAny_bind (wpAny_cRoomFor hu ?_)
  refine wpAny_bind (m := callSpecialIfBound? (.ref x) (Str.ofString "__eq__") [a]) (PySem.W.ifBound_K X I hs hf (wpAny_mono h (fun r z hr => ?_) fun _ _ q => q))
  obtain ⟨c, rfl, hq⟩ := hr
  exact wpAny_bind (wpAny_truthy_bool (wpAny_pure hq))
theorem call_ne {Q : Value → Shared → Prop} (X : K.In s.heap) (I : PySem.W.InstAt s.heap x ox C od) (hm : PySem.W.mroIn K C (.type "object") = some true) (hs : PySem.W.findIn K (.ref C) "__eq__" = some (some (.ref f))) (hf : PySem.W.isFn K (.ref f) = true) (hu : A.in1.units < cLine)
    (h : wpAny (model prog w) A.in1 (call (.ref f) [.ref x, a]) (fun v z => ∃ c, v = .bool c ∧ Q (.bool (!c)) z) E s) : wpAny (model prog w) A (call (.builtin "object.__ne__") [.ref x, a]) Q E s :=
  wpAny_call (codeAny_call_builtin F.cmp_object.ne.plain F.cmpEntry_ne (PySem.W.check_slot F.cmpKind_ne F.cmpSplit_ne (I.type.andThen (PySem.W.looks_mroIn X hm)) (F.cmpArgs_ne _ _) (entry_ne X I hs hf hu h)))
/-- what the own == of a class is -/
structure EqCls (K : PySem.W.Frag) (C f : Addr) : Prop where
  eq : PySem.W.findIn K (.ref C) "__eq__" = some (some (.ref f))
  ne : PySem.W.findIn K (.ref C) "__ne__" = some (some (.builtin "object.__ne__"))
  fn : PySem.W.isFn K (.ref f) = true
  ob : PySem.W.mroIn K C (.type "object") = some true
  no : ∀ T ∈ (["NoneType", "bool", "int", "str", "list", "tuple"] : List String), PySem.W.subIn K (.ref C) (.type T) = some false
def cop (neg : Bool) : CmpOp := if neg then .NotEq else .Eq
def inr (neg : Bool) (A : Around) : Around := if neg then A.in1 else A
theorem try_own {neg : Bool} {Q : Value → Shared → Prop} (X : K.In s.heap) (I : PySem.W.InstAt s.heap x ox C od) (e : EqCls K C f) (hu : A.units + 1 < cLine)
    (h : wpAny (model prog w) (inr neg A) (call (.ref f) [.ref x, a]) (fun v z => ∃ c, v = .bool c ∧ Q (.bool (c != neg)) z) E s) :
    wpAny (model prog w) A (tryCompare (.ref x) (cmpInfo (cop neg)).2.1 a) (fun r z => ∃ v, r = some v ∧ Q v z) E s := by
  cases neg with
  | false =>
    show wpAny _ _ (tryCompare (.ref x) "__eq__" a) _ _ _
    unfold tryCompare
    refine wpAny_bind (PySem.W.ifBound_K X I e.eq e.fn (wpAny_mono h (fun v z hv => ?_) fun _ _ q => q))
    obtain ⟨c, rfl, hq⟩ := hv
    exact wpAny_pure ⟨_, rfl, by simpa using hq⟩
  | true =>
    show wpAny _ _ (tryCompare (.ref x) "__ne__" a) _ _ _
    unfold tryCompare
    refine wpAny_bind (bound_ne X I e.ne (call_ne X I e.ob e.eq e.fn hu (wpAny_mono h (fun v z hv => ?_) fun _ _ q => q)))
    obtain ⟨c, rfl, hq⟩ := hv
    exact ⟨c, rfl, wpAny_pure ⟨_, rfl, by simpa using hq⟩⟩
theorem cop_names (neg : Bool) : (cmpInfo (cop neg)).2.1 = (cmpInfo (cop neg)).2.2 := by cases neg <;> rfl
/-- the left one is an instance with its own == -/
theorem rc_own {neg : Bool} {tb : Value} {Q : Value → Shared → Prop} (X : K.In s.heap) (I : PySem.W.InstAt s.heap x ox C od) (e : EqCls K C f) (hu : A.units + 1 < cLine) (hb : PySem.W.Looks (model prog w) s.heap (typeOf a) tb) (hn : PySem.W.notFirst K C tb = true)
    (h : wpAny (model prog w) (inr neg A) (call (.ref f) [.ref x, a]) (fun v z => ∃ c, v = .bool c ∧ Q (.bool (c != neg)) z) E s) : wpAny (model prog w) A (richCompare (cop neg) (.ref x) a) Q E s := by
  have one := try_own X I e hu h
  unfold richCompare
  simp only [oneThing_ref]
  refine wpAny_holding (wpAny_bind (wpAny_cRoomFor (by omega) ?_))
  refine wpAny_bind (I.type.here (wpAny_bind (hb.here ?_)))
  split
  · rename_i q
    have e : PySem.W.subIn K tb (.ref C) = some false := by
      rcases Bool.or_eq_true_iff.mp hn with e | e
      · rw [beq_iff_eq.mp e] at q; simp at q
      · exact beq_iff_eq.mp e
    refine wpAny_bind ((PySem.W.looks_subIn X e).here ?_)
    simp only [Bool.false_eq_true, if_false]
    refine wpAny_bind (wpAny_mono one (fun r z hz => ?_) fun _ _ e => e)
    obtain ⟨v, rfl, hq⟩ := hz
    exact wpAny_pure hq
  · refine wpAny_bind (wpAny_pure ?_)
    simp only [Bool.false_eq_true, if_false]
    refine wpAny_bind (wpAny_mono one (fun r z hz => ?_) fun _ _ e => e)
    obtain ⟨v, rfl, hq⟩ := hz
    exact wpAny_pure hq
/-- the left one is a builtin's that declines -/
theorem rc_back {neg : Bool} {T : String} {Q : Value → Shared → Prop} (X : K.In s.heap) (I : PySem.W.InstAt s.heap x ox C od) (e : EqCls K C f) (hu : A.units + 1 < cLine) (hT : s.TypeIs a T) (hno : PySem.W.subIn K (.ref C) (.type T) = some false)
    (hd : wpAny (model prog w) A (tryCompare a (cmpInfo (cop neg)).2.1 (.ref x)) (fun r z => r = none ∧ z = s) E s)
    (h : wpAny (model prog w) (inr neg A) (call (.ref f) [.ref x, a]) (fun v z => ∃ c, v = .bool c ∧ Q (.bool (c != neg)) z) E s) : wpAny (model prog w) A (richCompare (cop neg) a (.ref x)) Q E s := by
  have one := try_own X I e hu h
  unfold richCompare
  simp only [hT.oneThing_none]
  refine wpAny_holding (wpAny_bind (wpAny_cRoomFor (by omega) ?_))
  refine wpAny_bind (wpAny_typeOf hT (wpAny_bind (I.type.here ?_)))
  rw [if_pos (by simp)]
  refine wpAny_bind ((PySem.W.looks_subIn X hno).here ?_)
  simp only [Bool.false_eq_true, if_false, Bool.not_false, if_true]
  refine wpAny_bind (m := tryCompare a _ (.ref x)) (wpAny_mono hd (fun r z hz => ?_) fun _ _ q => q)
  obtain ⟨rfl, rfl⟩ := hz
  rw [← cop_names]
  refine wpAny_bind (m := tryCompare (.ref x) _ a) (wpAny_mono one (fun r z hz => ?_) fun _ _ q => q)
  obtain ⟨v, rfl, hq⟩ := hz
  exact wpAny_pure hq
/-! ### the builtins decline an instance -/
theorem notSub {T : String} (X : K.In s.heap) (I : PySem.W.InstAt s.heap x ox C od) (hno : PySem.W.subIn K (.ref C) (.type T) = some false) : PySem.W.Looks M s.heap (isInstance (.ref x) (.type T)) false := I.type.andThen (PySem.W.looks_subIn X hno)
theorem tuple_eq_dec {l : Addr} {Q : Fin → Shared → Prop} (X : K.In s.heap) (I : PySem.W.InstAt s.heap x ox C od) (hno : PySem.W.subIn K (.ref C) (.type "tuple") = some false) (q : Q (.done (.ret .notImplemented)) s) :
    wpAny M A (Builtin.«tuple.__eq__» ⟨[.ref l, .ref x], []⟩) Q E s := by
  refine wpAny_bind (wpAny_pure ?_)
  refine wpAny_bind (m := isInstance (.ref x) (.type "tuple")) ((notSub X I hno).here ?_)
  exact wpAny_pure q
theorem tuple_ne_dec {l : Addr} {Q : Fin → Shared → Prop} (X : K.In s.heap) (I : PySem.W.InstAt s.heap x ox C od) (hno : PySem.W.subIn K (.ref C) (.type "tuple") = some false) (q : Q (.done (.ret .notImplemented)) s) :
    wpAny M A (Builtin.«tuple.__ne__» ⟨[.ref l, .ref x], []⟩) Q E s := by
  refine wpAny_bind (wpAny_pure ?_)
  refine wpAny_bind (m := isInstance (.ref x) (.type "tuple")) ((notSub X I hno).here ?_)
  exact wpAny_pure q
theorem list_eq_dec {l : Addr} {Q : Fin → Shared → Prop} (X : K.In s.heap) (I : PySem.W.InstAt s.heap x ox C od) (hno : PySem.W.subIn K (.ref C) (.type "list") = some false) (q : Q (.done (.ret .notImplemented)) s) :
    wpAny M A (Builtin.«list.__eq__» ⟨[.ref l, .ref x], []⟩) Q E s := by
  refine wpAny_bind (wpAny_pure ?_)
  refine wpAny_bind (m := isInstance (.ref x) (.type "list")) ((notSub X I hno).here ?_)
  exact wpAny_pure q
theorem list_ne_dec {l : Addr} {Q : Fin → Shared → Prop} (X : K.In s.heap) (I : PySem.W.InstAt s.heap x ox C od) (hno : PySem.W.subIn K (.ref C) (.type "list") = some false) (q : Q (.done (.ret .notImplemented)) s) :
    wpAny M A (Builtin.«list.__ne__» ⟨[.ref l, .ref x], []⟩) Q E s := by
  refine wpAny_bind (wpAny_pure ?_)
  refine wpAny_bind (m := isInstance (.ref x) (.type "list")) ((notSub X I hno).here ?_)
  exact wpAny_pure q
theorem int_eq_dec (b : Int) (u : Tok) (l dx : Addr) : Meets (Builtin.«int.__eq__» ⟨[.int b u, .ref l], []⟩) (fun _ R s => s.heap.get? l = some (PySem.W.instObj C dx) ∧ R (.ok (.ret .notImplemented)) s) :=
  .of_wp fun prog w A R s h => by obtain ⟨hp, g, d, tk, os⟩ := s; obtain ⟨hl, h⟩ := h; unfold PySem.W.instObj at hl; wp_walk using AutoSeq1.wpAny_loadPart' hl, wpAny_load hl; exact ⟨_, rfl, h⟩
theorem int_ne_dec (b : Int) (u : Tok) (l dx : Addr) : Meets (Builtin.«int.__ne__» ⟨[.int b u, .ref l], []⟩) (fun _ R s => s.heap.get? l = some (PySem.W.instObj C dx) ∧ R (.ok (.ret .notImplemented)) s) :=
  .of_wp fun prog w A R s h => by obtain ⟨hp, g, d, tk, os⟩ := s; obtain ⟨hl, h⟩ := h; unfold PySem.W.instObj at hl; wp_walk using AutoSeq1.wpAny_loadPart' hl, wpAny_load hl; exact ⟨_, rfl, h⟩
theorem bool_eq_dec (b : Bool) (l dx : Addr) : Meets (Builtin.«int.__eq__» ⟨[.bool b, .ref l], []⟩) (fun _ R s => s.heap.get? l = some (PySem.W.instObj C dx) ∧ R (.ok (.ret .notImplemented)) s) :=
  .of_wp fun prog w A R s h => by obtain ⟨hp, g, d, tk, os⟩ := s; obtain ⟨hl, h⟩ := h; unfold PySem.W.instObj at hl; wp_walk using AutoSeq1.wpAny_loadPart' hl, wpAny_load hl; exact ⟨_, rfl, h⟩
theorem bool_ne_dec (b : Bool) (l dx : Addr) : Meets (Builtin.«int.__ne__» ⟨[.bool b, .ref l], []⟩) (fun _ R s => s.heap.get? l = some (PySem.W.instObj C dx) ∧ R (.ok (.ret .notImplemented)) s) :=
  .of_wp fun prog w A R s h => by obtain ⟨hp, g, d, tk, os⟩ := s; obtain ⟨hl, h⟩ := h; unfold PySem.W.instObj at hl; wp_walk using AutoSeq1.wpAny_loadPart' hl, wpAny_load hl; exact ⟨_, rfl, h⟩
theorem str_eq_dec (b : Str) (u : Tok) (l dx : Addr) : Meets (Builtin.«str.__eq__» ⟨[.str b u, .ref l], []⟩) (fun _ R s => s.heap.get? l = some (PySem.W.instObj C dx) ∧ R (.ok (.ret .notImplemented)) s) :=
  .of_wp fun prog w A R s h => by obtain ⟨hp, g, d, tk, os⟩ := s; obtain ⟨hl, h⟩ := h; unfold PySem.W.instObj at hl; wp_walk using AutoSeq1.wpAny_loadPart' hl, wpAny_load hl; exact ⟨_, rfl, h⟩
theorem str_ne_dec (b : Str) (u : Tok) (l dx : Addr) : Meets (Builtin.«str.__ne__» ⟨[.str b u, .ref l], []⟩) (fun _ R s => s.heap.get? l = some (PySem.W.instObj C dx) ∧ R (.ok (.ret .notImplemented)) s) :=
  .of_wp fun prog w A R s h => by obtain ⟨hp, g, d, tk, os⟩ := s; obtain ⟨hl, h⟩ := h; unfold PySem.W.instObj at hl; wp_walk using AutoSeq1.wpAny_loadPart' hl, wpAny_load hl; exact ⟨_, rfl, h⟩
end
end DD
namespace DD
open PySem PySem.Spec PyProof.Rows PySem.SeqAt L2
section
variable (T : Nat → Option (List Str))
mutual
/-- data that == with the own __eq__ of T's classes is told of -/
def okE : Nat → D → Bool
  | _, .non => true
  | _, .bl _ => true
  | _, .int _ => true
  | _, .str _ => true
  | n + 1, .lst ds => okEs n ds
  | n + 1, .tup ds => okEs n ds
  | n + 3, .obj c fs ds => (T c == some fs) && (fs.length == ds.length) && okEs n ds
  | _, _ => false
def okEs : Nat → List D → Bool
  | _, [] => true
  | n, d :: ds => okE n d && okEs n ds
end
theorem okEs_all (n : Nat) : ∀ ds : List D, okEs T n ds = ds.all (okE T n)
  | [] => by simp [okEs]
  | d :: ds => by simp [okEs, okEs_all n ds]
end
/-- which two of the i-th are equal -/
def deqAt (xs ys : List D) (i : Nat) : Bool := match xs[i]?, ys[i]? with
  | some a, some b => deq a b
  | _, _ => true
theorem deqs_all : ∀ xs ys : List D, deqs xs ys = ((List.range (min xs.length ys.length)).all (deqAt xs ys) && xs.length == ys.length)
  | [], [] => by simp [deqs]
  | [], y :: ys => by simp [deqs]
  | x :: xs, [] => by simp [deqs]
  | x :: xs, y :: ys => by
    have h : min (x :: xs).length (y :: ys).length = min xs.length ys.length + 1 := by simp only [List.length_cons]; omega
    rw [deqs, deqs_all xs ys, h, List.range_succ_eq_map, List.all_cons, List.all_map]
    have e0 : deqAt (x :: xs) (y :: ys) 0 = deq x y := rfl
    have e1 : (deqAt (x :: xs) (y :: ys) ∘ Nat.succ) = deqAt xs ys := by funext i; simp [deqAt]
    have e2 : ((x :: xs).length == (y :: ys).length) = (xs.length == ys.length) := by
      by_cases h : xs.length = ys.length
      · simp [h]
      · simp [h]
    rw [e0, e1, e2, Bool.and_assoc]
section
variable {K : PySem.W.Frag} {cA : Nat → Addr} {T : Nat → Option (List Str)} {f : Addr} {H : Hp}
structure EqT (K : PySem.W.Frag) (cA : Nat → Addr) (T : Nat → Option (List Str)) (f : Addr) : Prop where
  cl : ∀ c fs, T c = some fs → EqCls K (cA c) f
  nf : ∀ c fs c' fs', T c = some fs → T c' = some fs' → PySem.W.notFirst K (cA c) (.ref (cA c')) = true
  inj : ∀ c fs c' fs', T c = some fs → T c' = some fs' → cA c = cA c' → c = c'
theorem zip_inj {α β : Type} : ∀ {as : List α} {xs ys : List β}, as.length = xs.length → as.length = ys.length → as.zip xs = as.zip ys → xs = ys
  | [], [], [], _, _, _ => rfl
  | a :: as, x :: xs, y :: ys, h1, h2, e => by
    simp only [List.zip_cons_cons, List.cons.injEq, Prod.mk.injEq] at e
    rw [e.1.2, zip_inj (by simpa using h1) (by simpa using h2) e.2]
mutual
theorem rep_same (E : EqT K cA T f) : ∀ (n : Nat) {v : V} {d e : D}, Rep cA H v d → Rep cA H v e → okE T n d = true → okE T n e = true → deq d e = true
  | n, _, _, e, .non, r', o, o' => by cases r'; simp [deq]
  | n, _, _, e, .bl b, r', o, o' => by cases r'; simp [deq]
  | n, _, _, e, .int i, r', o, o' => by cases r'; simp [deq]
  | n, _, _, e, .str s, r', o, o' => by cases r'; simp [deq]
  | n, _, _, _, .tup h r, r', o, o' => by
    generalize hv : V.ref _ = v at r'
    cases r' with
    | tup h' r2 =>
      cases hv
      rw [h] at h'
      cases h'
      match n, o, o' with
      | n + 1, o, o' => simp only [okE] at o o'; simp only [deq]; exact reps_same E n r r2 o o'
    | lst h' _ => cases hv; rw [h] at h'; cases h'
    | obj h' _ _ => cases hv; rw [h] at h'; cases h'
    | dic h' _ _ => cases hv; rw [h] at h'; cases h'
    | dicT h' _ _ => cases hv; rw [h] at h'; cases h'
    | _ => cases hv
  | n, _, _, _, .lst h r, r', o, o' => by
    generalize hv : V.ref _ = v at r'
    cases r' with
    | lst h' r2 =>
      cases hv
      rw [h] at h'
      cases h'
      match n, o, o' with
      | n + 1, o, o' => simp only [okE] at o o'; simp only [deq]; exact reps_same E n r r2 o o'
    | tup h' _ => cases hv; rw [h] at h'; cases h'
    | obj h' _ _ => cases hv; rw [h] at h'; cases h'
    | dic h' _ _ => cases hv; rw [h] at h'; cases h'
    | dicT h' _ _ => cases hv; rw [h] at h'; cases h'
    | _ => cases hv
  | n, _, _, _, .obj h l r, r', o, o' => by
    generalize hv : V.ref _ = v at r'
    cases r' with
    | obj h' l' r2 =>
      cases hv
      match n, o, o' with
      | n + 3, o, o' =>
        simp only [okE, Bool.and_eq_true, beq_iff_eq] at o o'
        rw [h] at h'
        simp only [Option.some.injEq, HO.ins.injEq] at h'
        obtain ⟨e1, _, e2⟩ := h'
        have ec := E.inj _ _ _ _ o.1.1 o'.1.1 e1
        subst ec
        have ef := o.1.1.symm.trans o'.1.1
        cases ef
        have ex := zip_inj l l' e2
        subst ex
        simp only [deq, beq_self_eq_true, Bool.true_and]
        exact reps_same E n r r2 o.2 o'.2
    | tup h' _ => cases hv; rw [h] at h'; cases h'
    | lst h' _ => cases hv; rw [h] at h'; cases h'
    | dic h' _ _ => cases hv; rw [h] at h'; cases h'
    | dicT h' _ _ => cases hv; rw [h] at h'; cases h'
    | _ => cases hv
  | n, _, _, _, .dic h l r, r', o, o' => by
    match n, o with
    | 0, o => simp [okE] at o
    | 1, o => simp [okE] at o
    | 2, o => simp [okE] at o
    | n + 3, o => simp [okE] at o
  | n, _, _, _, .dicT h l r, r', o, o' => by
    match n, o with
    | 0, o => simp [okE] at o
    | 1, o => simp [okE] at o
    | 2, o => simp [okE] at o
    | n + 3, o => simp [okE] at o
theorem reps_same (E : EqT K cA T f) : ∀ (n : Nat) {vs : List V} {ds es : List D}, Reps cA H vs ds → Reps cA H vs es → okEs T n ds = true → okEs T n es = true → deqs ds es = true
  | n, _, _, _, .nil, .nil, _, _ => by simp [deqs]
  | n, _, _, _, .cons r rs, .cons r' rs', o, o' => by
    simp only [okEs, Bool.and_eq_true] at o o'
    simp only [deqs, Bool.and_eq_true]
    exact ⟨rep_same E n r r' o.1 o'.1, reps_same E n rs rs' o.2 o'.2⟩
end
end
/-! ### flat values -/
def fltD : D → Bool
  | .non => true
  | .bl _ => true
  | .int _ => true
  | .str _ => true
  | _ => false
section
variable {A : Around} {s : Shared} {cA : Nat → Addr} {H : Hp} {x y : V} {u v : Value} {dx dy : D}
def RcA (neg : Bool) (A : Around) (s : Shared) (u v : Value) (c : Bool) : Prop := ∀ (prog : Program) (w : World) (E : Value → Shared → Prop) (Q : Value → Shared → Prop), Q (.bool (c != neg)) s → wpAny (model prog w) A (richCompare (cop neg) u v) Q E s
theorem RcA.eq {c : Bool} (h : RcAt A s u v c) : RcA false A s u v c := fun p w E Q q => h p w E Q (by simpa using q)
theorem RcA.ne {c : Bool} (h : RcNeAt A s u v (!c)) : RcA true A s u v c := fun p w E Q q => h p w E Q (by simpa using q)
theorem rc_flat (neg : Bool) (rx : Rep cA H x dx) (ry : Rep cA H y dy) (ru : RelV x u) (rv : RelV y v) (fx : fltD dx = true) (fy : fltD dy = true) : RcA neg A s u v (deq dx dy) := by
  match dx, dy, rx, ry, fx, fy with
  | .non, .non, rx, ry, _, _ =>
    cases rx; cases ry; cases ru; cases rv
    cases neg with
    | false => exact .eq (by simpa only [deq] using RcAt.none_none)
    | true => exact .ne (by simpa only [deq, Bool.not_true, Bool.not_false] using RcNeAt.none_none)
  | .non, .bl b, rx, ry, _, _ =>
    cases rx; cases ry; cases ru; cases rv
    cases neg with
    | false => exact .eq (by simpa only [deq] using RcAt.none_bool b)
    | true => exact .ne (by simpa only [deq, Bool.not_true, Bool.not_false] using RcNeAt.none_bool b)
  | .non, .int b, rx, ry, _, _ =>
    cases rx; cases ry; cases ru; obtain ⟨tb, rfl⟩ := rv
    cases neg with
    | false => exact .eq (by simpa only [deq] using RcAt.none_int b tb)
    | true => exact .ne (by simpa only [deq, Bool.not_true, Bool.not_false] using RcNeAt.none_int b tb)
  | .non, .str b, rx, ry, _, _ =>
    cases rx; cases ry; cases ru; obtain ⟨tb, rfl⟩ := rv
    cases neg with
    | false => exact .eq (by simpa only [deq] using RcAt.none_str b tb)
    | true => exact .ne (by simpa only [deq, Bool.not_true, Bool.not_false] using RcNeAt.none_str b tb)
  | .bl a, .non, rx, ry, _, _ =>
    cases rx; cases ry; cases ru; cases rv
    cases neg with
    | false => exact .eq (by simpa only [deq] using RcAt.bool_none a)
    | true => exact .ne (by simpa only [deq, Bool.not_true, Bool.not_false] using RcNeAt.bool_none a)
  | .bl a, .bl b, rx, ry, _, _ =>
    cases rx; cases ry; cases ru; cases rv
    cases neg with
    | false => exact .eq (by simpa only [deq] using RcAt.bool_bool a b)
    | true => exact .ne (by simpa only [deq, Bool.not_true, Bool.not_false] using RcNeAt.bool_bool a b)
  | .bl a, .int b, rx, ry, _, _ =>
    cases rx; cases ry; cases ru; obtain ⟨tb, rfl⟩ := rv
    cases neg with
    | false => exact .eq (by simpa only [deq] using RcAt.bool_int a b tb)
    | true => exact .ne (by simpa only [deq, Bool.not_true, Bool.not_false] using RcNeAt.bool_int a b tb)
  | .bl a, .str b, rx, ry, _, _ =>
    cases rx; cases ry; cases ru; obtain ⟨tb, rfl⟩ := rv
    cases neg with
    | false => exact .eq (by simpa only [deq] using RcAt.bool_str a b tb)
    | true => exact .ne (by simpa only [deq, Bool.not_true, Bool.not_false] using RcNeAt.bool_str a b tb)
  | .int a, .non, rx, ry, _, _ =>
    cases rx; cases ry; obtain ⟨ta, rfl⟩ := ru; cases rv
    cases neg with
    | false => exact .eq (by simpa only [deq] using RcAt.int_none a ta)
    | true => exact .ne (by simpa only [deq, Bool.not_true, Bool.not_false] using RcNeAt.int_none a ta)
  | .int a, .bl b, rx, ry, _, _ =>
    cases rx; cases ry; obtain ⟨ta, rfl⟩ := ru; cases rv
    cases neg with
    | false => exact .eq (by simpa only [deq] using RcAt.int_bool a ta b)
    | true => exact .ne (by simpa only [deq, Bool.not_true, Bool.not_false] using RcNeAt.int_bool a ta b)
  | .int a, .int b, rx, ry, _, _ =>
    cases rx; cases ry; obtain ⟨ta, rfl⟩ := ru; obtain ⟨tb, rfl⟩ := rv
    cases neg with
    | false => exact .eq (by simpa only [deq] using RcAt.int_int a ta b tb)
    | true => exact .ne (by simpa only [deq, Bool.not_true, Bool.not_false] using RcNeAt.int_int a ta b tb)
  | .int a, .str b, rx, ry, _, _ =>
    cases rx; cases ry; obtain ⟨ta, rfl⟩ := ru; obtain ⟨tb, rfl⟩ := rv
    cases neg with
    | false => exact .eq (by simpa only [deq] using RcAt.int_str a ta b tb)
    | true => exact .ne (by simpa only [deq, Bool.not_true, Bool.not_false] using RcNeAt.int_str a ta b tb)
  | .str a, .non, rx, ry, _, _ =>
    cases rx; cases ry; obtain ⟨ta, rfl⟩ := ru; cases rv
    cases neg with
    | false => exact .eq (by simpa only [deq] using RcAt.str_none a ta)
    | true => exact .ne (by simpa only [deq, Bool.not_true, Bool.not_false] using RcNeAt.str_none a ta)
  | .str a, .bl b, rx, ry, _, _ =>
    cases rx; cases ry; obtain ⟨ta, rfl⟩ := ru; cases rv
    cases neg with
    | false => exact .eq (by simpa only [deq] using RcAt.str_bool a ta b)
    | true => exact .ne (by simpa only [deq, Bool.not_true, Bool.not_false] using RcNeAt.str_bool a ta b)
  | .str a, .int b, rx, ry, _, _ =>
    cases rx; cases ry; obtain ⟨ta, rfl⟩ := ru; obtain ⟨tb, rfl⟩ := rv
    cases neg with
    | false => exact .eq (by simpa only [deq] using RcAt.str_int a ta b tb)
    | true => exact .ne (by simpa only [deq, Bool.not_true, Bool.not_false] using RcNeAt.str_int a ta b tb)
  | .str a, .str b, rx, ry, _, _ =>
    cases rx; cases ry; obtain ⟨ta, rfl⟩ := ru; obtain ⟨tb, rfl⟩ := rv
    cases neg with
    | false => exact .eq (by simpa only [deq] using RcAt.str_str a ta b tb)
    | true => exact .ne (by simpa only [deq, Bool.not_true, Bool.not_false] using RcNeAt.str_str a ta b tb)
theorem rc_flat_list (neg : Bool) {l : Addr} {its : Array Value} (rx : Rep cA H x dx) (ru : RelV x u) (fx : fltD dx = true) (hl : s.heap.IsList l its) (hu : A.units < cLine) : RcA neg A s u (.ref l) false ∧ RcA neg A s (.ref l) u false := by
  match dx, rx, fx with
  | .non, rx, _ =>
    cases rx; cases ru
    cases neg with
    | false => exact ⟨.eq (RcAt.none_list hl hu), .eq (RcAt.list_none hl hu)⟩
    | true => exact ⟨.ne (RcNeAt.none_list hl hu), .ne (RcNeAt.list_none hl hu)⟩
  | .bl a, rx, _ =>
    cases rx; cases ru
    cases neg with
    | false => exact ⟨.eq (RcAt.bool_list a hl hu), .eq (RcAt.list_bool a hl hu)⟩
    | true => exact ⟨.ne (RcNeAt.bool_list a hl hu), .ne (RcNeAt.list_bool a hl hu)⟩
  | .int a, rx, _ =>
    cases rx; obtain ⟨ta, rfl⟩ := ru
    cases neg with
    | false => exact ⟨.eq (RcAt.int_list a ta hl hu), .eq (RcAt.list_int a ta hl hu)⟩
    | true => exact ⟨.ne (RcNeAt.int_list a ta hl hu), .ne (RcNeAt.list_int a ta hl hu)⟩
  | .str a, rx, _ =>
    cases rx; obtain ⟨ta, rfl⟩ := ru
    cases neg with
    | false => exact ⟨.eq (RcAt.str_list a ta hl hu), .eq (RcAt.list_str a ta hl hu)⟩
    | true => exact ⟨.ne (RcNeAt.str_list a ta hl hu), .ne (RcNeAt.list_str a ta hl hu)⟩
theorem rc_flat_tuple (neg : Bool) {l : Addr} {its : Array Value} (rx : Rep cA H x dx) (ru : RelV x u) (fx : fltD dx = true) (hl : s.heap.IsTuple l its) (hu : A.units < cLine) : RcA neg A s u (.ref l) false ∧ RcA neg A s (.ref l) u false := by
  match dx, rx, fx with
  | .non, rx, _ =>
    cases rx; cases ru
    cases neg with
    | false => exact ⟨.eq (RcAt.none_tuple hl hu), .eq (RcAt.tuple_none hl hu)⟩
    | true => exact ⟨.ne (RcNeAt.none_tuple hl hu), .ne (RcNeAt.tuple_none hl hu)⟩
  | .bl a, rx, _ =>
    cases rx; cases ru
    cases neg with
    | false => exact ⟨.eq (RcAt.bool_tuple a hl hu), .eq (RcAt.tuple_bool a hl hu)⟩
    | true => exact ⟨.ne (RcNeAt.bool_tuple a hl hu), .ne (RcNeAt.tuple_bool a hl hu)⟩
  | .int a, rx, _ =>
    cases rx; obtain ⟨ta, rfl⟩ := ru
    cases neg with
    | false => exact ⟨.eq (RcAt.int_tuple a ta hl hu), .eq (RcAt.tuple_int a ta hl hu)⟩
    | true => exact ⟨.ne (RcNeAt.int_tuple a ta hl hu), .ne (RcNeAt.tuple_int a ta hl hu)⟩
  | .str a, rx, _ =>
    cases rx; obtain ⟨ta, rfl⟩ := ru
    cases neg with
    | false => exact ⟨.eq (RcAt.str_tuple a ta hl hu), .eq (RcAt.tuple_str a ta hl hu)⟩
    | true => exact ⟨.ne (RcNeAt.str_tuple a ta hl hu), .ne (RcNeAt.tuple_str a ta hl hu)⟩
/-- a flat value, a list or a tuple declines an instance -/
theorem flat_dec {prog : Program} {w : World} {E : Value → Shared → Prop} (neg : Bool) {l C d : Addr} (rx : Rep cA H x dx) (ru : RelV x u) (fx : fltD dx = true) (hl : s.heap.get? l = some (PySem.W.instObj C d)) :
    ∃ Ty : String, s.TypeIs u Ty ∧ Ty ∈ (["NoneType", "bool", "int", "str", "list", "tuple"] : List String) ∧ wpAny (model prog w) A (tryCompare u (cmpInfo (cop neg)).2.1 (.ref l)) (fun r z => r = none ∧ z = s) E s := by
  match dx, rx, fx with
  | .non, rx, _ =>
    cases rx; cases ru
    refine ⟨"NoneType", rfl, by simp, ?_⟩
    cases neg with
    | false =>
      refine wpAny_tryCompare_declines rfl F.slot_NoneType_eq ?_
      exact call_gives F.slot_NoneType_eq rfl F.entry_NoneType_eq (F.args_NoneType_eq_2 _ _) (NoneType___eq___none_ref_0 l) ⟨rfl, rfl, rfl⟩
    | true =>
      refine wpAny_tryCompare_declines rfl F.slot_NoneType_ne ?_
      exact call_gives F.slot_NoneType_ne rfl F.entry_NoneType_ne (F.args_NoneType_ne_2 _ _) (NoneType___ne___none_ref_0 l) ⟨rfl, rfl, rfl⟩
  | .bl a, rx, _ =>
    cases rx; cases ru
    refine ⟨"bool", rfl, by simp, ?_⟩
    cases neg with
    | false =>
      refine wpAny_tryCompare_declines rfl F.slot_bool_eq ?_
      exact call_meets F.slot_bool_eq rfl F.entry_int_eq (F.args_int_eq_2 _ _) (bool_eq_dec a l d) ⟨hl, rfl, rfl, rfl⟩
    | true =>
      refine wpAny_tryCompare_declines rfl F.slot_bool_ne ?_
      exact call_meets F.slot_bool_ne rfl F.entry_int_ne (F.args_int_ne_2 _ _) (bool_ne_dec a l d) ⟨hl, rfl, rfl, rfl⟩
  | .int a, rx, _ =>
    cases rx; obtain ⟨ta, rfl⟩ := ru
    refine ⟨"int", (typeIs_int s a ta), by simp, ?_⟩
    cases neg with
    | false =>
      refine wpAny_tryCompare_declines (typeIs_int s a ta) F.slot_int_eq ?_
      exact call_meets F.slot_int_eq (typeIs_int s a ta) F.entry_int_eq (F.args_int_eq_2 _ _) (int_eq_dec a ta l d) ⟨hl, rfl, rfl, rfl⟩
    | true =>
      refine wpAny_tryCompare_declines (typeIs_int s a ta) F.slot_int_ne ?_
      exact call_meets F.slot_int_ne (typeIs_int s a ta) F.entry_int_ne (F.args_int_ne_2 _ _) (int_ne_dec a ta l d) ⟨hl, rfl, rfl, rfl⟩
  | .str a, rx, _ =>
    cases rx; obtain ⟨ta, rfl⟩ := ru
    refine ⟨"str", (typeIs_str s a ta), by simp, ?_⟩
    cases neg with
    | false =>
      refine wpAny_tryCompare_declines (typeIs_str s a ta) F.slot_str_eq ?_
      exact call_meets F.slot_str_eq (typeIs_str s a ta) F.entry_str_eq (F.args_str_eq_2 _ _) (str_eq_dec a ta l d) ⟨hl, rfl, rfl, rfl⟩
    | true =>
      refine wpAny_tryCompare_declines (typeIs_str s a ta) F.slot_str_ne ?_
      exact call_meets F.slot_str_ne (typeIs_str s a ta) F.entry_str_ne (F.args_str_ne_2 _ _) (str_ne_dec a ta l d) ⟨hl, rfl, rfl, rfl⟩
theorem list_dec {prog : Program} {w : World} {K : PySem.W.Frag} {E : Value → Shared → Prop} (neg : Bool) {l p C : Addr} {ox : Obj} {od : Option Obj} (X : K.In s.heap) (I : PySem.W.InstAt s.heap l ox C od) (hno : PySem.W.subIn K (.ref C) (.type "list") = some false) (hT : s.TypeIs (.ref p) "list") :
    wpAny (model prog w) A (tryCompare (.ref p) (cmpInfo (cop neg)).2.1 (.ref l)) (fun r z => r = none ∧ z = s) E s := by
  cases neg with
  | false => exact wpAny_tryCompare_declines hT F.slot_list_eq (GQ.call_here F.slot_list_eq hT F.entry_list_eq (F.args_list_eq_2 _ _) (list_eq_dec X I hno ⟨rfl, rfl, rfl⟩))
  | true => exact wpAny_tryCompare_declines hT F.slot_list_ne (GQ.call_here F.slot_list_ne hT F.entry_list_ne (F.args_list_ne_2 _ _) (list_ne_dec X I hno ⟨rfl, rfl, rfl⟩))
theorem tuple_dec {prog : Program} {w : World} {K : PySem.W.Frag} {E : Value → Shared → Prop} (neg : Bool) {l p C : Addr} {ox : Obj} {od : Option Obj} (X : K.In s.heap) (I : PySem.W.InstAt s.heap l ox C od) (hno : PySem.W.subIn K (.ref C) (.type "tuple") = some false) (hT : s.TypeIs (.ref p) "tuple") :
    wpAny (model prog w) A (tryCompare (.ref p) (cmpInfo (cop neg)).2.1 (.ref l)) (fun r z => r = none ∧ z = s) E s := by
  cases neg with
  | false => exact wpAny_tryCompare_declines hT F.slot_tuple_eq (GQ.call_here F.slot_tuple_eq hT F.entry_tuple_eq (F.args_tuple_eq_2 _ _) (tuple_eq_dec X I hno ⟨rfl, rfl, rfl⟩))
  | true => exact wpAny_tryCompare_declines hT F.slot_tuple_ne (GQ.call_here F.slot_tuple_ne hT F.entry_tuple_ne (F.args_tuple_ne_2 _ _) (tuple_ne_dec X I hno ⟨rfl, rfl, rfl⟩))
end
end DD
namespace DD
open PySem PySem.Spec PyProof.Rows PySem.SeqAt L2
/-! ### == and != of all data, with the own __eq__ of T's classes -/
abbrev XNo : XK := fun _ _ _ => False
theorem xno_pass {X : Cx} : Passes (L2.CX X.prog X.w) X XNo := by
  intro pins σ H s e s' I c
  obtain ⟨_, _, _, cls, d, _, _, _, _, _, _, _, z⟩ := c
  exact z.elim
def SEq (T : Nat → Option (List Str)) (n : Nat) : FS := fun ws μ P => ∃ (c : Nat) (fs : List Str) (ds : List D) (e : D), ws = [.d (.obj c fs ds), .d e] ∧ μ = [] ∧ okE T n (.obj c fs ds) = true ∧ okE T n e = true ∧ P (.ret (.d (.bl (deq (.obj c fs ds) e)))) μ
section
variable {X : Cx} {cA : Nat → Addr} {T : Nat → Option (List Str)} {f : Addr} {fd : FuncData} {ps : List Str}
def EqN (X : Cx) (cA : Nat → Addr) (T : Nat → Option (List Str)) (n : Nat) : Prop :=
  ∀ (A : Around) (pins : List (Addr × Obj)) (s : Shared) (σ : L2.St) (H : Hp) (x y : V) (u v : Value) (dx dy : D), L2.Sub X (n + 1) A → Inv X pins σ H s → RelV x u → RelV y v → Rep cA H x dx → Rep cA H y dy → okE T n dx = true → okE T n dy = true →
    wpAny (model X.prog X.w) A (eqBool u v) (fun r s' => r = deq dx dy ∧ LoopI X pins σ H s') X.xe s
def RcN (X : Cx) (cA : Nat → Addr) (T : Nat → Option (List Str)) (n : Nat) (neg : Bool) : Prop :=
  ∀ (A : Around) (pins : List (Addr × Obj)) (s : Shared) (σ : L2.St) (H : Hp) (x y : V) (u v : Value) (dx dy : D), L2.Sub X (n + 1) A → Inv X pins σ H s → RelV x u → RelV y v → Rep cA H x dx → Rep cA H y dy → okE T n dx = true → okE T n dy = true →
    wpAny (model X.prog X.w) A (richCompare (cop neg) u v) (fun r s' => r = .bool (deq dx dy != neg) ∧ LoopI X pins σ H s') X.xe s
abbrev EqF (X : Cx) (cA : Nat → Addr) (T : Nat → Option (List Str)) (f : Addr) (fd : FuncData) (ps : List Str) (n : Nat) : Prop := FnOk X.prog X.w X.K X.mg X.base (L2.CX X.prog X.w) n f fd ps (spD cA (SEq T n))
/-- the own == is called -/
theorem call_own {n : Nat} {A : Around} {pins : List (Addr × Obj)} {s : Shared} {σ : L2.St} {H : Hp} {x y : V} {u v : Value} {c : Nat} {fs : List Str} {ds : List D} {e : D} (F : EqF X cA T f fd ps n) (hb : Binds X.K fd ps []) (sb : L2.Sub X n A) (I : Inv X pins σ H s) (ru : RelV x u) (rv : RelV y v)
    (rx : Rep cA H x (.obj c fs ds)) (ry : Rep cA H y e) (o : okE T n (.obj c fs ds) = true) (o' : okE T n e = true) :
    wpAny (model X.prog X.w) A (call (.ref f) [u, v]) (fun r s' => ∃ z, r = .bool z ∧ z = deq (.obj c fs ds) e ∧ LoopI X pins σ H s') X.xe s := by
  have hs : spD cA (SEq T n) [x, y] H (fun v H' => v = .bl (deq (.obj c fs ds) e) ∧ Ext H H') XNo := by
    refine ⟨fun _ => none, H, [], [.d (.obj c fs ds), .d e], [], fun r _ => r = .ret (.d (.bl (deq (.obj c fs ds) e))), ?_, .cons (.d rx) (.cons (.d ry) .nil), ⟨c, fs, ds, e, rfl, rfl, o, o', rfl⟩, fun r μ' G' m' H' hp l rm => ?_⟩
    · exact ⟨fun _ _ h => (by cases h), Sub.refl H, fun _ _ h => (by cases h), rfl, fun i c as h => (by simp at h), fun i c as h => (by simp at h), fun i j c c' as as' a h => (by simp at h), fun i c as a h => (by simp at h)⟩
    · subst hp
      intro v q
      cases q with
      | d q =>
        cases q
        exact ⟨rfl, l.g.trans rm.gh⟩
  have e0 : Env0 X.prog X.w X.K X.mg X.base A X.stack s H := by
    have e := I.env0
    exact ⟨by rw [sb.fr]; exact e.frames, e.mod, e.bs, e.bsz, e.funs, e.frf, e.hok, e.bare⟩
  have hl := F.len _ _ _ _ hs
  refine wpAny_call (codeAny_mono (F.run A X.stack s H ⟨[u, v], []⟩ [u, v] [x, y] _ XNo sb.room e0 (by
    have := hb s [u, v] I.kIn (by simpa using hl)
    simpa using this) (.cons ru (.cons rv .nil)) hs) fun r s' hq => ?_)
  cases r with
  | error e => exact xno_pass pins σ H s e s' I hq
  | ok fl =>
    cases fl with
    | ret w =>
      obtain ⟨z, H', I', rz, ez, ex⟩ := I.after hq
      subst ez
      cases rz
      exact ⟨_, rfl, rfl, H', I', ex⟩
    | next => exact False.elim hq
    | brk => exact False.elim hq
    | cont => exact False.elim hq
theorem notFirst_ty {K : PySem.W.Frag} {C : Addr} {Ty : String} (h : Ty ∈ (["NoneType", "bool", "int", "str", "list", "tuple"] : List String)) : PySem.W.notFirst K C (.type Ty) = true := by
  have key : ∀ (t : String) (l : List Value), fastBuiltinMro t = some l → l.contains (.ref C) = false → PySem.W.notFirst K C (.type t) = true := fun t l e c => by
    have : PySem.W.subIn K (.type t) (.ref C) = some false := by
      show (fastBuiltinMro t).map (·.contains (.ref C)) = some false
      rw [e]
      exact congrArg some c
    show ((Value.type t == Value.ref C) || (PySem.W.subIn K (.type t) (.ref C) == some false)) = true
    rw [this]
    simp
  simp only [List.mem_cons, List.not_mem_nil, or_false] at h
  rcases h with rfl | rfl | rfl | rfl | rfl | rfl
  · exact key _ [.type "NoneType", .type "object"] (by decide +kernel) (by simp)
  · exact key _ [.type "bool", .type "int", .type "object"] (by decide +kernel) (by simp)
  · exact key _ [.type "int", .type "object"] (by decide +kernel) (by simp)
  · exact key _ [.type "str", .type "object"] (by decide +kernel) (by simp)
  · exact key _ [.type "list", .type "object"] (by decide +kernel) (by simp)
  · exact key _ [.type "tuple", .type "object"] (by decide +kernel) (by simp)
theorem typeOf_looks {M : Model} {s : Shared} {u : Value} {Ty : String} (h : s.TypeIs u Ty) : PySem.W.Looks M s.heap (typeOf u) (.type Ty) := by
  cases u with
  | ref a =>
    obtain ⟨o, ho, hc⟩ := h
    rw [← hc]
    exact (PySem.W.Looks.ld (part := none) ho).andThen .now
  | _ => exact PySem.W.Looks.of_pure h
/-- where the left one or the right one is an instance -/
theorem rc_ins_left {n : Nat} {neg : Bool} (E : EqT X.K cA T f) (F : EqF X cA T f fd ps (n + 3)) (hb : Binds X.K fd ps []) {A : Around} {pins : List (Addr × Obj)} {s : Shared} {σ : L2.St} {H : Hp} {x y : V} {u v : Value} {c : Nat} {fs : List Str} {ds : List D} {e : D} {tb : Value} (sb : L2.Sub X (n + 4) A) (I : Inv X pins σ H s) (ru : RelV x u) (rv : RelV y v)
    (rx : Rep cA H x (.obj c fs ds)) (ry : Rep cA H y e) (o : okE T (n + 3) (.obj c fs ds) = true) (o' : okE T (n + 3) e = true) (ht : PySem.W.Looks (model X.prog X.w) s.heap (typeOf v) tb) (hn : PySem.W.notFirst X.K (cA c) tb = true) :
    wpAny (model X.prog X.w) A (richCompare (cop neg) u v) (fun r s' => r = .bool (deq (.obj c fs ds) e != neg) ∧ LoopI X pins σ H s') X.xe s := by
  have ht0 : T c = some fs := by simp only [okE, Bool.and_eq_true, beq_iff_eq] at o; exact o.1.1
  generalize hd : D.obj c fs ds = dd at rx
  have rx' := rx
  cases rx with
  | @obj p dx c fs xs ds h l r =>
    cases hd
    cases ru
    obtain ⟨mA, O, _⟩ := ins_get I.hok h
    obtain ⟨od, J, _⟩ := O.look
    have k : ∀ A', L2.Sub X (n + 3) A' → wpAny (model X.prog X.w) A' (call (.ref f) [.ref p, v]) (fun r z => ∃ q, r = Value.bool q ∧ (fun (r : Value) s' => r = Value.bool (deq (.obj c fs ds) e != neg) ∧ LoopI X pins σ H s') (Value.bool (q != neg)) z) X.xe s := fun A' sb' =>
      wpAny_mono (call_own F hb sb' I (x := .ref p) rfl rv rx' ry o o') (fun r z ⟨q, e1, e2, L⟩ => ⟨q, e1, by rw [e2], L⟩) fun _ _ z => z
    refine rc_own I.kIn J (E.cl c fs ht0) (by have := sb.room.un; omega) ht hn ?_
    cases neg with
    | false => exact k A (sb.mono (by omega))
    | true => exact k A.in1 sb.in1
  | _ => cases hd
theorem rc_ins_right {n : Nat} {neg : Bool} (E : EqT X.K cA T f) (F : EqF X cA T f fd ps (n + 3)) (hb : Binds X.K fd ps []) {A : Around} {pins : List (Addr × Obj)} {s : Shared} {σ : L2.St} {H : Hp} {x y : V} {u v : Value} {c : Nat} {fs : List Str} {ds : List D} {e : D} {Ty : String} (sb : L2.Sub X (n + 4) A) (I : Inv X pins σ H s) (ru : RelV x u) (rv : RelV y v)
    (rx : Rep cA H x (.obj c fs ds)) (ry : Rep cA H y e) (o : okE T (n + 3) (.obj c fs ds) = true) (o' : okE T (n + 3) e = true) (ht : s.TypeIs v Ty) (hm : Ty ∈ (["NoneType", "bool", "int", "str", "list", "tuple"] : List String))
    (hdec : ∀ l d, u = .ref l → s.heap.get? l = some (PySem.W.instObj (cA c) d) → X.K.In s.heap → (∃ od, PySem.W.InstAt s.heap l (PySem.W.instObj (cA c) d) (cA c) od) → PySem.W.subIn X.K (.ref (cA c)) (.type Ty) = some false → wpAny (model X.prog X.w) A (tryCompare v (cmpInfo (cop neg)).2.1 (.ref l)) (fun r z => r = none ∧ z = s) X.xe s) :
    wpAny (model X.prog X.w) A (richCompare (cop neg) v u) (fun r s' => r = .bool (deq (.obj c fs ds) e != neg) ∧ LoopI X pins σ H s') X.xe s := by
  have ht0 : T c = some fs := by simp only [okE, Bool.and_eq_true, beq_iff_eq] at o; exact o.1.1
  generalize hd : D.obj c fs ds = dd at rx
  have rx' := rx
  cases rx with
  | @obj p dx c fs xs ds h l r =>
    cases hd
    cases ru
    obtain ⟨mA, O, _⟩ := ins_get I.hok h
    obtain ⟨od, J, _⟩ := O.look
    have k : ∀ A', L2.Sub X (n + 3) A' → wpAny (model X.prog X.w) A' (call (.ref f) [.ref p, v]) (fun r z => ∃ q, r = Value.bool q ∧ (fun (r : Value) s' => r = Value.bool (deq (.obj c fs ds) e != neg) ∧ LoopI X pins σ H s') (Value.bool (q != neg)) z) X.xe s := fun A' sb' =>
      wpAny_mono (call_own F hb sb' I (x := .ref p) rfl rv rx' ry o o') (fun r z ⟨q, e1, e2, L⟩ => ⟨q, e1, by rw [e2], L⟩) fun _ _ z => z
    have hno := (E.cl c fs ht0).no Ty hm
    refine rc_back I.kIn J (E.cl c fs ht0) (by have := sb.room.un; omega) ht hno (hdec p dx rfl O.obj I.kIn ⟨_, J⟩ hno) ?_
    cases neg with
    | false => exact k A (sb.mono (by omega))
    | true => exact k A.in1 sb.in1
  | _ => cases hd
end
end DD
namespace DD
open PySem PySem.Spec PyProof.Rows PySem.SeqAt L2
section
variable {X : Cx} {cA : Nat → Addr} {T : Nat → Option (List Str)} {f : Addr} {fd : FuncData} {ps : List Str} {n : Nat} {A : Around} {pins : List (Addr × Obj)} {s : Shared} {σ : L2.St} {H : Hp} {a b : Addr} {xs ys : List V} {ds es : List D}
theorem turn_at (hE : EqN X cA T n) (sb : L2.Sub X (n + 2) A) (rx : Reps cA H xs ds) (ry : Reps cA H ys es) (o : okEs T n ds = true) (o' : okEs T n es = true) {its its2 : List Value} (r : Vals xs its) (r2 : Vals ys its2) (i : Nat) (h1 : i < its.toArray.size) (h2 : i < its2.toArray.size) (z : Shared) (L : LoopI X pins σ H z) :
    wpAny (model X.prog X.w) A.in1 (eqBool its.toArray[i] its2.toArray[i]) (fun c z => c = deqAt ds es i ∧ LoopI X pins σ H z) X.xe z := by
  obtain ⟨H1, I1, e1⟩ := L
  have h1' : i < its.length := by simpa using h1
  have h2' : i < its2.length := by simpa using h2
  have g1 : its[i]? = some its.toArray[i] := by rw [List.getElem?_eq_getElem h1'] <;> simp
  have g2 : its2[i]? = some its2.toArray[i] := by rw [List.getElem?_eq_getElem h2'] <;> simp
  have k1 : xs[i]? = some (xs[i]'(by rw [r.length]; exact h1')) := List.getElem?_eq_getElem _
  have k2 : ys[i]? = some (ys[i]'(by rw [r2.length]; exact h2')) := List.getElem?_eq_getElem _
  obtain ⟨u, hu, ru⟩ := r.get k1
  obtain ⟨v, hv, rv⟩ := r2.get k2
  rw [g1] at hu
  rw [g2] at hv
  rw [Option.some.inj hu, Option.some.inj hv]
  obtain ⟨d, e2, q1⟩ := rx.get k1
  obtain ⟨e, e3, q2⟩ := ry.get k2
  rw [okEs_all] at o o'
  have od := List.all_eq_true.mp o d (List.mem_of_getElem? e2)
  have oe := List.all_eq_true.mp o' e (List.mem_of_getElem? e3)
  refine wpAny_mono (hE A.in1 pins z σ H1 _ _ u v d e sb.in1 I1 ru rv (q1.mono e1) (q2.mono e1) od oe) (fun c z q => ?_) fun _ _ q => q
  obtain ⟨hr, H2, I2, e4⟩ := q
  refine ⟨?_, H2, I2, e1.trans e4⟩
  rw [hr]
  unfold deqAt
  rw [e2, e3]
theorem rc_tup_eq (hE : EqN X cA T n) (sb : L2.Sub X (n + 2) A) (I : Inv X pins σ H s) (ha : H a = some (.tup xs)) (hb : H b = some (.tup ys)) (rx : Reps cA H xs ds) (ry : Reps cA H ys es) (o : okEs T n ds = true) (o' : okEs T n es = true) :
    wpAny (model X.prog X.w) A (richCompare (cop false) (.ref a) (.ref b)) (fun r s' => r = .bool (deqs ds es != false) ∧ LoopI X pins σ H s') X.xe s := by
  obtain ⟨its, r, e, _⟩ := I.tuple (SqT.of ha)
  obtain ⟨its2, r2, e2, _⟩ := I.tuple (SqT.of hb)
  obtain ⟨⟨c1, d1, t1, l1⟩, ho, hc, n1, hd⟩ := id e
  obtain ⟨⟨c2, d2, t2, l2⟩, ho2, hc2, n2, hd2⟩ := id e2
  simp only at hc hd hc2 hd2
  subst hc hd hc2 hd2
  have z1 : its.toArray.size = ds.length := by rw [List.size_toArray, ← r.length, rx.len]
  have z2 : its2.toArray.size = es.length := by rw [List.size_toArray, ← r2.length, ry.len]
  refine wpAny_richCompare_same_room (op := .Eq) ⟨_, ho, rfl⟩ ⟨_, ho2, rfl⟩ F.slot_tuple_eq (GQ.call_here F.slot_tuple_eq ⟨_, ho, rfl⟩ F.entry_tuple_eq (F.args_tuple_eq_2 _ _) ?_) sb.room.units0
  refine tuEq (R := wants (fun v z => v ≠ .notImplemented ∧ v = .bool (deqs ds es != false) ∧ LoopI X pins σ H z) X.xe) a b its.toArray its2.toArray n1 n2 d1 d2 l1 l2 (deqAt ds es) (LoopI X pins σ H) (fun i h1 h2 z L => turn_at hE sb rx ry o o' r r2 i h1 h2 z L) (fun z q L hq => ?_) ho ho2 ⟨H, I, Ext.rfl'⟩
  subst hq
  refine ⟨nofun, ?_, L⟩
  rw [deqs_all, z1, z2]
  simp
theorem rc_lst_eq (hE : EqN X cA T n) (sb : L2.Sub X (n + 2) A) (I : Inv X pins σ H s) (ha : H a = some (.lst xs)) (hb : H b = some (.lst ys)) (rx : Reps cA H xs ds) (ry : Reps cA H ys es) (o : okEs T n ds = true) (o' : okEs T n es = true) :
    wpAny (model X.prog X.w) A (richCompare (cop false) (.ref a) (.ref b)) (fun r s' => r = .bool (deqs ds es != false) ∧ LoopI X pins σ H s') X.xe s := by
  by_cases hz : ds.length = es.length
  · have two : Seqs2 X.prog X.w A (wants (fun v z => v ≠ .notImplemented ∧ v = .bool (deqs ds es != false) ∧ LoopI X pins σ H z) X.xe) a b ds.length (deqAt ds es) (LoopI X pins σ H) := fun z L => by
      obtain ⟨H1, I1, e1⟩ := id L
      obtain ⟨_, its, k, r, e⟩ := I1.hok a _ (e1 _ _ ha)
      obtain ⟨_, its2, k2, r2, e2⟩ := I1.hok b _ (e1 _ _ hb)
      exact ⟨its.toArray, its2.toArray, k, k2, e, e2, by rw [List.size_toArray, ← r.length, rx.len], by rw [List.size_toArray, ← r2.length, ry.len, hz], fun i h1 h2 => turn_at hE sb rx ry o o' r r2 i h1 h2 z L⟩
    obtain ⟨zs, zs2, k1, k2, h1, h2, _⟩ := two s ⟨H, I, Ext.rfl'⟩
    refine wpAny_richCompare_same_room (op := .Eq) ⟨_, h1, rfl⟩ ⟨_, h2, rfl⟩ F.slot_list_eq (GQ.call_here F.slot_list_eq ⟨_, h1, rfl⟩ F.entry_list_eq (F.args_list_eq_2 _ _) ?_) sb.room.units0
    refine liEq (R := wants (fun v z => v ≠ .notImplemented ∧ v = .bool (deqs ds es != false) ∧ LoopI X pins σ H z) X.xe) a b ds.length (deqAt ds es) (LoopI X pins σ H) two (fun z q L hq => ?_) ⟨H, I, Ext.rfl'⟩
    subst hq
    refine ⟨nofun, ?_, L⟩
    rw [deqs_all, ← hz]
    simp
  · obtain ⟨its, r, e, _⟩ := I.list (SqL.of ha)
    obtain ⟨its2, r2, e2, _⟩ := I.list (SqL.of hb)
    have hne : (its.toArray.size != its2.toArray.size) = true := by
      rw [List.size_toArray, List.size_toArray, ← r.length, ← r2.length, rx.len, ry.len]
      simpa using hz
    have hf : deqs ds es = false := by
      rw [deqs_all]
      simp [hz]
    rw [hf]
    exact RcAt.lists_lengths e.isList e2.isList hne sb.room.units0 X.prog X.w X.xe _ ⟨rfl, H, I, Ext.rfl'⟩
theorem rc_tup_ne (hE : EqN X cA T n) (sb : L2.Sub X (n + 2) A) (I : Inv X pins σ H s) (ha : H a = some (.tup xs)) (hb : H b = some (.tup ys)) (rx : Reps cA H xs ds) (ry : Reps cA H ys es) (o : okEs T n ds = true) (o' : okEs T n es = true) :
    wpAny (model X.prog X.w) A (richCompare (cop true) (.ref a) (.ref b)) (fun r s' => r = .bool (deqs ds es != true) ∧ LoopI X pins σ H s') X.xe s := by
  obtain ⟨its, r, e, _⟩ := I.tuple (SqT.of ha)
  obtain ⟨its2, r2, e2, _⟩ := I.tuple (SqT.of hb)
  obtain ⟨⟨c1, d1, t1, l1⟩, ho, hc, n1, hd⟩ := id e
  obtain ⟨⟨c2, d2, t2, l2⟩, ho2, hc2, n2, hd2⟩ := id e2
  simp only at hc hd hc2 hd2
  subst hc hd hc2 hd2
  have z1 : its.toArray.size = ds.length := by rw [List.size_toArray, ← r.length, rx.len]
  have z2 : its2.toArray.size = es.length := by rw [List.size_toArray, ← r2.length, ry.len]
  refine wpAny_richCompare_same_room (op := .NotEq) ⟨_, ho, rfl⟩ ⟨_, ho2, rfl⟩ F.slot_tuple_ne (GQ.call_here F.slot_tuple_ne ⟨_, ho, rfl⟩ F.entry_tuple_ne (F.args_tuple_ne_2 _ _) ?_) sb.room.units0
  refine tuNe (R := wants (fun v z => v ≠ .notImplemented ∧ v = .bool (deqs ds es != true) ∧ LoopI X pins σ H z) X.xe) a b its.toArray its2.toArray n1 n2 d1 d2 l1 l2 (deqAt ds es) (LoopI X pins σ H) (fun i h1 h2 z L => turn_at hE sb rx ry o o' r r2 i h1 h2 z L) (fun z q L hq => ?_) ho ho2 ⟨H, I, Ext.rfl'⟩
  subst hq
  refine ⟨nofun, ?_, L⟩
  rw [deqs_all, z1, z2]
  simp
theorem rc_lst_ne (hE : EqN X cA T n) (sb : L2.Sub X (n + 2) A) (I : Inv X pins σ H s) (ha : H a = some (.lst xs)) (hb : H b = some (.lst ys)) (rx : Reps cA H xs ds) (ry : Reps cA H ys es) (o : okEs T n ds = true) (o' : okEs T n es = true) :
    wpAny (model X.prog X.w) A (richCompare (cop true) (.ref a) (.ref b)) (fun r s' => r = .bool (deqs ds es != true) ∧ LoopI X pins σ H s') X.xe s := by
  by_cases hz : ds.length = es.length
  · have two : Seqs2 X.prog X.w A (wants (fun v z => v ≠ .notImplemented ∧ v = .bool (deqs ds es != true) ∧ LoopI X pins σ H z) X.xe) a b ds.length (deqAt ds es) (LoopI X pins σ H) := fun z L => by
      obtain ⟨H1, I1, e1⟩ := id L
      obtain ⟨_, its, k, r, e⟩ := I1.hok a _ (e1 _ _ ha)
      obtain ⟨_, its2, k2, r2, e2⟩ := I1.hok b _ (e1 _ _ hb)
      exact ⟨its.toArray, its2.toArray, k, k2, e, e2, by rw [List.size_toArray, ← r.length, rx.len], by rw [List.size_toArray, ← r2.length, ry.len, hz], fun i h1 h2 => turn_at hE sb rx ry o o' r r2 i h1 h2 z L⟩
    obtain ⟨zs, zs2, k1, k2, h1, h2, _⟩ := two s ⟨H, I, Ext.rfl'⟩
    refine wpAny_richCompare_same_room (op := .NotEq) ⟨_, h1, rfl⟩ ⟨_, h2, rfl⟩ F.slot_list_ne (GQ.call_here F.slot_list_ne ⟨_, h1, rfl⟩ F.entry_list_ne (F.args_list_ne_2 _ _) ?_) sb.room.units0
    refine liNe (R := wants (fun v z => v ≠ .notImplemented ∧ v = .bool (deqs ds es != true) ∧ LoopI X pins σ H z) X.xe) a b ds.length (deqAt ds es) (LoopI X pins σ H) two (fun z q L hq => ?_) ⟨H, I, Ext.rfl'⟩
    subst hq
    refine ⟨nofun, ?_, L⟩
    rw [deqs_all, ← hz]
    simp
  · obtain ⟨its, r, e, _⟩ := I.list (SqL.of ha)
    obtain ⟨its2, r2, e2, _⟩ := I.list (SqL.of hb)
    have hne : (its.toArray.size != its2.toArray.size) = true := by
      rw [List.size_toArray, List.size_toArray, ← r.length, ← r2.length, rx.len, ry.len]
      simpa using hz
    have hf : deqs ds es = false := by
      rw [deqs_all]
      simp [hz]
    rw [hf]
    exact RcNeAt.lists_lengths e.isList e2.isList hne sb.room.units0 X.prog X.w X.xe _ ⟨rfl, H, I, Ext.rfl'⟩
end
end DD
namespace DD
open PySem PySem.Spec PyProof.Rows PySem.SeqAt L2
def D.isObj : D → Bool
  | .obj _ _ _ => true
  | _ => false
theorem deq_noobj {d e : D} (h : d.isObj = true) (h' : e.isObj = false) : deq d e = false ∧ deq e d = false := by
  match d, h with
  | .obj c fs ds, _ => cases e <;> first | (simp [D.isObj] at h'; done) | exact ⟨by simp [deq], by simp [deq]⟩
section
variable {X : Cx} {cA : Nat → Addr} {T : Nat → Option (List Str)} {f : Addr} {fd : FuncData} {ps : List Str} {A : Around} {pins : List (Addr × Obj)} {s : Shared} {σ : L2.St} {H : Hp} {x y : V} {u v : Value} {dx dy : D}
/-- the type of what is no instance -/
theorem type_of (I : Inv X pins σ H s) (ru : RelV x u) (rx : Rep cA H x dx) (h : dx.isObj = false) (n : Nat) (o : okE T n dx = true) : ∃ Ty : String, s.TypeIs u Ty ∧ Ty ∈ (["NoneType", "bool", "int", "str", "list", "tuple"] : List String) := by
  cases rx with
  | non => cases ru; exact ⟨"NoneType", rfl, by simp⟩
  | bl b => cases ru; exact ⟨"bool", rfl, by simp⟩
  | int i => obtain ⟨t, rfl⟩ := ru; exact ⟨"int", typeIs_int s i t, by simp⟩
  | str i => obtain ⟨t, rfl⟩ := ru; exact ⟨"str", typeIs_str s i t, by simp⟩
  | tup hp r =>
    cases ru
    obtain ⟨its, r, e, _⟩ := I.tuple (SqT.of hp)
    obtain ⟨o, ho, hc, n, hd⟩ := id e
    exact ⟨"tuple", ⟨_, ho, hc⟩, by simp⟩
  | lst hp r =>
    cases ru
    obtain ⟨its, r, e, _⟩ := I.list (SqL.of hp)
    obtain ⟨o, ho, hc, n, hd⟩ := id e.isList
    exact ⟨"list", ⟨_, ho, hc⟩, by simp⟩
  | obj h' _ _ => cases h
  | dic _ _ _ =>
    match n, o with
    | 0, o => simp [okE] at o
    | 1, o => simp [okE] at o
    | 2, o => simp [okE] at o
    | n + 3, o => simp [okE] at o
  | dicT _ _ _ =>
    match n, o with
    | 0, o => simp [okE] at o
    | 1, o => simp [okE] at o
    | 2, o => simp [okE] at o
    | n + 3, o => simp [okE] at o
/-- .. declines an instance -/
theorem dec_of {neg : Bool} (I : Inv X pins σ H s) (ru : RelV x u) (rx : Rep cA H x dx) (h : dx.isObj = false) (n : Nat) (o : okE T n dx = true) {C : Addr} (E : EqCls X.K C f) {l d : Addr} (hl : s.heap.get? l = some (PySem.W.instObj C d)) (J : ∃ od, PySem.W.InstAt s.heap l (PySem.W.instObj C d) C od) :
    ∃ Ty : String, s.TypeIs u Ty ∧ Ty ∈ (["NoneType", "bool", "int", "str", "list", "tuple"] : List String) ∧ wpAny (model X.prog X.w) A (tryCompare u (cmpInfo (cop neg)).2.1 (.ref l)) (fun r z => r = none ∧ z = s) X.xe s := by
  obtain ⟨od, J⟩ := J
  have fl : fltD dx = true → ∃ Ty : String, s.TypeIs u Ty ∧ Ty ∈ (["NoneType", "bool", "int", "str", "list", "tuple"] : List String) ∧ wpAny (model X.prog X.w) A (tryCompare u (cmpInfo (cop neg)).2.1 (.ref l)) (fun r z => r = none ∧ z = s) X.xe s := fun hf => flat_dec neg rx ru hf hl
  cases rx with
  | tup hp r =>
    cases ru
    obtain ⟨its, r, e, _⟩ := I.tuple (SqT.of hp)
    obtain ⟨o, ho, hc, n, hd⟩ := id e
    exact ⟨"tuple", ⟨_, ho, hc⟩, by simp, tuple_dec neg I.kIn J (E.no _ (by simp)) ⟨_, ho, hc⟩⟩
  | lst hp r =>
    cases ru
    obtain ⟨its, r, e, _⟩ := I.list (SqL.of hp)
    obtain ⟨o, ho, hc, n, hd⟩ := id e.isList
    exact ⟨"list", ⟨_, ho, hc⟩, by simp, list_dec neg I.kIn J (E.no _ (by simp)) ⟨_, ho, hc⟩⟩
  | obj h' _ _ => cases h
  | dic _ _ _ =>
    match n, o with
    | 0, o => simp [okE] at o
    | 1, o => simp [okE] at o
    | 2, o => simp [okE] at o
    | n + 3, o => simp [okE] at o
  | dicT _ _ _ =>
    match n, o with
    | 0, o => simp [okE] at o
    | 1, o => simp [okE] at o
    | 2, o => simp [okE] at o
    | n + 3, o => simp [okE] at o
  | _ => exact fl rfl
/-- everything but instances -/
theorem rc_plain {n : Nat} (neg : Bool) (hE : ∀ m, m < n → EqN X cA T m) (sb : L2.Sub X (n + 1) A) (I : Inv X pins σ H s) (ru : RelV x u) (rv : RelV y v) (rx : Rep cA H x dx) (ry : Rep cA H y dy) (o : okE T n dx = true) (o' : okE T n dy = true) (h : dx.isObj = false) (h' : dy.isObj = false) :
    wpAny (model X.prog X.w) A (richCompare (cop neg) u v) (fun r s' => r = .bool (deq dx dy != neg) ∧ LoopI X pins σ H s') X.xe s := by
  have here : ∀ {c : Bool}, deq dx dy = c → RcA neg A s u v c → wpAny (model X.prog X.w) A (richCompare (cop neg) u v) (fun r s' => r = .bool (deq dx dy != neg) ∧ LoopI X pins σ H s') X.xe s := fun {c} e q => by
    rw [e]
    exact q X.prog X.w X.xe _ ⟨rfl, H, I, Ext.rfl'⟩
  have hu := sb.room.units0
  by_cases fx : fltD dx = true
  · by_cases fy : fltD dy = true
    · exact here rfl (rc_flat neg rx ry ru rv fx fy)
    · cases ry with
      | tup hy r =>
        cases rv
        obtain ⟨its, r, e, _⟩ := I.tuple (SqT.of hy)
        refine here ?_ (rc_flat_tuple neg rx ru fx e hu).1
        cases dx <;> first | (simp [fltD] at fx; done) | simp [deq]
      | lst hy r =>
        cases rv
        obtain ⟨its, r, e, _⟩ := I.list (SqL.of hy)
        refine here ?_ (rc_flat_list neg rx ru fx e.isList hu).1
        cases dx <;> first | (simp [fltD] at fx; done) | simp [deq]
      | obj _ _ _ => cases h'
      | dic _ _ _ =>
        match n, o' with
        | 0, o => simp [okE] at o
        | 1, o => simp [okE] at o
        | 2, o => simp [okE] at o
        | n + 3, o => simp [okE] at o
      | dicT _ _ _ =>
        match n, o' with
        | 0, o => simp [okE] at o
        | 1, o => simp [okE] at o
        | 2, o => simp [okE] at o
        | n + 3, o => simp [okE] at o
      | _ => exact absurd rfl fy
  · have seq2 : ∀ {c : Bool}, fltD dy = true → True := fun _ => trivial
    cases rx with
    | tup hx r =>
      cases ru
      obtain ⟨its, rr, e, _⟩ := I.tuple (SqT.of hx)
      by_cases fy : fltD dy = true
      · refine here ?_ (rc_flat_tuple neg ry rv fy e hu).2
        cases dy <;> first | (simp [fltD] at fy; done) | simp [deq]
      · cases ry with
        | tup hy r' =>
          cases rv
          match n, o, o' with
          | n + 1, o, o' =>
            simp only [okE] at o o'
            simp only [deq]
            cases neg with
            | false => exact rc_tup_eq (hE n (by omega)) sb I hx hy r r' o o'
            | true => exact rc_tup_ne (hE n (by omega)) sb I hx hy r r' o o'
        | lst hy r' =>
          cases rv
          obtain ⟨its2, rr2, e2, _⟩ := I.list (SqL.of hy)
          refine here (c := false) (by simp [deq]) ?_
          cases neg with
          | false => exact .eq (RcAt.tuple_list e e2.isList hu)
          | true => exact .ne (RcNeAt.tuple_list e e2.isList hu)
        | obj _ _ _ => cases h'
        | dic _ _ _ =>
          match n, o' with
          | 0, o => simp [okE] at o
          | 1, o => simp [okE] at o
          | 2, o => simp [okE] at o
          | n + 3, o => simp [okE] at o
        | dicT _ _ _ =>
          match n, o' with
          | 0, o => simp [okE] at o
          | 1, o => simp [okE] at o
          | 2, o => simp [okE] at o
          | n + 3, o => simp [okE] at o
        | _ => exact absurd rfl fy
    | lst hx r =>
      cases ru
      obtain ⟨its, rr, e, _⟩ := I.list (SqL.of hx)
      by_cases fy : fltD dy = true
      · refine here ?_ (rc_flat_list neg ry rv fy e.isList hu).2
        cases dy <;> first | (simp [fltD] at fy; done) | simp [deq]
      · cases ry with
        | lst hy r' =>
          cases rv
          match n, o, o' with
          | n + 1, o, o' =>
            simp only [okE] at o o'
            simp only [deq]
            cases neg with
            | false => exact rc_lst_eq (hE n (by omega)) sb I hx hy r r' o o'
            | true => exact rc_lst_ne (hE n (by omega)) sb I hx hy r r' o o'
        | tup hy r' =>
          cases rv
          obtain ⟨its2, rr2, e2, _⟩ := I.tuple (SqT.of hy)
          refine here (c := false) (by simp [deq]) ?_
          cases neg with
          | false => exact .eq (RcAt.list_tuple e.isList e2 hu)
          | true => exact .ne (RcNeAt.list_tuple e.isList e2 hu)
        | obj _ _ _ => cases h'
        | dic _ _ _ =>
          match n, o' with
          | 0, o => simp [okE] at o
          | 1, o => simp [okE] at o
          | 2, o => simp [okE] at o
          | n + 3, o => simp [okE] at o
        | dicT _ _ _ =>
          match n, o' with
          | 0, o => simp [okE] at o
          | 1, o => simp [okE] at o
          | 2, o => simp [okE] at o
          | n + 3, o => simp [okE] at o
        | _ => exact absurd rfl fy
    | obj _ _ _ => cases h
    | dic _ _ _ =>
      match n, o with
      | 0, o => simp [okE] at o
      | 1, o => simp [okE] at o
      | 2, o => simp [okE] at o
      | n + 3, o => simp [okE] at o
    | dicT _ _ _ =>
      match n, o with
      | 0, o => simp [okE] at o
      | 1, o => simp [okE] at o
      | 2, o => simp [okE] at o
      | n + 3, o => simp [okE] at o
    | _ => exact absurd rfl fx
theorem rcN {n : Nat} (E : EqT X.K cA T f) (hE : ∀ m, m < n → EqN X cA T m) (hF : ∀ m, m + 3 ≤ n → EqF X cA T f fd ps (m + 3)) (hb : Binds X.K fd ps []) (neg : Bool) : RcN X cA T n neg := by
  intro A pins s σ H x y u v dx dy sb I ru rv rx ry o o'
  by_cases h : dx.isObj = true
  · match dx, h, rx, o with
    | .obj c fs ds, h, rx, o =>
      have o0 := o
      match n, o, o', hF, sb with
      | m + 3, o, o', hF, sb =>
        have ht0 : T c = some fs := by simp only [okE, Bool.and_eq_true, beq_iff_eq] at o; exact o.1.1
        have Fm := hF m (by omega)
        by_cases h' : dy.isObj = true
        · match dy, h', ry, o' with
          | .obj c' fs' ds', h', ry, o' =>
            have ht1 : T c' = some fs' := by simp only [okE, Bool.and_eq_true, beq_iff_eq] at o'; exact o'.1.1
            have ry' := ry
            generalize hd : D.obj c' fs' ds' = dd at ry'
            cases ry' with
            | @obj p dx c' fs' xs ds' hp l r =>
              cases hd
              cases rv
              obtain ⟨mA, O, _⟩ := ins_get I.hok hp
              obtain ⟨od, J, _⟩ := O.look
              exact rc_ins_left E Fm hb sb I ru (y := .ref p) rfl rx ry o o' J.type (E.nf _ _ _ _ ht0 ht1)
            | _ => cases hd
        · obtain ⟨Ty, hT, hm⟩ := type_of I rv ry (by simpa using h') _ o'
          exact rc_ins_left E Fm hb sb I ru rv rx ry o o' (typeOf_looks hT) (notFirst_ty hm)
  · by_cases h' : dy.isObj = true
    · match dy, h', ry, o' with
      | .obj c fs ds, h', ry, o' =>
        match n, o, o', hF, sb with
        | m + 3, o, o', hF, sb =>
          have ht1 : T c = some fs := by simp only [okE, Bool.and_eq_true, beq_iff_eq] at o'; exact o'.1.1
          have hx : dx.isObj = false := by simpa using h
          obtain ⟨Ty, hT, hm⟩ := type_of I ru rx hx _ o
          obtain ⟨q1, q2⟩ := deq_noobj (d := .obj c fs ds) (e := dx) rfl hx
          have key := rc_ins_right (neg := neg) E (hF m (by omega)) hb sb I rv ru ry rx o' o hT hm fun l d e hl _ J hno => by
            obtain ⟨T2, _, _, hh⟩ := dec_of (A := A) (neg := neg) I ru rx hx _ o (E.cl c fs ht1) hl J
            exact hh
          rw [q1] at key
          rw [q2]
          exact key
    · exact rc_plain neg hE sb I ru rv rx ry o o' (by simpa using h) (by simpa using h')
theorem eqN_of {n : Nat} (E : EqT X.K cA T f) (rc : RcN X cA T n false) : EqN X cA T n := by
  intro A pins s σ H x y u v dx dy sb I ru rv rx ry o o'
  have q := rc A pins s σ H x y u v dx dy sb I ru rv rx ry o o'
  unfold eqBool
  refine wpAny_holding ?_
  refine wpAny_ite_split (fun hab => ?_) (fun hab => ?_)
  · have e := eq_of_beq hab
    subst e
    by_cases hr : ∃ p, x = .ref p
    · obtain ⟨p, rfl⟩ := hr
      cases ru
      have hy : y = .ref p := by
        cases y with
        | ref q => cases rv; rfl
        | _ => first | (obtain ⟨t, e⟩ := rv; cases e; done) | (cases rv; done)
      subst hy
      exact wpAny_bind (wpAny_rule (wpAny_pure ⟨(rep_same E n rx ry o o').symm, H, I, Ext.rfl'⟩))
    · have : deq dx dy = true := by
        cases rx with
        | non => cases ru; cases ry with
          | non => simp [deq]
          | int i => obtain ⟨t, e⟩ := rv; cases e
          | str i => obtain ⟨t, e⟩ := rv; cases e
          | _ => cases rv
        | bl b => cases ru; cases ry with
          | bl b => cases rv; simp [deq]
          | int i => obtain ⟨t, e⟩ := rv; cases e
          | str i => obtain ⟨t, e⟩ := rv; cases e
          | _ => cases rv
        | int i => obtain ⟨t, rfl⟩ := ru; cases ry with
          | int i => obtain ⟨t, e⟩ := rv; cases e; simp [deq]
          | str i => obtain ⟨t, e⟩ := rv; cases e
          | _ => cases rv
        | str i => obtain ⟨t, rfl⟩ := ru; cases ry with
          | str i => obtain ⟨t, e⟩ := rv; cases e; simp [deq]
          | int i => obtain ⟨t, e⟩ := rv; cases e
          | _ => cases rv
        | _ => exact absurd ⟨_, rfl⟩ hr
      exact wpAny_bind (wpAny_rule (wpAny_pure ⟨this.symm, H, I, Ext.rfl'⟩))
  · have q' : wpAny (model X.prog X.w) A (richCompare .Eq u v) (fun r s' => r = .bool (deq dx dy) ∧ LoopI X pins σ H s') X.xe s := by simpa [cop] using q
    have fin : wpAny (model X.prog X.w) A (do truthOfDropped (← richCompare .Eq u v)) (fun r s' => r = deq dx dy ∧ LoopI X pins σ H s') X.xe s := by
      refine wpAny_bind (wpAny_mono q' (fun r z hz => ?_) fun _ _ z => z)
      obtain ⟨rfl, L⟩ := hz
      exact wpAny_truthy_bool ⟨rfl, L⟩
    cases rx with
    | non => cases ru; exact fin
    | bl b => cases ru; exact fin
    | int i => obtain ⟨t, rfl⟩ := ru; exact fin
    | str i => obtain ⟨t, rfl⟩ := ru; exact fin
    | _ => cases ru; exact fin
theorem eqN {n : Nat} (E : EqT X.K cA T f) (hb : Binds X.K fd ps []) (hF : ∀ m, m + 3 ≤ n → EqF X cA T f fd ps (m + 3)) : EqN X cA T n := by
  induction n using Nat.strongRecOn with
  | ind n ih => exact eqN_of E (rcN E (fun m hm => ih m hm fun j hj => hF j (by omega)) hF hb false)
theorem rcN' {n : Nat} (E : EqT X.K cA T f) (hb : Binds X.K fd ps []) (hF : ∀ m, m + 3 ≤ n → EqF X cA T f fd ps (m + 3)) (neg : Bool) : RcN X cA T n neg :=
  rcN E (fun m hm => eqN E hb fun j hj => hF j (by omega)) hF hb neg
end
end DD
namespace DD
open PySem PySem.Spec PyProof.Rows PySem.SeqAt L2
open AutoSeq1 (wpAny_loadPart')
open MeetsSeq MeetsSeq2 MeetsSeq3 SeqRoads2
section
variable {prog : Program} {w : World} {A : Around} {R : Result → Shared → Prop}
/-- the list at each turn; what == tells of the i-th item -/
def Seq1 (prog : Program) (w : World) (A : Around) (R : Result → Shared → Prop) (l : Addr) (u : Value) (N : Nat) (cs : Nat → Bool) (J : Shared → Prop) : Prop :=
  ∀ s, J s → ∃ (zs : Array Value) (n : Nat), s.heap.get? l = some { cls := .type "list", data := .seq zs n } ∧ zs.size = N ∧ ∀ i (h1 : i < zs.size), wpAny (model prog w) A.in1 (eqBool zs[i] u) (fun c z => c = cs i ∧ J z) (fun e z => R (.error e) z) s
theorem lpIn (l : Addr) (u : Value) (N : Nat) (cs : Nat → Bool) (J : Shared → Prop) (hl : Seq1 prog w A R l u N cs J) (fin : ∀ s (z : Bool), J s → z = (List.range N).any cs → R (.ok (.ret (.bool z))) s) (k : Nat) :
    ∀ i : Nat, N - i = k → i ≤ N → ((List.range i).any cs = false) → ∀ s, J s → wpAny (model prog w) A.in1 (Builtin.«list.__contains__.loop» ⟨[.ref l, u, rawInt i], []⟩) (GQ.FinOf prog w A R) (fun e z => R (.error e) z) s := by
  induction k with
  | zero =>
    intro i hk hi ha s h
    obtain ⟨zs, n, q1, q3, _⟩ := hl _ h
    have hi' : i = N := by omega
    subst hi'
    have hR : R (.ok (.ret (.bool false))) s := fin s _ h ha.symm
    obtain ⟨hp, g, d, tk, os⟩ := s
    wp_walk using wpAny_loadPart' q1
    have j1 : zs[((i : Nat) : Int).toNat]? = none := by simp [q3]
    rw [j1]
    wp_walk
    exact hR
  | succ k ih =>
    intro i hk hi ha s h
    obtain ⟨zs, n, q1, q3, turn⟩ := hl _ h
    have g1 : i < zs.size := by omega
    have ht := turn i g1
    obtain ⟨hp, g, d, tk, os⟩ := s
    wp_walk using wpAny_loadPart' q1
    have j1 : zs[((i : Nat) : Int).toNat]? = some zs[i] := by simp [g1]
    have hc : ((i : Int) + 1) = ((i + 1 : Nat) : Int) := by omega
    rw [j1]
    refine wpAny_bind (wpAny_mono ht (fun c s2 h2 => ?_) fun _ _ x => x)
    obtain ⟨hr, h2⟩ := h2
    subst hr
    cases hz : cs i with
    | false =>
      have hrec := ih (i + 1) (by omega) (by omega) (by rw [List.range_succ, List.any_append, ha]; simp [hz]) s2 h2
      obtain ⟨hp2, g2, d2, tk2, os2⟩ := s2
      wp_walk
      rw [hc]
      exact ⟨plainId_quiet plain_contains_loop _, codeAny_builtin entry_contains_loop (by rw [Around.under_plainId plain_contains_loop _]; exact hrec)⟩
    | true =>
      have hR : R (.ok (.ret (.bool true))) s2 := fin s2 _ h2 (by
        have : (List.range N).any cs = true := List.any_eq_true.mpr ⟨i, List.mem_range.mpr (by omega), hz⟩
        rw [this])
      obtain ⟨hp2, g2, d2, tk2, os2⟩ := s2
      wp_walk
      exact hR
theorem liIn (l : Addr) (u : Value) (N : Nat) (cs : Nat → Bool) (J : Shared → Prop) (hl : Seq1 prog w A R l u N cs J) (fin : ∀ s (z : Bool), J s → z = (List.range N).any cs → R (.ok (.ret (.bool z))) s) {s : Shared} (h : J s) :
    wpAny (model prog w) A.in1 (Builtin.«list.__contains__» ⟨[.ref l, u], []⟩) (GQ.FinOf prog w A R) (fun e z => R (.error e) z) s := by
  obtain ⟨zs, n, q1, q3, _⟩ := hl _ h
  have hrec := lpIn (A := A) (R := R) l u N cs J hl fin _ 0 rfl (Nat.zero_le _) rfl s h
  obtain ⟨hp, g, d, tk, os⟩ := s
  wp_walk using wpAny_loadPart' q1
  exact ⟨plainId_quiet plain_contains_loop _, codeAny_builtin entry_contains_loop (by rw [Around.under_plainId plain_contains_loop _]; exact hrec)⟩
theorem tuIn (l : Addr) (u : Value) (zs : Array Value) (n : Nat) (dd : Option Addr) (sl : Array (Option Value)) (cs : Nat → Bool) (J : Shared → Prop)
    (turn : ∀ i (h1 : i < zs.size) s, J s → wpAny (model prog w) A.in1 (eqBool zs[i] u) (fun c z => c = cs i ∧ J z) (fun e z => R (.error e) z) s)
    (fin : ∀ s (z : Bool), J s → z = (List.range zs.size).any cs → R (.ok (.ret (.bool z))) s) {s : Shared} (q1 : s.heap.get? l = some { cls := .type "tuple", dict := dd, data := .seq zs n, slots := sl }) (h : J s) :
    wpAny (model prog w) A.in1 (Builtin.«tuple.__contains__» ⟨[.ref l, u], []⟩) (GQ.FinOf prog w A R) (fun e z => R (.error e) z) s := by
  have h0 := h
  obtain ⟨hp, g, d, tk, os⟩ := s
  wp_walk using wpAny_loadPart' q1, wpAny_forIn_array _ (fun rest b s' => b.1 = none ∧ ∃ i, rest = zs.toList.drop i ∧ ((List.range i).any cs = false) ∧ i ≤ zs.size ∧ J s') _
  case turn =>
    rintro y rest b s' ⟨hb', i, hz, ha, hi, hI⟩
    have hm : i < zs.size := by
      rcases Nat.lt_or_ge i zs.size with h' | h'
      · exact h'
      · rw [List.drop_of_length_le (by simpa using h')] at hz; cases hz
    rw [List.drop_eq_getElem_cons (by simpa using hm)] at hz
    injection hz with hyx hrest
    have hy : y = zs[i] := by simpa using hyx
    subst hy
    refine wpAny_bind (wpAny_mono (turn i hm s' hI) (fun c s2 q2 => ?_) fun _ _ x => x)
    obtain ⟨hr, q2⟩ := q2
    subst hr
    cases hz : cs i with
    | false =>
      wp_walk
      exact ⟨rfl, i + 1, hrest, by rw [List.range_succ, List.any_append, ha]; simp [hz], hm, q2⟩
    | true =>
      have hR : R (.ok (.ret (.bool true))) s2 := fin s2 _ q2 (by
        have : (List.range zs.size).any cs = true := List.any_eq_true.mpr ⟨i, List.mem_range.mpr hm, hz⟩
        rw [this])
      wp_walk
      exact hR
  case fin =>
    rintro ⟨b1, b2⟩ s' ⟨hb', i, hz, ha, hi, hI⟩
    simp only at hb'
    subst hb'
    have hge : zs.size ≤ i := by
      rcases Nat.lt_or_ge i zs.size with h' | h'
      · rw [List.drop_eq_getElem_cons (by simpa using h')] at hz; cases hz
      · exact h'
    have e : i = zs.size := by omega
    have hR : R (.ok (.ret (.bool false))) s' := fin s' _ hI (by rw [← e]; exact ha.symm)
    wp_walk
    exact hR
  case h => exact ⟨rfl, 0, rfl, rfl, Nat.zero_le _, h0⟩
end
def inAt (ds : List D) (e : D) (i : Nat) : Bool := match ds[i]? with
  | some a => deq a e
  | none => false
theorem any_at (e : D) : ∀ ds : List D, (ds.any fun d => deq d e) = (List.range ds.length).any (inAt ds e)
  | [] => rfl
  | d :: ds => by
    rw [List.any_cons, any_at e ds, List.length_cons, List.range_succ_eq_map, List.any_cons, List.any_map]
    rfl
section
variable {X : Cx} {b : Bs} {cA : Nat → Addr} {T : Nat → Option (List Str)} {n : Nat}
theorem turn_in {A : Around} {pins : List (Addr × Obj)} {σ : L2.St} {H : Hp} {xs : List V} {ds : List D} {y : V} {v : Value} {e : D} (hE : EqN X cA T n) (sb : L2.Sub X (n + 2) A) (rx : Reps cA H xs ds) (ry : Rep cA H y e) (rv : RelV y v) (o : okEs T n ds = true) (o' : okE T n e = true) {its : List Value} (r : Vals xs its) (i : Nat) (h1 : i < its.toArray.size) (z : Shared) (L : LoopI X pins σ H z) :
    wpAny (model X.prog X.w) A.in1 (eqBool its.toArray[i] v) (fun c z => c = inAt ds e i ∧ LoopI X pins σ H z) X.xe z := by
  obtain ⟨H1, I1, e1⟩ := L
  have h1' : i < its.length := by simpa using h1
  have g1 : its[i]? = some its.toArray[i] := by rw [List.getElem?_eq_getElem h1'] <;> simp
  have k1 : xs[i]? = some (xs[i]'(by rw [r.length]; exact h1')) := List.getElem?_eq_getElem _
  obtain ⟨u, hu, ru⟩ := r.get k1
  rw [g1] at hu
  rw [Option.some.inj hu]
  obtain ⟨d, e2, q1⟩ := rx.get k1
  rw [okEs_all] at o
  have od := List.all_eq_true.mp o d (List.mem_of_getElem? e2)
  refine wpAny_mono (hE A.in1 pins z σ H1 _ _ u v d e sb.in1 I1 ru rv (q1.mono e1) (ry.mono e1) od o') (fun c z q => ?_) fun _ _ q => q
  obtain ⟨hr, H2, I2, e4⟩ := q
  refine ⟨?_, H2, I2, e1.trans e4⟩
  rw [hr]
  unfold inAt
  rw [e2]
/-- x in a list or a tuple -/
def rInE (cA : Nat → Addr) (T : Nat → Option (List Str)) (n : Nat) (neg : Bool) : R2 := fun x y H Q => ∃ (p : Addr) (xs : List V) (ds : List D) (e : D), y = .ref p ∧ (H p = some (.lst xs) ∨ H p = some (.tup xs)) ∧ Reps cA H xs ds ∧ Rep cA H x e ∧ okEs T n ds = true ∧ okE T n e = true ∧ ∀ H', Ext H H' → Q (.bl ((ds.any fun d => deq d e) != neg)) H'
def iop (neg : Bool) : CmpOp := if neg then .NotIn else .In
theorem in_of {c u : Value} {s : Shared} {A : Around} {Ty id : String} {B : Builtin} {neg : Bool} {Q : Value → Shared → Prop} {prog : Program} {w : World} {E : Value → Shared → Prop} (hT : s.TypeIs c Ty) (slot : Slot Ty "__contains__" id) (entry : entryFor table id = some B) (args : argsOk id ⟨[c, u], []⟩)
    (h : wpAny (model prog w) A.in1 (B ⟨[c, u], []⟩) (GQ.FinOf prog w A (wants (fun v z => ∃ q, v = .bool q ∧ Q (.bool (q != neg)) z) E)) (fun e z => wants (fun v z => ∃ q, v = .bool q ∧ Q (.bool (q != neg)) z) E (.error e) z) s) : wpAny (model prog w) A (compareOp (iop neg) u c) Q E s := by
  cases neg with
  | false =>
    show wpAny _ A (do return .bool (← contains c u)) Q E s
    refine wpAny_bind (wpAny_contains_slot hT slot (wpAny_mono (GQ.call_here slot hT entry args h) (fun v s' hv => ?_) fun _ _ e => e))
    obtain ⟨q, rfl, hq⟩ := hv
    exact wpAny_truthy_bool (wpAny_pure (by simpa using hq))
  | true =>
    show wpAny _ A (do return .bool (!(← contains c u))) Q E s
    refine wpAny_bind (wpAny_contains_slot hT slot (wpAny_mono (GQ.call_here slot hT entry args h) (fun v s' hv => ?_) fun _ _ e => e))
    obtain ⟨q, rfl, hq⟩ := hv
    exact wpAny_truthy_bool (wpAny_pure (by simpa using hq))
theorem op_inE (hE : EqN X cA T n) (hr : Room (n + 2) X.A) (neg : Bool) : OpR X (compareOp (iop neg)) (rInE cA T n neg) := by
  intro pins s σ H x y v u Q I rx ry h
  obtain ⟨p, xs, ds, e, rfl, hp, rs, re, o, o', q⟩ := h
  cases ry
  have sb : L2.Sub X (n + 2) X.A := ⟨hr, rfl⟩
  have fin : ∀ (z : Shared), LoopI X pins σ H z → EP X pins σ Q (.bool ((ds.any fun d => deq d e) != neg)) z := fun z ⟨H1, I1, e1⟩ => ⟨.bl _, H1, I1, rfl, q H1 e1⟩
  rcases hp with hp | hp
  · have one : Seq1 X.prog X.w X.A (wants (fun v z => ∃ q, v = .bool q ∧ EP X pins σ Q (.bool (q != neg)) z) X.xe) p v ds.length (inAt ds e) (LoopI X pins σ H) := fun z L => by
      obtain ⟨H1, I1, e1⟩ := id L
      obtain ⟨_, its, k, r, e2⟩ := I1.hok p _ (e1 _ _ hp)
      exact ⟨its.toArray, k, e2, by rw [List.size_toArray, ← r.length, rs.len], fun i h1 => turn_in hE sb rs re rx o o' r i h1 z L⟩
    obtain ⟨zs, k1, h1, _⟩ := one s ⟨H, I, Ext.rfl'⟩
    refine in_of (neg := neg) ⟨_, h1, rfl⟩ F.slot_list_contains F.entry_list_contains (F.args_list_contains_2 _ _) (liIn p v ds.length (inAt ds e) (LoopI X pins σ H) one (fun z c L hc => ?_) ⟨H, I, Ext.rfl'⟩)
    subst hc
    refine ⟨_, rfl, ?_⟩
    rw [← any_at]
    exact fin z L
  · obtain ⟨its, r, e2, _⟩ := I.tuple (SqT.of hp)
    obtain ⟨⟨c1, d1, t1, l1⟩, ho, hc, n1, hd⟩ := id e2
    simp only at hc hd
    subst hc hd
    have z1 : its.toArray.size = ds.length := by rw [List.size_toArray, ← r.length, rs.len]
    refine in_of (neg := neg) ⟨_, ho, rfl⟩ F.slot_tuple_contains F.entry_tuple_contains (F.args_tuple_contains_2 _ _) (tuIn p v its.toArray n1 d1 l1 (inAt ds e) (LoopI X pins σ H) (fun i h1 z L => turn_in hE sb rs re rx o o' r i h1 z L) (fun z c L hc => ?_) ho ⟨H, I, Ext.rfl'⟩)
    subst hc
    refine ⟨_, rfl, ?_⟩
    rw [z1, ← any_at]
    exact fin z L
def rEqE (cA : Nat → Addr) (T : Nat → Option (List Str)) (n : Nat) (neg : Bool) : R2 := fun x y H Q => ∃ dx dy : D, Rep cA H x dx ∧ Rep cA H y dy ∧ okE T n dx = true ∧ okE T n dy = true ∧ ∀ H', Ext H H' → Q (.bl (deq dx dy != neg)) H'
theorem op_eqE (neg : Bool) (hE : RcN X cA T n neg) (hr : Room (n + 1) X.A) : OpR X (compareOp (cop neg)) (rEqE cA T n neg) := by
  intro pins s σ H x y v u Q I rx ry hq
  obtain ⟨dx, dy, r1, r2, o, o', q⟩ := hq
  have here : wpAny (model X.prog X.w) X.A (richCompare (cop neg) v u) (EP X pins σ Q) X.xe s := by
    refine wpAny_mono (hE X.A pins s σ H x y v u dx dy ⟨hr, rfl⟩ I rx ry r1 r2 o o') (fun r z h => ?_) fun _ _ q => q
    obtain ⟨rfl, H', I', e⟩ := h
    exact ⟨.bl _, H', I', rfl, q H' e⟩
  cases neg with
  | false => exact here
  | true => exact here
theorem Now.rep {G H : Hp} {v : V} {d : D} (g : Sub G H) (h : Now cA G H v d) : Rep cA H v d := by
  cases d with
  | non => cases h; exact .non
  | bl b => cases h; exact .bl b
  | int i => cases h; exact .int i
  | str s => cases h; exact .str s
  | tup ds => obtain ⟨p, xs, rfl, e, r⟩ := h; exact .tup e (r.mono g)
  | lst ds => obtain ⟨p, xs, rfl, e, r⟩ := h; exact .lst e (r.mono g)
  | obj c fs ds => obtain ⟨p, dx, xs, rfl, e, l, r⟩ := h; exact .obj e l (r.mono g)
  | dic ks ds => obtain ⟨p, xs, rfl, e, l, r⟩ := h; exact .dic e l (r.mono g)
  | dicT ks ds => obtain ⟨p, xs, rfl, e, l, r⟩ := h; exact .dicT e l (r.mono g)
@[simp] def fEqE (T : Nat → Option (List Str)) (n : Nat) (neg : Bool) (x y : D) (q : D → Prop) : Prop := okE T n x = true ∧ okE T n y = true ∧ q (.bl (deq x y != neg))
theorem o2_eqE (neg : Bool) : Op2 b (rEqE b.cA T n neg) (fEqE T n neg) := by
  intro G m μ H v u x y q Kq w nx ny f k
  obtain ⟨o1, o2, f⟩ := f
  refine ⟨x, y, nx.rep w.rel.gh, ny.rep w.rel.gh, o1, o2, fun H' e => ?_⟩
  exact k _ H' G _ (Le.refl G m) (w.mono (Le.refl G m) (w.rel.grow e)) (.bl _) f
@[simp] def fInE (T : Nat → Option (List Str)) (n : Nat) (neg : Bool) : D → D → (D → Prop) → Prop
  | x, .lst ds, q => okE T n x = true ∧ okEs T n ds = true ∧ q (.bl ((ds.any fun d => deq d x) != neg))
  | x, .tup ds, q => okE T n x = true ∧ okEs T n ds = true ∧ q (.bl ((ds.any fun d => deq d x) != neg))
  | _, _, _ => False
theorem o2_inE (neg : Bool) : Op2 b (rInE b.cA T n neg) (fInE T n neg) := by
  intro G m μ H v u x y q Kq w nx ny f k
  cases y with
  | lst ds =>
    obtain ⟨o1, o2, f⟩ : okE T n x = true ∧ okEs T n ds = true ∧ q (.bl ((ds.any fun d => deq d x) != neg)) := by cases x <;> exact f
    obtain ⟨p, xs, rfl, h, r⟩ := ny
    exact ⟨p, xs, ds, x, rfl, .inl h, r.mono w.rel.gh, nx.rep w.rel.gh, o2, o1, fun H' e => k _ H' G _ (Le.refl G m) (w.mono (Le.refl G m) (w.rel.grow e)) (.bl _) f⟩
  | tup ds =>
    obtain ⟨o1, o2, f⟩ : okE T n x = true ∧ okEs T n ds = true ∧ q (.bl ((ds.any fun d => deq d x) != neg)) := by cases x <;> exact f
    obtain ⟨p, xs, rfl, h, r⟩ := ny
    exact ⟨p, xs, ds, x, rfl, .inr h, r.mono w.rel.gh, nx.rep w.rel.gh, o2, o1, fun H' e => k _ H' G _ (Le.refl G m) (w.mono (Le.refl G m) (w.rel.grow e)) (.bl _) f⟩
  | _ => cases x <;> exact f.elim
variable {pos : Pos} {e1 e2 : Expr} {ta tb : DTE}
theorem de_eqE (hE : RcN X b.cA T n false) (hr : Room (n + 1) X.A) (ha : DE X b e1 ta) (hb : DE X b e2 tb) : DE X b (.Compare e1 [.Eq] [e2] pos) (dOp (fEqE T n false) ta tb) := de_cmp (op_eqE false hE hr) (o2_eqE false) ha hb (nomark _)
theorem de_neE (hE : RcN X b.cA T n true) (hr : Room (n + 1) X.A) (ha : DE X b e1 ta) (hb : DE X b e2 tb) : DE X b (.Compare e1 [.NotEq] [e2] pos) (dOp (fEqE T n true) ta tb) := de_cmp (op_eqE true hE hr) (o2_eqE true) ha hb (nomark _)
theorem dt_eqE (hE : RcN X b.cA T n false) (hr : Room (n + 1) X.A) (ha : DE X b e1 ta) (hb : DE X b e2 tb) : DT X b (.Compare e1 [.Eq] [e2] pos) (dB (dOp (fEqE T n false) ta tb)) := dt_cmp (op_eqE false hE hr) (o2_eqE false) ha hb (nomark _)
theorem dt_neE (hE : RcN X b.cA T n true) (hr : Room (n + 1) X.A) (ha : DE X b e1 ta) (hb : DE X b e2 tb) : DT X b (.Compare e1 [.NotEq] [e2] pos) (dB (dOp (fEqE T n true) ta tb)) := dt_cmp (op_eqE true hE hr) (o2_eqE true) ha hb (nomark _)
end
end DD
namespace DD
open PySem L2
section
variable {X : Cx} {b : Bs} {pos p p2 : Pos} {T : Nat → Option (List Str)} {n : Nat} {e e1 e2 : Expr} {ta tb te : DTE}
theorem de_inE (hE : EqN X b.cA T n) (hr : Room (n + 2) X.A) (ha : DE X b e1 ta) (hb : DE X b e2 tb) (hm : behindInMarks .In e2 = false) : DE X b (.Compare e1 [.In] [e2] pos) (dOp (fInE T n false) ta tb) := de_cmp (op_inE hE hr false) (o2_inE false) ha hb hm
theorem de_notInE (hE : EqN X b.cA T n) (hr : Room (n + 2) X.A) (ha : DE X b e1 ta) (hb : DE X b e2 tb) (hm : behindInMarks .NotIn e2 = false) : DE X b (.Compare e1 [.NotIn] [e2] pos) (dOp (fInE T n true) ta tb) := de_cmp (op_inE hE hr true) (o2_inE true) ha hb hm
theorem dt_inE (hE : EqN X b.cA T n) (hr : Room (n + 2) X.A) (ha : DE X b e1 ta) (hb : DE X b e2 tb) (hm : behindInMarks .In e2 = false) : DT X b (.Compare e1 [.In] [e2] pos) (dB (dOp (fInE T n false) ta tb)) := dt_cmp (op_inE hE hr false) (o2_inE false) ha hb hm
theorem dt_notInE (hE : EqN X b.cA T n) (hr : Room (n + 2) X.A) (ha : DE X b e1 ta) (hb : DE X b e2 tb) (hm : behindInMarks .NotIn e2 = false) : DT X b (.Compare e1 [.NotIn] [e2] pos) (dB (dOp (fInE T n true) ta tb)) := dt_cmp (op_inE hE hr true) (o2_inE true) ha hb hm
end
/-! ### isinstance -/
structure KC (K : PySem.W.Frag) (C : Addr) : Prop where
  cl : Cls K C
  ha : PySem.W.findIn K (.ref C) "__class__" = some (some (.builtin "object.__class__"))
  hn : PySem.W.specialIn K (.builtin "object.__class__") "__get__" = some (some (.builtin "getset_descriptor.__get__"))
  tk : PySem.W.takesIn K (.builtin "object.__class__") = some true
  ob : PySem.W.mroIn K C (.type "object") = some true
inductive Ki where
  | bt (s : String) | own (c : Nat)
@[simp] def kiD : D → Ki
  | .non => .bt "NoneType"
  | .bl _ => .bt "bool"
  | .int _ => .bt "int"
  | .str _ => .bt "str"
  | .lst _ => .bt "list"
  | .tup _ => .bt "tuple"
  | .dic _ _ => .bt "dict"
  | .dicT _ _ => .bt "dict"
  | .obj c _ _ => .own c
@[simp] def kiW (μ : M) : W → Option Ki
  | .d d => some (kiD d)
  | .r n => match μ[n]? with
    | some (.lst _) => some (.bt "list")
    | some (.lstW _) => some (.bt "list")
    | some (.ins c _ _) => some (.own c)
    | some (.dic _ _) => some (.bt "dict")
    | some (.dicT _ _) => some (.bt "dict")
    | some (.frz d) => some (kiD d)
    | some (.scr _ _) => none
    | some (.tab _ _) => none
    | some (.fn _ _ _) => none
    | none => none
structure IsOk (K : PySem.W.Frag) (cA : Nat → Addr) (u : Value) (isB : String → Option Bool) (isO : Nat → Option Bool) : Prop where
  bt : ∀ s ∈ (["NoneType", "bool", "int", "str", "list", "tuple", "dict"] : List String), ∀ c, isB s = some c → PySem.W.kitOne K (.type s) u = some c
  own : ∀ k c, isO k = some c → KC K (cA k) ∧ PySem.W.kitOne K (.ref (cA k)) u = some c
@[simp] def isKi (isB : String → Option Bool) (isO : Nat → Option Bool) : Ki → Option Bool
  | .bt s => isB s
  | .own c => isO c
section
variable {K : PySem.W.Frag} {cA : Nat → Addr} {G U H : Hp} {m : Wd} {μ : M} {v : V} {w : W} {d : D} {u : Value} {isB : String → Option Bool} {isO : Nat → Option Bool}
theorem isD (ok : IsOk K cA u isB isO) (g : Sub G H) (r : Rep cA G v d) {c : Bool} (h : isKi isB isO (kiD d) = some c) : ∃ t, TyX K H v t ∧ PySem.W.kitOne K t u = some c := by
  cases r with
  | non => exact ⟨_, .base .non, ok.bt _ (by simp) _ h⟩
  | bl x => exact ⟨_, .base (.bl x), ok.bt _ (by simp) _ h⟩
  | int x => exact ⟨_, .base (.int x), ok.bt _ (by simp) _ h⟩
  | str x => exact ⟨_, .base (.str x), ok.bt _ (by simp) _ h⟩
  | lst e r => exact ⟨_, .base (.lst (g _ _ e)), ok.bt _ (by simp) _ h⟩
  | tup e r => exact ⟨_, .base (.tup (g _ _ e)), ok.bt _ (by simp) _ h⟩
  | dic e l r => exact ⟨_, .base (.dK (g _ _ e)), ok.bt _ (by simp) _ h⟩
  | dicT e l r => exact ⟨_, .base (.dT (g _ _ e)), ok.bt _ (by simp) _ h⟩
  | obj e l r =>
    obtain ⟨k, q⟩ := ok.own _ _ h
    exact ⟨_, .base (.ins (g _ _ e) k.cl k.ha k.hn k.tk k.ob), q⟩
theorem isW (ok : IsOk K cA u isB isO) (r : RelM cA U G m μ H) (q : WRel cA G m v w) {k : Ki} (hk : kiW μ w = some k) {c : Bool} (h : isKi isB isO k = some c) : ∃ t, TyX K H v t ∧ PySem.W.kitOne K t u = some c := by
  cases q with
  | d q => simp only [kiW, Option.some.injEq] at hk; subst hk; exact isD ok r.gh q h
  | @r n p as e =>
    obtain ⟨c0, hc⟩ := lt_of_rel r e
    have z := r.cell n c0 _ hc e
    simp only [kiW, hc] at hk
    cases c0 with
    | lst ds => obtain ⟨p', xs, e1, e2, e3⟩ := z; cases e1; cases hk; exact ⟨_, .base (.lst e2), ok.bt _ (by simp) _ h⟩
    | lstW ds => obtain ⟨p', ps, e1, e2, _⟩ := z; cases e1; cases hk; exact ⟨_, .base (.lst e2), ok.bt _ (by simp) _ h⟩
    | dic ks ds => obtain ⟨p', xs, e1, e2, _⟩ := z; cases e1; cases hk; exact ⟨_, .base (.dK e2), ok.bt _ (by simp) _ h⟩
    | dicT ks ds => obtain ⟨p', xs, e1, e2, _⟩ := z; cases e1; cases hk; exact ⟨_, .base (.dT e2), ok.bt _ (by simp) _ h⟩
    | frz d => obtain ⟨p', e1, e2⟩ := z; cases e1; cases hk; exact isD ok r.gh e2 h
    | scr ns S => cases hk
    | tab P q => cases hk
    | fn f c q => cases hk
    | ins c1 fs ws =>
      obtain ⟨p', dx, xs, e1, e2, _⟩ := z
      cases e1
      cases hk
      obtain ⟨k, q⟩ := ok.own _ _ h
      exact ⟨_, .base (.ins e2 k.cl k.ha k.hn k.tk k.ob), q⟩
end
@[simp] def dIsi (isB : String → Option Bool) (isO : Nat → Option Bool) (te : DTE) (ρ : R) (μ : M) (Q : W → M → Prop) : Prop := te ρ μ fun w μ1 => match kiW μ1 w with
  | some k => match isKi isB isO k with
    | some c => Q (.d (.bl c)) μ1
    | none => False
  | none => False
section
variable {X : Cx} {b : Bs} {pos p : Pos} {e c : Expr} {te : DTE} {isB : String → Option Bool} {isO : Nat → Option Bool} {cv : V} {u : Value}
theorem de_isi (ok : IsOk X.K b.cA u isB isO) (hc : PE X c (tC cv)) (hk : ClsV cv u) (hg : Gl X "isinstance") (hm : X.mg "isinstance" = none) (ha : DE X b e te)
    (h1 : starEach [e, c] X.env = (false, eval e X.env) :: starEach [c] X.env := by rfl) (h2 : starEach [c] X.env = (false, eval c X.env) :: starEach [] X.env := by rfl) (hpl : (backTo pos (starEach [c] X.env)).any (·.1) = false := by rfl) :
    DE X b (.Call (.Name "isinstance" p) [e, c] [] pos) (dIsi isB isO te) := by
  obtain ⟨te', pa, qa⟩ := ha.ex
  refine ⟨_, pe_callB call_isi hg hm rfl (pa_cons pa (pa_cons hc pa_nil h2) h1) (he := h1) (hpl := hpl), fun {G m ρ μ σ H Q K} o r t k => ?_⟩
  refine qa o r t fun v H1 G1 m1 w μ1 l1 o1 r1 t1 => ?_
  split at t1
  · rename_i ki hki
    split at t1
    · rename_i c0 hc0
      obtain ⟨t, ty, q⟩ := isW ok o1.rel r1 hki hc0
      exact ⟨v, cv, t, u, c0, rfl, hk, ty, q, k _ H1 G1 m1 _ μ1 l1 o1 (.d (.bl c0)) t1⟩
    · exact t1.elim
  · exact t1.elim
end
end DD
namespace DD
open PySem L2 RZ
/-- what is known to change no more -/
@[simp] def asD (μ : M) : W → Option D
  | .d d => some d
  | .r n => match μ[n]? with
    | some (.frz d) => some d
    | _ => none
theorem asD_ok {cA : Nat → Addr} {U G H : Hp} {m : Wd} {μ : M} {v : V} {w : W} {d : D} (r : RelM cA U G m μ H) (q : WRel cA G m v w) (h : asD μ w = some d) : Rep cA G v d := by
  cases q with
  | d q => simp [asD] at h; subst h; exact q
  | @r n p as e =>
    obtain ⟨c, hc⟩ := lt_of_rel r e
    have z := r.cell n c _ hc e
    simp only [asD, hc] at h
    cases c with
    | frz d' => cases h; obtain ⟨p', e1, e2⟩ := z; cases e1; exact e2
    | _ => cases h
def cutL {α : Type} (xs : List α) (lo hi : Option Int) : List α := (xs.drop (HT.sIx xs.length 0 lo)).take (HT.sIx xs.length xs.length hi - HT.sIx xs.length 0 lo)
theorem sIx_all {α : Type} {xs : List α} {lo hi : Option Int} (h : HT.sIx xs.length 0 lo = 0 ∧ HT.sIx xs.length xs.length hi = xs.length) : cutL xs lo hi = xs := by
  unfold cutL
  rw [h.1, h.2]
  simp
section
variable {X : Cx} {b : Bs} {pos p p2 tpos : Pos} {e e1 e2 : Expr} {te ta tb : DTE}
/-! ### slices -/
abbrev DTO := R → M → (Option Int → M → Prop) → Prop
structure DO (X : Cx) (b : Bs) (e : Option Expr) (t : DTO) : Prop where
  ex : ∃ te : TO, PO X e te ∧ ∀ {G : Hp} {m : Wd} {ρ : R} {μ : M} {σ : L2.St} {H : Hp} {Q : Option Int → M → Prop} {K : Option Int → Hp → Prop}, WOk b G m μ H → RelR b.cA G m σ ρ → t ρ μ Q →
    (∀ c H' G' m' μ', Le G m G' m' → WOk b G' m' μ' H' → Q c μ' → K c H') → te σ H K
@[simp] def dNoPart (_ρ : R) (μ : M) (Q : Option Int → M → Prop) : Prop := Q none μ
@[simp] def dPart (te : DTE) (ρ : R) (μ : M) (Q : Option Int → M → Prop) : Prop := te ρ μ fun w μ1 => match w with
  | .d (.int i) => Q (some i) μ1
  | _ => False
theorem do_none : DO X b none dNoPart := ⟨_, po_none, fun {G m ρ μ σ H Q K} o r t k => k none H G m μ (Le.refl G m) o t⟩
theorem do_some (h : DE X b e te) : DO X b (some e) (dPart te) := by
  obtain ⟨t', pa, qa⟩ := h.ex
  refine ⟨_, po_some pa, fun {G m ρ μ σ H Q K} o r t k => ?_⟩
  refine qa o r t fun v H1 G1 m1 w μ1 l1 o1 r1 t1 => ?_
  split at t1
  · rename_i i
    exact ⟨i, isInt r1, k _ H1 G1 m1 μ1 l1 o1 t1⟩
  · exact t1.elim
@[simp] def dSl (mu : Bool) (te : DTE) (tl th : DTO) (ρ : R) (μ : M) (Q : W → M → Prop) : Prop := te ρ μ fun w μ1 => tl ρ μ1 fun lo μ2 => th ρ μ2 fun hi μ3 => match asD μ3 w with
  | some (.tup ds) => Q (.d (.tup (cutL ds lo hi))) μ3
  | _ => match rs μ3 w with
    | some (.lst ds) => if mu then Q (.r μ3.length) (μ3 ++ [.lst (cutL ds lo hi)]) else Q (.d (.lst (cutL ds lo hi))) μ3
    | _ => False
theorem cut_reps {cA : Nat → Addr} {G : Hp} {xs : List V} {ds : List D} {lo hi : Option Int} (r : Reps cA G xs ds) : Reps cA G (cutV xs lo hi) (cutL ds lo hi) := by
  unfold cutV cutL
  rw [r.len]
  exact (r.drop _).take _
theorem de_sl (mu : Bool) {lo hi : Option Expr} {tl th : DTO} (ha : DE X b e te) (hl : DO X b lo tl) (hu : DO X b hi th) : DE X b (.Subscript e (.Slice lo hi none p2) pos) (dSl mu te tl th) := by
  obtain ⟨t', pa, qa⟩ := ha.ex
  obtain ⟨t1', p1, q1⟩ := hl.ex
  obtain ⟨t2', p2', q2⟩ := hu.ex
  refine ⟨_, pe_slice (sl_list.or sl_tupA) pa p1 p2', fun {G m ρ μ σ H Q K} o r t k => ?_⟩
  refine qa o r t fun v H1 G1 m1 w μ1 l1 o1 r1 t1 => ?_
  refine q1 o1 (r.mono l1) t1 fun lo H2 G2 m2 μ2 l2 o2 t2 => ?_
  refine q2 o2 ((r.mono l1).mono l2) t2 fun hi H3 G3 m3 μ3 l3 o3 t3 => ?_
  have lf := l1.trans (l2.trans l3)
  have rw3 := (r1.mono l2).mono l3
  split at t3
  · rename_i ds e
    have rp := asD_ok o3.rel rw3 e
    obtain ⟨a, xs, rfl, h1, h2⟩ := rp.now o3.rel.gh
    refine .inr ⟨a, xs, rfl, SqT.of h1, fun hw => ?_, fun hw q hq => ?_⟩
    · rw [h2.len] at hw
      rw [sIx_all hw] at t3
      exact k _ H3 G3 m3 _ μ3 lf o3 (.d rp) t3
    · have hg := (o3.rel.new hq).1
      have l4 : Le G3 m3 (upd G3 q (.tup (cutV xs lo hi))) m3 := Le.know hg
      exact k _ _ _ m3 _ μ3 (lf.trans l4) (o3.mono l4 (o3.rel.know hq)) (.d (.tup upd_same ((cut_reps h2).mono l4.g))) t3
  · split at t3
    · rename_i ds e
      obtain ⟨a, xs, rfl, h1, h2⟩ := rs_ok o3.rel rw3 e
      refine .inl ⟨a, xs, rfl, SqL.of h1, fun q hq => ?_⟩
      cases mu with
      | true => exact k _ _ _ _ _ _ (lf.trans Le.cellNew) (o3.mono Le.cellNew (o3.rel.cellNew (c := .lst (cutL ds lo hi)) hq ⟨q, _, rfl, upd_same, cut_reps h2⟩)) (.r (as := []) (by rw [← o3.rel.len]; simp)) t3
      | false =>
        have hg := (o3.rel.new hq).1
        have l4 : Le G3 m3 (upd G3 q (.lst (cutV xs lo hi))) m3 := Le.know hg
        exact k _ _ _ m3 _ μ3 (lf.trans l4) (o3.mono l4 (o3.rel.know hq)) (.d (.lst upd_same ((cut_reps h2).mono l4.g))) t3
    · exact t3.elim
/-! ### +, * with all -/
@[simp] def addA (μ : M) (x y : W) (Q : W → M → Prop) : Prop := match asD μ x, asD μ y with
  | some (.tup xs), some (.tup ys) => xs.length + ys.length ≤ sizeLine ∧ Q (.d (.tup (xs ++ ys))) μ
  | _, _ => match rs μ x, rs μ y with
    | some a, some c => fAdd a c fun z => Q (.d z) μ
    | _, _ => False
@[simp] def dAddA (ta tb : DTE) (ρ : R) (μ : M) (Q : W → M → Prop) : Prop := ta ρ μ fun x μ1 => tb ρ μ1 fun y μ2 => addA μ2 x y Q
theorem de_addA (ha : DE X b e1 ta) (hb : DE X b e2 tb) : DE X b (.BinOp e1 .Add e2 pos) (dAddA ta tb) := by
  obtain ⟨ta', pa, qa⟩ := ha.ex
  obtain ⟨tb', pb, qb⟩ := hb.ex
  refine ⟨_, pe_op ((op_add.or op_add_str).or (op_cat.or op_catA)) pa pb, fun {G m ρ μ σ H Q K} o r t k => ?_⟩
  refine qa o r t fun x H1 G1 m1 w1 μ1 l1 o1 r1 t1 => ?_
  refine qb o1 (r.mono l1) t1 fun y H2 G2 m2 w2 μ2 l2 o2 r2 t2 => ?_
  unfold addA at t2
  split at t2
  · rename_i xs ys e1 e2
    have p1 := asD_ok o2.rel (r1.mono l2) e1
    have p2 := asD_ok o2.rel r2 e2
    have p1' := p1
    have p2' := p2
    obtain ⟨a, vs, rfl, h1, h1'⟩ := p1.now o2.rel.gh
    obtain ⟨c, us, rfl, h2, h2'⟩ := p2.now o2.rel.gh
    have lf := l1.trans l2
    refine .inr (.inr ⟨a, c, vs, us, rfl, rfl, SqT.of h1, SqT.of h2, by rw [h1'.len, h2'.len]; exact t2.1, fun e => ?_, fun _ e => ?_, fun _ _ q hq => ?_⟩)
    · subst e
      cases h1'
      exact k _ H2 G2 m2 _ μ2 lf o2 (.d p2') t2.2
    · subst e
      cases h2'
      exact k _ H2 G2 m2 _ μ2 lf o2 (.d p1') (by simpa using t2.2)
    · have hg := (o2.rel.new hq).1
      have l4 : Le G2 m2 (upd G2 q (.tup (vs ++ us))) m2 := Le.know hg
      exact k _ _ _ m2 _ μ2 (lf.trans l4) (o2.mono l4 (o2.rel.know hq)) (.d (.tup upd_same ((h1'.app h2').mono l4.g))) t2.2
  · have key : Op2 b (fun x y H Q => ((∃ i j, x = .int i ∧ y = .int j ∧ Q (.int (i + j)) H) ∨ (∃ i j, x = .str i ∧ y = .str j ∧ i.length + j.length ≤ sizeLine ∧ Q (.str (i ++ j)) H)) ∨ (rCat x y H Q ∨ rCatA X.K x y H Q)) fAdd := by
      intro G m μ H v u x y q K w nx ny f k
      match x, y, nx, ny, f with
      | .int i, .int j, nx, ny, f => cases nx; cases ny; exact .inl (.inl ⟨i, j, rfl, rfl, give_old w (.int _) f k⟩)
      | .str s, .str t, nx, ny, f => cases nx; cases ny; exact .inl (.inr ⟨s, t, rfl, rfl, f.1, give_old w (.str _) f.2 k⟩)
      | .lst xs, .lst ys, nx, ny, f =>
        obtain ⟨p, vs, rfl, h1, r1⟩ := nx
        obtain ⟨p2, us, rfl, h2, r2⟩ := ny
        exact .inr (.inl ⟨p, p2, vs, us, rfl, rfl, h1, h2, by rw [r1.len, r2.len]; exact f.1, fun a ha => give_new w ha (fun G' s e => .lst e ((r1.app r2).mono s)) f.2 k⟩)
      | .tup xs, .tup ys, nx, ny, f =>
        obtain ⟨p, vs, rfl, h1, r1⟩ := nx
        obtain ⟨p2, us, rfl, h2, r2⟩ := ny
        refine .inr (.inr ⟨p, p2, vs, us, rfl, rfl, SqT.of h1, SqT.of h2, by rw [r1.len, r2.len]; exact f.1, fun e => ?_, fun _ e => ?_, fun _ _ a ha => give_new w ha (fun G' s e => .tup e ((r1.app r2).mono s)) f.2.2.2 k⟩)
        · subst e; cases r1; exact (f.2.1 rfl).elim
        · subst e; cases r2; exact (f.2.2.1 rfl).elim
    exact dop_core (ρ := ρ) (μ := μ) (μ1 := μ1) (H1 := H1) key l1 l2 o2 r1 r2 t2 k
@[simp] def fMulA : D → D → (D → Prop) → Prop
  | .int i, .int j, q => CMul i j ∧ q (.int (i * j))
  | .lst xs, .int k, q => -(2 ^ 63) ≤ k ∧ k < 2 ^ 63 ∧ xs.length * k.toNat ≤ sizeLine ∧ q (.lst (List.replicate k.toNat xs).flatten)
  | _, _, _ => False
theorem reps_rep {cA : Nat → Addr} {G : Hp} {xs : List V} {ds : List D} (r : Reps cA G xs ds) : ∀ n : Nat, Reps cA G (List.replicate n xs).flatten (List.replicate n ds).flatten
  | 0 => .nil
  | n + 1 => by
    rw [List.replicate_succ, List.replicate_succ, List.flatten_cons, List.flatten_cons]
    exact r.app (reps_rep r n)
theorem de_mulA (ha : DE X b e1 ta) (hb : DE X b e2 tb) : DE X b (.BinOp e1 .Mult e2 pos) (dOp fMulA ta tb) := by
  refine de_op (op_mul.or op_rep) ?_ ha hb
  intro G m μ H v u x y q K w nx ny f k
  match x, y, nx, ny, f with
  | .int i, .int j, nx, ny, f => cases nx; cases ny; exact .inl ⟨i, j, rfl, rfl, f.1, give_old w (.int _) f.2 k⟩
  | .lst xs, .int j, nx, ny, f =>
    obtain ⟨p, vs, rfl, h1, r1⟩ := nx
    cases ny
    exact .inr ⟨p, j, vs, rfl, rfl, h1, f.1, f.2.1, by rw [r1.len]; exact f.2.2.1, fun a ha => give_new w ha (fun G' s e => .lst e ((reps_rep r1 _).mono s)) f.2.2.2 k⟩
/-! ### enumerate, zip -/
def numb : Nat → List D → List W
  | _, [] => []
  | i, d :: ds => .d (.tup [.int i, d]) :: numb (i + 1) ds
theorem numb_get : ∀ {ds : List D} {k i : Nat} {d : D}, ds[i]? = some d → (numb k ds)[i]? = some (.d (.tup [.int ((k + i : Nat) : Int), d]))
  | [], _, _, _, h => by simp at h
  | e :: ds, k, 0, d, h => by simp at h; subst h; simp [numb]
  | e :: ds, k, i + 1, d, h => by
    simp only [List.getElem?_cons_succ] at h
    have := numb_get (k := k + 1) h
    simp only [numb, List.getElem?_cons_succ]
    rw [this]
    congr 5
    omega
theorem numb_len : ∀ {ds : List D} {k : Nat}, (numb k ds).length = ds.length
  | [], _ => rfl
  | _ :: ds, k => by simp [numb, numb_len (ds := ds)]
/-- a list of data that is walked -/
@[simp] def lstOk (μ : M) : W → Option (List D)
  | .d (.lst ds) => some ds
  | .d _ => none
  | .r n => match μ[n]? with
    | some (.lst ds) => some ds
    | some (.frz (.lst ds)) => some ds
    | _ => none
theorem lstOk_ok {cA : Nat → Addr} {U G H : Hp} {m : Wd} {μ : M} {v : V} {w : W} {ds : List D} (r : RelM cA U G m μ H) (q : WRel cA G m v w) (h : lstOk μ w = some ds) : ∃ p xs, v = .ref p ∧ H p = some (.lst xs) ∧ Reps cA G xs ds := by
  cases q with
  | d q =>
    cases q <;> simp only [lstOk] at h <;> first | cases h | skip
    exact ⟨_, _, rfl, r.gh _ _ (by assumption), by assumption⟩
  | @r n p as e =>
    obtain ⟨c, hc⟩ := lt_of_rel r e
    have z := r.cell n c _ hc e
    simp only [lstOk, hc] at h
    cases c with
    | lst ds' => cases h; obtain ⟨p', xs, e1, e2, e3⟩ := z; cases e1; exact ⟨p, xs, rfl, e2, e3⟩
    | frz d' =>
      cases d' <;> simp only at h <;> first | cases h | skip
      obtain ⟨p', e1, e2⟩ := z
      cases e1
      exact ⟨p, (now_lst (e2.now r.gh)).choose, rfl, (now_lst (e2.now r.gh)).choose_spec.1, (now_lst (e2.now r.gh)).choose_spec.2⟩
    | _ => cases h
@[simp] def iEnumD (te : DTE) (ρ : R) (μ : M) (Q : Src → M → Prop) : Prop := te ρ μ fun w μ1 => match lstOk μ1 w with
  | some ds => Q ⟨numb 0 ds, fun μ' => lstOk μ' w = some ds⟩ μ1
  | none => False
theorem di_enum {elts : List Expr} {kk : Nat} (hg : Gl X "enumerate") (hm : X.mg "enumerate" = none) (ha : DE X b e te) (hs : starEach [e] X.env = [(false, eval e X.env)] := by rfl) :
    DI X b (.Tuple elts kk tpos) (.Call (.Name "enumerate" p) [e] [] pos) (iEnumD te) := by
  obtain ⟨t', pa, qa⟩ := ha.ex
  refine ⟨_, pi_enum hg hm (pa_cons pa pa_nil hs) hs, fun {G m ρ μ σ H Q K} o r t k => ?_⟩
  refine qa o r t fun v H1 G1 m1 w μ1 l1 o1 r1 t1 => ?_
  split at t1
  · rename_i ds e
    obtain ⟨a, xs, rfl, h1, h2⟩ := lstOk_ok o1.rel r1 e
    refine ⟨a, xs, rfl, SqL.of h1, k _ H1 G1 m1 _ μ1 l1 o1 ?_ t1⟩
    have key : ∀ {G' m' μ' H'}, Le G1 m1 G' m' → WOk b G' m' μ' H' → lstOk μ' w = some ds → ∃ xs, H' a = some (.lst xs) ∧ Reps b.cA G' xs ds := fun {G' m' μ' H'} l o' e' => by
      obtain ⟨a', ys, f1, f2, f3⟩ := lstOk_ok o'.rel (r1.mono l) e'
      cases f1
      exact ⟨ys, f2, f3⟩
    refine ⟨fun {G' m' μ' H' i} l o k h => ?_, fun {G' m' μ' H' i x H2} l o k y h => ?_, fun {G' m' μ' H'} l o k => ?_⟩
    · obtain ⟨xs, e, r⟩ := key l o k
      have hl := r.len
      rw [numb_len] at h
      exact ⟨xs, xs[i]'(by rw [hl]; exact h), SqL.of e, List.getElem?_eq_getElem _⟩
    · obtain ⟨xs, e, r⟩ := key l o k
      obtain ⟨T, z, rfl, hT, rfl, y⟩ := y
      obtain ⟨d, h3, h4⟩ := r.get (y xs (SqL.of e))
      have hg := (o.rel.new hT).1
      have l2 : Le G' m' (upd G' T (.tup [.int (i : Nat), z])) m' := Le.know hg
      refine ⟨_, _, l2, o.mono l2 (o.rel.know hT), numb_get h3, .d (.tup upd_same (.cons ?_ (.cons (h4.mono l2.g) .nil)))⟩
      rw [Nat.zero_add]
      exact .int _
    · obtain ⟨xs, e, r⟩ := key l o k
      exact ⟨xs, SqL.of e, by rw [r.len, numb_len]; exact Nat.le_refl _⟩
  · exact t1.elim
def zipD (xs ys : List D) : List W := (xs.zip ys).map fun z => .d (.tup [z.1, z.2])
@[simp] def iZipD (ta tb : DTE) (ρ : R) (μ : M) (Q : Src → M → Prop) : Prop := ta ρ μ fun x μ1 => tb ρ μ1 fun y μ2 => match lstOk μ2 x, lstOk μ2 y with
  | some xs, some ys => Q ⟨zipD xs ys, fun μ' => lstOk μ' x = some xs ∧ lstOk μ' y = some ys⟩ μ2
  | _, _ => match asD μ2 x, asD μ2 y with
    | some (.tup xs), some (.tup ys) => Q ⟨zipD xs ys, fun _ => True⟩ μ2
    | _, _ => False
theorem zipD_len {xs ys : List D} : (zipD xs ys).length = min xs.length ys.length := by simp [zipD]
theorem zipD_get {xs ys : List D} {i : Nat} {x y : D} (h1 : xs[i]? = some x) (h2 : ys[i]? = some y) : (zipD xs ys)[i]? = some (.d (.tup [x, y])) := by
  unfold zipD
  rw [List.getElem?_map, (List.getElem?_zip_eq_some (z := (x, y))).mpr ⟨h1, h2⟩]
  rfl
theorem di_zip {elts : List Expr} {kk : Nat} (hg : Gl X "zip") (hm : X.mg "zip" = none) (ha : DE X b e1 ta) (hb : DE X b e2 tb) (hs : starEach [e1, e2] X.env = (false, eval e1 X.env) :: starEach [e2] X.env := by rfl) (hs2 : starEach [e2] X.env = (false, eval e2 X.env) :: starEach [] X.env := by rfl) (hpl : (backTo pos (starEach [e2] X.env)).any (·.1) = false := by rfl) :
    DI X b (.Tuple elts kk tpos) (.Call (.Name "zip" p) [e1, e2] [] pos) (iZipD ta tb) := by
  obtain ⟨ta', pa, qa⟩ := ha.ex
  obtain ⟨tb', pb, qb⟩ := hb.ex
  refine ⟨_, pi_zipA hg hm (pa_cons pa (pa_cons pb pa_nil hs2) hs) hs hpl, fun {G m ρ μ σ H Q K} o r t k => ?_⟩
  refine qa o r t fun v H1 G1 m1 w μ1 l1 o1 r1 t1 => ?_
  refine qb o1 (r.mono l1) t1 fun v2 H2 G2 m2 w2 μ2 l2 o2 r2 t2 => ?_
  have lf := l1.trans l2
  split at t2
  · rename_i xs ys ex ey
    obtain ⟨a, vs, rfl, h1, h2⟩ := lstOk_ok o2.rel (r1.mono l2) ex
    obtain ⟨c, us, rfl, h3, h4⟩ := lstOk_ok o2.rel r2 ey
    refine ⟨a, c, vs, us, rfl, .inl ⟨SqL.of h1, SqL.of h3, k _ H2 G2 m2 _ μ2 lf o2 ?_ t2⟩⟩
    have key : ∀ {G' m' μ' H'}, Le G2 m2 G' m' → WOk b G' m' μ' H' → (lstOk μ' w = some xs ∧ lstOk μ' w2 = some ys) → ∃ vs us, H' a = some (.lst vs) ∧ Reps b.cA G' vs xs ∧ H' c = some (.lst us) ∧ Reps b.cA G' us ys := fun {G' m' μ' H'} l o' e' => by
      obtain ⟨a', q1, f1, f2, f3⟩ := lstOk_ok o'.rel ((r1.mono l2).mono l) e'.1
      obtain ⟨c', q2, g1, g2, g3⟩ := lstOk_ok o'.rel (r2.mono l) e'.2
      cases f1
      cases g1
      exact ⟨q1, q2, f2, f3, g2, g3⟩
    refine ⟨fun {G' m' μ' H' i} l o k h => ?_, fun {G' m' μ' H' i x H2} l o k y h => ?_, fun {G' m' μ' H'} l o k => ?_⟩
    · obtain ⟨vs, us, e1, f1, e2, f2⟩ := key l o k
      have h : i < (zipD xs ys).length := h
      rw [zipD_len] at h
      exact ⟨vs, us, vs[i]'(by rw [f1.len]; omega), us[i]'(by rw [f2.len]; omega), SqL.of e1, SqL.of e2, List.getElem?_eq_getElem _, List.getElem?_eq_getElem _⟩
    · obtain ⟨vs, us, e1, f1, e2, f2⟩ := key l o k
      obtain ⟨T, z, z2, rfl, hT, rfl, y1, y2⟩ := y
      obtain ⟨d, h3, h4⟩ := f1.get (y1 vs (SqL.of e1))
      obtain ⟨d2, h5, h6⟩ := f2.get (y2 us (SqL.of e2))
      have hg := (o.rel.new hT).1
      have l2 : Le G' m' (upd G' T (.tup [z, z2])) m' := Le.know hg
      exact ⟨_, _, l2, o.mono l2 (o.rel.know hT), zipD_get h3 h5, .d (.tup upd_same (.cons (h4.mono l2.g) (.cons (h6.mono l2.g) .nil)))⟩
    · obtain ⟨vs, us, e1, f1, e2, f2⟩ := key l o k
      refine ⟨vs, us, SqL.of e1, SqL.of e2, ?_⟩
      show vs.length ≤ (zipD xs ys).length ∨ us.length ≤ (zipD xs ys).length
      rw [zipD_len, f1.len, f2.len]
      omega
  · split at t2
    · rename_i xs ys ex ey
      have p1 := asD_ok o2.rel (r1.mono l2) ex
      have p2 := asD_ok o2.rel r2 ey
      have p1' := p1
      have p2' := p2
      obtain ⟨a, vs, rfl, h1, h2⟩ := p1.now o2.rel.gh
      obtain ⟨c, us, rfl, h3, h4⟩ := p2.now o2.rel.gh
      refine ⟨a, c, vs, us, rfl, .inr ⟨SqT.of h1, SqT.of h3, k _ H2 G2 m2 _ μ2 lf o2 ?_ t2⟩⟩
      have key : ∀ {G' m' μ' H'}, Le G2 m2 G' m' → WOk b G' m' μ' H' → ∃ vs us, H' a = some (.tup vs) ∧ Reps b.cA G' vs xs ∧ H' c = some (.tup us) ∧ Reps b.cA G' us ys := fun {G' m' μ' H'} l o' => by
        obtain ⟨q1, f2, f3⟩ := now_tup ((p1'.mono l.g).now o'.rel.gh)
        obtain ⟨q2, g2, g3⟩ := now_tup ((p2'.mono l.g).now o'.rel.gh)
        exact ⟨q1, q2, f2, f3, g2, g3⟩
      refine ⟨fun {G' m' μ' H' i} l o k h => ?_, fun {G' m' μ' H' i x H2} l o k y h => ?_, fun {G' m' μ' H'} l o k => ?_⟩
      · obtain ⟨vs, us, e1, f1, e2, f2⟩ := key l o
        have h : i < (zipD xs ys).length := h
        rw [zipD_len] at h
        exact ⟨vs, us, vs[i]'(by rw [f1.len]; omega), us[i]'(by rw [f2.len]; omega), SqT.of e1, SqT.of e2, List.getElem?_eq_getElem _, List.getElem?_eq_getElem _⟩
      · obtain ⟨vs, us, e1, f1, e2, f2⟩ := key l o
        obtain ⟨T, z, z2, rfl, hT, rfl, y1, y2⟩ := y
        obtain ⟨d, h3, h4⟩ := f1.get (y1 vs (SqT.of e1))
        obtain ⟨d2, h5, h6⟩ := f2.get (y2 us (SqT.of e2))
        have hg := (o.rel.new hT).1
        have l2 : Le G' m' (upd G' T (.tup [z, z2])) m' := Le.know hg
        exact ⟨_, _, l2, o.mono l2 (o.rel.know hT), zipD_get h3 h5, .d (.tup upd_same (.cons (h4.mono l2.g) (.cons (h6.mono l2.g) .nil)))⟩
      · obtain ⟨vs, us, e1, f1, e2, f2⟩ := key l o
        refine ⟨vs, us, SqT.of e1, SqT.of e2, ?_⟩
        show vs.length ≤ (zipD xs ys).length ∨ us.length ≤ (zipD xs ys).length
        rw [zipD_len, f1.len, f2.len]
        omega
    · exact t2.elim
end
end DD
namespace DD
open PySem L2
/-! ### what is called, by name -/
section
variable {P : Program} {w : World} {K : PySem.W.Frag} {mg : Str → Option Value} {base : Heap} {cA : Nat → Addr}
/-- a def of the text keeps a contract -/
structure Cal (P : Program) (w : World) (K : PySem.W.Frag) (mg : Str → Option Value) (base : Heap) (cA : Nat → Addr) (x : Str) (k : Nat) (S : FS) : Prop where
  ex : ∃ (f : Addr) (fd : FuncData) (ps : List Str), FnOk P w K mg base (L2.CX P w) k f fd ps (spD cA S) ∧ mg x = some (.ref f) ∧ PySem.W.keepIn K (.ref f) = true ∧ Binds K fd ps []
/-- a class's __init__ keeps a contract -/
structure Mkc (P : Program) (w : World) (K : PySem.W.Frag) (mg : Str → Option Value) (base : Heap) (cA : Nat → Addr) (x : Str) (c k : Nat) (S : FS) : Prop where
  ex : ∃ (f : Addr) (fd : FuncData) (ps : List Str), L2.Mk K (cA c) f ∧ FnOk P w K mg base (L2.CX P w) k f fd ps (spD cA S) ∧ mg x = some (.ref (cA c)) ∧ Binds K fd ps []
/-- a class's method keeps a contract -/
structure Mec (P : Program) (w : World) (K : PySem.W.Frag) (mg : Str → Option Value) (base : Heap) (cA : Nat → Addr) (m : Str) (c k : Nat) (S : FS) : Prop where
  cl : Cls K (cA c)
  ex : ∃ (f : Addr) (fd : FuncData) (ps : List Str), Meth K (cA c) m f ∧ FnOk P w K mg base (L2.CX P w) k f fd ps (spD cA S) ∧ Binds K fd ps []
end
section
variable {X : Cx} {b : Bs} {pos p apos : Pos} {e o : Expr} {es : List Expr} {ta : DTA} {to te tb : DTE} {x m : Str} {S : FS} {j k c : Nat}
theorem de_cal (h : Cal X.prog X.w X.K X.mg X.base b.cA x k S) (hr : Room j X.A) (hj : k ≤ j) (hx : XOk X b) (ha : DA X b (e :: es) ta) (hg : Gl X x)
    (hdb : (x == ("__debug__" : Str)) = false := by decide) (he : starEach (e :: es) X.env = (false, eval e X.env) :: starEach es X.env := by rfl) (hpl : (backTo pos (starEach es X.env)).any (·.1) = false := by rfl) :
    DE X b (.Call (.Name x p) (e :: es) [] pos) (dCall S b.xc ta) := by
  obtain ⟨f, fd, ps, F, hm, hk, hb⟩ := h.ex
  exact de_call F (hr.mono hj) hx hm hk hb ha hg hdb he hpl
theorem de_cal0 (h : Cal X.prog X.w X.K X.mg X.base b.cA x k S) (hr : Room j X.A) (hj : k ≤ j) (hx : XOk X b) (hg : Gl X x) (hdb : (x == ("__debug__" : Str)) = false := by decide) : DE X b (.Call (.Name x p) [] [] pos) (dCall S b.xc dNil) := by
  obtain ⟨f, fd, ps, F, hm, hk, hb⟩ := h.ex
  exact de_call0 F (hr.mono hj) hx hm hk hb hg hdb
theorem de_mkD (h : Mkc X.prog X.w X.K X.mg X.base b.cA x c k S) (hr : Room j X.A) (hj : k + 1 ≤ j) (hx : XOk X b) (ha : DA X b (e :: es) ta) (hg : Gl X x)
    (hdb : (x == ("__debug__" : Str)) = false := by decide) (he : starEach (e :: es) X.env = (false, eval e X.env) :: starEach es X.env := by rfl) (hpl : (backTo pos (starEach es X.env)).any (·.1) = false := by rfl) : DE X b (.Call (.Name x p) (e :: es) [] pos) (dMakeD S c b.xc ta) := by
  obtain ⟨f, fd, ps, M, F, hm, hb⟩ := h.ex
  exact de_makeD M F (hr.mono hj) hx hm hb ha hg hdb he hpl
theorem de_mkM (h : Mkc X.prog X.w X.K X.mg X.base b.cA x c k S) (hr : Room j X.A) (hj : k + 1 ≤ j) (hx : XOk X b) (ha : DA X b (e :: es) ta) (hg : Gl X x)
    (hdb : (x == ("__debug__" : Str)) = false := by decide) (he : starEach (e :: es) X.env = (false, eval e X.env) :: starEach es X.env := by rfl) (hpl : (backTo pos (starEach es X.env)).any (·.1) = false := by rfl) : DE X b (.Call (.Name x p) (e :: es) [] pos) (dMakeM S c b.xc ta) := by
  obtain ⟨f, fd, ps, M, F, hm, hb⟩ := h.ex
  exact de_makeM M F (hr.mono hj) hx hm hb ha hg hdb he hpl
/-- the methods of one name, by class -/
def MecT (X : Cx) (b : Bs) (m : Str) (j : Nat) (tab : List (Nat × FS)) : Prop := ∀ q ∈ tab, ∃ k, k ≤ j ∧ Mec X.prog X.w X.K X.mg X.base b.cA m q.1 k q.2
theorem mect_nil : MecT X b m j [] := fun _ h => by cases h
theorem mect_cons {tab : List (Nat × FS)} (h : Mec X.prog X.w X.K X.mg X.base b.cA m c k S) (hj : k ≤ j) (ht : MecT X b m j tab) : MecT X b m j ((c, S) :: tab) := fun q hq => by
  rcases List.mem_cons.mp hq with rfl | hq
  · exact ⟨k, hj, h⟩
  · exact ht q hq
theorem MecT.ok {tab : List (Nat × FS)} (h : MecT X b m j tab) (hr : Room j X.A) : ∀ q ∈ tab, MetOk X b m q.1 q.2 := fun q hq => by
  obtain ⟨k, hk, M⟩ := h q hq
  obtain ⟨f, fd, ps, h1, h2, h3⟩ := M.ex
  exact ⟨M.cl, f, fd, ps, k, h1, h2, hr.mono hk, h3⟩
/-- a global that is an int -/
theorem de_gi {i : Int} (h : ∃ t, X.mg x = some (.int i t)) (hg : Gl X x) (hd : (x == ("__debug__" : Str)) = false := by decide) : DE X b (.Name x pos) (dC (.int i)) := by
  obtain ⟨t, h⟩ := h
  exact de_c (v := .int i) (pe_glob hg h ⟨t, rfl⟩ hd) fun _ => .int i
/-! ### lists of what may be mutable itself -/
/-- a list that may change, its items as they are -/
@[simp] def dLstW (ta : DTA) (ρ : R) (μ : M) (Q : W → M → Prop) : Prop := ta ρ μ fun ws μ1 => ws.length ≤ sizeLine ∧ Q (.r μ1.length) (μ1 ++ [.lstW ws])
theorem de_lstW (ha : DA X b es ta) : DE X b (.List es pos) (dLstW ta) := by
  obtain ⟨ta', pa, qa⟩ := ha.ex
  refine ⟨_, pe_lst pa, fun {G m ρ μ σ H Q K} o r t k => ?_⟩
  refine qa o r t fun vs H1 G1 m1 ws μ1 l1 o1 r1 t1 => ?_
  refine ⟨by rw [r1.len]; exact t1.1, fun p hp => ?_⟩
  have l3 : Le G1 m1 G1 (m1 ++ [[p]]) := Le.cellNew
  exact k _ _ _ _ _ _ (l1.trans l3) (o1.mono l3 (o1.rel.cellNew (c := .lstW ws) hp ⟨p, vs, rfl, upd_same, r1.mono l3⟩)) (.r (as := []) (by rw [← o1.rel.len]; simp)) t1.2
/-- what stands at i, whatever it is -/
@[simp] def ixA (μ : M) (x y : W) (Q : W → M → Prop) : Prop := match x, y with
  | .r n, .d (.int i) => match μ[n]? with
    | some (.lstW ws) => match atI ws i with
      | some w => Q w μ
      | none => False
    | _ => match rs μ x, rs μ y with
      | some a, some c => fIx a c fun z => Q (.d z) μ
      | _, _ => False
  | _, _ => match rs μ x, rs μ y with
    | some a, some c => fIx a c fun z => Q (.d z) μ
    | _, _ => False
@[simp] def dIxA (ta tb : DTE) (ρ : R) (μ : M) (Q : W → M → Prop) : Prop := ta ρ μ fun x μ1 => tb ρ μ1 fun y μ2 => ixA μ2 x y Q
theorem wrels_atI {cA : Nat → Addr} {G : Hp} {m : Wd} {vs : List V} {ws : List W} {i : Int} {w : W} (r : WRels cA G m vs ws) (h : atI ws i = some w) : ∃ v, atI vs i = some v ∧ WRel cA G m v w := by
  unfold atI at h ⊢
  rw [r.len]
  cases e : ixN ws.length i with
  | none => rw [e] at h; cases h
  | some j =>
    rw [e] at h
    obtain ⟨v, h1, h2⟩ := r.get' (i := j) h
    exact ⟨v, h1, h2⟩
theorem de_ixA {e1 e2 : Expr} (ha : DE X b e1 te) (hb : DE X b e2 tb) (hs : PlainIx e2 := by exact fun _ _ => rfl) : DE X b (.Subscript e1 e2 pos) (dIxA te tb) := by
  obtain ⟨ta', pa, qa⟩ := ha.ex
  obtain ⟨tb', pb, qb⟩ := hb.ex
  refine ⟨_, pe_ix ix_seq pa pb hs, fun {G m ρ μ σ H Q K} o r t k => ?_⟩
  refine qa o r t fun x H1 G1 m1 w1 μ1 l1 o1 r1 t1 => ?_
  refine qb o1 (r.mono l1) t1 fun y H2 G2 m2 w2 μ2 l2 o2 r2 t2 => ?_
  have go : (match rs μ2 w1, rs μ2 w2 with
      | some a, some c => fIx a c fun z => Q (.d z) μ2
      | _, _ => False) → rIx X.K x y H2 K := fun t2 => dop_core (ρ := ρ) (μ := μ) (μ1 := μ1) (H1 := H1) o2_ix l1 l2 o2 r1 r2 t2 k
  unfold ixA at t2
  split at t2
  · rename_i n i
    split at t2
    · rename_i ws hc
      split at t2
      · rename_i w e
        cases r1 with
        | @r _ q as em =>
        obtain ⟨q', xs, e1, e2, e3⟩ := o2.rel.cell n _ _ hc (l2.m _ _ em)
        cases e1
        obtain ⟨v, h1, h2⟩ := wrels_atI e3 e
        exact .inl ⟨q, xs, i, v, rfl, isInt r2, SqL.of e2, h1, k _ H2 G2 m2 w μ2 (l1.trans l2) o2 h2 t2⟩
      · exact t2.elim
    · exact go t2
  · exact go t2
/-- len of a list of such -/
@[simp] def lenW (μ : M) : W → Option Nat
  | .d (.lst ds) => some ds.length
  | .d (.tup ds) => some ds.length
  | .d _ => none
  | .r n => match μ[n]? with
    | some (.lst ds) => some ds.length
    | some (.lstW ws) => some ws.length
    | some (.frz (.lst ds)) => some ds.length
    | some (.frz (.tup ds)) => some ds.length
    | _ => none
theorem lenW_ok {cA : Nat → Addr} {K : PySem.W.Frag} {U G H : Hp} {mm : Wd} {μ : M} {v : V} {w : W} {n : Nat} (r : RelM cA U G mm μ H) (q : WRel cA G mm v w) (h : lenW μ w = some n) : LenV K v H n := by
  cases q with
  | @d _ d q =>
    cases d with
    | lst ds =>
      simp only [lenW, Option.some.injEq] at h
      obtain ⟨p, xs, rfl, e, rr⟩ := q.now r.gh
      exact .inl ⟨xs, SqL.of e, by rw [← h, rr.len]⟩
    | tup ds =>
      simp only [lenW, Option.some.injEq] at h
      obtain ⟨p, xs, rfl, e, rr⟩ := q.now r.gh
      exact .inr ⟨xs, SqT.of e, by rw [← h, rr.len]⟩
    | _ => cases h
  | @r i p as e =>
    obtain ⟨c, hc⟩ := lt_of_rel r e
    have z := r.cell i c _ hc e
    simp only [lenW, hc] at h
    cases c with
    | lst ds => cases h; obtain ⟨p', xs, e1, e2, e3⟩ := z; cases e1; exact .inl ⟨xs, SqL.of e2, by rw [e3.len]⟩
    | lstW ds => cases h; obtain ⟨p', xs, e1, e2, e3⟩ := z; cases e1; exact .inl ⟨xs, SqL.of e2, by rw [e3.len]⟩
    | frz d =>
      obtain ⟨p', e1, e2⟩ := z
      cases e1
      cases d with
      | lst ds =>
        simp only [Option.some.injEq] at h
        obtain ⟨p2, xs, e3, e4, rr⟩ := e2.now r.gh
        cases e3
        exact .inl ⟨xs, SqL.of e4, by rw [← h, rr.len]⟩
      | tup ds =>
        simp only [Option.some.injEq] at h
        obtain ⟨p2, xs, e3, e4, rr⟩ := e2.now r.gh
        cases e3
        exact .inr ⟨xs, SqT.of e4, by rw [← h, rr.len]⟩
      | _ => cases h
    | _ => cases h
@[simp] def dLen (te : DTE) (ρ : R) (μ : M) (Q : W → M → Prop) : Prop := te ρ μ fun w μ1 => match lenW μ1 w with
  | some n => Q (.d (.int n)) μ1
  | none => False
theorem de_lenA (hm : X.mg "len" = none) (ha : DE X b e te) (hg : Gl X "len") (he : starEach [e] X.env = (false, eval e X.env) :: starEach [] X.env := by rfl) (hpl : (backTo pos (starEach [] X.env)).any (·.1) = false := by rfl) : DE X b (.Call (.Name "len" p) [e] [] pos) (dLen te) := by
  obtain ⟨t', pa, qa⟩ := ha.ex
  refine ⟨_, pe_callB call_len hg hm PySem.boot_len (pa_cons pa pa_nil he) (he := he) (hpl := hpl), fun {G m ρ μ σ H Q K} o r t k => ?_⟩
  refine qa o r t fun v H1 G1 m1 w μ1 l1 o1 r1 t1 => ?_
  split at t1
  · rename_i n e
    exact ⟨v, n, rfl, lenW_ok o1.rel r1 e, k _ H1 G1 m1 _ μ1 l1 o1 (.d (.int _)) t1⟩
  · exact t1.elim
@[simp] def isLs (μ : M) (n : Nat) : Bool := match μ[n]? with
  | some (.lst _) => true
  | some (.lstW _) => true
  | _ => false
theorem isLs_at {G H : Hp} {m : Wd} {μ : M} {n : Nat} {v : V} (o : WOk b G m μ H) (r : WRel b.cA G m v (.r n)) (h : isLs μ n = true) : ∃ p us, v = .ref p ∧ H p = some (.lst us) ∧ m[n]? = some [p] := by
  cases r with
  | @r _ p as e =>
  unfold isLs at h
  split at h
  · rename_i ds hc
    obtain ⟨p', xs, e1, e2, e3⟩ := o.rel.cell n _ _ hc e
    cases e1
    exact ⟨p, xs, rfl, e2, e⟩
  · rename_i ds hc
    obtain ⟨p', xs, e1, e2, e3⟩ := o.rel.cell n _ _ hc e
    cases e1
    exact ⟨p, xs, rfl, e2, e⟩
  · cases h
/-- l.append(e), whatever l holds -/
@[simp] def dAppA (to te : DTE) (ρ : R) (μ : M) (Q : W → M → Prop) : Prop := to ρ μ fun w μ1 => match w with
  | .r n => isLs μ1 n = true ∧ te ρ μ1 fun x μ2 => match μ2[n]? with
    | some (.lstW ws) => ws.length < sizeLine ∧ Q (.d .non) (μ2.set n (.lstW (ws ++ [x])))
    | some (.lst _) => match esc μ2 x with
      | some (d, μ3) => match μ3[n]? with
        | some (.lst ds) => ds.length < sizeLine ∧ Q (.d .non) (μ3.set n (.lst (ds ++ [d])))
        | _ => False
      | none => False
    | _ => False
  | _ => False
theorem WRels.app {cA : Nat → Addr} {G : Hp} {m : Wd} : ∀ {vs us : List V} {ds es : List W}, WRels cA G m vs ds → WRels cA G m us es → WRels cA G m (vs ++ us) (ds ++ es)
  | _, _, _, _, .nil, h => h
  | _, _, _, _, .cons r rs, h => .cons r (rs.app h)
theorem WRels.take {cA : Nat → Addr} {G : Hp} {m : Wd} : ∀ {vs : List V} {ds : List W} (n : Nat), WRels cA G m vs ds → WRels cA G m (vs.take n) (ds.take n)
  | _, _, 0, _ => .nil
  | _, _, _ + 1, .nil => .nil
  | _, _, n + 1, .cons r rs => .cons r (rs.take n)
theorem WRels.drop {cA : Nat → Addr} {G : Hp} {m : Wd} : ∀ {vs : List V} {ds : List W} (n : Nat), WRels cA G m vs ds → WRels cA G m (vs.drop n) (ds.drop n)
  | _, _, 0, h => h
  | _, _, _ + 1, .nil => .nil
  | _, _, n + 1, .cons _ rs => rs.drop n
theorem de_appA (ho : DE X b o to) (ha : DE X b e te) (hp : ∀ {to : TE} {ta : TA}, PE X o to → PA X [e] ta → PE X (.Call (.Attribute o "append" apos) [e] [] pos) (tBM X.K "list" rAppend to ta))
    (hs : starEach [e] X.env = (false, eval e X.env) :: starEach [] X.env := by rfl) : DE X b (.Call (.Attribute o "append" apos) [e] [] pos) (dAppA to te) := by
  obtain ⟨to', po, qo⟩ := ho.ex
  obtain ⟨te', pe, qe⟩ := ha.ex
  refine ⟨_, hp po (pa_cons pe pa_nil hs), fun {G m ρ μ σ H Q K} ok rr t k => ?_⟩
  refine qo ok rr t fun v H1 G1 m1 w μ1 l1 o1 r1 t1 => ?_
  split at t1
  · rename_i n
    obtain ⟨q0, t1⟩ := t1
    obtain ⟨a, us0, rfl, h1, h2⟩ := isLs_at o1 r1 q0
    refine ⟨.inl ⟨rfl, us0, SqL.of h1⟩, ?_⟩
    refine qe o1 (rr.mono l1) t1 fun y H2 G2 m2 x μ2 l2 o2 r2 t2 => ?_
    have hm := l2.m _ _ h2
    split at t2
    · rename_i ws hc
      obtain ⟨p', us, e1, e2, e3⟩ := o2.rel.cell n _ _ hc hm
      cases e1
      refine ⟨a, us, y, rfl, rfl, e2, by rw [e3.len]; exact t2.1, ?_⟩
      exact k _ _ G2 m2 (.d .non) _ (l1.trans l2) (o2.mono (Le.refl _ _) (o2.rel.write (c' := .lstW (ws ++ [x])) hc hm rfl (by simp) rfl ⟨a, _, rfl, upd_same, e3.app (.cons r2 .nil)⟩)) (.d .non) t2.2
    · split at t2
      · rename_i d μ3 e0
        obtain ⟨G3, l3, r3, rp⟩ := esc_ok o2.rel r2 e0
        split at t2
        · rename_i ds hc
          obtain ⟨p', us, e1, e2, e3⟩ := r3.cell n _ _ hc hm
          cases e1
          refine ⟨a, us, y, rfl, rfl, e2, by rw [e3.len]; exact t2.1, ?_⟩
          exact k _ _ G3 m2 (.d .non) _ (l1.trans (l2.trans l3)) (o2.mono l3 (r3.write (c' := .lst (ds ++ [d])) hc hm rfl (by simp) rfl ⟨a, _, rfl, upd_same, e3.app (.cons rp .nil)⟩)) (.d .non) t2.2
        · exact t2.elim
      · exact t2.elim
    · exact t2.elim
  · exact t1.elim
/-- l.insert(i, e), whatever l holds -/
def dInsA (to ti te : DTE) (ρ : R) (μ : M) (Q : W → M → Prop) : Prop := to ρ μ fun w μ1 => match w with
  | .r n => isLs μ1 n = true ∧ ti ρ μ1 fun z μa => match z with
    | .d (.int i) => (0 ≤ i ∧ i < 2 ^ 63) ∧ te ρ μa fun x μ2 => match μ2[n]? with
      | some (.lstW ws) => ws.length < sizeLine ∧ Q (.d .non) (μ2.set n (.lstW (ws.take i.toNat ++ [x] ++ ws.drop i.toNat)))
      | some (.lst _) => match esc μ2 x with
        | some (d, μ3) => match μ3[n]? with
          | some (.lst ds) => ds.length < sizeLine ∧ Q (.d .non) (μ3.set n (.lst (ds.take i.toNat ++ [d] ++ ds.drop i.toNat)))
          | _ => False
        | none => False
      | _ => False
    | _ => False
  | _ => False
abbrev rIns : V → List V → Hp → VK → Prop := fun x vs H Q => ∃ (l : Addr) (xs : List V) (i : Int) (y : V), x = .ref l ∧ vs = [.int i, y] ∧ H l = some (.lst xs) ∧ xs.length < sizeLine ∧ 0 ≤ i ∧ i < 2 ^ 63 ∧ Q .non (upd H l (.lst (xs.take i.toNat ++ [y] ++ xs.drop i.toNat)))
theorem de_insA {i : Expr} {ti : DTE} (ho : DE X b o to) (hi : DE X b i ti) (ha : DE X b e te) (hp : ∀ {to : TE} {ta : TA}, PE X o to → PA X [i, e] ta → PE X (.Call (.Attribute o "insert" apos) [i, e] [] pos) (tBM X.K "list" rIns to ta))
    (hs : starEach [i, e] X.env = (false, eval i X.env) :: starEach [e] X.env := by rfl) (hs2 : starEach [e] X.env = (false, eval e X.env) :: starEach [] X.env := by rfl) : DE X b (.Call (.Attribute o "insert" apos) [i, e] [] pos) (dInsA to ti te) := by
  obtain ⟨to', po, qo⟩ := ho.ex
  obtain ⟨ti', pi, qi⟩ := hi.ex
  obtain ⟨te', pe, qe⟩ := ha.ex
  refine ⟨_, hp po (pa_cons pi (pa_cons pe pa_nil hs2) hs), fun {G m ρ μ σ H Q K} ok rr t k => ?_⟩
  refine qo ok rr t fun v H1 G1 m1 w μ1 l1 o1 r1 t1 => ?_
  split at t1
  · rename_i n
    obtain ⟨q0, t1⟩ := t1
    obtain ⟨a, us0, rfl, h1, h2⟩ := isLs_at o1 r1 q0
    refine ⟨.inl ⟨rfl, us0, SqL.of h1⟩, ?_⟩
    refine qi o1 (rr.mono l1) t1 fun z Ha Ga ma wz μa la oa ra ta => ?_
    split at ta
    · rename_i i
      obtain ⟨⟨i0, i1⟩, ta⟩ := ta
      have ez := isInt ra
      subst ez
      refine qe oa ((rr.mono l1).mono la) ta fun y H2 G2 m2 x μ2 l2 o2 r2 t2 => ?_
      have hm := l2.m _ _ (la.m _ _ h2)
      split at t2
      · rename_i ws hc
        obtain ⟨p', us, e1, e2, e3⟩ := o2.rel.cell n _ _ hc hm
        cases e1
        refine ⟨a, us, i, y, rfl, rfl, e2, by rw [e3.len]; exact t2.1, i0, i1, ?_⟩
        exact k _ _ G2 m2 (.d .non) _ (l1.trans (la.trans l2)) (o2.mono (Le.refl _ _) (o2.rel.write (c' := .lstW (ws.take i.toNat ++ [x] ++ ws.drop i.toNat)) hc hm rfl (by simp) rfl ⟨a, _, rfl, upd_same, ((e3.take _).app (.cons r2 .nil)).app (e3.drop _)⟩)) (.d .non) t2.2
      · split at t2
        · rename_i d μ3 e0
          obtain ⟨G3, l3, r3, rp⟩ := esc_ok o2.rel r2 e0
          split at t2
          · rename_i ds hc
            obtain ⟨p', us, e1, e2, e3⟩ := r3.cell n _ _ hc hm
            cases e1
            refine ⟨a, us, i, y, rfl, rfl, e2, by rw [e3.len]; exact t2.1, i0, i1, ?_⟩
            exact k _ _ G3 m2 (.d .non) _ (l1.trans (la.trans (l2.trans l3))) (o2.mono l3 (r3.write (c' := .lst (ds.take i.toNat ++ [d] ++ ds.drop i.toNat)) hc hm rfl (by simp) rfl ⟨a, _, rfl, upd_same, ((e3.take _).app (.cons rp .nil)).app (e3.drop _)⟩)) (.d .non) t2.2
          · exact t2.elim
        · exact t2.elim
      · exact t2.elim
    · exact ta.elim
  · exact t1.elim
end
end DD
namespace DD
open PySem L2
/-! ### the law's script -/
section
variable {X : Cx} {b : Bs} {pos p : Pos} {e e1 e2 : Expr} {te ta tb : DTE}
def rCatS (K : PySem.W.Frag) : R2 := fun x y H Q => ∃ (l c : Addr) (xs zs : List V), x = .ref l ∧ y = .ref c ∧ SqL K H l xs ∧ H c = some (.lst zs) ∧ xs.length + zs.length ≤ sizeLine ∧ ∀ q, H q = none → Q (.ref q) (upd H q (.lst (xs ++ zs)))
theorem op_catS : OpR X (binaryOp .Add) (rCatS X.K) := by
  intro pins s σ H x y v u Q I rx ry h
  obtain ⟨l, c, xs, zs, rfl, rfl, hH, hB, hz, q⟩ := h
  cases rx
  cases ry
  obtain ⟨its, r, pl, z⟩ := I.list hH
  obtain ⟨its2, r2, pl2, z2⟩ := I.list (SqL.of hB)
  have l1 := r.length
  have l2 := r2.length
  obtain ⟨⟨cls, dd, data, sl⟩, ho, hc, n, hd⟩ := id pl.isList
  obtain ⟨⟨cls2, dd2, data2, sl2⟩, ho2, hc2, n2, hd2⟩ := id pl2.isList
  simp only at hc hd hc2 hd2
  subst hc hd hc2 hd2
  refine PySem.concat_meets ⟨_, ho, rfl⟩ ⟨_, ho2, rfl⟩ PySem.noFill_list_add PySem.seq_list_add PySem.F.slot_list_add PySem.F.entry_list_add (PySem.F.args_list_add_2 _ _) (PyProof.Rows.list_addW l c its.toArray its2.toArray n n2 dd dd2 sl sl2 (by rw [List.size_toArray, List.size_toArray]; omega)) ⟨ho, ho2, ?_⟩
  have ea : its.toArray ++ its2.toArray = (its ++ its2).toArray := by simp
  rw [ea]
  exact ⟨.ref _, _, I.lnew (t' := s.toks) (r.append r2) (by rw [List.length_append]; omega), rfl, q _ I.fresh⟩
/-- the script as an object of the written part -/
def scrK (K : PySem.W.Frag) (ns : List Int) (a : Addr) : Prop := ∃ (o : Obj) (its : Array Value) (n : Nat), K.lookup a = some o ∧ o.cls = .type "list" ∧ o.dict = none ∧ o.data = .seq its n ∧ its.size ≤ sizeLine ∧ Vals (ns.map V.int) its.toList
theorem reps_ints {cA : Nat → Addr} {G : Hp} : ∀ ns : List Int, Reps cA G (ns.map V.int) (ns.map D.int)
  | [] => .nil
  | n :: ns => .cons (.int n) (reps_ints ns)
/-- script + [..] -/
@[simp] def dScrAdd (K : PySem.W.Frag) (ta tb : DTE) (ρ : R) (μ : M) (Q : W → M → Prop) : Prop := ta ρ μ fun x μ1 => tb ρ μ1 fun y μ2 => match x with
  | .r n => match μ2[n]? with
    | some (.scr ns S) => match rs μ2 y with
      | some (.lst ds) => S = scrK K ns ∧ ns.length + ds.length ≤ sizeLine ∧ Q (.d (.lst (ns.map D.int ++ ds))) μ2
      | _ => False
    | _ => False
  | _ => False
theorem de_scrAdd (ha : DE X b e1 ta) (hb : DE X b e2 tb) : DE X b (.BinOp e1 .Add e2 pos) (dScrAdd X.K ta tb) := by
  obtain ⟨ta', pa, qa⟩ := ha.ex
  obtain ⟨tb', pb, qb⟩ := hb.ex
  refine ⟨_, pe_op op_catS pa pb, fun {G m ρ μ σ H Q K} o r t k => ?_⟩
  refine qa o r t fun x H1 G1 m1 w1 μ1 l1 o1 r1 t1 => ?_
  refine qb o1 (r.mono l1) t1 fun y H2 G2 m2 w2 μ2 l2 o2 r2 t2 => ?_
  split at t2
  · rename_i n
    split at t2
    · rename_i ns S hc
      split at t2
      · rename_i ds e
        obtain ⟨rfl, t2⟩ := t2
        cases r1 with
        | @r _ q as em =>
        obtain ⟨q', f1, f2⟩ := o2.rel.cell n _ _ hc (l2.m _ _ em)
        cases f1
        have sq : SqL X.K H2 q (ns.map V.int) := f2.elim (fun e => .inl (Or.imp (o2.rel.gh _ _) (fun ⟨o, e⟩ => ⟨o, o2.rel.gh _ _ e⟩) e)) fun e => .inr e
        obtain ⟨c, zs, rfl, h1, h2⟩ := rs_ok o2.rel r2 e
        refine ⟨q, c, _, zs, rfl, rfl, sq, h1, by rw [List.length_map, h2.len]; exact t2.1, fun p hp => ?_⟩
        have hg := (o2.rel.new hp).1
        have l4 : Le G2 m2 (upd G2 p (.lst (ns.map V.int ++ zs))) m2 := Le.know hg
        exact k _ _ _ m2 _ μ2 ((l1.trans l2).trans l4) (o2.mono l4 (o2.rel.know hp)) (.d (.lst upd_same (((reps_ints ns).app h2).mono l4.g))) t2.2
      · exact t2.elim
    · exact t2.elim
  · exact t2.elim
end
end DD
namespace DD
open PySem L2
/-! ### strings by literals -/
@[simp] theorem ofStr_inj {a b : String} : (Str.ofString a = Str.ofString b) ↔ a = b := by
  constructor
  · intro h
    rw [Str.ofString_eq_toList, Str.ofString_eq_toList] at h
    have h1 : a.toList.map Char.toNat = b.toList.map Char.toNat := by simpa using h
    have inj : Function.Injective Char.toNat := fun x y e => Char.ext (UInt32.toNat_inj.mp e)
    exact String.toList_inj.mp ((List.map_inj_right (fun x y e => inj e)).mp h1)
  · rintro rfl; rfl
@[simp] theorem ofStr_beq {a b : String} : (Str.ofString a == Str.ofString b) = decide (a = b) := by
  by_cases h : a = b
  · subst h; simp
  · have : ¬ Str.ofString a = Str.ofString b := fun e => h (ofStr_inj.mp e)
    simp [h, this]
theorem strOk_lit (a : String) : PyData.strOk (Str.ofString a) = true := by
  rw [Str.ofString_eq_toList]
  simp only [PyData.strOk, List.all_toArray, List.all_eq_true, decide_eq_true_eq]
  intro n hn
  obtain ⟨c, _, rfl⟩ := List.mem_map.mp hn
  have := c.valid
  rcases this with h | ⟨_, h⟩
  · have : c.toNat < 0xd800 := h
    omega
  · have : c.toNat < 0x110000 := h
    omega
@[simp] theorem okD_lit (a : String) (n : Nat) : okD n (.str (Str.ofString a)) = true := by
  cases n <;> exact strOk_lit a
/-! ### calls -/
section
variable {S : FS} {ws : List W} {μ : M} {Q : W → M → Prop} {xc : Exc → M → Prop}
theorem ren_id : ∀ {ws : List W} {js : List Nat}, ws.flatMap refsW = [] → ws.map (ren js) = ws
  | [], _, _ => rfl
  | .d d :: ws, js, h => by
    simp only [List.flatMap_cons, refsW, List.nil_append] at h
    rw [List.map_cons, ren_id h]
    rfl
  | .r n :: ws, js, h => by simp [refsW] at h
/-- only data is handed over -/
theorem call0 (hw : ws.flatMap refsW = []) (h : S ws [] fun r μ2 => match r with
      | .ret w => Q (th [] μ.length w) (μ ++ μ2.map (renC (th [] μ.length)))
      | .exc e => xc e (μ ++ μ2.map (renC (th [] μ.length)))) : callS S ws μ Q xc := by
  unfold callS
  rw [hw]
  have e : reach μ 60 [] [] = [] := rfl
  rw [e, ren_id hw]
  refine ⟨by unfold okJs; rw [hw]; rfl, ?_⟩
  have e2 : cellsOf μ [] = [] := rfl
  rw [e2]
  have e3 : ∀ μ2 : M, merge μ [] μ2 = μ ++ μ2.map (renC (th [] μ.length)) := fun μ2 => by simp [merge, setAll]
  have e4 : (fun (r : Res) (μ2 : M) => ([] : List Nat).length ≤ μ2.length ∧ match r with
      | .ret w => Q (th [] μ.length w) (merge μ [] μ2)
      | .exc e => xc e (merge μ [] μ2)) = fun r μ2 => match r with
      | .ret w => Q (th [] μ.length w) (μ ++ μ2.map (renC (th [] μ.length)))
      | .exc e => xc e (μ ++ μ2.map (renC (th [] μ.length))) := by
    funext r μ2
    cases r <;> simp [e3]
  exact e4 ▸ h
/-- one cell is handed over, of data -/
theorem call1 {n : Nat} {c : Cell} (hn : μ[n]? = some c) (hc : refsC c = []) (hw : ∀ k ∈ ws.flatMap refsW, k = n) (hne : ws.flatMap refsW ≠ []) (h : S (ws.map (ren [n])) [renC (ren [n]) c] fun r μ2 => 1 ≤ μ2.length ∧ match r with
      | .ret w => Q (th [n] μ.length w) (merge μ [n] μ2)
      | .exc e => xc e (merge μ [n] μ2)) : callS S ws μ Q xc := by
  have hlt : n < μ.length := (List.getElem?_eq_some_iff.mp hn).1
  have step : ∀ (f : Nat) (l : List Nat), (∀ k ∈ l, k = n) → reach μ f l [n] = [n] := fun f => by
    induction f with
    | zero => intro l _; rfl
    | succ f ih =>
      intro l hl
      match l, hl with
      | [], _ => rfl
      | k :: t, hl =>
        have : k = n := hl k (List.mem_cons_self ..)
        subst this
        show (if [k].contains k then reach μ f t [k] else _) = _
        rw [if_pos (by simp)]
        exact ih t fun j hj => hl j (List.mem_cons_of_mem _ hj)
  have e : reach μ 60 (ws.flatMap refsW) [] = [n] := by
    generalize hl : ws.flatMap refsW = l at hw hne
    match l, hw, hne with
    | k :: t, hw, _ =>
      have : k = n := hw k (List.mem_cons_self ..)
      subst this
      show (if ([] : List Nat).contains k then _ else reach μ 59 ((match μ[k]? with
        | some c => refsC c
        | none => []) ++ t) ([] ++ [k])) = _
      rw [if_neg (by simp), hn]
      simp only [hc, List.nil_append]
      exact step 59 t fun j hj => hw j (List.mem_cons_of_mem _ hj)
  unfold callS
  rw [e]
  refine ⟨?_, ?_⟩
  · unfold okJs
    simp only [Bool.and_eq_true, List.all_eq_true, decide_eq_true_eq, List.contains_iff_mem]
    refine ⟨⟨⟨by simp, fun j hj => ?_⟩, fun k hk => by simp [hw k hk]⟩, fun j hj => ?_⟩
    · rw [List.mem_singleton.mp hj]; exact hlt
    · rw [List.mem_singleton.mp hj, hn]
      simp [hc]
  · have e2 : cellsOf μ [n] = [renC (ren [n]) c] := by simp [cellsOf, hn]
    rw [e2]
    exact h
theorem merge1 {n : Nat} {c : Cell} : merge μ [n] [c] = μ.set n (renC (th [n] μ.length) c) := by simp [merge, setAll]
theorem merge1l {n : Nat} {ds : List D} : merge μ [n] [.lst ds] = μ.set n (.lst ds) := merge1
end
end DD
namespace DD
open PySem L2
/-! ### calls by a form of their own -/
abbrev CF1 := List W → M → (W → M → Prop) → (Exc → M → Prop) → Prop
@[simp] def dApp (c : CF1) (xc : Exc → M → Prop) (ta : DTA) (ρ : R) (μ : M) (Q : W → M → Prop) : Prop := ta ρ μ fun ws μ1 => c ws μ1 Q xc
abbrev CF0 := W → M → (W → M → Prop) → (Exc → M → Prop) → Prop
@[simp] def dAppM (c : CF0) (xc : Exc → M → Prop) (to : DTE) (ρ : R) (μ : M) (Q : W → M → Prop) : Prop := to ρ μ fun w μ1 => c w μ1 Q xc
section
variable {X : Cx} {b : Bs} {e : Expr} {ta : DTA} {to t t' : DTE} {S : FS} {c : Nat}
theorem DE.weak (h : DE X b e t) (hle : ∀ ρ μ Q, t' ρ μ Q → t ρ μ Q) : DE X b e t' := by
  obtain ⟨te, p, q⟩ := h.ex
  exact ⟨te, p, fun {G m ρ μ σ H Q K} o r t k => q o r (hle _ _ _ t) k⟩
/-- any reading bears more at its end, once closed under that -/
theorem DA.up {es : List Expr} (h : DA X b es ta) : DA X b es (fun ρ μ Q => ∃ Q', (∀ ws μ, Q' ws μ → Q ws μ) ∧ ta ρ μ Q') := by
  obtain ⟨te, p, q⟩ := h.ex
  exact ⟨te, p, fun {G m ρ μ σ H Q K} o r t k => by
    obtain ⟨Q', hq, t⟩ := t
    exact q o r t fun vs H' G' m' ws μ' l o' r' z => k vs H' G' m' ws μ' l o' r' (hq _ _ z)⟩
theorem DE.up (h : DE X b e t) : DE X b e (fun ρ μ Q => ∃ Q', (∀ w μ, Q' w μ → Q w μ) ∧ t ρ μ Q') := by
  obtain ⟨te, p, q⟩ := h.ex
  exact ⟨te, p, fun {G m ρ μ σ H Q K} o r t k => by
    obtain ⟨Q', hq, t⟩ := t
    exact q o r t fun v H' G' m' w μ' l o' r' z => k v H' G' m' w μ' l o' r' (hq _ _ z)⟩
variable {pos p apos : Pos} {o : Expr} {es : List Expr} {x m : Str} {j k : Nat} {f : CF1} {f0 : CF0}
/-- a call by the form f of its contract -/
theorem de_calF (hle : ∀ {ws : List W} {μ : M} {Q : W → M → Prop} {xc : Exc → M → Prop}, f ws μ Q xc → callS S ws μ Q xc) (h : Cal X.prog X.w X.K X.mg X.base b.cA x k S) (hr : Room j X.A) (hj : k ≤ j) (hx : XOk X b) (ha : DA X b (e :: es) ta) (hg : Gl X x)
    (hdb : (x == ("__debug__" : Str)) = false := by decide) (he : starEach (e :: es) X.env = (false, eval e X.env) :: starEach es X.env := by rfl) (hpl : (backTo pos (starEach es X.env)).any (·.1) = false := by rfl) :
    DE X b (.Call (.Name x p) (e :: es) [] pos) (dApp f b.xc ta) :=
  (de_cal h hr hj hx ha.up hg hdb he hpl).weak fun ρ μ Q t => ⟨_, fun ws μ z => hle z, t⟩
def fMk (S : FS) (c : Nat) (fin : Nat → M → (W → M → Prop) → Prop) (ws : List W) (μ : M) (Q : W → M → Prop) (xc : Exc → M → Prop) : Prop := callS S (.r μ.length :: ws) (μ ++ [.ins c [] []]) (fun w μ2 => w = .d .non ∧ fin μ.length μ2 Q) xc
theorem de_mkDF (hle : ∀ {ws : List W} {μ : M} {Q : W → M → Prop} {xc : Exc → M → Prop}, f ws μ Q xc → fMk S c finD ws μ Q xc) (h : Mkc X.prog X.w X.K X.mg X.base b.cA x c k S) (hr : Room j X.A) (hj : k + 1 ≤ j) (hx : XOk X b) (ha : DA X b (e :: es) ta) (hg : Gl X x)
    (hdb : (x == ("__debug__" : Str)) = false := by decide) (he : starEach (e :: es) X.env = (false, eval e X.env) :: starEach es X.env := by rfl) (hpl : (backTo pos (starEach es X.env)).any (·.1) = false := by rfl) :
    DE X b (.Call (.Name x p) (e :: es) [] pos) (dApp f b.xc ta) :=
  (de_mkD h hr hj hx ha.up hg hdb he hpl).weak fun ρ μ Q t => ⟨_, fun ws μ z => hle z, t⟩
theorem de_mkMF (hle : ∀ {ws : List W} {μ : M} {Q : W → M → Prop} {xc : Exc → M → Prop}, f ws μ Q xc → fMk S c finM ws μ Q xc) (h : Mkc X.prog X.w X.K X.mg X.base b.cA x c k S) (hr : Room j X.A) (hj : k + 1 ≤ j) (hx : XOk X b) (ha : DA X b (e :: es) ta) (hg : Gl X x)
    (hdb : (x == ("__debug__" : Str)) = false := by decide) (he : starEach (e :: es) X.env = (false, eval e X.env) :: starEach es X.env := by rfl) (hpl : (backTo pos (starEach es X.env)).any (·.1) = false := by rfl) :
    DE X b (.Call (.Name x p) (e :: es) [] pos) (dApp f b.xc ta) :=
  (de_mkM h hr hj hx ha.up hg hdb he hpl).weak fun ρ μ Q t => ⟨_, fun ws μ z => hle z, t⟩
def fMe (tab : List (Nat × FS)) (m : Str) (w : W) (μ : M) (Q : W → M → Prop) (xc : Exc → M → Prop) : Prop := match insOf μ w with
  | some (c, fs, _) => m ∉ fs ∧ ∃ S, tab.lookup c = some S ∧ callS S [w] μ Q xc
  | none => False
theorem de_meF {pl : Sem Bool} {tab : List (Nat × FS)} (hle : ∀ {w : W} {μ : M} {Q : W → M → Prop} {xc : Exc → M → Prop}, f0 w μ Q xc → fMe tab m w μ Q xc) (hx : XOk X b) (hT : ∀ q ∈ tab, MetOk X b m q.1 q.2) (ho : DE X b o to)
    (ht : eval (.Call (.Attribute o m apos) [] [] pos) X.env = (do
      let ov ← eval o X.env
      standAt apos.atName
      let (f, first) ← holding [ov] (getMethod ov m pl)
      callWith pos f first (backTo pos (starEach [] X.env)) (backToKw pos (keywordEach [] X.env))) := by rfl) : DE X b (.Call (.Attribute o m apos) [] [] pos) (dAppM f0 b.xc to) :=
  (de_meth0 (pl := pl) hx hT ho.up ht).weak fun ρ μ Q t => ⟨_, fun w μ z => hle z, t⟩
end
/-! ### forms of contracts -/
section
variable {S : FS} {ws : List W} {μ : M} {Q : W → M → Prop} {xc : Exc → M → Prop} {c : Nat}
theorem unD_map : ∀ {ws : List W} {ds : List D}, unD ws = some ds → ws = ds.map W.d
  | [], ds, h => by simp [unD] at h; subst h; rfl
  | .d d :: ws, ds, h => by
    simp only [unD, Option.map_eq_some_iff] at h
    obtain ⟨es, h1, rfl⟩ := h
    rw [unD_map h1]
    rfl
  | .r n :: ws, ds, h => by simp [unD] at h
theorem refs_map : ∀ ds : List D, (ds.map W.d).flatMap refsW = []
  | [] => rfl
  | d :: ds => by simp [refsW]
theorem unD_ofmap : ∀ ds : List D, unD (ds.map W.d) = some ds
  | [] => rfl
  | d :: ds => by simp [unD, unD_ofmap ds]
theorem ren_map {js : List Nat} (ds : List D) : (ds.map W.d).map (ren js) = ds.map W.d := ren_id (refs_map ds)
theorem th_map {js : List Nat} {n : Nat} (ds : List D) : (ds.map W.d).map (th js n) = ds.map W.d := by
  induction ds with
  | nil => rfl
  | cons d ds ih => simp only [List.map_cons, ih]; rfl
/-- __init__ stores its arguments in the fields fs -/
def S_mk (c : Nat) (fs : List Str) : FS := fun ws μ P => ∃ ds : List D, ws = .r 0 :: ds.map W.d ∧ ds.length = fs.length ∧ μ = [.ins c [] []] ∧ P (.ret (.d .non)) [.ins c fs (ds.map W.d)]
/-- an object of class c is made of these fields -/
def fObj (c : Nat) (fs : List Str) (ws : List W) (μ : M) (Q : W → M → Prop) (_xc : Exc → M → Prop) : Prop := match unD ws with
  | some ds => ds.length = fs.length ∧ closedB μ.length μ = true ∧ Q (.d (.obj c fs ds)) μ
  | none => False
theorem finD_ins {fs : List Str} {ds : List D} (hc : closedB μ.length μ = true) (h : Q (.d (.obj c fs ds)) μ) : finD μ.length (μ ++ [.ins c fs (ds.map W.d)]) Q := by
  have e : esc (μ ++ [.ins c fs (ds.map W.d)]) (.r μ.length) = some (.obj c fs ds, μ ++ [.frz (.obj c fs ds)]) := by
    simp [esc, esc0, unD_ofmap]
  unfold finD
  rw [e]
  simpa [hc] using h
theorem le_mk {fs : List Str} (h : fObj c fs ws μ Q xc) : fMk (S_mk c fs) c finD ws μ Q xc := by
  unfold fObj at h
  split at h
  · rename_i ds e
    have := unD_map e
    subst this
    obtain ⟨hl, hc, hq⟩ := h
    refine call1 (n := μ.length) (c := .ins c [] []) (by simp) rfl (by simp [refsW]) (by simp [refsW]) ⟨ds, ?_, hl, rfl, ⟨by simp, ?_⟩⟩
    · rw [List.map_cons, ren_map]
      simp [ren]
    · show (W.d .non) = .d .non ∧ finD μ.length (merge (μ ++ [.ins c [] []]) [μ.length] [.ins c fs (ds.map W.d)]) Q
      rw [merge1]
      refine ⟨rfl, ?_⟩
      have e2 : (μ ++ [Cell.ins c [] []]).set μ.length (renC (th [μ.length] (μ ++ [Cell.ins c [] []]).length) (.ins c fs (ds.map W.d))) = μ ++ [.ins c fs (ds.map W.d)] := by
        simp only [renC, th_map]
        simp
      rw [e2]
      exact finD_ins hc hq
  · exact h.elim
/-- two cells are handed over, of data -/
theorem call2 {n k : Nat} {c d : Cell} (hn : μ[n]? = some c) (hk : μ[k]? = some d) (hnk : n ≠ k) (hc : refsC c = []) (hd : refsC d = []) (hw : ws.flatMap refsW = [n, k]) (h : S (ws.map (ren [n, k])) [renC (ren [n, k]) c, renC (ren [n, k]) d] fun r μ2 => 2 ≤ μ2.length ∧ match r with
      | .ret w => Q (th [n, k] μ.length w) (merge μ [n, k] μ2)
      | .exc e => xc e (merge μ [n, k] μ2)) : callS S ws μ Q xc := by
  have l1 : n < μ.length := (List.getElem?_eq_some_iff.mp hn).1
  have l2 : k < μ.length := (List.getElem?_eq_some_iff.mp hk).1
  have e : reach μ 60 [n, k] [] = [n, k] := by
    show (if ([] : List Nat).contains n then _ else reach μ 59 ((match μ[n]? with
        | some c => refsC c
        | none => []) ++ [k]) ([] ++ [n])) = _
    rw [if_neg (by simp), hn]
    simp only [hc, List.nil_append]
    show (if [n].contains k then _ else reach μ 58 ((match μ[k]? with
        | some c => refsC c
        | none => []) ++ []) ([n] ++ [k])) = _
    rw [if_neg (by simpa using fun h => hnk h.symm), hk]
    simp only [hd, List.nil_append]
    rfl
  unfold callS
  rw [hw, e]
  refine ⟨?_, ?_⟩
  · unfold okJs
    rw [hw]
    simp only [Bool.and_eq_true, List.all_eq_true, decide_eq_true_eq, List.contains_iff_mem]
    refine ⟨⟨⟨by simpa using hnk, fun j hj => ?_⟩, fun k hk => hk⟩, fun j hj => ?_⟩
    · rcases List.mem_cons.mp hj with rfl | hj
      · exact l1
      · rw [List.mem_singleton.mp hj]; exact l2
    · rcases List.mem_cons.mp hj with rfl | hj
      · rw [hn]; simp [hc]
      · rw [List.mem_singleton.mp hj, hk]; simp [hd]
  · have e2 : cellsOf μ [n, k] = [renC (ren [n, k]) c, renC (ren [n, k]) d] := by simp [cellsOf, hn, hk]
    rw [e2]
    exact h
theorem merge2 {n k : Nat} {c d : Cell} : merge μ [n, k] [c, d] = (μ.set n (renC (th [n, k] μ.length) c)).set k (renC (th [n, k] μ.length) d) := by simp [merge, setAll]
end
/-! ### comprehensions and loops by what they keep -/
section
variable {mu : Bool} {ti : DTI} {g : DTG} {tt : DTT} {te : DTE} {vs : List Nat} {ρ : R} {μ : M} {Q : W → M → Prop}
/-- behind the walked thing -/
def lcB (mu : Bool) (s : Src) (g : DTG) (tt : DTT) (te : DTE) (vs : List Nat) (ρ : R) (μ1 : M) (Q : W → M → Prop) : Prop := ∃ P : Nat → List D → M → Prop, P 0 [] μ1 ∧
  (∀ i acc μ', i ≤ s.items.length → P i acc μ' → s.ok (μ' ++ [.lst acc])) ∧
  (∀ i w acc μ', s.items[i]? = some w → P i acc μ' → acc.length < sizeLine ∧ g w (wipeR ρ vs) (μ' ++ [.lst acc]) fun ρ2 μ2 => tt ρ2 μ2 fun c μ3 =>
    if c = true then te ρ2 μ3 fun w μ4 => match esc μ4 w with
      | some (d', μ5) => closeL μ'.length acc μ5 ∧ P (i + 1) (acc ++ [d']) μ5.dropLast
      | none => False
    else closeL μ'.length acc μ3 ∧ P (i + 1) acc μ3.dropLast) ∧
  ∀ acc μ', P s.items.length acc μ' → if mu then Q (.r μ'.length) (μ' ++ [.lst acc]) else Q (.d (.lst acc)) μ'
theorem dLc_eq : dLc mu ti g tt te vs ρ μ Q = ti ρ μ fun s μ1 => lcB mu s g tt te vs ρ μ1 Q := rfl
theorem closeL_app {n : Nat} {acc : List D} {c : Cell} : closeL n acc (μ ++ [c]) ↔ (μ.length = n ∧ c = .lst acc ∧ closedB n μ = true) := by
  unfold closeL
  simp
/-- behind the element -/
abbrev lcE (te : DTE) (K : D → M → Prop) (N : M → Prop) (ρ2 : R) (c : Bool) (μ3 : M) : Prop := if c = true then te ρ2 μ3 fun w μ4 => match esc μ4 w with
    | some (d', μ5) => K d' μ5
    | none => False
  else N μ3
theorem take_fm {α β : Type} (f : α → Option β) {l : List α} {i : Nat} {a : α} (h : l[i]? = some a) : (l.take (i + 1)).filterMap f = (l.take i).filterMap f ++ (f a).toList := by
  rw [List.take_succ, h, List.filterMap_append]
  cases e : f a <;> simp [e]
/-- each item gives an element or none, nothing else happens -/
theorem lc_fm {s : Src} (f : W → Option D) (hok : ∀ acc, s.ok (μ ++ [.lst acc])) (hc : closedB μ.length μ = true) (hz : s.items.length ≤ sizeLine)
    (hstep : ∀ w ∈ s.items, ∀ acc (K : D → M → Prop) (N : M → Prop), (match f w with
        | some d => K d (μ ++ [.lst acc])
        | none => N (μ ++ [.lst acc])) → g w (wipeR ρ vs) (μ ++ [.lst acc]) fun ρ2 μ2 => tt ρ2 μ2 fun c μ3 => lcE te K N ρ2 c μ3)
    (hQ : if mu then Q (.r μ.length) (μ ++ [.lst (s.items.filterMap f)]) else Q (.d (.lst (s.items.filterMap f))) μ) : lcB mu s g tt te vs ρ μ Q := by
  refine ⟨fun i acc μ' => μ' = μ ∧ acc = (s.items.take i).filterMap f, ⟨rfl, by simp⟩, fun i acc μ' _ h => by rw [h.1]; exact hok acc, fun i w acc μ' e h => ?_, fun acc μ' h => ?_⟩
  · obtain ⟨rfl, rfl⟩ := h
    have hi := (List.getElem?_eq_some_iff.mp e).1
    refine ⟨?_, hstep w (List.mem_of_getElem? e) _ (fun d' μ5 => closeL μ'.length ((s.items.take i).filterMap f) μ5 ∧ μ5.dropLast = μ' ∧ (s.items.take i).filterMap f ++ [d'] = (s.items.take (i + 1)).filterMap f) (fun μ3 => closeL μ'.length ((s.items.take i).filterMap f) μ3 ∧ μ3.dropLast = μ' ∧ (s.items.take i).filterMap f = (s.items.take (i + 1)).filterMap f) ?_⟩
    · have h1 := List.length_filterMap_le f (s.items.take i)
      rw [List.length_take] at h1
      omega
    · rw [take_fm f e]
      cases e2 : f w with
      | some d => exact ⟨closeL_app.mpr ⟨rfl, rfl, hc⟩, by simp, by simp⟩
      | none => exact ⟨closeL_app.mpr ⟨rfl, rfl, hc⟩, by simp, by simp⟩
  · obtain ⟨rfl, rfl⟩ := h
    rw [List.take_length]
    exact hQ
/-- the source of the law's numbers -/
def src (a b c : Int) : List D := [.int a, .int b, .int c]
/-- each item gives an element that is good, the source goes on -/
theorem lc_src {s : Src} {rest : M} {a b c : Int} (good : Nat → D → Prop) (hc : closedB (rest.length + 1) rest = true) (hz : s.items.length ≤ sizeLine) (hok : ∀ a b c acc, s.ok (.lst (src a b c) :: rest ++ [.lst acc]))
    (hstep : ∀ i w, s.items[i]? = some w → ∀ a b c acc (K : D → M → Prop) (N : M → Prop), (∀ d a' b' c', good i d → K d (.lst (src a' b' c') :: rest ++ [.lst acc])) →
      g w (wipeR ρ vs) (.lst (src a b c) :: rest ++ [.lst acc]) fun ρ2 μ2 => tt ρ2 μ2 fun c μ3 => lcE te K N ρ2 c μ3)
    (hQ : ∀ ds a b c, ds.length = s.items.length → (∀ i d, ds[i]? = some d → good i d) → if mu then Q (.r (rest.length + 1)) (.lst (src a b c) :: rest ++ [.lst ds]) else Q (.d (.lst ds)) (.lst (src a b c) :: rest)) :
    lcB mu s g tt te vs ρ (.lst (src a b c) :: rest) Q := by
  refine ⟨fun i acc μ' => (∃ a b c, μ' = .lst (src a b c) :: rest) ∧ acc.length = i ∧ ∀ j d, acc[j]? = some d → good j d, ⟨⟨a, b, c, rfl⟩, rfl, fun j d h => by simp at h⟩, fun i acc μ' _ h => ?_, fun i w acc μ' e h => ?_, fun acc μ' h => ?_⟩
  · obtain ⟨⟨a, b, c, rfl⟩, _⟩ := h
    exact hok a b c acc
  · obtain ⟨⟨a, b, c, rfl⟩, rfl, hg⟩ := h
    have hi := (List.getElem?_eq_some_iff.mp e).1
    refine ⟨by omega, ?_⟩
    refine hstep _ w e a b c acc (fun d' μ5 => closeL (Cell.lst (src a b c) :: rest).length acc μ5 ∧ (∃ a b c, μ5.dropLast = .lst (src a b c) :: rest) ∧ (acc ++ [d']).length = acc.length + 1 ∧ ∀ j d, (acc ++ [d'])[j]? = some d → good j d)
      (fun μ3 => closeL (Cell.lst (src a b c) :: rest).length acc μ3 ∧ (∃ a b c, μ3.dropLast = .lst (src a b c) :: rest) ∧ acc.length = acc.length + 1 ∧ ∀ j d, acc[j]? = some d → good j d) fun d a' b' c' hd => ?_
    refine ⟨closeL_app.mpr ⟨by simp, rfl, by simpa [closedB, closedC] using hc⟩, ⟨a', b', c', by rw [List.dropLast_concat]⟩, by simp, fun j x hj => ?_⟩
    by_cases hlt : j < acc.length
    · rw [List.getElem?_append_left hlt] at hj
      exact hg j x hj
    · have : j = acc.length := by
        have := (List.getElem?_eq_some_iff.mp hj).1
        simp at this
        omega
      subst this
      simp at hj
      subst hj
      exact hd
  · obtain ⟨⟨a, b, c, rfl⟩, hl, hg⟩ := h
    have := hQ acc a b c hl hg
    exact this
end
/-! ### what the simplifier leaves alone -/
section
variable {mu : Bool} {ti : DTI} {g : DTG} {tt c : DTT} {te : DTE} {t : DTS} {vs : List Nat} {ρ : R} {μ : M} {Q : W → M → Prop} {s : Src} {D : DEnds}
theorem dLc_congr : dLc mu ti g tt te vs ρ μ Q = dLc mu ti g tt te vs ρ μ Q := rfl
theorem lcB_congr : lcB mu s g tt te vs ρ μ Q = lcB mu s g tt te vs ρ μ Q := rfl
theorem dFor_congr : dFor ti g t D ρ μ = dFor ti g t D ρ μ := rfl
theorem dWhile_congr : dWhile c t D ρ μ = dWhile c t D ρ μ := rfl
/-- behind the walked thing of a for -/
def forB (s : Src) (g : DTG) (t : DTS) (D : DEnds) (ρ : R) (μ1 : M) : Prop := ∃ P : Nat → R → M → Prop, P 0 ρ μ1 ∧
  (∀ i ρ' μ', i ≤ s.items.length → P i ρ' μ' → s.ok μ') ∧
  (∀ i w ρ' μ', s.items[i]? = some w → P i ρ' μ' → g w ρ' μ' fun ρ2 μ2 => t { D with nx := P (i + 1), ct := P (i + 1), bk := D.nx } ρ2 μ2) ∧
  (∀ ρ' μ', P s.items.length ρ' μ' → D.nx ρ' μ')
theorem dFor_eq : dFor ti g t D ρ μ = ti ρ μ fun s μ1 => forB s g t D ρ μ1 := rfl
theorem forB_congr : forB s g t D ρ μ = forB s g t D ρ μ := rfl
def isIn (ds : List DD.D) (d : DD.D) : Prop := d ∈ ds
end
end DD
namespace DD
open PySem L2
/-! ### sorted -/
section
variable {prog : Program} {w : World} {A : Around} {E : Value → Shared → Prop} {s : Shared}
open PySem.Spec PyProof.Rows SrtO in
theorem collect_tup {l : Addr} {vs : List Value} {Q : List Value → Shared → Prop} (hl : s.heap.IsTuple l vs.toArray)
    (h : Q vs { s with heap := (s.heap.push (seqObj "list" #[] 0)).update s.heap.objs.size (Obj.mapSeq (· ++ vs.toArray)) }) (hsz : vs.length ≤ sizeLine) :
    wpAny (model prog w) A (collect (.ref l)) Q E s := by
  obtain ⟨o, ho, hc, n, hd⟩ := id hl
  unfold collect
  refine wpAny_bind (wpAny_runValue (codeAny_builtin PyProof.Rows.entry_proto_collect' ?_))
  show wpAny _ _ (do again (.builtin "list.__iadd__" ⟨[← newList [], .ref l], []⟩)) _ _ s
  refine wpAny_bind (wpAny_newList (wpAny_pure ⟨Code.quiet_builtin _ (by decide +kernel), codeAny_builtin PyProof.Rows.entry_list_iadd' ?_⟩))
  show wpAny _ _ (Builtin.List.listExtendWith (.ref s.heap.objs.size) (.ref l) (.ref s.heap.objs.size)) _ _ { s with heap := s.heap.push (seqObj "list" #[] 0) }
  unfold Builtin.List.listExtendWith
  have ho' : (s.heap.push (seqObj "list" #[] 0)).get? l = some o := Heap.get?_push_of_some _ ho
  refine wpAny_bind (wpAny_typeOf (T := "tuple") ⟨o, ho', hc⟩ ?_)
  have ht : (Value.type "tuple" == Value.type "tuple") = true := by rfl
  rw [if_pos (by rw [ht]; simp)]
  refine wpAny_bind (listItems_at ho' hd ?_)
  refine wpAny_bind (listItems_at (xs := #[]) (n := 0) (Heap.get?_push_size _ rfl) rfl ?_)
  rw [if_neg (by simp)]
  refine wpAny_bind (listUpdate_at (xs := #[]) (n := 0) (Heap.get?_push_size _ rfl) rfl ?_ (Nat.zero_le _) (by show (#[] ++ vs.toArray).size ≤ sizeLine + 1; simp only [Array.size_append, List.size_toArray, List.length_nil]; omega))
  refine wpAny_pure ?_
  show wpAny (model prog w) A (do
      let o ← load s.heap.objs.size
      match o.data with
      | .seq xs _ => pure xs.toList
      | _ => unsupported "internal:collect") Q E { s with heap := (s.heap.push (seqObj "list" #[] 0)).update s.heap.objs.size (Obj.mapSeq (· ++ vs.toArray)) }
  refine wpAny_bind (wpAny_load (get?_update_seq (Heap.get?_push_size _ rfl) _) ?_)
  show wpAny _ _ (pure ((#[] : Array Value) ++ vs.toArray).toList) Q E _
  rw [show ((#[] : Array Value) ++ vs.toArray).toList = vs by simp]
  exact wpAny_pure h
/-- sorted(l) of a list or a tuple -/
def LT (s : Shared) (l : Addr) (vs : List Value) : Prop := s.heap.IsList l vs.toArray ∨ s.heap.IsTuple l vs.toArray
open PySem.Spec PyProof.Rows SrtO in
theorem sorted_ordLT {l : Addr} {vs : List Value} {ltv : Value → Value → Bool} {Q : Value → Shared → Prop} (O : Swo ltv) (hl : LT s l vs) (hz : vs.length ≤ sizeLine)
    (hS : 2 ≤ vs.length → ∀ (h₁ : Heap) (a : Addr), h₁.get? a = some (seqObj "list" vs.toArray 0) → (∀ b o, s.heap.get? b = some o → b ≠ a ∧ h₁.get? b = some o) → SortableO prog w A.in1.in1 { s with heap := h₁ } a vs ltv)
    (h : ∀ out : List Value, Srtd ltv out → Stb ltv out vs → Q (.ref (s.heap.objs.size + 1)) { s with heap := sortedAll s.heap vs out.toArray }) :
    wpAny (model prog w) A (call (.builtin "sorted") [.ref l]) Q E s := by
  rcases hl with hl | hl
  · exact sorted_ord O hl hz hS h
  refine Calls.call_function_entry kind_sorted plain_sorted entry_sorted (args_sorted1 _) ?_
  unfold Builtin.«sorted»
  refine wpAny_bind (m := checkCount "sorted" 1 1 _) (wpAny_pure ?_)
  refine wpAny_bind (collect_tup hl ?_ hz)
  refine wpAny_bind (wpAny_newList ?_ hz)
  have hsz : ((s.heap.push (seqObj "list" #[] 0)).update s.heap.objs.size (Obj.mapSeq (· ++ vs.toArray))).objs.size = s.heap.objs.size + 1 := by
    rw [Heap.size_update, size_push']
  have hoL : (((s.heap.push (seqObj "list" #[] 0)).update s.heap.objs.size (Obj.mapSeq (· ++ vs.toArray))).push (seqObj "list" vs.toArray 0)).get? (s.heap.objs.size + 1) = some (seqObj "list" vs.toArray 0) := by
    rw [← hsz]; exact Heap.get?_push_size _ rfl
  have keep : ∀ b o, s.heap.get? b = some o → b ≠ s.heap.objs.size + 1 ∧ (((s.heap.push (seqObj "list" #[] 0)).update s.heap.objs.size (Obj.mapSeq (· ++ vs.toArray))).push (seqObj "list" vs.toArray 0)).get? b = some o := fun b o q => by
    have hlt : b < s.heap.objs.size := Heap.lt_size q
    refine ⟨Nat.ne_of_lt (Nat.lt_succ_of_lt hlt), Heap.get?_push_of_some _ ?_⟩
    rw [Heap.get?_update_ne _ _ _ _ (Nat.ne_of_lt hlt)]
    exact Heap.get?_push_of_some _ q
  show wpAny _ _ _ _ _ { s with heap := ((s.heap.push (seqObj "list" #[] 0)).update s.heap.objs.size (Obj.mapSeq (· ++ vs.toArray))).push (seqObj "list" vs.toArray 0) }
  rw [hsz]
  refine wpAny_bind (wpAny_holding (wpAny_call_entry slot_list_sort ⟨_, hoL, rfl⟩ entry_list_sort (list_sort_ord O hoL hz (fun h2 => hS h2 _ _ hoL keep) fun out hs hb => ⟨_, rfl, ?_⟩) (args_list_sort _)))
  exact wpAny_pure ⟨_, rfl, h out hs hb⟩
end
/-- tuples of ints, by their first difference, then by their length -/
def lexI : List Int → List Int → Bool
  | [], [] => false
  | [], _ :: _ => true
  | _ :: _, [] => false
  | a :: as, b :: bs => if a = b then lexI as bs else decide (a < b)
theorem lexI_irr : ∀ a : List Int, lexI a a = false
  | [] => rfl
  | a :: as => by simp [lexI, lexI_irr as]
theorem lexI_asym : ∀ a b : List Int, lexI a b = true → lexI b a = false
  | [], [], h => by simp [lexI] at h
  | [], _ :: _, _ => rfl
  | _ :: _, [], h => by simp [lexI] at h
  | a :: as, b :: bs, h => by
    simp only [lexI] at h ⊢
    by_cases e : a = b
    · subst e; simp only [if_pos] at h ⊢; exact lexI_asym as bs h
    · rw [if_neg e] at h
      rw [if_neg (fun z => e z.symm)]
      have := of_decide_eq_true h
      exact decide_eq_false (by omega)
theorem lexI_tr : ∀ a b c : List Int, lexI b a = false → lexI c b = false → lexI c a = false
  | a, b, [], h1, h2 => by
    cases b with
    | nil => exact h1
    | cons b bs => simp [lexI] at h2
  | [], b, c :: cs, _, _ => rfl
  | a :: as, [], c :: cs, h1, h2 => by simp [lexI] at h1
  | a :: as, b :: bs, c :: cs, h1, h2 => by
    simp only [lexI] at h1 h2 ⊢
    by_cases e : b = a
    · by_cases e2 : c = b
      · subst e e2
        simp only [if_pos] at h1 h2 ⊢
        exact lexI_tr as bs cs h1 h2
      · subst e
        rw [if_neg e2] at h2 ⊢
        exact h2
    · rw [if_neg e] at h1
      have q1 := of_decide_eq_false h1
      by_cases e2 : c = b
      · subst e2
        rw [if_neg e]
        exact h1
      · rw [if_neg e2] at h2
        have q2 := of_decide_eq_false h2
        rw [if_neg (by omega)]
        exact decide_eq_false (by omega)
theorem lexI_total : ∀ a b : List Int, lexI a b = false → lexI b a = false → a = b
  | [], [], _, _ => rfl
  | [], _ :: _, h, _ => by simp [lexI] at h
  | _ :: _, [], _, h => by simp [lexI] at h
  | a :: as, b :: bs, h1, h2 => by
    simp only [lexI] at h1 h2
    by_cases e : a = b
    · subst e
      simp only [if_pos] at h1 h2
      rw [lexI_total as bs h1 h2]
    · rw [if_neg e] at h1
      rw [if_neg (fun z => e z.symm)] at h2
      have := of_decide_eq_false h1
      have := of_decide_eq_false h2
      omega
section
variable {prog : Program} {w : World} {A : Around} {E : Value → Shared → Prop} {s : Shared} {Q : Bool → Shared → Prop}
open PySem.Spec PyProof.Rows SrtO TS in
theorem lex_intsV {b fin : Bool} {xs ys : List Value} {ns ms : List Int} (i : Nat) (hx : IntsAre xs ns) (hy : IntsAre ys ms) (hf : fin = decide (ns.length < ms.length))
    (h : Q (lexI ns ms) s) : PySem.W.KatLex prog w A b fin Q (xs.zip ys) i s := by
  induction hx generalizing ys ms i with
  | nil =>
    cases hy with
    | nil =>
      subst hf
      exact PySem.W.kat_nil h
    | cons q u hy =>
      subst hf
      exact PySem.W.kat_nil h
  | @cons p t xs ns hx ih =>
    cases hy with
    | nil =>
      subst hf
      exact PySem.W.kat_nil h
    | @cons q u ys ms hy =>
      have hf' : fin = decide (ns.length < ms.length) := by rw [hf]; simp
      show PySem.W.KatLex prog w A b fin Q ((Value.int p t, Value.int q u) :: xs.zip ys) i s
      refine PySem.W.kat_cons (wpAny_eqBool_int ?_)
      by_cases e : p = q
      · subst e
        rw [beq_self_eq_true]
        refine PySem.W.kat_yes ?_
        rw [show lexI (p :: ns) (p :: ms) = lexI ns ms by simp [lexI]] at h
        first
          | exact ih (i + 1) hy hf' h
          | exact ih _ _ (i + 1) hy hf' h
      · rw [show (p == q) = false from beq_eq_false_iff_ne.mpr e]
        refine PySem.W.kat_no (oneLt_ints _ ?_)
        rw [show lexI (p :: ns) (q :: ms) = decide (p < q) by simp [lexI, e]] at h
        exact h
open PySem.Spec PyProof.Rows SrtO TS in
theorem firstsV {h : Heap} : ∀ vs : List Value, (∀ v ∈ vs, ∃ ns, TupInts h v ns ∧ ns ≠ []) → ∃ fs, PySem.W.KatTups h vs fs ∧ fs.length = vs.length ∧ ∀ f, f ∈ fs → ∃ n t, f = Value.int n t
  | [], _ => ⟨[], PySem.W.KatTups.nil, rfl, fun f hf => by simp at hf⟩
  | v :: vs, x => by
    obtain ⟨fs, k, hl, hi⟩ := firstsV vs fun u hu => x u (List.mem_cons_of_mem _ hu)
    obtain ⟨ns, ⟨a, xs, rfl, ⟨o, ho, hc, n, hdt⟩, i⟩, hn⟩ := x v (List.mem_cons_self ..)
    obtain ⟨y, ys, e⟩ : ∃ y ys, xs.toList = y :: ys := by
      cases q : xs.toList with
      | nil =>
        rw [q] at i
        have l := i.length
        rw [List.length_nil] at l
        exact absurd (List.eq_nil_of_length_eq_zero (by omega)) hn
      | cons y ys => exact ⟨y, ys, rfl⟩
    obtain ⟨m, t, hy⟩ := i.all y (by rw [e]; exact List.mem_cons_self ..)
    refine ⟨y :: fs, PySem.W.KatTups.cons ho hc hdt ?_ k, by simp [hl], ?_⟩
    · have z := congrArg (fun l : List Value => l[0]?) e
      simpa using z
    · intro f hf
      rcases List.mem_cons.mp hf with rfl | hf
      · exact ⟨m, t, hy⟩
      · exact hi f hf
open PySem.Spec PyProof.Rows SrtO TS in
theorem tups_sortable {a : Addr} {vs : List Value} {k : Value → List Int} (h0 : 0 < vs.length) (hp : ∀ v ∈ vs, TupInts s.heap v (k v) ∧ k v ≠ []) (ha : ∀ o, s.heap.get? a = some o → o.cls ≠ .type "tuple") : SortableO prog w A s a vs fun v u => lexI (k v) (k u) := by
  intro h' keep
  have hp' : ∀ v ∈ vs, TupInts h' v (k v) ∧ k v ≠ [] := fun v hm => ⟨(hp v hm).1.keeps fun b o e c => keep b o (fun z => by subst z; exact ha o e c) e, (hp v hm).2⟩
  obtain ⟨fs, h1, h2, h3⟩ := firstsV vs fun v hm => ⟨_, hp' v hm⟩
  refine ⟨tuples' true, fun Q E hq => ?_, ?_⟩
  · refine PySem.W.kat_kind (T := .type "int") h1 (by omega) (fun f hm => ?_) (by rfl) ?_
    · obtain ⟨x, t, rfl⟩ := h3 f hm
      exact PySem.W.Looks.now
    · have e : (Value.type "int" != Value.type "tuple") = true := by first | decide +kernel | rfl | decide
      rw [e]
      exact hq
  · intro p q hm hm'
    obtain ⟨⟨a1, xs, e1, ⟨o, ho, hc, n, hdt⟩, i⟩, _⟩ := hp' _ hm
    obtain ⟨⟨a2, ys, e2, ⟨o', ho', hc', n', hdt'⟩, i'⟩, _⟩ := hp' _ hm'
    show wpAny (model prog w) A (keyLt' (tuples' true) p.1 q.1) (fun r s' => s' = { s with heap := h' } ∧ r = lexI (k p.1) (k q.1)) (fun _ _ => False) { s with heap := h' }
    rw [show keyLt' (tuples' true) p.1 q.1 = keyLt' (tuples' true) (Value.ref a1) (Value.ref a2) by rw [e1, e2]]
    refine PySem.W.kat_lt ho hdt ho' hdt' (lex_intsV 0 i i' ?_ ⟨rfl, rfl⟩)
    have l1 := i.length
    have l2 := i'.length
    rw [Array.length_toList] at l1 l2
    rw [l1, l2]
theorem swo_lexI (k : Value → List Int) : SrtO.Swo fun v u => lexI (k v) (k u) := ⟨fun x y h => lexI_asym _ _ h, fun x y z h1 h2 => lexI_tr _ _ _ h1 h2⟩
end
/-- an int list is walked sorted -/
def rSortIL (K : PySem.W.Frag) : List V → Hp → VK → Prop := fun vs H Q => ∃ (a : Addr) (ns : List Int), vs = [V.ref a] ∧ (SqL K H a (ns.map V.int) ∨ SqT K H a (ns.map V.int)) ∧
  ∀ (ns' : List Int) (p : Addr), ns'.Perm ns → ns'.Pairwise (· ≤ ·) → H p = none → Q (.ref p) (upd H p (.lst (ns'.map V.int)))
def rSortTL (K : PySem.W.Frag) : List V → Hp → VK → Prop := fun vs H Q => ∃ (a : Addr) (xs : List V), vs = [V.ref a] ∧ (SqL K H a xs ∨ SqT K H a xs) ∧ (∀ x ∈ xs, ∃ ns, TupI K H x ns ∧ ns ≠ []) ∧
  ∀ (ys : List V) (p : Addr), ys.Perm xs → ys.Pairwise (fun x y => ∀ n m, TupI K H x n → TupI K H y m → lexI m n = false) → H p = none → Q (.ref p) (upd H p (.lst ys))
section
variable {X : Cx}
open PySem.Spec PyProof.Rows in
theorem lt_of {pins : List (Addr × Obj)} {σ : L2.St} {H : Hp} {s : Shared} (I : Inv X pins σ H s) {a : Addr} {xs : List V} (h : SqL X.K H a xs ∨ SqT X.K H a xs) : ∃ its : List Value, Vals xs its ∧ LT s a its ∧ xs.length ≤ sizeLine := by
  rcases h with h | h
  · obtain ⟨its, rv, hl, hz⟩ := I.list h
    exact ⟨its, rv, .inl hl.isList, hz⟩
  · obtain ⟨its, rv, hl, hz⟩ := I.tuple h
    exact ⟨its, rv, .inr hl, hz⟩
open PySem.Spec PyProof.Rows in
theorem cr_sortIL : CallR X (.builtin "sorted") (rSortIL X.K) := by
  intro pins s σ H vs us Q I r h
  obtain ⟨a, ns, rfl, hs, q⟩ := h
  obtain ⟨its, rv, hl, hz⟩ := lt_of I hs
  rw [Vals.ref1 r]
  have hi := rv.ints
  refine sorted_ordLT SrtO.swo_int hl (by rw [← rv.length]; exact hz) (fun h2 h₁ a' _ _ => SrtO.ints_sortable hi h2) fun out h1 h2 => ?_
  obtain ⟨k1, k2, k3⟩ := SrtO.ints_out hi h1 h2
  obtain ⟨ep, he'⟩ := PyProof.Rows.sortedAll_at s.heap its out.toArray
  have hlen : ((out.map SrtO.iv).map V.int).length ≤ sizeLine := by
    rw [List.length_map, k2.length_eq]
    rw [List.length_map] at hz
    exact hz
  exact ⟨.ref _, upd H (s.heap.objs.size + 1) (.lst ((out.map SrtO.iv).map V.int)), I.laid (t' := s.toks) (fun _ _ => PyProof.Rows.sortedAll_old) (Nat.le_succ _) ⟨hlen, out, ep, vals_of_ints k1, he'⟩, rfl, q _ _ k2 k3 (I.hok.fresh (Nat.le_succ _))⟩
open PySem.Spec PyProof.Rows in
theorem cr_sortTL : CallR X (.builtin "sorted") (rSortTL X.K) := by
  intro pins s σ H vs us Q I r h
  obtain ⟨a, xs, rfl, hs, hx, q⟩ := h
  obtain ⟨its, rv, hl, hz⟩ := lt_of I hs
  rw [Vals.ref1 r]
  obtain ⟨e1, e2⟩ := bkV_refs rv fun x m => by
    obtain ⟨ns, ⟨t, e, _⟩, _⟩ := hx x m
    exact ⟨t, e⟩
  have key : ∀ v ∈ its, TS.TupInts s.heap v (TS.intsOf s.heap v) ∧ TS.intsOf s.heap v ≠ [] := fun v hv => by
    obtain ⟨t, rfl⟩ := e2 v hv
    have hm : V.ref t ∈ xs := by
      rw [e1]
      exact List.mem_map.mpr ⟨_, hv, rfl⟩
    obtain ⟨ns, ⟨t', e, ht⟩, hn⟩ := hx _ hm
    cases e
    have := tupI_raw I ht
    rw [this.ints]
    exact ⟨this, hn⟩
  refine sorted_ordLT (swo_lexI (TS.intsOf s.heap)) hl (by rw [← rv.length]; exact hz) (fun h2 h₁ a' ha kk => ?_) fun out h1 h2 => ?_
  · refine tups_sortable (s := { s with heap := h₁ }) (by omega) (fun v hm => ⟨(key v hm).1.keeps fun b o e _ => (kk b o e).2, (key v hm).2⟩) fun o e => ?_
    have e' : some o = some (seqObj "list" its.toArray 0) := e.symm.trans ha
    cases e'
    intro c
    exact absurd (Value.type.inj c) (by decide)
  · obtain ⟨ep, he'⟩ := PyProof.Rows.sortedAll_at s.heap its out.toArray
    have h3 : ∀ u ∈ out, ∃ a, u = Value.ref a := fun u hu => e2 u (h2.perm.mem_iff.mp hu)
    have hp : (out.map bkV).Perm xs := by
      rw [e1]
      exact h2.perm.map bkV
    have hlen : (out.map bkV).length ≤ sizeLine := by
      rw [hp.length_eq]
      exact hz
    refine ⟨.ref _, upd H (s.heap.objs.size + 1) (.lst (out.map bkV)), I.laid (t' := s.toks) (fun _ _ => PyProof.Rows.sortedAll_old) (Nat.le_succ _) ⟨hlen, out, ep, bkV_vals h3, he'⟩, rfl, q _ _ hp ?_ (I.hok.fresh (Nat.le_succ _))⟩
    rw [List.pairwise_map]
    refine List.Pairwise.imp (fun {u v} huv n m hn hm => ?_) h1
    obtain ⟨t, et, ht⟩ := hn
    obtain ⟨t', et', ht'⟩ := hm
    have eu := bkV_ref et
    have ev := bkV_ref et'
    have i1 : TS.intsOf s.heap u = n := by
      rw [eu]
      exact (tupI_raw I ht).ints
    have i2 : TS.intsOf s.heap v = m := by
      rw [ev]
      exact (tupI_raw I ht').ints
    rw [← i1, ← i2]
    exact huv
end
/-! sorted over data -/
def tints (ns : List Int) : D := .tup (ns.map D.int)
def lints (ns : List Int) : D := .lst (ns.map D.int)
def sortI (ns : List Int) : List Int := ns.mergeSort fun a b => decide (a ≤ b)
def sortG (gs : List (List Int)) : List (List Int) := gs.mergeSort fun a b => !lexI b a
theorem sortI_perm (ns : List Int) : (sortI ns).Perm ns := List.mergeSort_perm ns _
theorem sortG_perm (gs : List (List Int)) : (sortG gs).Perm gs := List.mergeSort_perm gs _
theorem sortI_sorted (ns : List Int) : (sortI ns).Pairwise (· ≤ ·) := by
  have := List.pairwise_mergeSort (le := fun a b : Int => decide (a ≤ b)) (fun a b c h1 h2 => by simp at *; omega) (fun a b => by simp; omega) ns
  exact this.imp fun h => by simpa using h
theorem sortG_sorted (gs : List (List Int)) : (sortG gs).Pairwise fun a b => lexI b a = false := by
  have := List.pairwise_mergeSort (le := fun a b : List Int => !lexI b a) (fun a b c h1 h2 => by simp at *; exact lexI_tr a b c h1 h2) (fun a b => by
    cases h : lexI b a with
    | false => rfl
    | true => simp [lexI_asym _ _ h]) gs
  exact this.imp fun h => by simpa using h
/-- two lists sorted alike are one -/
theorem perm_sorted {α : Type} {le : α → α → Prop} (anti : ∀ a b, le a b → le b a → a = b) : ∀ {l m : List α}, l.Perm m → l.Pairwise le → m.Pairwise le → (∀ a ∈ l, le a a) → l = m
  | [], m, p, _, _, _ => (List.Perm.nil_eq p)
  | a :: l, [], p, _, _, _ => absurd p.length_eq (by simp)
  | a :: l, b :: m, p, h1, h2, hr => by
    have hab : a = b := by
      have ha : a ∈ b :: m := p.mem_iff.mp (List.mem_cons_self ..)
      have hb : b ∈ a :: l := p.mem_iff.mpr (List.mem_cons_self ..)
      rcases List.mem_cons.mp ha with e | ha
      · exact e
      rcases List.mem_cons.mp hb with e | hb
      · exact e.symm
      exact anti a b ((List.pairwise_cons.mp h1).1 b hb) ((List.pairwise_cons.mp h2).1 a ha)
    subst hab
    rw [perm_sorted anti p.cons_inv (List.pairwise_cons.mp h1).2 (List.pairwise_cons.mp h2).2 fun x hx => hr x (List.mem_cons_of_mem _ hx)]
theorem sortI_uniq {ns ms : List Int} (p : ms.Perm ns) (h : ms.Pairwise (· ≤ ·)) : ms = sortI ns :=
  perm_sorted (fun a b h1 h2 => by omega) (p.trans (sortI_perm ns).symm) h (sortI_sorted ns) fun a _ => Int.le_refl a
theorem sortG_uniq {ns ms : List (List Int)} (p : ms.Perm ns) (h : ms.Pairwise fun a b => lexI b a = false) : ms = sortG ns :=
  perm_sorted (fun a b h1 h2 => lexI_total a b h2 h1) (p.trans (sortG_perm ns).symm) h (sortG_sorted ns) fun a _ => lexI_irr a
/-- ints of data -/
def intsD : List D → Option (List Int)
  | [] => some []
  | .int i :: ds => (intsD ds).map (i :: ·)
  | _ :: _ => none
theorem intsD_map : ∀ ns : List Int, intsD (ns.map D.int) = some ns
  | [] => rfl
  | n :: ns => by simp [intsD, intsD_map ns]
theorem intsD_eq : ∀ {ds : List D} {ns : List Int}, intsD ds = some ns → ds = ns.map D.int
  | [], ns, h => by simp [intsD] at h; subst h; rfl
  | d :: ds, ns, h => by
    cases d with
    | int i =>
      simp only [intsD, Option.map_eq_some_iff] at h
      obtain ⟨ms, h1, rfl⟩ := h
      rw [intsD_eq h1]; rfl
    | _ => simp [intsD] at h
def fSortI (ds : List D) (q : D → Prop) : Prop := ∃ ns, seqIn ds = some (ns.map D.int) ∧ q (lints (sortI ns))
def fSortT (ds : List D) (q : D → Prop) : Prop := ∃ gs : List (List Int), seqIn ds = some (gs.map tints) ∧ (∀ g ∈ gs, g ≠ []) ∧ q (.lst ((sortG gs).map tints))
section
variable {X : Cx} {b : Bs} {pos p : Pos} {e : Expr} {ta : DTA}
theorem reps_ints_v {cA : Nat → Addr} {G : Hp} : ∀ {xs : List V} {ns : List Int}, Reps cA G xs (ns.map D.int) → xs = ns.map V.int
  | _, [], .nil => rfl
  | _, n :: ns, .cons r rs => by cases r; rw [reps_ints_v rs]; rfl
theorem on_sortI {K : PySem.W.Frag} : OpN b (rSortIL K) fSortI := by
  intro G m μ H vs ds q Kq w n f k
  obtain ⟨ns, e, f⟩ := f
  obtain ⟨a, us, rfl, h, rp⟩ := seq_at (K := K) n e
  have := reps_ints_v rp
  subst this
  refine ⟨a, ns, rfl, h.imp (·.1) (·.1), fun ns' l p1 p2 hl => ?_⟩
  rw [sortI_uniq p1 p2]
  exact give_new w hl (fun G' s e => .lst e (reps_ints _)) f k
theorem reps_perm {cA : Nat → Addr} {G : Hp} {xs ys : List V} (p : ys.Perm xs) : ∀ {ds : List D}, Reps cA G xs ds → ∃ es, es.Perm ds ∧ Reps cA G ys es := by
  induction p with
  | nil => intro ds r; exact ⟨ds, List.Perm.refl _, r⟩
  | cons x p ih =>
    intro ds r
    cases r with
    | cons r rs =>
      obtain ⟨es, h1, h2⟩ := ih rs
      exact ⟨_ :: es, h1.cons _, .cons r h2⟩
  | swap x y l =>
    intro ds r
    cases r with
    | cons r rs =>
      cases rs with
      | cons r' rs => exact ⟨_ :: _ :: _, List.Perm.swap .., .cons r' (.cons r rs)⟩
  | trans p1 p2 ih1 ih2 =>
    intro ds r
    obtain ⟨es, h1, h2⟩ := ih2 r
    obtain ⟨fs, h3, h4⟩ := ih1 h2
    exact ⟨fs, h3.trans h1, h4⟩
theorem perm_map {α β : Type} {f : α → β} {es : List β} {gs : List α} (p : es.Perm (gs.map f)) : ∃ hs : List α, es = hs.map f ∧ hs.Perm gs := by
  generalize hm : gs.map f = m at p
  induction p generalizing gs with
  | nil => exact ⟨[], rfl, by cases gs with
    | nil => exact List.Perm.refl _
    | cons _ _ => simp at hm⟩
  | cons x p ih =>
    cases gs with
    | nil => simp at hm
    | cons g gs =>
      simp at hm
      obtain ⟨hs, e, q⟩ := ih hm.2
      exact ⟨g :: hs, by rw [List.map_cons, ← e, hm.1], q.cons g⟩
  | swap x y l =>
    match gs, hm with
    | a :: c :: gs, hm =>
      simp at hm
      exact ⟨c :: a :: gs, by simp [hm.1, hm.2.1, hm.2.2], List.Perm.swap ..⟩
  | trans p1 p2 ih1 ih2 =>
    obtain ⟨hs, e, q⟩ := ih2 hm
    obtain ⟨ks, e2, q2⟩ := ih1 e.symm
    exact ⟨ks, e2, q2.trans q⟩
theorem rep_tints {K : PySem.W.Frag} {cA : Nat → Addr} {G H : Hp} (g : Sub G H) {x : V} {ns : List Int} (r : Rep cA G x (tints ns)) : TupI K H x ns := by
  obtain ⟨t, xs, rfl, h, rp⟩ := r.now g
  rw [reps_ints_v rp] at h
  exact ⟨t, rfl, SqT.of h⟩
theorem on_sortT {K : PySem.W.Frag} : OpN b (rSortTL K) fSortT := by
  intro G m μ H vs ds q Kq w n f k
  obtain ⟨gs, e, hne, f⟩ := f
  obtain ⟨a, us, rfl, h, rp⟩ := seq_at (K := K) n e
  have each : ∀ {xs : List V} {gs : List (List Int)}, Reps b.cA G xs (gs.map tints) → ∀ x ∈ xs, ∃ g ∈ gs, Rep b.cA G x (tints g) := by
    intro xs gs
    induction gs generalizing xs with
    | nil => intro r; cases r; intro x hx; cases hx
    | cons g gs ih =>
      intro r
      cases r with
      | cons r rs =>
        intro x hx
        rcases List.mem_cons.mp hx with rfl | hx
        · exact ⟨g, List.mem_cons_self .., r⟩
        · obtain ⟨g', h1, h2⟩ := ih rs x hx
          exact ⟨g', List.mem_cons_of_mem _ h1, h2⟩
  refine ⟨a, us, rfl, h.imp (·.1) (·.1), fun x hx => ?_, fun ys l p1 p2 hl => ?_⟩
  · obtain ⟨g, h1, h2⟩ := each rp x hx
    exact ⟨g, rep_tints w.rel.gh h2, hne g h1⟩
  · obtain ⟨es, q1, q2⟩ := reps_perm p1 rp
    obtain ⟨hs, rfl, q3⟩ := perm_map q1
    have srt : hs.Pairwise fun a b => lexI b a = false := by
      clear q1 q3
      induction hs generalizing ys with
      | nil => exact List.Pairwise.nil
      | cons h1 hs ih =>
        cases q2 with
        | cons r rs =>
          rename_i y ys
          obtain ⟨z1, z2⟩ := List.pairwise_cons.mp p2
          refine List.pairwise_cons.mpr ⟨fun g hg => ?_, ?_⟩
          · obtain ⟨i, hi, rfl⟩ := List.getElem_of_mem hg
            obtain ⟨v, hv, rv⟩ := rs.get' (i := i) (d := tints hs[i]) (by simp [hi])
            exact z1 v (List.mem_of_getElem? hv) _ _ (rep_tints w.rel.gh r) (rep_tints w.rel.gh rv)
          · have : ∀ {xs : List V}, Reps b.cA G xs (hs.map tints) → xs.Pairwise (fun x y => ∀ n m, TupI K H x n → TupI K H y m → lexI m n = false) → hs.Pairwise fun a b => lexI b a = false := by
              intro xs
              clear ih z1 z2 p2 rs r p1 rp h1
              induction hs generalizing xs with
              | nil => intro _ _; exact List.Pairwise.nil
              | cons h2 hs ih =>
                intro r p2
                cases r with
                | cons r rs =>
                  obtain ⟨z1, z2⟩ := List.pairwise_cons.mp p2
                  refine List.pairwise_cons.mpr ⟨fun g hg => ?_, ih rs z2⟩
                  obtain ⟨i, hi, rfl⟩ := List.getElem_of_mem hg
                  obtain ⟨v, hv, rv⟩ := rs.get' (i := i) (d := tints hs[i]) (by simp [hi])
                  exact z1 v (List.mem_of_getElem? hv) _ _ (rep_tints w.rel.gh r) (rep_tints w.rel.gh rv)
            exact this rs z2
    rw [sortG_uniq q3 srt] at q2
    exact give_new w hl (fun G' s e => .lst e (q2.mono s)) f k
theorem de_sortI (hm : X.mg "sorted" = none) (ha : DA X b [e] ta) (hg : Gl X "sorted") (he : starEach [e] X.env = [(false, eval e X.env)] := by rfl) (hpl : (backTo pos (starEach [] X.env)).any (·.1) = false := by rfl) : DE X b (.Call (.Name "sorted" p) [e] [] pos) (dFn fSortI ta) :=
  de_fn (on_sortI (K := X.K)) ha fun pa => pe_callB cr_sortIL hg hm PyProof.Rows.boot_sorted pa (he := he) (hpl := hpl)
theorem de_sortT (hm : X.mg "sorted" = none) (ha : DA X b [e] ta) (hg : Gl X "sorted") (he : starEach [e] X.env = [(false, eval e X.env)] := by rfl) (hpl : (backTo pos (starEach [] X.env)).any (·.1) = false := by rfl) : DE X b (.Call (.Name "sorted" p) [e] [] pos) (dFn fSortT ta) :=
  de_fn (on_sortT (K := X.K)) ha fun pa => pe_callB cr_sortTL hg hm PyProof.Rows.boot_sorted pa (he := he) (hpl := hpl)
end
end DD
namespace DD
open PySem L2
/-! ### dicts with keys of ints and texts -/
@[simp] def keyD : D → Option Key
  | .int i => some (.inl i)
  | .str s => some (.inr s)
  | _ => none
@[simp] def keyW : W → Option Key
  | .d d => keyD d
  | .r _ => none
def dgetL {α : Type} : List Key → List α → Key → Option α
  | k' :: ks, x :: xs, k => if k' = k then some x else dgetL ks xs k
  | _, _, _ => none
def hasK (ks : List Key) (k : Key) : Bool := ks.any fun k' => decide (k' = k)
def dputK (ks : List Key) (k : Key) : List Key := if hasK ks k = true then ks else ks ++ [k]
def dmapL {α : Type} : List Key → List α → Key → α → List α
  | k' :: ks, x :: xs, k, v => (if k' = k then v else x) :: dmapL ks xs k v
  | _, _, _, _ => []
def dputL {α : Type} (ks : List Key) (xs : List α) (k : Key) (v : α) : List α := if hasK ks k = true then dmapL ks xs k v else xs ++ [v]
theorem val_get : ∀ {ks : List Key} {xs : List V} {k : Key}, valV (ks.zip xs) k = dgetL ks xs k
  | [], xs, k => by simp [valV, dgetL]
  | _ :: _, [], k => by simp [valV, dgetL]
  | k' :: ks, x :: xs, k => by
    have ih := val_get (ks := ks) (xs := xs) (k := k)
    unfold valV at ih ⊢
    simp only [List.zip_cons_cons, List.find?_cons, dgetL]
    by_cases e : k' = k
    · simp [e]
    · simp [e, ih]
theorem dmap_len {α : Type} : ∀ {ks : List Key} {xs : List α} {k : Key} {v : α}, ks.length = xs.length → (dmapL ks xs k v).length = xs.length
  | [], [], _, _, _ => rfl
  | k' :: ks, x :: xs, k, v, h => by simp only [dmapL, List.length_cons]; rw [dmap_len (by simpa using h)]
  | [], _ :: _, _, _, h => by simp at h
  | _ :: _, [], _, _, h => by simp at h
theorem dmap_zip : ∀ {ks : List Key} {xs : List V} {k : Key} {v : V}, ks.length = xs.length → (ks.zip xs).map (fun kv => if kv.1 = k then (kv.1, v) else kv) = ks.zip (dmapL ks xs k v)
  | [], [], _, _, _ => rfl
  | k' :: ks, x :: xs, k, v, h => by
    simp only [dmapL, List.zip_cons_cons, List.map_cons]
    rw [dmap_zip (by simpa using h)]
    by_cases e : k' = k <;> simp [e]
  | [], _ :: _, _, _, h => by simp at h
  | _ :: _, [], _, _, h => by simp at h
theorem any_zip : ∀ {ks : List Key} {xs : List V} {k : Key}, ks.length = xs.length → ((ks.zip xs).any fun kv => decide (kv.1 = k)) = hasK ks k
  | [], [], _, _ => rfl
  | k' :: ks, x :: xs, k, h => by
    simp only [List.zip_cons_cons, List.any_cons]
    rw [any_zip (by simpa using h)]
    rfl
  | [], _ :: _, _, h => by simp at h
  | _ :: _, [], _, h => by simp at h
theorem put_zip {ks : List Key} {xs : List V} {k : Key} {v : V} (h : ks.length = xs.length) : putK (ks.zip xs) k v = (dputK ks k).zip (dputL ks xs k v) ∧ (dputK ks k).length = (dputL ks xs k v).length := by
  unfold putK dputK dputL
  rw [any_zip h]
  by_cases e : hasK ks k = true
  · simp only [e, if_true]
    exact ⟨dmap_zip h, by rw [dmap_len h, h]⟩
  · simp only [e, if_false, Bool.false_eq_true]
    exact ⟨by rw [List.zip_append h]; rfl, by simp [h]⟩
section
variable {cA : Nat → Addr} {G : Hp}
theorem dmap_rel {v : V} {d : D} (r : Rep cA G v d) {k : Key} : ∀ {ks : List Key} {xs : List V} {ds : List D}, Reps cA G xs ds → Reps cA G (dmapL ks xs k v) (dmapL ks ds k d)
  | [], _, _, _ => .nil
  | _ :: _, _, _, .nil => .nil
  | k' :: ks, _, _, .cons q qs => by
    simp only [dmapL]
    by_cases e : k' = k
    · simp only [e, if_true]; exact .cons r (dmap_rel r qs)
    · simp only [e, if_false]; exact .cons q (dmap_rel r qs)
theorem dput_rel {v : V} {d : D} (r : Rep cA G v d) {k : Key} {ks : List Key} {xs : List V} {ds : List D} (q : Reps cA G xs ds) : Reps cA G (dputL ks xs k v) (dputL ks ds k d) := by
  unfold dputL
  split
  · exact dmap_rel r q
  · exact q.app (.cons r .nil)
theorem dget_rel {k : Key} : ∀ {ks : List Key} {xs : List V} {ds : List D}, Reps cA G xs ds → (dgetL ks xs k = none ∧ dgetL ks ds k = none) ∨ ∃ v d, dgetL ks xs k = some v ∧ dgetL ks ds k = some d ∧ Rep cA G v d
  | [], _, _, _ => .inl ⟨rfl, rfl⟩
  | _ :: _, _, _, .nil => .inl ⟨rfl, rfl⟩
  | k' :: ks, _, _, .cons q qs => by
    simp only [dgetL]
    by_cases e : k' = k
    · simp only [e, if_true]; exact .inr ⟨_, _, rfl, rfl, q⟩
    · simp only [e, if_false]; exact dget_rel qs
end
section
variable {X : Cx} {b : Bs} {pos apos cpos pos' : Pos} {o e f i value : Expr} {td ty tx tv : DTE}
/-- {} -/
@[simp] def dDNew (_ρ : R) (μ : M) (Q : W → M → Prop) : Prop := Q (.r μ.length) (μ ++ [.dic [] []])
theorem de_dnew : DE X b (.Dict [] [] pos) dDNew := by
  refine ⟨_, pe_dnewK, fun {G m ρ μ σ H Q K} o r t k => ?_⟩
  intro p hp
  exact k _ _ _ _ _ _ Le.cellNew (o.mono Le.cellNew (o.rel.cellNew (c := .dic [] []) hp ⟨p, [], rfl, upd_same, rfl, .nil⟩)) (.r (as := []) (by rw [← o.rel.len]; simp)) t
@[simp] def dicW (μ : M) (w : W) : Option (List Key × List D) := match rs μ w with
  | some (.dic ks ds) => some (ks, ds)
  | _ => none
theorem dicW_ok {cA : Nat → Addr} {U G H : Hp} {m : Wd} {μ : M} {v : V} {w : W} {ks : List Key} {ds : List D} (r : RelM cA U G m μ H) (q : WRel cA G m v w) (h : dicW μ w = some (ks, ds)) : ∃ p xs, v = .ref p ∧ H p = some (.dK (ks.zip xs)) ∧ ks.length = xs.length ∧ Reps cA G xs ds := by
  unfold dicW at h
  split at h
  · rename_i ks' ds' e
    cases h
    exact rs_ok r q e
  · cases h
theorem kV_of {cA : Nat → Addr} {G : Hp} {m : Wd} {v : V} {w : W} {k : Key} (q : WRel cA G m v w) (h : keyW w = some k) : v = kV k := by
  cases q with
  | r e => cases h
  | d r =>
    cases r with
    | int i => cases h; rfl
    | str s => cases h; rfl
    | _ => cases h
/-- d.get(k, z) -/
@[simp] def dDGet2 (td ty tx : DTE) (ρ : R) (μ : M) (Q : W → M → Prop) : Prop := td ρ μ fun w μ1 => (dicW μ1 w).isSome = true ∧ ty ρ μ1 fun y μ2 => tx ρ μ2 fun z μ3 => match dicW μ3 w, keyW y with
  | some (ks, ds), some k => (match dgetL ks ds k with
    | some d => Q (.d d) μ3
    | none => Q z μ3)
  | _, _ => False
theorem de_dget2 (hu : X.A.units + 1 < cLine) (ho : DE X b o td) (he : DE X b e ty) (hf : DE X b f tx) (m : M2 X o "get" apos e f cpos) : DE X b (.Call (.Attribute o "get" apos) [e, f] [] cpos) (dDGet2 td ty tx) := by
  obtain ⟨t1, p1, q1⟩ := ho.ex
  obtain ⟨t2, p2, q2⟩ := he.ex
  obtain ⟨t3, p3, q3⟩ := hf.ex
  refine ⟨_, pe_dget2 hu p1 p2 p3 m, fun {G m ρ μ σ H Q K} o r t k => ?_⟩
  refine q1 o r t fun v H1 G1 m1 w μ1 l1 o1 r1 ⟨hs, t1⟩ => ?_
  obtain ⟨⟨ks, ds⟩, hw⟩ := Option.isSome_iff_exists.mp hs
  obtain ⟨p, xs, rfl, h1, _, _⟩ := dicW_ok o1.rel r1 hw
  refine ⟨p, rfl, .inl ⟨_, .inl h1⟩, q2 o1 (r.mono l1) t1 fun y H2 G2 m2 w2 μ2 l2 o2 r2 t2 => q3 o2 (r.mono (l1.trans l2)) t2 fun z H3 G3 m3 w3 μ3 l3 o3 r3 t3 => ?_⟩
  split at t3
  · rename_i ks ds ky e1 e2
    obtain ⟨p', xs', e3, h2, _, rp⟩ := dicW_ok o3.rel (r1.mono (l2.trans l3)) e1
    cases e3
    have := kV_of r2 e2
    subst this
    refine ⟨_, DGet.k h2, ?_⟩
    rw [val_get]
    rcases dget_rel (k := ky) (ks := ks) rp with ⟨z1, z2⟩ | ⟨v, d, z1, z2, z3⟩
    · rw [z2] at t3
      rw [z1]
      exact k z H3 G3 m3 w3 μ3 (l1.trans (l2.trans l3)) o3 r3 t3
    · rw [z2] at t3
      rw [z1]
      exact k v H3 G3 m3 _ μ3 (l1.trans (l2.trans l3)) o3 (.d z3) t3
  · exact t3.elim
/-- d[k] -/
@[simp] def dDIx (td ty : DTE) (ρ : R) (μ : M) (Q : W → M → Prop) : Prop := td ρ μ fun w μ1 => ty ρ μ1 fun y μ2 => match dicW μ2 w, keyW y with
  | some (ks, ds), some k => (match dgetL ks ds k with
    | some d => Q (.d d) μ2
    | none => False)
  | _, _ => False
theorem de_dix (hu : X.A.units + 1 < cLine) (ho : DE X b o td) (hi : DE X b i ty) (hs : NoSl i := by exact fun _ _ => rfl) : DE X b (.Subscript o i pos) (dDIx td ty) := by
  obtain ⟨t1, p1, q1⟩ := ho.ex
  obtain ⟨t2, p2, q2⟩ := hi.ex
  refine ⟨_, pe_dget hu p1 p2 hs, fun {G m ρ μ σ H Q K} o r t k => ?_⟩
  refine q1 o r t fun v H1 G1 m1 w μ1 l1 o1 r1 t1 => q2 o1 (r.mono l1) t1 fun y H2 G2 m2 w2 μ2 l2 o2 r2 t2 => ?_
  split at t2
  · rename_i ks ds ky e1 e2
    obtain ⟨p', xs', rfl, h2, _, rp⟩ := dicW_ok o2.rel (r1.mono l2) e1
    have := kV_of r2 e2
    subst this
    rcases dget_rel (k := ky) (ks := ks) rp with ⟨z1, z2⟩ | ⟨v, d, z1, z2, z3⟩
    · rw [z2] at t2
      exact t2.elim
    · rw [z2] at t2
      refine ⟨p', v, rfl, ?_, k v H2 G2 m2 _ μ2 (l1.trans l2) o2 (.d z3) t2⟩
      have := DGet.k (k := ky) h2
      rw [val_get, z1] at this
      exact this
  · exact t2.elim
/-- k in d, k not in d -/
@[simp] def dDIn (neg : Bool) (ty td : DTE) (ρ : R) (μ : M) (Q : W → M → Prop) : Prop := ty ρ μ fun y μ1 => td ρ μ1 fun w μ2 => match dicW μ2 w, keyW y with
  | some (ks, ds), some k => Q (.d (.bl (hasK ks k != neg))) μ2
  | _, _ => False
theorem get_in : ∀ {ks : List Key} {xs : List V} {k : Key}, ks.length = xs.length → (dgetL ks xs k).isSome = hasK ks k
  | [], [], _, _ => rfl
  | k' :: ks, x :: xs, k, h => by
    have ih := get_in (ks := ks) (xs := xs) (k := k) (by simpa using h)
    simp only [dgetL, hasK, List.any_cons]
    by_cases e : k' = k
    · simp [e]
    · simp only [e, if_false, decide_false, Bool.false_or]
      exact ih
  | [], _ :: _, _, h => by simp at h
  | _ :: _, [], _, h => by simp at h
theorem din_core {G0 H : Hp} {m0 : Wd} {μ : M} {v y : V} {w w2 : W} {ks : List Key} {ds : List D} {k : Key} (o : WOk b G0 m0 μ H) (r : WRel b.cA G0 m0 v w) (r2 : WRel b.cA G0 m0 y w2) (e1 : dicW μ w = some (ks, ds)) (e2 : keyW w2 = some k) : ∃ a ov, v = .ref a ∧ DGet H a y ov ∧ ov.isSome = hasK ks k := by
  obtain ⟨p', xs', rfl, h2, hl, rp⟩ := dicW_ok o.rel r e1
  have := kV_of r2 e2
  subst this
  exact ⟨p', _, rfl, DGet.k h2, by rw [val_get, get_in hl]⟩
theorem de_din (hu : X.A.units + 1 < cLine) (hi : DE X b i ty) (ho : DE X b o td) (hm : behindInMarks .In o = false) : DE X b (.Compare i [.In] [o] pos) (dDIn false ty td) := by
  obtain ⟨t1, p1, q1⟩ := hi.ex
  obtain ⟨t2, p2, q2⟩ := ho.ex
  refine ⟨_, pe_cmp (pc_din hu p1 p2) hm, fun {G m ρ μ σ H Q K} o r t k => ?_⟩
  refine q1 o r t fun y H1 G1 m1 w μ1 l1 o1 r1 t1 => q2 o1 (r.mono l1) t1 fun v H2 G2 m2 w2 μ2 l2 o2 r2 t2 => ?_
  split at t2
  · rename_i ks ds ky e1 e2
    obtain ⟨a, ov, rfl, g, hv⟩ := din_core o2 r2 (r1.mono l2) e1 e2
    refine ⟨a, ov, rfl, g, ?_⟩
    rw [hv]
    exact k _ H2 G2 m2 _ μ2 (l1.trans l2) o2 (.d (.bl _)) (by simpa using t2)
  · exact t2.elim
theorem dt_din (hu : X.A.units + 1 < cLine) (hi : DE X b i ty) (ho : DE X b o td) (hm : behindInMarks .In o = false) : DT X b (.Compare i [.In] [o] pos) (dB (dDIn false ty td)) := by
  obtain ⟨t1, p1, q1⟩ := hi.ex
  obtain ⟨t2, p2, q2⟩ := ho.ex
  refine ⟨_, pt_cmp (pc_din hu p1 p2) hm, fun {G m ρ μ σ H Q K} o r t k => ?_⟩
  refine q1 o r t fun y H1 G1 m1 w μ1 l1 o1 r1 t1 => q2 o1 (r.mono l1) t1 fun v H2 G2 m2 w2 μ2 l2 o2 r2 t2 => ?_
  split at t2
  · rename_i ks ds ky e1 e2
    obtain ⟨a, ov, rfl, g, hv⟩ := din_core o2 r2 (r1.mono l2) e1 e2
    refine ⟨a, ov, rfl, g, ?_⟩
    rw [hv]
    exact ⟨_, rfl, k _ H2 G2 m2 μ2 (l1.trans l2) o2 (by simpa using t2)⟩
  · exact t2.elim
theorem dt_dnotin (hu : X.A.units + 1 < cLine) (hi : DE X b i ty) (ho : DE X b o td) (hm : behindInMarks .NotIn o = false) : DT X b (.Compare i [.NotIn] [o] pos) (dB (dDIn true ty td)) := by
  obtain ⟨t1, p1, q1⟩ := hi.ex
  obtain ⟨t2, p2, q2⟩ := ho.ex
  refine ⟨_, pt_cmp (pc_dnotin hu p1 p2) hm, fun {G m ρ μ σ H Q K} o r t k => ?_⟩
  refine q1 o r t fun y H1 G1 m1 w μ1 l1 o1 r1 t1 => q2 o1 (r.mono l1) t1 fun v H2 G2 m2 w2 μ2 l2 o2 r2 t2 => ?_
  split at t2
  · rename_i ks ds ky e1 e2
    obtain ⟨a, ov, rfl, g, hv⟩ := din_core o2 r2 (r1.mono l2) e1 e2
    refine ⟨a, ov, rfl, g, ?_⟩
    rw [hv]
    exact ⟨_, rfl, k _ H2 G2 m2 μ2 (l1.trans l2) o2 (by simpa using t2)⟩
  · exact t2.elim
/-- d[k] = v -/
@[simp] def dDPut (td ty tv : DTE) (D : DEnds) (ρ : R) (μ : M) : Prop := tv ρ μ fun x μ1 => td ρ μ1 fun w μ2 => ty ρ μ2 fun y μ3 => match w, keyW y with
  | .r n, some k => (match esc μ3 x with
    | some (d, μ4) => (match μ4[n]? with
      | some (.dic ks ds) => ks.length < sizeLine ∧ D.nx ρ (μ4.set n (.dic (dputK ks k) (dputL ks ds k d)))
      | _ => False)
    | none => False)
  | _, _ => False
theorem ds_dput (hu : X.A.units + 1 < cLine) (ho : DE X b o td) (hi : DE X b i ty) (hv : DE X b value tv) (hs : swapsWith value (some (.Subscript o i pos')) pos.line X.env = pure false := by rfl) : DS X b (.Assign [.Subscript o i pos'] value pos) (dDPut td ty tv) := by
  obtain ⟨t1, p1, q1⟩ := ho.ex
  obtain ⟨t2, p2, q2⟩ := hi.ex
  obtain ⟨t3, p3, q3⟩ := hv.ex
  refine ⟨_, ps_dput hu p1 p2 p3 hs, fun {G m ρ μ σ H D E} o r t k => ?_⟩
  refine q3 o r t fun x H1 G1 m1 wx μ1 l1 o1 r1 t1 => q1 o1 (r.mono l1) t1 fun v H2 G2 m2 w μ2 l2 o2 r2 t2 => q2 o2 (r.mono (l1.trans l2)) t2 fun y H3 G3 m3 wy μ3 l3 o3 r3 t3 => ?_
  split at t3
  · rename_i n ky e2
    split at t3
    · rename_i d μ4 e3
      split at t3
      · rename_i ks ds e4
        obtain ⟨hl, t3⟩ := t3
        obtain ⟨G4, l4, r4, rx⟩ := esc_ok o3.rel (r1.mono (l2.trans l3)) e3
        have := kV_of r3 e2
        subst this
        cases r2 with
        | @r _ p as em =>
        have em' := l4.m _ _ (l3.m _ _ em)
        obtain ⟨p', xs, e5, h5, h6, rp⟩ := r4.cell n _ _ e4 em'
        cases e5
        obtain ⟨z1, z2⟩ := put_zip (k := ky) (v := x) h6
        refine ⟨p, _, rfl, DPut.k h5 (by rw [List.length_zip]; omega), ?_⟩
        rw [z1]
        have lo : Le G m G4 m3 := l1.trans (l2.trans (l3.trans l4))
        refine k.nx σ _ G4 m3 ρ _ lo (o3.mono l4 (r4.write (p := p) (c' := .dic (dputK ks ky) (dputL ks ds ky d)) e4 em' rfl (by simp) rfl ⟨p, _, rfl, upd_same, z2, dput_rel rx rp⟩)) (r.mono lo) t3
      · exact t3.elim
    · exact t3.elim
  · exact t3.elim
end
/-! list(d.values()) -/
def rListVals : V → Hp → VK → Prop := fun x H Q => ∃ (d : Addr) (kvs : List (Key × V)), x = .ref d ∧ H d = some (.dK kvs) ∧ ∀ q, H q = none → Q (.ref q) (upd H q (.lst (kvs.map (·.2))))
section
variable {X : Cx} {e : Expr} {te : TE} {p apos cpos pos : Pos}
theorem kv_at : ∀ {kvs : List (Key × V)} {vs : List (Key × Value)} {j : Nat} {x : V} {k : Key} {u : Value}, KV kvs vs → (kvs.map (·.2))[j]? = some x → vs[j]? = some (k, u) → RelV x u
  | _, _, j, _, _, _, .nil, h, _ => by simp at h
  | _, _, 0, _, _, _, .cons r rs, h, h2 => by simp at h h2; subst h; obtain ⟨_, g⟩ := r; rw [h2] at g; exact g
  | _, _, j + 1, _, _, _, .cons r rs, h, h2 => kv_at rs (by simpa using h) (by simpa using h2)
theorem pe_listVals (hc : X.calm = true) (he : PE X e te) (hg : Gl X "list") (hm : X.mg "list" = none) (hv : bootBuiltins "list" = some (.type "list")) (hbase : attributeBase e "values" X.env (eval e X.env) = eval e X.env := by rfl) (hline : (apos.endLine == cpos.line) = true := by rfl)
    (hs : starEach [.Call (.Attribute e "values" apos) [] [] cpos] X.env = (false, eval (.Call (.Attribute e "values" apos) [] [] cpos) X.env) :: starEach [] X.env := by rfl) :
    PE X (.Call (.Name "list" p) [.Call (.Attribute e "values" apos) [] [] cpos] [] pos) (fun σ H Q => te σ H fun x H1 => rListVals x H1 Q) := by
  refine ⟨fun pins s σ H Q I hq => ?_⟩
  refine wpAny_Call_Name_kw (ld_blt I hg hm hv ?_)
  refine PyProof.Rows.callWith_type1 ?_ hs rfl
  rw [hs]
  show wpAny _ _ (spliced ((false, eval (.Call (.Attribute e "values" apos) [] [] cpos) X.env) :: backTo pos (starEach [] X.env))) _ _ s
  refine Calls.spliced_cons ?_
  refine wpAny_Call_method (T := "dict") (id := "dict.values") hbase rfl hline F.plainAttrs_dict F.slot_dict_values F.type_dict_values (thn (he.run pins s σ H _ I hq) fun u s1 ⟨x, H1, I1, rx, d, kvs, ex, hd, q⟩ => ?_)
  subst ex
  obtain rfl : u = Value.ref d := rx
  obtain ⟨hz, hs0, vs, kv, hdo⟩ := I1.hok d _ hd
  obtain ⟨ep, hat⟩ := hdo.dictAt
  have lk : kvs.length = vs.length := Paired.length kv
  have I2 : Inv X pins σ H1 { s1 with heap := s1.heap.push { cls := .type "dict_values", data := .fields #[.ref d] } } := I1.kept (t' := s1.toks) fun b ob q => Heap.get?_push_of_some _ q
  refine ⟨hdo.typeIs, hdo.mapOf.noDict, ?_⟩
  show wpAny _ _ (callWith cpos (.builtin "dict.values") [.ref d] [] []) _ X.xe s1
  refine method_meetsIn F.slot_dict_values F.entry_dict_values rfl (PySem.evalArgs_none ⟨rfl, hdo.typeIs, F.args_dict_values_1 _, _, meets_dict_values (mixKind X.prog X.w) d hs0, ⟨vs, hdo⟩, ?_⟩)
  refine Calls.spliced_nil ?_
  refine PySem.W.kdl_call (PySem.W.kdl_values (knd := mixKind X.prog X.w) (kvs := vs) (ep := ep)) (I1.ok.hd hc) ⟨⟨_, Heap.get?_push_size _ rfl, rfl, rfl⟩, hat.push _⟩ (by rw [← lk]; exact hz) fun h' tk acc' c' hkeep hS hacc => ?_
  refine ⟨.ref (s1.heap.push { cls := .type "dict_values", data := .fields #[.ref d] }).objs.size, upd H1 _ (.lst (kvs.map (·.2))), I2.laid (t' := tk) hkeep (Nat.le_refl _) (show ObjOk X.prog X.w _ _ _ (.lst (kvs.map (·.2))) from ⟨?_, acc'.toList, c', ?_, ?_⟩), rfl, q _ (I2.hok.fresh (Nat.le_refl _))⟩
  · rw [List.length_map]; exact hz
  · have el : acc'.toList.length = acc'.size := by simp
    refine vals_of_at (by rw [List.length_map, el, hacc.1, lk]) fun j x w h1 h2 => ?_
    obtain ⟨k, hky⟩ := hacc.2 j w (by rw [← Array.getElem?_toList]; exact h2)
    exact kv_at kv h1 hky
  · rw [Array.toArray_toList]; exact hS
end
section
variable {X : Cx} {b : Bs} {pos apos cpos p : Pos} {e : Expr} {te : DTE}
@[simp] def dListVals (te : DTE) (ρ : R) (μ : M) (Q : W → M → Prop) : Prop := te ρ μ fun w μ1 => match dicW μ1 w with
  | some (_, ds) => Q (.d (.lst ds)) μ1
  | none => False
theorem de_listVals (hc : X.calm = true) (hm : X.mg "list" = none) (he : DE X b e te) (hg : Gl X "list") (hbase : attributeBase e "values" X.env (eval e X.env) = eval e X.env := by rfl) (hline : (apos.endLine == cpos.line) = true := by rfl)
    (hs : starEach [.Call (.Attribute e "values" apos) [] [] cpos] X.env = (false, eval (.Call (.Attribute e "values" apos) [] [] cpos) X.env) :: starEach [] X.env := by rfl) :
    DE X b (.Call (.Name "list" p) [.Call (.Attribute e "values" apos) [] [] cpos] [] pos) (dListVals te) := by
  obtain ⟨t1, p1, q1⟩ := he.ex
  refine ⟨_, pe_listVals hc p1 hg hm (by decide +kernel) hbase hline hs, fun {G m ρ μ σ H Q K} o r t k => ?_⟩
  refine q1 o r t fun v H1 G1 m1 w μ1 l1 o1 r1 t1 => ?_
  split at t1
  · rename_i ks ds e1
    obtain ⟨a, xs, rfl, h, hl, rp⟩ := dicW_ok o1.rel r1 e1
    refine ⟨a, _, rfl, h, fun q hq => ?_⟩
    have e2 : (ks.zip xs).map (·.2) = xs := by rw [List.map_snd_zip]; omega
    rw [e2]
    have hg := (o1.rel.new hq).1
    have l2 : Le G1 m1 (upd G1 q (.lst xs)) m1 := Le.know hg
    exact k _ _ _ m1 _ μ1 (l1.trans l2) (o1.mono l2 (o1.rel.know hq)) (.d (.lst upd_same (rp.mono l2.g))) t1
  · exact t1.elim
end
end DD
namespace DD
open PySem L2
/-! ### defs with keyword-only parameters -/
/-- keywords' values, from the left -/
structure DK (X : Cx) (b : Bs) (kws : List Keyword) (t : DTA) : Prop where
  ex : ∃ te : TA, PK X kws te ∧ ∀ {G : Hp} {m : Wd} {ρ : R} {μ : M} {σ : L2.St} {H : Hp} {Q : List W → M → Prop} {K : List V → Hp → Prop}, WOk b G m μ H → RelR b.cA G m σ ρ → t ρ μ Q →
    (∀ vs H' G' m' ws μ', Le G m G' m' → WOk b G' m' μ' H' → WRels b.cA G' m' vs ws → Q ws μ' → K vs H') → te σ H K
section
variable {X : Cx} {b : Bs} {pos p kpos : Pos} {e : Expr} {es : List Expr} {kws : List Keyword} {ta tr : DTA} {te : DTE} {nm : Option Str}
theorem dk_nil : DK X b [] dNil := ⟨_, pk_nil, fun {G m ρ μ σ H Q K} o _ t k => k [] H G m [] μ (Le.refl G m) o .nil t⟩
theorem dk_cons (ha : DE X b e te) (hr : DK X b kws tr) : DK X b (⟨nm, e, kpos⟩ :: kws) (dCons te tr) := by
  obtain ⟨ta', pa, qa⟩ := ha.ex
  obtain ⟨tr', pr, qr⟩ := hr.ex
  refine ⟨_, pk_cons pa pr, fun {G m ρ μ σ H Q K} o r t k => ?_⟩
  refine qa o r t fun v H1 G1 m1 w μ1 l1 o1 r1 t1 => ?_
  refine qr o1 (r.mono l1) t1 fun vs H2 G2 m2 ws μ2 l2 o2 r2 t2 => ?_
  exact k _ H2 G2 m2 _ μ2 (l1.trans l2) o2 (.cons (r1.mono l2) r2) t2
/-- a def whose keyword-only parameters take their defaults -/
structure CalB (P : Program) (w : World) (K : PySem.W.Frag) (mg : Str → Option Value) (base : Heap) (cA : Nat → Addr) (x : Str) (k : Nat) (S : FS) (dv : List D) : Prop where
  ex : ∃ (f : Addr) (fd : FuncData) (ps : List Str), FnOk P w K mg base (L2.CX P w) k f fd ps (spD cA S) ∧ mg x = some (.ref f) ∧ PySem.W.keepIn K (.ref f) = true ∧ ∃ (vs : List V) (ds : List Value), Vals vs ds ∧ Binds K fd ps ds ∧ ∀ G, Reps cA G vs dv
/-- a def called with n values and keywords, in the parameters' order -/
structure CalN (P : Program) (w : World) (K : PySem.W.Frag) (mg : Str → Option Value) (base : Heap) (cA : Nat → Addr) (x : Str) (k : Nat) (S : FS) (n : Nat) (ks : List Str) : Prop where
  ex : ∃ (f : Addr) (fd : FuncData) (ps : List Str) (g : List Value → List Value → List Value), FnOk P w K mg base (L2.CX P w) k f fd ps (spD cA S) ∧ mg x = some (.ref f) ∧ PySem.W.keepIn K (.ref f) = true ∧ KBn K fd ps n ks g (fun vs zs => vs ++ zs)
@[simp] def dAppB (c : CF1) (dv : List D) (xc : Exc → M → Prop) (ta : DTA) (ρ : R) (μ : M) (Q : W → M → Prop) : Prop := ta ρ μ fun ws μ1 => c (ws ++ dv.map W.d) μ1 Q xc
@[simp] def dAppN (c : CF1) (n m : Nat) (xc : Exc → M → Prop) (ta tk : DTA) (ρ : R) (μ : M) (Q : W → M → Prop) : Prop := ta ρ μ fun ws μ1 => tk ρ μ1 fun zs μ2 => (ws.length = n ∧ zs.length = m) ∧ c (ws ++ zs) μ2 Q xc
variable {x : Str} {S : FS} {j k n : Nat} {f : CF1} {dv : List D} {ks : List Str}
theorem WRels.appW {cA : Nat → Addr} {G : Hp} {m : Wd} {xs : List V} {ds : List D} {vs : List V} {ws : List W} (h : WRels cA G m vs ws) (r : Reps cA G xs ds) : WRels cA G m (vs ++ xs) (ws ++ ds.map W.d) := WRels.app h r.wrels
theorem de_calB (hle : ∀ {ws : List W} {μ : M} {Q : W → M → Prop} {xc : Exc → M → Prop}, f ws μ Q xc → callS S ws μ Q xc) (h : CalB X.prog X.w X.K X.mg X.base b.cA x k S dv) (hr : Room j X.A) (hj : k ≤ j) (hx : XOk X b) (ha : DA X b (e :: es) ta) (hg : Gl X x)
    (hdb : (x == ("__debug__" : Str)) = false := by decide) (he : starEach (e :: es) X.env = (false, eval e X.env) :: starEach es X.env := by rfl) (hpl : (backTo pos (starEach es X.env)).any (·.1) = false := by rfl) :
    DE X b (.Call (.Name x p) (e :: es) [] pos) (dAppB f dv b.xc ta) := by
  obtain ⟨fa, fd, ps, F, hm, hk, dvs, ds, hv, hb, hrep⟩ := h.ex
  obtain ⟨t', pa, qa⟩ := ha.ex
  refine ⟨_, pe_call F (hr.mono hj) hg hm hk hb hv hx pa hdb he hpl, fun {G m ρ μ σ H Q K} o r t kk => ?_⟩
  refine qa o r t fun vs H1 G1 m1 ws μ1 l1 o1 r1 t1 => ?_
  exact call_core o1 (r1.appW (hrep G1)) (hle t1) fun v H' G' m' w μ' l o' q t' => kk v H' G' m' w μ' (l1.trans l) o' q t'
theorem de_calN {tk : DTA} (hle : ∀ {ws : List W} {μ : M} {Q : W → M → Prop} {xc : Exc → M → Prop}, f ws μ Q xc → callS S ws μ Q xc) (h : CalN X.prog X.w X.K X.mg X.base b.cA x k S n ks) (hr : Room j X.A) (hj : k ≤ j) (hx : XOk X b) (ha : DA X b (e :: es) ta) (hw : DK X b kws tk) (hg : Gl X x)
    (hall : (backToKw pos (keywordEach kws X.env)).all (·.1.isSome) = true := by rfl) (hks : (backToKw pos (keywordEach kws X.env)).filterMap (·.1) = ks := by rfl)
    (hdb : (x == ("__debug__" : Str)) = false := by decide) (he : starEach (e :: es) X.env = (false, eval e X.env) :: starEach es X.env := by rfl)
    (hpl : ((backTo pos (starEach (e :: es) X.env)).any (·.1) || (backToKw pos (keywordEach kws X.env)).any (·.1.isNone)) = false := by rfl) :
    DE X b (.Call (.Name x p) (e :: es) kws pos) (dAppN f n ks.length b.xc ta tk) := by
  obtain ⟨fa, fd, ps, g, F, hm, hk, hb⟩ := h.ex
  obtain ⟨t', pa, qa⟩ := ha.ex
  obtain ⟨t2, pk, qk⟩ := hw.ex
  refine ⟨_, pe_callN F (hr.mono hj) hg hm hk hb hx pa pk hall hks hdb he hpl, fun {G m ρ μ σ H Q K} o r t kk => ?_⟩
  refine qa o r t fun vs H1 G1 m1 ws μ1 l1 o1 r1 t1 => ?_
  refine qk o1 (r.mono l1) t1 fun zs H2 G2 m2 ws2 μ2 l2 o2 r2 t2 => ?_
  refine ⟨by rw [r1.len]; exact t2.1.1, by rw [r2.len]; exact t2.1.2, ?_⟩
  exact call_core o2 ((r1.mono l2).app r2) (hle t2.2) fun v H' G' m' w μ' l o' q t' => kk v H' G' m' w μ' ((l1.trans l2).trans l) o' q t'
end
/-! ### max of a list -/
def maxL : List Int → Int
  | [] => 0
  | [a] => a
  | a :: b :: l => if maxL (b :: l) ≤ a then a else maxL (b :: l)
theorem maxL_mem : ∀ {l : List Int}, l ≠ [] → maxL l ∈ l
  | [a], _ => by simp [maxL]
  | a :: b :: l, _ => by
    have ih := maxL_mem (l := b :: l) (by simp)
    unfold maxL
    split
    · exact List.mem_cons_self ..
    · exact List.mem_cons_of_mem _ ih
theorem maxL_ge : ∀ {l : List Int} {x : Int}, x ∈ l → x ≤ maxL l
  | [a], x, h => by simp at h; subst h; simp [maxL]
  | a :: b :: l, x, h => by
    have ih := fun y (hy : y ∈ b :: l) => maxL_ge (l := b :: l) hy
    unfold maxL
    rcases List.mem_cons.mp h with rfl | h
    · split <;> omega
    · have := ih x h
      split <;> omega
theorem maxL_uniq {l : List Int} {m : Int} (h : m ∈ l) (k : ∀ y ∈ l, y ≤ m) : m = maxL l := by
  have h1 := maxL_ge h
  have h2 := k _ (maxL_mem (l := l) (fun e => by subst e; cases h))
  omega
def fMaxL (ds : List D) (q : D → Prop) : Prop := ∃ ns : List Int, ds = [lints ns] ∧ ns ≠ [] ∧ q (.int (maxL ns))
section
variable {X : Cx} {b : Bs} {pos p : Pos} {e : Expr} {ta : DTA}
theorem on_maxL {K : PySem.W.Frag} : OpN b (rMax K) fMaxL := by
  intro G m μ H vs ds q Kq w n f k
  obtain ⟨ns, rfl, hne, f⟩ := f
  obtain ⟨v, rfl, a, us, rfl, h, r⟩ := nows1 (d := .lst (ns.map D.int)) n
  rw [reps_ints_v r] at h
  refine ⟨a, ns, rfl, SqL.of h, List.length_pos_iff.mpr hne, fun m h1 h2 => ?_⟩
  rw [maxL_uniq h1 h2]
  exact give_old w (.int _) f k
theorem de_maxL (hc : X.calm = true) (hm : X.mg "max" = none) (ha : DA X b [e] ta) (hg : Gl X "max") (he : starEach [e] X.env = [(false, eval e X.env)] := by rfl) (hpl : (backTo pos (starEach [] X.env)).any (·.1) = false := by rfl) : DE X b (.Call (.Name "max" p) [e] [] pos) (dFn fMaxL ta) :=
  de_fn (on_maxL (K := X.K)) ha fun pa => pe_callB (cr_max hc) hg hm (by decide +kernel) pa (he := he) (hpl := hpl)
end
end DD
namespace DD
open PySem L2
/-! ### numbers and lists of them as data -/
abbrev nat (i : Nat) : D := .int (i : Int)
def nats (l : List Nat) : List D := l.map nat
theorem nat_inj {i j : Nat} : (nat i = nat j) ↔ i = j := by simp only [nat, D.int.injEq]; omega
@[simp] theorem int_nat_inj {i j : Nat} : ((i : Int) = (j : Int)) ↔ i = j := by omega
@[simp] theorem nats_inj : ∀ {a b : List Nat}, (nats a = nats b) ↔ a = b
  | [], [] => by simp
  | [], _ :: _ => by simp [nats]
  | _ :: _, [] => by simp [nats]
  | x :: a, y :: b => by
    have ih := nats_inj (a := a) (b := b)
    simp only [nats, List.map_cons, List.cons.injEq, nat_inj] at ih ⊢
    rw [ih]
@[simp] theorem nats_len (l : List Nat) : (nats l).length = l.length := by simp [nats]
@[simp] theorem nats_nil : nats [] = [] := rfl
theorem nats_cons (i : Nat) (l : List Nat) : nats (i :: l) = nat i :: nats l := rfl
@[simp] theorem nats_app (a b : List Nat) : nats a ++ nats b = nats (a ++ b) := by simp [nats]
@[simp] theorem nats_app1 (a : List Nat) (i : Nat) : nats a ++ [D.int (i : Int)] = nats (a ++ [i]) := by simp [nats]
@[simp] theorem nats_set (l : List Nat) (i v : Nat) : (nats l).set i (D.int (v : Int)) = nats (l.set i v) := by simp [nats, List.map_set]
theorem nats_get (l : List Nat) (i : Nat) : (nats l)[i]? = (l[i]?).map nat := by simp [nats]
theorem rngD_nats (n : Nat) : rngD 0 n = nats (List.range n) := by simp [rngD, nats, nat]
theorem atI_nats {l : List Nat} {i : Nat} (h : i < l.length) : atI (nats l) (i : Int) = some (D.int (l[i] : Int)) := by
  unfold atI ixN
  rw [if_pos (by omega), if_pos (by simpa using h)]
  simp [nats_get, h]
/-! ### forms of contracts that serve many defs -/
abbrev PF := List D → (D → Prop) → (Exc → Prop) → Prop
abbrev PG := List D → (D → Prop) → Prop
/-- data in, data out -/
def SPu (n : Nat) (F : PF) : FS := fun ws μ P => ∃ ds, ws = ds.map W.d ∧ ds.length = n ∧ μ = [] ∧ F ds (fun d => P (.ret (.d d)) []) (fun e => P (.exc e) [])
@[simp] def cfPu (n : Nat) (F : PF) (ws : List W) (μ : M) (Q : W → M → Prop) (xc : Exc → M → Prop) : Prop := match unD ws with
  | some ds => ds.length = n ∧ F ds (fun d => Q (.d d) μ) (fun e => xc e μ)
  | none => False
/-- the source stands at cell n -/
@[simp] def srcAt (μ : M) (n : Nat) : Bool := match μ[n]? with
  | some (.lst [.int _, .int _, .int _]) => true
  | _ => false
/-- the source and data in, data out -/
def SSr (n : Nat) (F : PG) : FS := fun ws μ P => ∃ (a b c : Int) (ds : List D), ws = .r 0 :: ds.map W.d ∧ ds.length = n ∧ μ = [.lst (src a b c)] ∧ F ds (fun d => ∀ a' b' c' : Int, P (.ret (.d d)) [.lst (src a' b' c')])
@[simp] def cfSr (n : Nat) (F : PG) (ws : List W) (μ : M) (Q : W → M → Prop) (_xc : Exc → M → Prop) : Prop := match ws with
  | .r k :: ws' => srcAt μ k = true ∧ match unD ws' with
    | some ds => ds.length = n ∧ F ds (fun d => ∀ a b c : Int, Q (.d d) (μ.set k (.lst (src a b c))))
    | none => False
  | _ => False
/-- an object is made of data -/
def SMk (c : Nat) (fs : List Str) (n : Nat) (F : List D → (List D → Prop) → Prop) : FS := fun ws μ P => ∃ ds, ws = .r 0 :: ds.map W.d ∧ ds.length = n ∧ μ = [.ins c [] []] ∧ F ds (fun vs => P (.ret (.d .non)) [.ins c fs (vs.map W.d)])
@[simp] def cfMk (c : Nat) (fs : List Str) (n : Nat) (F : List D → (List D → Prop) → Prop) (ws : List W) (μ : M) (Q : W → M → Prop) (_xc : Exc → M → Prop) : Prop := match unD ws with
  | some ds => ds.length = n ∧ F ds (fun vs => closedB μ.length μ = true ∧ Q (.d (.obj c fs vs)) μ)
  | none => False
section
variable {n : Nat} {F : PF} {FG : PG} {S : FS} {ws : List W} {μ : M} {Q : W → M → Prop} {xc : Exc → M → Prop} {P : Res → M → Prop}
theorem le_pu (h : cfPu n F ws μ Q xc) : callS (SPu n F) ws μ Q xc := by
  unfold cfPu at h
  split at h
  · rename_i ds e
    have := unD_map e
    subst this
    exact call0 (refs_map ds) ⟨ds, rfl, h.1, rfl, by simpa [th] using h.2⟩
  · exact h.elim
theorem len_pu (h : SPu n F ws μ P) : ws.length = n := by
  obtain ⟨ds, rfl, h, _⟩ := h
  simpa using h
theorem srcAt_ok {k : Nat} (h : srcAt μ k = true) : ∃ a b c, μ[k]? = some (.lst (src a b c)) := by
  unfold srcAt at h
  split at h
  · exact ⟨_, _, _, by assumption⟩
  · cases h
theorem le_sr (h : cfSr n FG ws μ Q xc) : callS (SSr n FG) ws μ Q xc := by
  unfold cfSr at h
  split at h
  · rename_i k ws'
    obtain ⟨hs, h⟩ := h
    split at h
    · rename_i ds e
      have := unD_map e
      subst this
      obtain ⟨a, b, c, hn⟩ := srcAt_ok hs
      refine call1 hn rfl (by simp [refsW, refs_map]) (by simp [refsW]) ⟨a, b, c, ds, by simp [ren], h.1, rfl, ?_⟩
      have e3 : (fun d => ∀ a' b' c' : Int, 1 ≤ ([.lst (src a' b' c')] : M).length ∧ Q (th [k] μ.length (.d d)) (merge μ [k] [.lst (src a' b' c')])) = fun d => ∀ a b c : Int, Q (.d d) (μ.set k (.lst (src a b c))) := by
        funext d
        simp [merge1l, th]
      exact e3 ▸ h.2
    · exact h.elim
  · exact h.elim
theorem len_sr (h : SSr n FG ws μ P) : ws.length = n + 1 := by
  obtain ⟨_, _, _, ds, rfl, h, _⟩ := h
  simpa using h
theorem le_Mk {c : Nat} {fs : List Str} {F : List D → (List D → Prop) → Prop} (h : cfMk c fs n F ws μ Q xc) : fMk (SMk c fs n F) c finD ws μ Q xc := by
  unfold cfMk at h
  split at h
  · rename_i ds e
    have := unD_map e
    subst this
    refine call1 (n := μ.length) (c := .ins c [] []) (by simp) rfl (by simp [refsW, refs_map]) (by simp [refsW]) ⟨ds, ?_, h.1, rfl, ?_⟩
    · rw [List.map_cons, ren_map]
      simp [ren]
    · have e3 : (fun vs : List D => 1 ≤ ([.ins c fs (vs.map W.d)] : M).length ∧ (fun (w : W) (μ2 : M) => w = .d .non ∧ finD μ.length μ2 Q) (th [μ.length] (μ ++ [Cell.ins c [] []]).length (.d .non)) (merge (μ ++ [Cell.ins c [] []]) [μ.length] [.ins c fs (vs.map W.d)])) = fun vs => closedB μ.length μ = true ∧ Q (.d (.obj c fs vs)) μ := by
        funext vs
        rw [merge1]
        have e2 : (μ ++ [Cell.ins c [] []]).set μ.length (renC (th [μ.length] (μ ++ [Cell.ins c [] []]).length) (.ins c fs (vs.map W.d))) = μ ++ [.ins c fs (vs.map W.d)] := by
          simp only [renC, th_map]
          simp
        rw [e2]
        have e4 : esc (μ ++ [.ins c fs (vs.map W.d)]) (.r μ.length) = some (.obj c fs vs, μ ++ [.frz (.obj c fs vs)]) := by
          simp [esc, esc0, unD_ofmap]
        apply propext
        show 1 ≤ 1 ∧ (W.d .non) = .d .non ∧ finD μ.length (μ ++ [.ins c fs (vs.map W.d)]) Q ↔ _
        unfold finD
        rw [e4]
        simp
      exact e3 ▸ h.2
  · exact h.elim
theorem len_Mk {c : Nat} {fs : List Str} {F : List D → (List D → Prop) → Prop} (h : SMk c fs n F ws μ P) : ws.length = n + 1 := by
  obtain ⟨ds, rfl, h, _⟩ := h
  simpa using h
/-! the callee gets the first k cells -/
theorem ren_range {k : Nat} {w : W} (h : ∀ j ∈ refsW w, j < k) : ren (List.range k) w = w := by
  cases w with
  | d d => rfl
  | r j =>
    have hj : j < k := h j (by simp [refsW])
    have e : (List.range k).idxOf j = j := by
      have h1 : (List.range k)[j]? = some j := by rw [List.getElem?_range hj]
      have := idx_at (List.nodup_range) h1
      exact this
    simp [ren, e]
theorem renC_range {k : Nat} {c : Cell} (h : ∀ j ∈ refsC c, j < k) : renC (ren (List.range k)) c = c := by
  have key : ∀ ws : List W, (∀ j ∈ ws.flatMap refsW, j < k) → ws.map (ren (List.range k)) = ws := fun ws h => by
    induction ws with
    | nil => rfl
    | cons w ws ih =>
      rw [List.map_cons, ren_range fun j hj => h j (by simp [hj]), ih fun j hj => h j (by simp at hj ⊢; exact .inr hj)]
  cases c with
  | ins c fs ws => simp only [renC]; rw [key ws h]
  | lstW ws => simp only [renC]; rw [key ws h]
  | _ => rfl
theorem callPre (k : Nat) (hk : k ≤ μ.length) (hr : reach μ 60 (ws.flatMap refsW) [] = List.range k) (hc : ∀ c ∈ μ.take k, ∀ j ∈ refsC c, j < k) (hw : ∀ j ∈ ws.flatMap refsW, j < k)
    (h : S ws (μ.take k) fun r μ2 => k ≤ μ2.length ∧ match r with
      | .ret w => Q (th (List.range k) μ.length w) (merge μ (List.range k) μ2)
      | .exc e => xc e (merge μ (List.range k) μ2)) : callS S ws μ Q xc := by
  unfold callS
  rw [hr]
  have key : ∀ ws : List W, (∀ j ∈ ws.flatMap refsW, j < k) → ws.map (ren (List.range k)) = ws := fun ws h => by
    induction ws with
    | nil => rfl
    | cons w ws ih =>
      rw [List.map_cons, ren_range fun j hj => h j (by simp [hj]), ih fun j hj => h j (by simp at hj ⊢; exact .inr hj)]
  have at_ : ∀ j, j < k → ∃ c, μ[j]? = some c ∧ c ∈ μ.take k := fun j hj => ⟨μ[j]'(by omega), List.getElem?_eq_getElem _, by
    refine List.mem_of_getElem? (i := j) ?_
    rw [List.getElem?_take_of_lt hj, List.getElem?_eq_getElem]⟩
  refine ⟨?_, ?_⟩
  · unfold okJs
    simp only [Bool.and_eq_true, List.all_eq_true, decide_eq_true_eq, List.contains_iff_mem, List.mem_range]
    refine ⟨⟨⟨List.nodup_range, fun j hj => by omega⟩, hw⟩, fun j hj => ?_⟩
    obtain ⟨c, e, hm⟩ := at_ j hj
    rw [e]
    simp only [List.all_eq_true, List.contains_iff_mem, List.mem_range]
    exact hc c hm
  · rw [key ws hw]
    have e2 : cellsOf μ (List.range k) = μ.take k := by
      apply List.ext_getElem?
      intro i
      unfold cellsOf
      by_cases hi : i < k
      · obtain ⟨c, e, hm⟩ := at_ i hi
        rw [List.getElem?_map, List.getElem?_range hi, List.getElem?_take_of_lt hi, e]
        simp [e, renC_range (hc c hm)]
      · rw [List.getElem?_eq_none (by simp; omega), List.getElem?_eq_none (by simp; omega)]
    rw [e2]
    have e4 : (fun (r : Res) (μ2 : M) => (List.range k).length ≤ μ2.length ∧ match r with
      | .ret w => Q (th (List.range k) μ.length w) (merge μ (List.range k) μ2)
      | .exc e => xc e (merge μ (List.range k) μ2)) = fun r μ2 => k ≤ μ2.length ∧ match r with
      | .ret w => Q (th (List.range k) μ.length w) (merge μ (List.range k) μ2)
      | .exc e => xc e (merge μ (List.range k) μ2) := by
      funext r μ2
      cases r <;> simp
    exact e4 ▸ h
theorem mergePre {k : Nat} {μ2 : M} (hk : k ≤ μ.length) (hl : μ2.length = k) (hc2 : ∀ c ∈ μ2, ∀ j ∈ refsC c, j < k) : merge μ (List.range k) μ2 = μ2 ++ μ.drop k := by
  have thn : ∀ {w : W}, (∀ j ∈ refsW w, j < k) → th (List.range k) μ.length w = w := fun {w} hw => by
    cases w with
    | d d => rfl
    | r j => have hj := hw j (by simp [refsW]); simp [th, thI, List.getElem?_range hj]
  have thw : ∀ ws : List W, (∀ j ∈ ws.flatMap refsW, j < k) → ws.map (th (List.range k) μ.length) = ws := fun ws h => by
    induction ws with
    | nil => rfl
    | cons w ws ih =>
      rw [List.map_cons, thn fun j hj => h j (by simp [hj]), ih fun j hj => h j (by simp at hj ⊢; exact .inr hj)]
  have thc : ∀ c ∈ μ2, renC (th (List.range k) μ.length) c = c := fun c hcm => by
    have := hc2 c hcm
    cases c with
    | ins c fs ws => simp only [renC]; rw [thw ws this]
    | lstW ws => simp only [renC]; rw [thw ws this]
    | _ => rfl
  have all : ∀ l : M, (∀ c ∈ l, c ∈ μ2) → l.map (renC (th (List.range k) μ.length)) = l := fun l hl => by
    induction l with
    | nil => rfl
    | cons c l ih => rw [List.map_cons, thc c (hl c (List.mem_cons_self ..)), ih fun d hd => hl d (List.mem_cons_of_mem _ hd)]
  unfold merge
  rw [all _ fun c hc => List.mem_of_mem_take hc, all _ fun c hc => List.mem_of_mem_drop hc]
  simp only [List.length_range]
  rw [List.drop_eq_nil_of_le (by omega), List.append_nil, List.take_of_length_le (by omega)]
  apply List.ext_getElem?
  intro i
  by_cases hi : i < k
  · rw [setAll_in (List.range k) μ μ2 i (μ2[i]'(by omega)) List.nodup_range (fun j hj => by simp at hj; omega) (by simpa using hi) (List.getElem?_eq_getElem _) i (by rw [List.getElem?_range hi]), List.getElem?_append_left (by omega), List.getElem?_eq_getElem]
  · rw [setAll_out _ _ _ _ (by simpa using hi), List.getElem?_append_right (by omega), List.getElem?_drop]
    congr 1
    omega
end
@[simp] theorem okD_int {n : Nat} {i : Int} : okD n (.int i) = true := by cases n <;> rfl
@[simp] theorem okD_bl {n : Nat} {b : Bool} : okD n (.bl b) = true := by cases n <;> rfl
@[simp] theorem okD_non {n : Nat} : okD n .non = true := by cases n <;> rfl
/-! what the simplifier may open -/
section
variable {k i : Nat} {μ : M} {ws : List W} {ds : List D} {c : Nat} {fs : List Str} {ρ : R} {te : DTE} {K : D → M → Prop} {N : M → Prop} {b : Bool}
@[simp] theorem closedB_s : closedB k μ = μ.all (closedC k) := rfl
@[simp] theorem closedC_lst : closedC k (.lst ds) = true := rfl
@[simp] theorem closedC_ins : closedC k (.ins c fs ws) = ws.all fun w => match w with
    | .r n => decide (n < k)
    | _ => true := rfl
@[simp] theorem closedC_lstW : closedC k (.lstW ws) = ws.all fun w => match w with
    | .r n => decide (n < k)
    | _ => true := rfl
@[simp] theorem closedC_frz {d : D} : closedC k (.frz d) = true := rfl
@[simp] theorem closedC_scr {ns : List Int} {S : Addr → Prop} : closedC k (.scr ns S) = true := rfl
@[simp] theorem closedC_dic {ks : List Key} : closedC k (.dic ks ds) = true := rfl
@[simp] theorem wipeR_nil : wipeR ρ [] = ρ := rfl
@[simp] theorem wipeR_cons {vs : List Nat} : wipeR ρ (i :: vs) = (wipeR ρ vs).set i none := rfl
@[simp] theorem lcE_s {ρ2 : R} {μ3 : M} : lcE te K N ρ2 b μ3 = if b = true then te ρ2 μ3 fun w μ4 => match esc μ4 w with
    | some (d', μ5) => K d' μ5
    | none => False
  else N μ3 := rfl
@[simp] theorem sizeLine_s : sizeLine = 16777216 := PySem.sizeLine_eq
end
theorem hu65 {k : Nat} {A : Around} (hr : Room k A) : A.units + 65 < cLine := by have := hr.un; omega
theorem hu1 {k : Nat} {A : Around} (hr : Room k A) : A.units + 1 < cLine := by have := hr.un; omega
/-! ### methods of one class with arguments -/
section
variable {X : Cx} {b : Bs} {pos p apos : Pos} {o e : Expr} {es : List Expr} {to : DTE} {ta : DTA} {x m : Str} {S : FS} {j k c : Nat} {f : CF1}
@[simp] def dMeL (c : Nat) (m : Str) (cf : CF1) (xc : Exc → M → Prop) (to : DTE) (ta : DTA) (ρ : R) (μ : M) (Q : W → M → Prop) : Prop := to ρ μ fun w μ1 => match insOf μ1 w with
  | some (c', fs, _) => c' = c ∧ m ∉ fs ∧ ta ρ μ1 fun ws μ2 => cf (w :: ws) μ2 Q xc
  | none => False
theorem de_meL {pl : Sem Bool} (hle : ∀ {ws : List W} {μ : M} {Q : W → M → Prop} {xc : Exc → M → Prop}, f ws μ Q xc → callS S ws μ Q xc) (hx : XOk X b) (h : Mec X.prog X.w X.K X.mg X.base b.cA m c k S) (hr : Room j X.A) (hj : k ≤ j) (ho : DE X b o to) (ha : DA X b (e :: es) ta)
    (hst : starEach (e :: es) X.env = (false, eval e X.env) :: starEach es X.env := by rfl) (hpl : (backTo pos (starEach es X.env)).any (·.1) = false := by rfl)
    (ht : eval (.Call (.Attribute o m apos) (e :: es) [] pos) X.env = (do
      let ov ← eval o X.env
      standAt apos.atName
      let (f, first) ← holding [ov] (getMethod ov m pl)
      callWith pos f first (backTo pos (starEach (e :: es) X.env)) (backToKw pos (keywordEach [] X.env))) := by rfl) : DE X b (.Call (.Attribute o m apos) (e :: es) [] pos) (dMeL c m f b.xc to ta) := by
  refine (de_meth (pl := pl) (tab := [(c, S)]) hx ((mect_cons h hj mect_nil).ok hr) ho.up ha.up hst hpl ht).weak fun ρ μ Q t => ⟨_, fun w μ1 z => ?_, t⟩
  cases e : insOf μ1 w with
  | none => simp only [e] at z
  | some y =>
    obtain ⟨c', fs, us⟩ := y
    simp only [e] at z ⊢
    obtain ⟨rfl, h1, h2⟩ := z
    exact ⟨h1, S, by simp [List.lookup], _, fun ws μ2 z => hle z, h2⟩
theorem de_meL0 {pl : Sem Bool} (hle : ∀ {ws : List W} {μ : M} {Q : W → M → Prop} {xc : Exc → M → Prop}, f ws μ Q xc → callS S ws μ Q xc) (hx : XOk X b) (h : Mec X.prog X.w X.K X.mg X.base b.cA m c k S) (hr : Room j X.A) (hj : k ≤ j) (ho : DE X b o to)
    (ht : eval (.Call (.Attribute o m apos) [] [] pos) X.env = (do
      let ov ← eval o X.env
      standAt apos.atName
      let (f, first) ← holding [ov] (getMethod ov m pl)
      callWith pos f first (backTo pos (starEach [] X.env)) (backToKw pos (keywordEach [] X.env))) := by rfl) : DE X b (.Call (.Attribute o m apos) [] [] pos) (dMeL c m f b.xc to dNil) := by
  refine (de_meth0 (pl := pl) (tab := [(c, S)]) hx ((mect_cons h hj mect_nil).ok hr) ho.up ht).weak fun ρ μ Q t => ⟨_, fun w μ1 z => ?_, t⟩
  cases e : insOf μ1 w with
  | none => simp only [e] at z
  | some y =>
    obtain ⟨c', fs, us⟩ := y
    simp only [e] at z ⊢
    obtain ⟨rfl, h1, h2⟩ := z
    exact ⟨h1, S, by simp [List.lookup], hle h2⟩
end
end DD
namespace DD
open PySem L2
/-! ### a list against [] -/
def rNil (neg : Bool) : R2 := fun x y H Q => ∃ (a b : Addr) (xs : List V), x = .ref a ∧ y = .ref b ∧ H a = some (.lst xs) ∧ H b = some (.lst []) ∧ Q (.bl (xs.isEmpty != neg)) H
section
variable {X : Cx}
theorem dp_nil {K : PySem.W.Frag} {H : Hp} {a : Addr} (h : H a = some (.lst [])) : ∃ p, toP (.lst []) = some p ∧ Dp K H (.ref a) p ∧ SeqAt.shaped p = true ∧ PyData.eqv p p = true := by
  obtain ⟨p, e1, c1, l1⟩ := okD_toP 60 (.lst []) rfl
  have n : Now (fun _ => 0) (fun _ => none) H (.ref a) (.lst []) := ⟨a, [], rfl, h, .nil⟩
  exact ⟨p, e1, Now.dp (fun _ _ z => by cases z) n e1, shaped_ok c1 l1, by rw [eqv_deq _ _ p p e1 e1]; rfl⟩
open PySem.SeqAt in
theorem op_nil (neg : Bool) (hu : X.A.units + 64 < cLine) : OpR X (compareOp (cop neg)) (rNil neg) := by
  intro pins s σ H x y v u Q I rx ry h
  obtain ⟨a, b, xs, rfl, rfl, ha, hb, q⟩ := h
  cases xs with
  | nil =>
    obtain ⟨p, e1, d1, s1, q1⟩ := dp_nil (K := X.K) ha
    obtain ⟨p', e2, d2, s2, q2⟩ := dp_nil (K := X.K) hb
    rw [e1] at e2
    cases e2
    cases neg with
    | false => exact op_eqD hu pins s σ H _ _ v u Q I rx ry ⟨p, p, d1, d2, s1, s2, by rw [q1]; exact q⟩
    | true => exact op_neD hu pins s σ H _ _ v u Q I rx ry ⟨p, p, d1, d2, s1, s2, by rw [q1]; exact q⟩
  | cons z xs =>
    cases rx
    cases ry
    obtain ⟨its, r, e, _⟩ := I.list (SqL.of ha)
    obtain ⟨its2, r2, e2, _⟩ := I.list (SqL.of hb)
    have hne : (its.toArray.size != its2.toArray.size) = true := by
      rw [List.size_toArray, List.size_toArray, ← r.length, ← r2.length]
      simp
    cases neg with
    | false => exact RcAt.lists_lengths e.isList e2.isList hne (by omega) X.prog X.w X.xe _ ⟨.bl _, H, I, rfl, q⟩
    | true => exact RcNeAt.lists_lengths e.isList e2.isList hne (by omega) X.prog X.w X.xe _ ⟨.bl _, H, I, rfl, q⟩
variable {b : Bs} {pos p2 : Pos} {e : Expr} {te : DTE}
/-- what the list holds, whatever it is -/
@[simp] def emptyW (μ : M) : W → Option Bool
  | .d (.lst ds) => some ds.isEmpty
  | .r n => match μ[n]? with
    | some (.lst ds) => some ds.isEmpty
    | some (.lstW ws) => some ws.isEmpty
    | some (.frz (.lst ds)) => some ds.isEmpty
    | _ => none
  | _ => none
@[simp] def dNil' (neg : Bool) (te : DTE) (ρ : R) (μ : M) (Q : Bool → M → Prop) : Prop := te ρ μ fun w μ1 => match emptyW μ1 w with
  | some c => Q (c != neg) μ1
  | none => False
theorem emptyW_ok {cA : Nat → Addr} {U G H : Hp} {m : Wd} {μ : M} {v : V} {w : W} {c : Bool} (r : RelM cA U G m μ H) (q : WRel cA G m v w) (h : emptyW μ w = some c) : ∃ a xs, v = .ref a ∧ H a = some (.lst xs) ∧ xs.isEmpty = c := by
  have key : ∀ {xs : List V} {n : Nat}, xs.length = n → xs.isEmpty = decide (n = 0) := fun {xs n} h => by cases xs <;> simp at h <;> subst h <;> rfl
  have key2 : ∀ {α : Type} (l : List α), l.isEmpty = decide (l.length = 0) := fun l => by cases l <;> rfl
  cases q with
  | d q =>
    cases q with
    | lst h1 r1 =>
      simp at h
      subst h
      exact ⟨_, _, rfl, r.gh _ _ h1, by rw [key r1.len, key2]⟩
    | _ => simp at h
  | @r n p as em =>
    simp only [emptyW] at h
    split at h
    · rename_i ds e
      cases h
      obtain ⟨p', xs, e1, e2, e3⟩ := r.cell n _ _ e em
      cases e1
      exact ⟨_, xs, rfl, e2, by rw [key e3.len, key2]⟩
    · rename_i ws e
      cases h
      obtain ⟨p', xs, e1, e2, e3⟩ := r.cell n _ _ e em
      cases e1
      exact ⟨_, xs, rfl, e2, by rw [key e3.len, key2]⟩
    · rename_i ds e
      cases h
      obtain ⟨p', e1, e2⟩ := r.cell n _ _ e em
      cases e1
      obtain ⟨a, xs, e3, e4, e5⟩ := e2.now r.gh
      cases e3
      exact ⟨_, xs, rfl, e4, by rw [key e5.len, key2]⟩
    · cases h
theorem dt_nil (neg : Bool) (hu : X.A.units + 64 < cLine) (ha : DE X b e te) (hm : behindInMarks (cop neg) (.List [] p2) = false := by rfl) : DT X b (.Compare e [cop neg] [.List [] p2] pos) (dNil' neg te) := by
  obtain ⟨t1, p1, q1⟩ := ha.ex
  refine ⟨_, pt_cmpR (op_nil neg hu) p1 (pe_lst pa_nil) hm, fun {G m ρ μ σ H Q K} o r t k => ?_⟩
  refine q1 o r t fun v H1 G1 m1 w μ1 l1 o1 r1 t1 => ?_
  split at t1
  · rename_i c e
    obtain ⟨a, xs, rfl, h1, h2⟩ := emptyW_ok o1.rel r1 e
    refine ⟨by simp, fun q hq => ?_⟩
    have ne : a ≠ q := ne_of_none h1 hq
    refine ⟨a, q, xs, rfl, rfl, by rw [upd_ne ne]; exact h1, upd_same, ?_⟩
    have hg := (o1.rel.new hq).1
    have l2 : Le G1 m1 (upd G1 q (.lst [])) m1 := Le.know hg
    subst h2
    exact ⟨_, rfl, k _ _ _ m1 μ1 (l1.trans l2) (o1.mono l2 (o1.rel.know hq)) t1⟩
  · exact t1.elim
end
end DD
namespace DD
open PySem L2
/-! ### l.extend(m) -/
def OpMs (b : Bs) (r : V → List V → Hp → VK → Prop) (f : List D → List D → (List D → D → Prop) → Prop) : Prop :=
  ∀ {G H : Hp} {p : Addr} {us vs : List V} {ds es : List D} {q : List D → D → Prop} {K : VK}, Sub G H → H p = some (.lst us) → Reps b.cA G us ds → Reps b.cA G vs es → f ds es q →
    (∀ us' v' ds' z, Reps b.cA G us' ds' → Rep b.cA G v' z → q ds' z → K v' (upd H p (.lst us'))) → r (.ref p) vs H K
theorem mut_coreS {b : Bs} {r : V → List V → Hp → VK → Prop} {f : List D → List D → (List D → D → Prop) → Prop} (hf : OpMs b r f) {G H : Hp} {m : Wd} {μ2 : M} {n : Nat} {p : Addr} {vs : List V} {ws : List W} {Q : W → M → Prop} {K : VK} (o2 : WOk b G m μ2 H) (hp : m[n]? = some [p]) (r2 : WRels b.cA G m vs ws)
    (t : match escs μ2 ws with
      | some (es, μ3) => match μ3[n]? with
        | some (.lst ds) => f ds es fun ds' z => Q (.d z) (μ3.set n (.lst ds'))
        | _ => False
      | none => False)
    (k : ∀ v H' G' m' w μ', Le G m G' m' → WOk b G' m' μ' H' → WRel b.cA G' m' v w → Q w μ' → K v H') : r (.ref p) vs H K := by
  split at t
  · rename_i es μ3 e1
    obtain ⟨G3, l3, r3, rp⟩ := escs_ok o2.rel r2 e1
    split at t
    · rename_i ds hc
      obtain ⟨p', us, e2, e3, e4⟩ := r3.cell n _ _ hc hp
      cases e2
      refine hf r3.gh e3 e4 rp t fun us' v' ds' z q1 q2 q3 => ?_
      exact k v' _ G3 m (.d z) _ l3 (o2.mono l3 (r3.write (c' := .lst ds') hc hp rfl (by simp) rfl ⟨p, us', rfl, upd_same, q1⟩)) (.d q2) q3
    · exact t.elim
  · exact t.elim
section
variable {X : Cx} {b : Bs} {pos apos : Pos} {o e : Expr} {es : List Expr} {to te : DTE} {ta : DTA} {name : Str}
theorem de_mutS {r : V → List V → Hp → VK → Prop} {f : List D → List D → (List D → D → Prop) → Prop} (hf : OpMs b r f) (ho : DE X b o to) (ha : DA X b (e :: es) ta)
    (hp : ∀ {to : TE} {ta : TA}, PE X o to → PA X (e :: es) ta → PE X (.Call (.Attribute o name apos) (e :: es) [] pos) (tBM X.K "list" r to ta)) : DE X b (.Call (.Attribute o name apos) (e :: es) [] pos) (dMut f to ta) := by
  obtain ⟨to', po, qo⟩ := ho.ex
  obtain ⟨ta', pa, qa⟩ := ha.ex
  refine ⟨_, hp po pa, fun {G m ρ μ σ H Q K} ok rr t k => ?_⟩
  refine qo ok rr t fun v H1 G1 m1 w μ1 l1 o1 r1 t1 => ?_
  split at t1
  · rename_i n
    obtain ⟨p, us, rfl, h1, h2⟩ := isLst_at o1 r1 t1.1
    refine ⟨.inl ⟨rfl, us, SqL.of h1⟩, ?_⟩
    refine qa o1 (rr.mono l1) t1.2 fun vs H2 G2 m2 ws μ2 l2 o2 r2 t2 => ?_
    exact mut_coreS hf o2 (l2.m _ _ h2) r2 t2 fun v H' G' m' w μ' l => k v H' G' m' w μ' (l1.trans (l2.trans l))
  · exact t1.elim
@[simp] def mExt (ds es : List D) (q : List D → D → Prop) : Prop := match es with
  | [.lst zs] => ds.length + zs.length ≤ sizeLine ∧ q (ds ++ zs) .non
  | _ => False
theorem om_ext : OpMs b rExtend mExt := by
  intro G H p us vs ds es q K hs h r1 r2 f k
  match es, r2, f with
  | [.lst zs], .cons r2 .nil, f =>
    cases r2 with
    | lst h2 r3 => exact ⟨p, _, us, _, rfl, rfl, h, hs _ _ h2, by rw [r1.len, r3.len]; exact f.1, k _ _ _ _ (r1.app r3) .non f.2⟩
end
/-! ### sorted(d.values()), the values tuples of ints -/
section
variable {prog : Program} {w : World} {A : Around} {E : Value → Shared → Prop} {s : Shared} {T : String} {r d : Addr} {n : Nat} {P : Nat → Value → Prop} {OK : Heap → Prop}
open PySem.Spec PyProof.Rows SrtO in
theorem sorted_view {ltv : Value → Value → Bool} {Q : Value → Shared → Prop} (K : PySem.W.KdlSrc prog w T r d n P OK) (hh : A.handled = none) (hok : OK s.heap) (hn : n ≤ sizeLine) (O : Swo ltv)
    (hS : ∀ (h₁ : Heap) (tk : Nat) (a : Addr) (vs : List Value), h₁.get? a = some (seqObj "list" vs.toArray 0) → (∀ b o, s.heap.get? b = some o → b ≠ a ∧ h₁.get? b = some o) → vs.length = n → (∀ (j : Nat) (v : Value), vs[j]? = some v → P j v) → 2 ≤ vs.length → SortableO prog w A.in1.in1 { s with heap := h₁, toks := tk } a vs ltv)
    (h : ∀ (h' : Heap) (tk : Nat) (vs out : List Value) (a : Addr) (ep : Nat), vs.length = n → (∀ (j : Nat) (v : Value), vs[j]? = some v → P j v) → Srtd ltv out → Stb ltv out vs → (∀ b o, s.heap.get? b = some o → h'.get? b = some o) → (∀ b o, s.heap.get? b = some o → b < a) → h'.get? a = some (seqObj "list" out.toArray ep) → Q (.ref a) { s with heap := h', toks := tk }) :
    wpAny (model prog w) A (call (.builtin "sorted") [.ref r]) Q E s := by
  refine Calls.call_function_entry kind_sorted plain_sorted entry_sorted (args_sorted1 _) ?_
  unfold Builtin.«sorted»
  refine wpAny_bind (m := checkCount "sorted" 1 1 _) (wpAny_pure ?_)
  refine wpAny_bind (PySem.W.kdu_collect (A := A.in1) K hh hok hn fun h' tk acc hk hacc => ?_)
  have hl : acc.toList.length = n := by rw [Array.length_toList]; exact hacc.1
  refine wpAny_bind (wpAny_newList ?_ (by rw [hl]; exact hn))
  have hz : acc.toList.length ≤ sizeLine := by rw [hl]; exact hn
  have hoL : (h'.push (seqObj "list" acc.toList.toArray 0)).get? h'.objs.size = some (seqObj "list" acc.toList.toArray 0) := Heap.get?_push_size _ rfl
  have hP : ∀ (j : Nat) (v : Value), acc.toList[j]? = some v → P j v := fun j v e => hacc.2 j v (by rw [← Array.getElem?_toList]; exact e)
  have keep : ∀ b o, s.heap.get? b = some o → b ≠ h'.objs.size ∧ (h'.push (seqObj "list" acc.toList.toArray 0)).get? b = some o := fun b o q => ⟨Nat.ne_of_lt (Heap.lt_size (hk _ _ q)), Heap.get?_push_of_some _ (hk _ _ q)⟩
  refine wpAny_bind (wpAny_holding (wpAny_call_entry slot_list_sort ⟨_, hoL, rfl⟩ entry_list_sort (list_sort_ord (s := { s with heap := h'.push (seqObj "list" acc.toList.toArray 0), toks := tk }) O hoL hz (fun h2 => hS _ tk _ _ hoL keep hl hP h2) fun out hs hb => ⟨_, rfl, ?_⟩) (args_list_sort _)))
  obtain ⟨ep, hat⟩ := sortedHeap_at (vs := acc.toList) (out := out.toArray) hoL
  refine wpAny_pure ⟨_, rfl, h _ tk acc.toList out h'.objs.size ep hl hP hs hb (fun b o q => ?_) (fun b o q => Heap.lt_size (hk _ _ q)) hat⟩
  have hlt := Heap.lt_size (hk _ _ q)
  rw [sortedHeap_old (Nat.ne_of_lt hlt) (by rw [size_push']; exact Nat.lt_succ_of_lt hlt)]
  exact (keep b o q).2
end
section
variable {b : Bs} {K : PySem.W.Frag} {G H : Hp}
theorem reps_each : ∀ {xs : List V} {gs : List (List Int)}, Reps b.cA G xs (gs.map tints) → ∀ x ∈ xs, ∃ g ∈ gs, Rep b.cA G x (tints g) := by
  intro xs gs
  induction gs generalizing xs with
  | nil => intro r; cases r; intro x hx; cases hx
  | cons g gs ih =>
    intro r
    cases r with
    | cons r rs =>
      intro x hx
      rcases List.mem_cons.mp hx with rfl | hx
      · exact ⟨g, List.mem_cons_self .., r⟩
      · obtain ⟨g', h1, h2⟩ := ih rs x hx
        exact ⟨g', List.mem_cons_of_mem _ h1, h2⟩
theorem sort_reps (gh : Sub G H) {us ys : List V} {gs : List (List Int)} (rp : Reps b.cA G us (gs.map tints)) (p1 : ys.Perm us) (p2 : ys.Pairwise (fun x y => ∀ n m, TupI K H x n → TupI K H y m → lexI m n = false)) : Reps b.cA G ys ((sortG gs).map tints) := by
  have srtd : ∀ {hs : List (List Int)} {xs : List V}, Reps b.cA G xs (hs.map tints) → xs.Pairwise (fun x y => ∀ n m, TupI K H x n → TupI K H y m → lexI m n = false) → hs.Pairwise fun a b => lexI b a = false := by
    intro hs
    induction hs with
    | nil => intro xs _ _; exact List.Pairwise.nil
    | cons h2 hs ih =>
      intro xs r p2
      cases r with
      | cons r rs =>
        obtain ⟨z1, z2⟩ := List.pairwise_cons.mp p2
        refine List.pairwise_cons.mpr ⟨fun g hg => ?_, ih rs z2⟩
        obtain ⟨i, hi, rfl⟩ := List.getElem_of_mem hg
        obtain ⟨v, hv, rv⟩ := rs.get' (i := i) (d := tints hs[i]) (by simp [hi])
        exact z1 v (List.mem_of_getElem? hv) _ _ (rep_tints gh r) (rep_tints gh rv)
  obtain ⟨es, q1, q2⟩ := reps_perm p1 rp
  obtain ⟨hs, rfl, q3⟩ := perm_map q1
  rw [sortG_uniq q3 (srtd q2 p2)] at q2
  exact q2
end
def rSortVals (K : PySem.W.Frag) : V → Hp → VK → Prop := fun x H Q => ∃ (d : Addr) (kvs : List (Key × V)), x = .ref d ∧ H d = some (.dK kvs) ∧ (∀ x ∈ kvs.map (·.2), ∃ ns, TupI K H x ns ∧ ns ≠ []) ∧
  ∀ (ys : List V) (p : Addr), ys.Perm (kvs.map (·.2)) → ys.Pairwise (fun x y => ∀ n m, TupI K H x n → TupI K H y m → lexI m n = false) → H p = none → Q (.ref p) (upd H p (.lst ys))
section
variable {X : Cx} {e : Expr} {te : TE} {p apos cpos pos : Pos}
open PySem.Spec PyProof.Rows in
theorem pe_sortVals (hc : X.calm = true) (he : PE X e te) (hg : Gl X "sorted") (hm : X.mg "sorted" = none) (hbase : attributeBase e "values" X.env (eval e X.env) = eval e X.env := by rfl) (hline : (apos.endLine == cpos.line) = true := by rfl)
    (hs : starEach [.Call (.Attribute e "values" apos) [] [] cpos] X.env = (false, eval (.Call (.Attribute e "values" apos) [] [] cpos) X.env) :: starEach [] X.env := by rfl) :
    PE X (.Call (.Name "sorted" p) [.Call (.Attribute e "values" apos) [] [] cpos] [] pos) (fun σ H Q => te σ H fun x H1 => rSortVals X.K x H1 Q) := by
  refine ⟨fun pins s σ H Q I hq => ?_⟩
  refine wpAny_Call_Name_kw (ld_blt I hg hm PyProof.Rows.boot_sorted ?_)
  refine PyProof.Rows.callWith_builtin1 ?_ hs rfl
  rw [hs]
  show wpAny _ _ (spliced ((false, eval (.Call (.Attribute e "values" apos) [] [] cpos) X.env) :: backTo pos (starEach [] X.env))) _ _ s
  refine Calls.spliced_cons ?_
  refine wpAny_Call_method (T := "dict") (id := "dict.values") hbase rfl hline F.plainAttrs_dict F.slot_dict_values F.type_dict_values (thn (he.run pins s σ H _ I hq) fun u s1 ⟨x, H1, I1, rx, d, kvs, ex, hd, hx, q⟩ => ?_)
  subst ex
  obtain rfl : u = Value.ref d := rx
  obtain ⟨hz, hs0, vs, kv, hdo⟩ := I1.hok d _ hd
  obtain ⟨ep, hat⟩ := hdo.dictAt
  have lk : kvs.length = vs.length := Paired.length kv
  have I2 : Inv X pins σ H1 { s1 with heap := s1.heap.push { cls := .type "dict_values", data := .fields #[.ref d] } } := I1.kept (t' := s1.toks) fun b ob q => Heap.get?_push_of_some _ q
  refine ⟨hdo.typeIs, hdo.mapOf.noDict, ?_⟩
  show wpAny _ _ (callWith cpos (.builtin "dict.values") [.ref d] [] []) _ X.xe s1
  refine method_meetsIn F.slot_dict_values F.entry_dict_values rfl (PySem.evalArgs_none ⟨rfl, hdo.typeIs, F.args_dict_values_1 _, _, meets_dict_values (mixKind X.prog X.w) d hs0, ⟨vs, hdo⟩, ?_⟩)
  refine Calls.spliced_nil ?_
  have hview : (s1.heap.push { cls := .type "dict_values", data := .fields #[.ref d] }).get? s1.heap.objs.size = some { cls := .type "dict_values", data := .fields #[.ref d] } := Heap.get?_push_size _ rfl
  have vals : ∀ {its : List Value}, its.length = vs.length → (∀ (j : Nat) (v : Value), its[j]? = some v → ∃ k, vs[j]? = some (k, v)) → Vals (kvs.map (·.2)) its := fun {its} hl hv =>
    vals_of_at (by rw [List.length_map, hl, lk]) fun j x w h1 h2 => by
      obtain ⟨k, hky⟩ := hv j w h2
      exact kv_at kv h1 hky
  have refsV : ∀ {its : List Value}, Vals (kvs.map (·.2)) its → (kvs.map (·.2) = its.map bkV) ∧ ∀ v ∈ its, ∃ t, v = Value.ref t := fun {its} rv => bkV_refs rv fun x m => by
    obtain ⟨ns, ⟨t, e, _⟩, _⟩ := hx x m
    exact ⟨t, e⟩
  have key : ∀ {its : List Value}, Vals (kvs.map (·.2)) its → ∀ v ∈ its, TS.TupInts s1.heap v (TS.intsOf s1.heap v) ∧ TS.intsOf s1.heap v ≠ [] := fun {its} rv v hv => by
    obtain ⟨e1, e2⟩ := refsV rv
    obtain ⟨t, rfl⟩ := e2 v hv
    have hm : V.ref t ∈ kvs.map (·.2) := by
      rw [e1]
      exact List.mem_map.mpr ⟨_, hv, rfl⟩
    obtain ⟨ns, ⟨t', e, ht⟩, hn⟩ := hx _ hm
    cases e
    have := tupI_raw I1 ht
    rw [this.ints]
    exact ⟨this, hn⟩
  refine sorted_view (PySem.W.kdl_values (knd := mixKind X.prog X.w) (kvs := vs) (ep := ep)) (I1.ok.hd hc) ⟨⟨_, hview, rfl, rfl⟩, hat.push _⟩ (by rw [← lk]; exact hz) (swo_lexI (TS.intsOf s1.heap)) (fun h₁ tk a its ha kk hl hv h2 => ?_) fun h' tk its out a ep' hl hv h1 h2 hkeep hlt hat' => ?_
  · have rv := vals hl hv
    refine tups_sortable (s := { s1 with heap := h₁, toks := tk }) (by omega) (fun v hm => ⟨(key rv v hm).1.keeps fun b o e _ => (kk b o (Heap.get?_push_of_some _ e)).2, (key rv v hm).2⟩) fun o e => ?_
    have e' : some o = some (seqObj "list" its.toArray 0) := e.symm.trans ha
    cases e'
    intro c
    exact absurd (Value.type.inj c) (by decide)
  · have rv := vals hl hv
    obtain ⟨e1, e2⟩ := refsV rv
    have h3 : ∀ u ∈ out, ∃ a, u = Value.ref a := fun u hu => e2 u (h2.perm.mem_iff.mp hu)
    have hp : (out.map bkV).Perm (kvs.map (·.2)) := by
      rw [e1]
      exact h2.perm.map bkV
    have hlen : (out.map bkV).length ≤ sizeLine := by
      rw [hp.length_eq, List.length_map]
      exact hz
    have fresh : (s1.heap.push { cls := .type "dict_values", data := .fields #[.ref d] }).objs.size ≤ a := by
      have := hlt _ _ hview
      rw [PyProof.Rows.size_push']
      exact this
    refine ⟨.ref a, upd H1 a (.lst (out.map bkV)), I2.laid (t' := tk) hkeep fresh ⟨hlen, out, ep', bkV_vals h3, hat'⟩, rfl, q _ _ hp ?_ (I2.hok.fresh fresh)⟩
    rw [List.pairwise_map]
    refine List.Pairwise.imp (fun {u v} huv n m hn hm => ?_) h1
    obtain ⟨t, et, ht⟩ := hn
    obtain ⟨t', et', ht'⟩ := hm
    have eu := bkV_ref et
    have ev := bkV_ref et'
    have i1 : TS.intsOf s1.heap u = n := by
      rw [eu]
      exact (tupI_raw I1 ht).ints
    have i2 : TS.intsOf s1.heap v = m := by
      rw [ev]
      exact (tupI_raw I1 ht').ints
    rw [← i1, ← i2]
    exact huv
end
section
variable {X : Cx} {b : Bs} {pos apos cpos p : Pos} {e : Expr} {te : DTE}
@[simp] def dSortVals (te : DTE) (ρ : R) (μ : M) (Q : W → M → Prop) : Prop := te ρ μ fun w μ1 => match dicW μ1 w with
  | some (_, ds) => ∃ gs : List (List Int), ds = gs.map tints ∧ (∀ g ∈ gs, g ≠ []) ∧ Q (.d (.lst ((sortG gs).map tints))) μ1
  | none => False
theorem de_sortVals (hc : X.calm = true) (hm : X.mg "sorted" = none) (he : DE X b e te) (hg : Gl X "sorted") (hbase : attributeBase e "values" X.env (eval e X.env) = eval e X.env := by rfl) (hline : (apos.endLine == cpos.line) = true := by rfl)
    (hs : starEach [.Call (.Attribute e "values" apos) [] [] cpos] X.env = (false, eval (.Call (.Attribute e "values" apos) [] [] cpos) X.env) :: starEach [] X.env := by rfl) :
    DE X b (.Call (.Name "sorted" p) [.Call (.Attribute e "values" apos) [] [] cpos] [] pos) (dSortVals te) := by
  obtain ⟨t1, p1, q1⟩ := he.ex
  refine ⟨_, pe_sortVals hc p1 hg hm hbase hline hs, fun {G m ρ μ σ H Q K} o r t k => ?_⟩
  refine q1 o r t fun v H1 G1 m1 w μ1 l1 o1 r1 t1 => ?_
  split at t1
  · rename_i ks ds e1
    obtain ⟨gs, rfl, hne, t1⟩ := t1
    obtain ⟨a, xs, rfl, h, hl, rp⟩ := dicW_ok o1.rel r1 e1
    have e2 : (ks.zip xs).map (·.2) = xs := by rw [List.map_snd_zip]; omega
    refine ⟨a, _, rfl, h, fun x hx => ?_, fun ys q p1 p2 hq => ?_⟩
    · rw [e2] at hx
      obtain ⟨g, h1, h2⟩ := reps_each (b := b) rp x hx
      exact ⟨g, rep_tints o1.rel.gh h2, hne g h1⟩
    · rw [e2] at p1
      have rp2 := sort_reps (b := b) o1.rel.gh rp p1 p2
      have hg := (o1.rel.new hq).1
      have l2 : Le G1 m1 (upd G1 q (.lst ys)) m1 := Le.know hg
      exact k _ _ _ m1 _ μ1 (l1.trans l2) (o1.mono l2 (o1.rel.know hq)) (.d (.lst upd_same (rp2.mono l2.g))) t1
  · exact t1.elim
end
/-! ### a, b, c = x, y, z -/
section
variable {X : Cx} {b : Bs} {st : Stmt}
@[simp] def dPar3 (i j l : Nat) (ta : DTA) (D : DEnds) (ρ : R) (μ : M) : Prop := ta ρ μ fun ws μ1 => match ws with
  | [w, z, u] => D.nx (((ρ.set i (some w)).set j (some z)).set l (some u)) μ1
  | _ => False
theorem ds_par3 {i j l : Nat} {es : List Expr} {ta : DTA} (ha : DA X b es ta) (hp : ∀ {ta : TA}, PA X es ta → PS X st (tPar3 i j l ta)) : DS X b st (dPar3 i j l ta) := by
  obtain ⟨t', p, q⟩ := ha.ex
  refine ⟨_, hp p, fun {G m ρ μ σ H D E} o r t k => ?_⟩
  refine q o r t fun vs H1 G1 m1 ws μ1 l1 o1 r1 t1 => ?_
  match ws, r1, t1 with
  | [w, z, u], .cons r1 (.cons r2 (.cons r3 .nil)), t1 => exact ⟨_, _, _, rfl, k.nx _ H1 G1 m1 _ μ1 l1 o1 ((((r.mono l1).set r1 i).set r2 j).set r3 l) t1⟩
end
end DD
namespace DD
open PySem L2
/-! ### a comprehension whose elements may be live lists -/
def dLcW (ti : DTI) (g : DTG) (tt : DTT) (te : DTE) (vs : List Nat) (ρ : R) (μ : M) (Q : W → M → Prop) : Prop := ti ρ μ fun s μ1 => ∃ P : Nat → M → Prop, P 0 (μ1 ++ [.lstW []]) ∧
  (∀ i μ', i ≤ s.items.length → P i μ' → s.ok μ') ∧
  (∀ i w μ', s.items[i]? = some w → P i μ' → g w (wipeR ρ vs) μ' fun ρ2 μ2 => tt ρ2 μ2 fun c μ3 =>
    if c = true then te ρ2 μ3 fun w μ4 => ∃ acc, μ4[μ1.length]? = some (.lstW acc) ∧ acc.length < sizeLine ∧ P (i + 1) (μ4.set μ1.length (.lstW (acc ++ [w])))
    else P (i + 1) μ3) ∧
  ∀ μ', P s.items.length μ' → Q (.r μ1.length) μ'
theorem lc_coreW {X : Cx} {b : Bs} {wi : TI} {g : TG} {tt : TT} {te : TE} {ti : DTI} {dg : DTG} {dt : DTT} {de : DTE} {vs : List Nat}
    (qi : ∀ {G : Hp} {m : Wd} {ρ : R} {μ : M} {σ : L2.St} {H : Hp} {Q : Src → M → Prop} {K : It → Hp → Prop}, WOk b G m μ H → RelR b.cA G m σ ρ → ti ρ μ Q → (∀ J H' G' m' s μ', Le G m G' m' → WOk b G' m' μ' H' → SrcOk b G' m' s J → Q s μ' → K J H') → wi σ H K)
    (qg : ∀ {G : Hp} {m : Wd} {ρ : R} {μ : M} {σ : L2.St} {H : Hp} {v : V} {w : W} {Q : R → M → Prop} {K : L2.St → Hp → Prop}, WOk b.q G m μ H → RelR b.q.cA G m σ ρ → WRel b.q.cA G m v w → dg w ρ μ Q →
      (∀ σ' H' G' m' ρ' μ', Le G m G' m' → WOk b.q G' m' μ' H' → RelR b.q.cA G' m' σ' ρ' → L2.wipe σ' vs = L2.wipe σ vs → Q ρ' μ' → K σ' H') → g v σ H K)
    (qt : ∀ {G : Hp} {m : Wd} {ρ : R} {μ : M} {σ : L2.St} {H : Hp} {Q : Bool → M → Prop} {K : Bool → Hp → Prop}, WOk b.q G m μ H → RelR b.q.cA G m σ ρ → dt ρ μ Q → (∀ c H' G' m' μ', Le G m G' m' → WOk b.q G' m' μ' H' → Q c μ' → K c H') → tt σ H K)
    (qe : ∀ {G : Hp} {m : Wd} {ρ : R} {μ : M} {σ : L2.St} {H : Hp} {Q : W → M → Prop} {K : VK}, WOk b.q G m μ H → RelR b.q.cA G m σ ρ → de ρ μ Q → (∀ v H' G' m' w μ', Le G m G' m' → WOk b.q G' m' μ' H' → WRel b.q.cA G' m' v w → Q w μ' → K v H') → te σ H K)
    {G : Hp} {m : Wd} {ρ : R} {μ : M} {σ : L2.St} {H : Hp} {Q : W → M → Prop} {K : VK} (o : WOk b G m μ H) (r : RelR b.cA G m σ ρ) (t : dLcW ti dg dt de vs ρ μ Q)
    (k : ∀ v H' G' m' w μ', Le G m G' m' → WOk b G' m' μ' H' → WRel b.cA G' m' v w → Q w μ' → K v H') : tLc wi g tt te vs σ H K := by
  refine qi o r t fun J H1 G1 m1 s μ1 l1 o1 so ⟨P, h0, hok, hstep, hend⟩ D hD => ?_
  have lc0 : Le G1 m1 G1 (m1 ++ [[D]]) := Le.cellNew
  have hD0 : (m1 ++ [[D]])[μ1.length]? = some [D] := by rw [← o1.rel.len]; simp
  refine ⟨fun i n H => n = s.items.length - i ∧ i ≤ s.items.length ∧ ∃ G' m' μ', Le G1 m1 G' m' ∧ WOk b G' m' μ' H ∧ m'[μ1.length]? = some [D] ∧ P i μ', ⟨s.items.length, by simp, Nat.zero_le _, G1, m1 ++ [[D]], μ1 ++ [.lstW []], lc0, ?_, hD0, h0⟩, ?_⟩
  · exact o1.mono lc0 (o1.rel.cellNew (c := .lstW []) hD ⟨D, [], rfl, upd_same, .nil⟩)
  rintro i n H2 ⟨rfl, hi, G2, m2, μ2, l2, o2, hd2, hP⟩
  have ok2 := hok i μ2 hi hP
  by_cases hlt : i < s.items.length
  · refine .inr ⟨so.go l2 o2 ok2 hlt, fun H' => ∃ G' m' μ', Le G1 m1 G' m' ∧ WOk b G' m' μ' H' ∧ m'[μ1.length]? = some [D] ∧ P (i + 1) μ', fun H' z => ⟨_, by omega, rfl, hlt, z⟩, fun x H3 y => ?_⟩
    obtain ⟨G3, d, l3, o3, e3, r3⟩ := so.yld l2 o2 ok2 y hlt
    have st := hstep i d μ2 e3 hP
    have r2 : RelR b.cA G3 m2 (L2.wipe σ vs) (wipeR ρ vs) := (((r.mono l1).mono l2).mono l3).wipe vs
    have wipe2 : L2.wipe (L2.wipe σ vs) vs = L2.wipe σ vs := wipe_wipe vs
    refine qg (v := x) (w := d) o3.q r2 r3 st fun σ4 H4 G4 m4 ρ4 μ4 l4 o4 r4 z4 t4 => ⟨z4.trans wipe2, ?_⟩
    refine qt o4 r4 t4 fun c H5 G5 m5 μ5 l5 o5 t5 => ?_
    have l25 : Le G1 m1 G5 m5 := l2.trans (l3.trans (l4.trans l5))
    have hd5 : m5[μ1.length]? = some [D] := l5.m _ _ (l4.m _ _ (l3.m _ _ hd2))
    cases c with
    | false => exact ⟨G5, m5, μ5, l25, o5.unq, hd5, t5⟩
    | true =>
      refine qe o5 (r4.mono l5) t5 fun y H6 G6 m6 w6 μ6 l6 o6 r6 t6 => ?_
      obtain ⟨acc, hc, hz, h7⟩ := t6
      have hd6 := l6.m _ _ hd5
      obtain ⟨p', xs, e8, e9, e10⟩ := o6.rel.cell _ _ _ hc hd6
      cases e8
      refine ⟨xs, e9, by rw [e10.len]; exact hz, G6, m6, _, l25.trans l6, ?_, hd6, h7⟩
      exact o6.unq.mono (Le.refl _ _) (o6.rel.write (c' := .lstW (acc ++ [w6])) hc hd6 rfl (by simp) rfl ⟨D, _, rfl, upd_same, e10.app (.cons r6 .nil)⟩)
  · have e : i = s.items.length := by omega
    subst e
    refine .inl ⟨so.stop l2 o2 ok2, ?_⟩
    exact k _ H2 G2 m2 (.r μ1.length) μ2 (l1.trans l2) o2 (.r (as := []) hd2) (hend μ2 hP)
section
variable {X : Cx} {b : Bs} {elt tg iter : Expr} {ifs : List Expr} {scope : Scope} {own : List (Str × Nat)} {pos : Pos} {ti : DTI} {g : DTG} {tt : DTT} {te : DTE}
theorem de_lcW (hc : X.calm = true) (hN : X.N.Nodup) (hi : DI X b tg iter ti) (ok : BlkOk X.N X.env.scope scope own) (hg : ∀ X', Blk X scope X' → DGo X' b.q (own.map (·.2)) tg g) (ht : ∀ X', Blk X scope X' → DTs X' b.q ifs tt) (he : ∀ X', Blk X scope X' → DE X' b.q elt te)
    (hs : ∀ x, foldedSetIterable iter X.env x = pure x := by intro _; rfl) : DE X b (.ListComp elt [⟨tg, iter, ifs, 0⟩] scope pos) (dLcW ti g tt te (own.map (·.2))) := by
  obtain ⟨wi, p1, q1⟩ := hi.ex
  obtain ⟨g', p2, q2⟩ := uni_g hg
  obtain ⟨t', p3, q3⟩ := uni_t ht
  obtain ⟨e', p4, q4⟩ := uni_e he
  refine ⟨_, pe_lc hc hN p1 ok (fun s H C cl fp => p2 _ ⟨s, H, C, cl, fp, rfl⟩) (fun s H C cl fp => p3 _ ⟨s, H, C, cl, fp, rfl⟩) (fun s H C cl fp => p4 _ ⟨s, H, C, cl, fp, rfl⟩) hs, fun {G m ρ μ σ H Q K} o r t k => ?_⟩
  exact lc_coreW (X := X) q1 q2 q3 q4 o r t k
/-- name = [..] on one line -/
theorem ds_setLcW {i : Nat} {y : Str} {py spos : Pos} (hc : X.calm = true) (hN : X.N.Nodup) (hy : X.N[i]? = some y) (hyl : X.env.scope.names.lookup y = some .local) (hsw : swapsWith (.ListComp elt [⟨tg, iter, ifs, 0⟩] scope pos) (some (.Name y py)) spos.line X.env = pure true)
    (hi : DI X b tg iter ti) (ok : BlkOk X.N X.env.scope scope own) (hg : ∀ X', Blk X scope X' → DGo X' b.q (own.map (·.2)) tg g) (ht : ∀ X', Blk X scope X' → DTs X' b.q ifs tt) (he : ∀ X', Blk X scope X' → DE X' b.q elt te)
    (hs : ∀ x, foldedSetIterable iter X.env x = pure x := by intro _; rfl) : DS X b (.Assign [.Name y py] (.ListComp elt [⟨tg, iter, ifs, 0⟩] scope pos) spos) (dAsg (dLcW ti g tt te (own.map (·.2))) (gN i)) := by
  obtain ⟨wi, p1, q1⟩ := hi.ex
  obtain ⟨g', p2, q2⟩ := uni_g hg
  obtain ⟨t', p3, q3⟩ := uni_t ht
  obtain ⟨e', p4, q4⟩ := uni_e he
  refine ⟨_, ps_setLc hc hN hy hyl hsw p1 ok (fun s H C cl fp => p2 _ ⟨s, H, C, cl, fp, rfl⟩) (fun s H C cl fp => p3 _ ⟨s, H, C, cl, fp, rfl⟩) (fun s H C cl fp => p4 _ ⟨s, H, C, cl, fp, rfl⟩) hs, fun {G m ρ μ σ H D E} o r t k => ?_⟩
  exact lc_coreW (X := X) q1 q2 q3 q4 o r t fun v H' G' m' w μ' l o' r' t' => k.nx _ H' G' m' _ μ' l o' ((r.mono l).set r' i) t'
end
/-! ### l.pop() of a list of live things -/
section
variable {X : Cx} {b : Bs} {pos apos : Pos} {o : Expr} {to : DTE}
@[simp] def dPopW (to : DTE) (ρ : R) (μ : M) (Q : W → M → Prop) : Prop := to ρ μ fun w μ1 => match w with
  | .r n => match μ1[n]? with
    | some (.lstW ws) => match ws[ws.length - 1]? with
      | some x => Q x (μ1.set n (.lstW ws.dropLast))
      | none => False
    | _ => False
  | _ => False
theorem WRels.get1 {cA : Nat → Addr} {G : Hp} {m : Wd} : ∀ {vs : List V} {ws : List W} {i : Nat} {w : W}, WRels cA G m vs ws → ws[i]? = some w → ∃ v, vs[i]? = some v ∧ WRel cA G m v w
  | _, _, _, _, .nil, h => by simp at h
  | _, _, 0, _, .cons r _, h => by simp at h; subst h; exact ⟨_, rfl, r⟩
  | _, _, i + 1, _, .cons _ rs, h => by simpa using rs.get1 (i := i) (by simpa using h)
theorem de_popW (ho : DE X b o to) (hp : ∀ {to : TE}, PE X o to → PE X (.Call (.Attribute o "pop" apos) [] [] pos) (tBM0 X.K "list" rPop to)) : DE X b (.Call (.Attribute o "pop" apos) [] [] pos) (dPopW to) := by
  obtain ⟨to', po, qo⟩ := ho.ex
  refine ⟨_, hp po, fun {G m ρ μ σ H Q K} ok rr t k => ?_⟩
  refine qo ok rr t fun v H1 G1 m1 w μ1 l1 o1 r1 t1 => ?_
  split at t1
  · rename_i n
    split at t1
    · rename_i ws hc
      split at t1
      · rename_i x hx
        cases r1 with
        | @r _ p as e =>
        obtain ⟨p', us, e1, e2, e3⟩ := o1.rel.cell n _ _ hc e
        cases e1
        obtain ⟨y, hy, ry⟩ := e3.get1 hx
        refine ⟨.inl ⟨rfl, us, SqL.of e2⟩, p, us, y, rfl, rfl, e2, by rw [e3.len]; exact hy, ?_⟩
        have dl : WRels b.cA G1 m1 us.dropLast ws.dropLast := by
          rw [List.dropLast_eq_take, List.dropLast_eq_take, e3.len]
          exact e3.take _
        exact k _ _ G1 m1 x _ l1 (o1.mono (Le.refl _ _) (o1.rel.write (c' := .lstW ws.dropLast) hc e rfl (by simp) rfl ⟨p, _, rfl, upd_same, dl⟩)) ry t1
      · exact t1.elim
    · exact t1.elim
  · exact t1.elim
end
end DD
namespace DD
open PySem L2
/-! ### live lists are lent to an expression that only reads them -/
mutual
/-- data without lists and dicts -/
def noL : D → Bool
  | .non => true
  | .bl _ => true
  | .int _ => true
  | .str _ => true
  | .tup ds => noLs ds
  | .obj _ _ ds => noLs ds
  | .lst _ => false
  | .dic _ _ => false
  | .dicT _ _ => false
def noLs : List D → Bool
  | [] => true
  | d :: ds => noL d && noLs ds
end
section
variable {cA : Nat → Addr} {G G3 : Hp}
mutual
theorem rep_thaw (h : ∀ a o, G a = some o → (∀ xs, o ≠ .lst xs) → G3 a = some o) : ∀ {v : V} {d : D}, Rep cA G v d → noL d = true → Rep cA G3 v d
  | _, _, .non, _ => .non
  | _, _, .bl b, _ => .bl b
  | _, _, .int i, _ => .int i
  | _, _, .str s, _ => .str s
  | _, _, .tup e r, n => .tup (h _ _ e (fun _ c => by cases c)) (reps_thaw h r (by simpa [noL] using n))
  | _, _, .lst e r, n => by simp [noL] at n
  | _, _, .obj e l r, n => .obj (h _ _ e (fun _ c => by cases c)) l (reps_thaw h r (by simpa [noL] using n))
  | _, _, .dic e l r, n => by simp [noL] at n
  | _, _, .dicT e l r, n => by simp [noL] at n
theorem reps_thaw (h : ∀ a o, G a = some o → (∀ xs, o ≠ .lst xs) → G3 a = some o) : ∀ {vs : List V} {ds : List D}, Reps cA G vs ds → noLs ds = true → Reps cA G3 vs ds
  | _, _, .nil, _ => .nil
  | _, _, .cons r rs, n => by
    simp only [noLs, Bool.and_eq_true] at n
    exact .cons (rep_thaw h r n.1) (reps_thaw h rs n.2)
end
end
/-- the memory before and while lists are lent -/
def lendC : Cell → Cell → Prop
  | .lst ds, .lst ds1 => ds = ds1 ∧ noLs ds = true
  | .lst _, .frz (.lst _) => True
  | .lstW _, .frz (.lst _) => True
  | .frz d, .frz d1 => d = d1
  | .scr ns S, .scr ns1 S1 => ns = ns1 ∧ S = S1
  | _, _ => False
def lendOk : M → M → Prop
  | [], [] => True
  | c :: μ, c1 :: μ1 => lendC c c1 ∧ lendOk μ μ1
  | _, _ => False
theorem lend_len : ∀ {μ μ1 : M}, lendOk μ μ1 → μ1.length = μ.length
  | [], [], _ => rfl
  | _ :: _, _ :: _, h => by simp [lend_len h.2]
  | [], _ :: _, h => h.elim
  | _ :: _, [], h => h.elim
theorem lend_get : ∀ {μ μ1 : M}, lendOk μ μ1 → ∀ {i : Nat} {c : Cell}, μ[i]? = some c → ∃ c1, μ1[i]? = some c1 ∧ lendC c c1
  | c :: μ, c1 :: μ1, h, 0, x, e => by simp at e; subst e; exact ⟨c1, rfl, h.1⟩
  | c :: μ, c1 :: μ1, h, i + 1, x, e => by simpa using lend_get h.2 (i := i) (by simpa using e)
  | [], [], _, i, c, e => by simp at e
  | [], _ :: _, h, _, _, _ => h.elim
  | _ :: _, [], h, _, _, _ => h.elim
open Classical in
theorem thaw {cA : Nat → Addr} {U G G1 G2 H H2 : Hp} {m m2 : Wd} {μ μ1 : M} (r0 : RelM cA U G m μ H) (r1 : RelM cA U G1 m μ1 H) (l1 : Le G m G1 m) (l2 : Le G1 m G2 m2) (r2 : RelM cA U G2 m2 μ1 H2) (ok : lendOk μ μ1) :
    ∃ G3, Le G m G3 m ∧ RelM cA U G3 m μ H2 ∧ ∀ a o, G2 a = some o → (∀ xs, o ≠ .lst xs) → G3 a = some o := by
  have hlen := lend_len ok
  have em : m2 = m := by
    apply List.ext_getElem?
    intro i
    by_cases h : i < m.length
    · rw [l2.m i _ (List.getElem?_eq_getElem h), List.getElem?_eq_getElem h]
    · rw [List.getElem?_eq_none (by rw [r2.len, hlen, ← r0.len]; omega), List.getElem?_eq_none (by omega)]
  subst em
  -- the lent places
  let L : Addr → Prop := fun a => ∃ (i : Nat) (c : Cell) (ds : List D), μ[i]? = some c ∧ c.live = true ∧ μ1[i]? = some (.frz (.lst ds)) ∧ m2[i]? = some [a]
  have hL : ∀ a, L a → ∃ xs, G1 a = some (.lst xs) := fun a ⟨i, c, ds, h1, h2, h3, h4⟩ => by
    obtain ⟨p, e, rp⟩ := r1.cell i _ _ h3 h4
    cases e
    cases rp with
    | lst h _ => exact ⟨_, h⟩
  have nG : ∀ a, L a → G a = none := fun a ⟨i, c, ds, h1, h2, h3, h4⟩ => (r0.free i c [a] a h1 h4 h2 (by simp)).1
  have nU : ∀ a, L a → U a = none := fun a ⟨i, c, ds, h1, h2, h3, h4⟩ => (r0.free i c [a] a h1 h4 h2 (by simp)).2
  refine ⟨fun a => if L a then none else G2 a, ?_, ?_, ?_⟩
  · refine ⟨fun a o e => ?_, fun i as e => e⟩
    have : ¬ L a := fun z => by rw [nG a z] at e; cases e
    show (if L a then none else G2 a) = some o
    rw [if_neg this]
    exact l2.g _ _ (l1.g _ _ e)
  · have key : ∀ a o, G2 a = some o → (∀ xs, o ≠ .lst xs) → (if L a then none else G2 a) = some o := fun a o e ne => by
      have : ¬ L a := fun z => by
        obtain ⟨xs, e1⟩ := hL a z
        rw [l2.g _ _ e1] at e
        cases e
        exact ne xs rfl
      rw [if_neg this, e]
    have lG : Le G m2 (fun a => if L a then none else G2 a) m2 := ⟨fun a o e => by
      have : ¬ L a := fun z => by rw [nG a z] at e; cases e
      show (if L a then none else G2 a) = some o
      rw [if_neg this]
      exact l2.g _ _ (l1.g _ _ e), fun i as e => e⟩
    -- live cells that are not lent are those of the memory while lent
    have liveOr : ∀ (i : Nat) (c : Cell), μ[i]? = some c → c.live = true → (∃ ds, μ1[i]? = some (.frz (.lst ds))) ∨ μ1[i]? = some c := fun i c e lv => by
      obtain ⟨c1, e1, h⟩ := lend_get ok e
      unfold lendC at h
      split at h
      · obtain ⟨rfl, _⟩ := h; exact .inr e1
      · exact .inl ⟨_, e1⟩
      · exact .inl ⟨_, e1⟩
      · exact .inr (by rw [e1, h])
      · obtain ⟨rfl, rfl⟩ := h; exact .inr e1
      · exact h.elim
    refine ⟨r2.uh, fun a o e => ?_, fun a o e => ?_, r0.len, fun i c as e1 e2 => ?_, r0.nd, r0.apart, fun i c as a e1 e2 lv ha => ?_⟩
    · have e : (if L a then none else G2 a) = some o := e
      split at e
      · cases e
      · exact r2.gh _ _ e
    · show (if L a then none else G2 a) = none
      split
      · rfl
      · exact r2.ug a o e
    · obtain ⟨c1, e3, h⟩ := lend_get ok e1
      unfold lendC at h
      split at h
      · rename_i ds ds1
        obtain ⟨rfl, n⟩ := h
        obtain ⟨p, xs, rfl, k1, k2⟩ := r2.cell i _ _ e3 e2
        exact ⟨p, xs, rfl, k1, reps_thaw key k2 n⟩
      · rename_i ds ds1
        obtain ⟨p, xs, rfl, k1, k2⟩ := r0.cell i _ _ e1 e2
        obtain ⟨p', e4, rp⟩ := r1.cell i _ _ e3 e2
        cases e4
        cases rp with
        | lst h _ =>
          have a1 := r1.gh _ _ h
          rw [k1] at a1
          cases a1
          exact ⟨p, xs, rfl, r2.gh _ _ (l2.g _ _ h), k2.mono lG.g⟩
      · rename_i ws ds1
        obtain ⟨p, xs, rfl, k1, k2⟩ := r0.cell i _ _ e1 e2
        obtain ⟨p', e4, rp⟩ := r1.cell i _ _ e3 e2
        cases e4
        cases rp with
        | lst h _ =>
          have a1 := r1.gh _ _ h
          rw [k1] at a1
          cases a1
          exact ⟨p, xs, rfl, r2.gh _ _ (l2.g _ _ h), k2.mono lG⟩
      · subst h
        obtain ⟨p, rfl, rp⟩ := r0.cell i _ _ e1 e2
        exact ⟨p, rfl, rp.mono lG.g⟩
      · obtain ⟨rfl, rfl⟩ := h
        obtain ⟨p, rfl, k⟩ := r0.cell i _ _ e1 e2
        exact ⟨p, rfl, k.imp (fun e => Or.imp (lG.g _ _) (fun ⟨o, e⟩ => ⟨o, lG.g _ _ e⟩) e) id⟩
      · exact h.elim
    · show (if L a then none else G2 a) = none ∧ U a = none
      refine ⟨?_, (r0.free i c as a e1 e2 lv ha).2⟩
      rcases liveOr i c e1 lv with ⟨ds, h⟩ | h
      · split
        · rfl
        · rename_i nl
          obtain ⟨p', e4, rp⟩ := r1.cell i _ _ h e2
          subst e4
          simp at ha
          subst ha
          exact absurd ⟨i, c, ds, e1, lv, h, e2⟩ nl
      · split
        · rfl
        · exact (r2.free i c as a h e2 lv ha).1
  · intro a o e ne
    have : ¬ L a := fun z => by
      obtain ⟨xs, e1⟩ := hL a z
      rw [l2.g _ _ e1] at e
      cases e
      exact ne xs rfl
    show (if L a then none else G2 a) = some o
    rw [if_neg this, e]
section
variable {X : Cx} {b : Bs} {e : Expr} {t : DTE}
/-- the expression is read as if the list in slot i were data -/
def dLend (i : Nat) (t : DTE) (ρ : R) (μ : M) (Q : W → M → Prop) : Prop := ∃ (w : W) (d : D) (μ1 : M), ρ[i]? = some (some w) ∧ esc μ w = some (d, μ1) ∧ lendOk μ μ1 ∧
  t (ρ.set i (some (.d d))) μ1 fun z μ2 => μ2 = μ1 ∧ ∃ d', z = .d d' ∧ noL d' = true ∧ Q (.d d') μ
theorem de_lend (i : Nat) (h : DE X b e t) : DE X b e (dLend i t) := by
  obtain ⟨te, p, q⟩ := h.ex
  refine ⟨te, p, fun {G m ρ μ σ H Q K} o r tt k => ?_⟩
  obtain ⟨w, d, μ1, h1, h2, ok, tt⟩ := tt
  obtain ⟨v, hv, rv⟩ := r.2 i w h1
  obtain ⟨G1, l1, r1, rp⟩ := esc_ok o.rel rv h2
  have rr : RelR b.cA G1 m σ (ρ.set i (some (.d d))) := by
    have rm := r.mono l1
    refine ⟨by simp [rm.1], fun j w' hj => ?_⟩
    by_cases e : i = j
    · subst e
      have hl : i < ρ.length := (List.getElem?_eq_some_iff.mp h1).1
      rw [List.getElem?_set_self hl] at hj
      cases hj
      exact ⟨v, hv, .d rp⟩
    · rw [List.getElem?_set_ne e] at hj
      exact rm.2 j w' hj
  refine q (o.mono l1 r1) rr tt fun v' H2 G2 m2 w2 μ2 l2 o2 rv2 ⟨hμ, d', hw, hn, hq⟩ => ?_
  subst hμ hw
  obtain ⟨G3, l3, r3, key⟩ := thaw o.rel r1 l1 l2 o2.rel ok
  cases rv2 with
  | d rp2 => exact k v' H2 G3 m (.d d') μ l3 (o.mono l3 r3) (.d (rep_thaw key rp2 hn)) hq
end
end DD
namespace DD
open PySem L2
/-! ### sorted(list) of plain data that is alike -/
def rSortD (K : PySem.W.Frag) : List V → Hp → VK → Prop := fun vs H Q => ∃ (a : Addr) (xs : List V) (ps : List PyData), vs = [V.ref a] ∧ SqL K H a xs ∧ DpAll K H xs ps ∧ PySem.W.AllAlike ps ∧ PySem.W.Sortable ps ∧ (∀ d ∈ ps, d.depth ≤ 60) ∧
  ∀ (zs : List (V × PyData)) (p : Addr), zs.Perm (xs.zip ps) → zs.Pairwise (fun x y => PySem.W.dataLt y.2 x.2 = false) → H p = none → Q (.ref p) (upd H p (.lst (zs.map (·.1))))
section
variable {X : Cx}
theorem each_rel {pins : List (Addr × Obj)} {σ : L2.St} {H : Hp} {s : Shared} (I : Inv X pins σ H s) : ∀ {xs : List V} {us : List Value} {ps : List PyData}, Vals xs us → DpAll X.K H xs ps → PySem.W.EachIs (fun (v : Value) (z : V × PyData) => RelV z.1 v ∧ ∃ as, Reads s.heap v z.2 as) us (xs.zip ps)
  | _, _, _, .nil, .nil => .nil
  | _, _, _, .cons r rs, .cons d ds => .cons ⟨r, Dp.reads I _ _ _ d r⟩ (each_rel I rs ds)
theorem each_map {α β γ : Type} {R : α → γ → Prop} (f : β → γ) : ∀ {as : List α} {bs : List β}, PySem.W.EachIs (fun a b => R a (f b)) as bs → PySem.W.EachIs R as (bs.map f)
  | _, _, .nil => .nil
  | _, _, .cons h t => .cons h (each_map f t)
theorem each_vals : ∀ {us : List Value} {zs : List (V × PyData)}, PySem.W.EachIs (fun (v : Value) (z : V × PyData) => RelV z.1 v) us zs → Vals (zs.map (·.1)) us
  | _, _, .nil => .nil
  | _, _, .cons h t => .cons h (each_vals t)
theorem each_mono {α β : Type} {R R' : α → β → Prop} (hm : ∀ a b, R a b → R' a b) : ∀ {as : List α} {bs : List β}, PySem.W.EachIs R as bs → PySem.W.EachIs R' as bs
  | _, _, .nil => .nil
  | _, _, .cons h t => .cons (hm _ _ h) (each_mono hm t)
theorem zip_snd : ∀ {α β : Type} {xs : List α} {ps : List β}, xs.length = ps.length → (xs.zip ps).map (·.2) = ps
  | _, _, [], [], _ => rfl
  | _, _, _ :: xs, _ :: ps, h => by simp [zip_snd (xs := xs) (ps := ps) (by simpa using h)]
  | _, _, [], _ :: _, h => by simp at h
  | _, _, _ :: _, [], h => by simp at h
theorem dpAll_len {K : PySem.W.Frag} {H : Hp} : ∀ {xs : List V} {ps : List PyData}, DpAll K H xs ps → xs.length = ps.length
  | _, _, .nil => rfl
  | _, _, .cons _ t => congrArg (· + 1) (dpAll_len t)
open PySem.Spec PyProof.Rows in
theorem cr_sortD (hu : X.A.units + 64 < cLine) : CallR X (.builtin "sorted") (rSortD X.K) := by
  intro pins s σ H vs us Q I r h
  obtain ⟨a, xs, ps, rfl, hs, hd, ha, ho, hdep, q⟩ := h
  obtain ⟨its, rv, hl, hz⟩ := I.list hs
  rw [Vals.ref1 r]
  have hlen := rv.length
  have hpl := dpAll_len hd
  have e0 := each_rel I rv hd
  have eR : PySem.W.EachIs (fun v d => ∃ as, Reads s.heap v d as) its ps := by
    have := each_map (R := fun (v : Value) (d : PyData) => ∃ as, Reads s.heap v d as) (fun z : V × PyData => z.2) (each_mono (fun a b h => h.2) e0)
    rwa [zip_snd hpl] at this
  have keep : ∀ b o, s.heap.get? b = some o → (PySem.W.sortingHeap (PySem.W.copyHeap s.heap its) (s.heap.objs.size + 1) its).get? b = some o := fun b o e => PySem.W.sorting_copy_old e
  have eS : PySem.W.EachIs (fun v d => ∃ as, Reads (PySem.W.sortingHeap (PySem.W.copyHeap s.heap its) (s.heap.objs.size + 1) its) v d as) its ps := each_mono (fun v d ⟨as, h⟩ => ⟨as, PyProof.Rows.Reads.keeps keep h⟩) eR
  have S := PySem.W.SortsAt.data (prog := X.prog) (w := X.w) (A := X.A.in1.in1) (s := { s with heap := PySem.W.sortingHeap (PySem.W.copyHeap s.heap its) (s.heap.objs.size + 1) its }) eS ha ho fun d hd' => by
    have := hdep d hd'
    show X.A.units + 1 + 1 + d.depth < cLine
    omega
  refine PySem.W.sorted_vals hl.isList S (by rw [← hlen]; exact hz) ?_
  have eZ : PySem.W.EachIs (fun (v : Value) (z : V × PyData) => (PySem.W.dataKind (PySem.W.sortingHeap (PySem.W.copyHeap s.heap its) (s.heap.objs.size + 1) its) ps).keyOf v = some (PySem.W.keyToks z.2)) its (xs.zip ps) := by
    have key : ∀ {us : List Value} {zs : List (V × PyData)}, PySem.W.EachIs (fun (v : Value) (z : V × PyData) => RelV z.1 v ∧ ∃ as, Reads s.heap v z.2 as) us zs → (∀ z ∈ zs, z.2 ∈ ps) → PySem.W.EachIs (fun (v : Value) (z : V × PyData) => (PySem.W.dataKind (PySem.W.sortingHeap (PySem.W.copyHeap s.heap its) (s.heap.objs.size + 1) its) ps).keyOf v = some (PySem.W.keyToks z.2)) us zs := by
      intro us zs e
      induction e with
      | nil => intro _; exact .nil
      | cons h t ih =>
        intro hm
        obtain ⟨as, hr⟩ := h.2
        exact .cons (PySem.W.dataKind_some ha (hm _ (List.mem_cons_self ..)) (PyProof.Rows.Reads.keeps keep hr)) (ih fun z hz => hm z (List.mem_cons_of_mem _ hz))
    exact key e0 fun z hz => (List.of_mem_zip hz).2
  have eO := PySem.W.sortVals_each (κ := PySem.W.dataKind (PySem.W.sortingHeap (PySem.W.copyHeap s.heap its) (s.heap.objs.size + 1) its) ps) (R := fun (v : Value) (z : V × PyData) => RelV z.1 v) (rev := false) (fun z : V × PyData => (PySem.W.keyToks z.2 : (PySem.W.dataKind (PySem.W.sortingHeap (PySem.W.copyHeap s.heap its) (s.heap.objs.size + 1) its) ps).α)) (each_mono (fun a b h => h.1) e0) eZ
  generalize hzs : (xs.zip ps).mergeSort (PySem.W.sortLe (PySem.W.dataKind (PySem.W.sortingHeap (PySem.W.copyHeap s.heap its) (s.heap.objs.size + 1) its) ps).toKeyOrd false fun z : V × PyData => PySem.W.keyToks z.2) = zs at eO
  have hp : zs.Perm (xs.zip ps) := by rw [← hzs]; exact List.mergeSort_perm _ _
  have hsrt : zs.Pairwise (fun x y => PySem.W.dataLt y.2 x.2 = false) := by
    rw [← hzs]
    refine (PySem.W.sort_pairwise (PySem.W.sortLe_total _ false _) _).imp fun {x y} h => ?_
    have h2 : (PySem.W.dataKind (PySem.W.sortingHeap (PySem.W.copyHeap s.heap its) (s.heap.objs.size + 1) its) ps).blt (PySem.W.keyToks y.2) (PySem.W.keyToks x.2) = false := by simpa [PySem.W.sortLe] using h
    exact h2
  have rv2 := each_vals eO
  generalize PySem.W.sortVals (PySem.W.dataKind (PySem.W.sortingHeap (PySem.W.copyHeap s.heap its) (s.heap.objs.size + 1) its) ps) false its its = out at rv2
  obtain ⟨ep, he'⟩ := PyProof.Rows.sortedAll_at s.heap its out.toArray
  have hlz : (zs.map (·.1)).length ≤ sizeLine := by
    rw [List.length_map, hp.length_eq, List.length_zip]
    omega
  exact ⟨.ref _, upd H (s.heap.objs.size + 1) (.lst (zs.map (·.1))), I.laid (t' := s.toks) (fun _ _ => PyProof.Rows.sortedAll_old) (Nat.le_succ _) ⟨hlz, out, ep, rv2, he'⟩, rfl, q _ _ hp hsrt (I.hok.fresh (Nat.le_succ _))⟩
end
/-- x < y, for plain data that is alike -/
def dltD (x y : D) : Bool := PySem.W.dataLt ((toP x).getD .none) ((toP y).getD .none)
def fSortD (ds : List D) (q : D → Prop) : Prop := ∃ (xs : List D) (ps : List PyData), ds = [.lst xs] ∧ toPs xs = some ps ∧ okDs 60 xs = true ∧ PySem.W.AllAlike ps ∧ PySem.W.Sortable ps ∧ ∀ es : List D, es.Perm xs → es.Pairwise (fun x y => dltD y x = false) → q (.lst es)
section
variable {X : Cx} {b : Bs} {pos p : Pos} {e : Expr} {ta : DTA}
theorem toPs_zip : ∀ {xs : List V} {ds : List D} {ps : List PyData}, xs.length = ds.length → toPs ds = some ps → xs.zip ps = (xs.zip ds).map fun z => (z.1, (toP z.2).getD .none)
  | [], [], _, _, h => by simp [toPs] at h; subst h; rfl
  | x :: xs, d :: ds, ps, hl, h => by
    simp [toPs, Option.bind_eq_some_iff] at h
    obtain ⟨p, h1, qs, h2, rfl⟩ := h
    simp [h1, toPs_zip (xs := xs) (ds := ds) (by simpa using hl) h2]
  | [], _ :: _, _, h, _ => by simp at h
  | _ :: _, [], _, h, _ => by simp at h
theorem depthAll_mem : ∀ {ps : List PyData} {n : Nat}, PyData.depthAll ps ≤ n → ∀ d ∈ ps, d.depth ≤ n
  | [], _, _, _, hd => by cases hd
  | q :: qs, n, h, d, hd => by
    simp [PyData.depthAll] at h
    rcases List.mem_cons.mp hd with rfl | hd
    · omega
    · exact depthAll_mem (ps := qs) (by omega) d hd
theorem on_sortD {K : PySem.W.Frag} : OpN b (rSortD K) fSortD := by
  intro G m μ H vs ds q Kq w n f k
  obtain ⟨xs, ps, rfl, hps, hok, ha, hs, f⟩ := f
  obtain ⟨a, us, rfl, h, rp⟩ := seq_at (K := K) n rfl
  have h := h.resolve_right (by rintro ⟨_, z⟩; cases z)
  have hlen := rp.len
  obtain ⟨ps', hps', _, hdep⟩ := okDs_toPs 60 xs hok
  rw [hps] at hps'
  cases hps'
  refine ⟨a, us, ps, rfl, h.1, rp.dps w.rel.gh hps, ha, hs, depthAll_mem hdep, fun zs l p1 p2 hl => ?_⟩
  rw [toPs_zip hlen hps] at p1
  obtain ⟨hs, rfl, p3⟩ := perm_map p1
  have each : ∀ z ∈ hs, Rep b.cA G z.1 z.2 := fun z hz => by
    have hm := p3.mem_iff.mp hz
    obtain ⟨i, hi, rfl⟩ := List.getElem_of_mem hm
    rw [List.getElem_zip]
    obtain ⟨d, hd, r⟩ := rp.get (i := i) (List.getElem?_eq_getElem (by simp at hi; omega))
    rw [List.getElem?_eq_getElem (by simp at hi; omega)] at hd
    cases hd
    exact r
  have reps : Reps b.cA G (hs.map (·.1)) (hs.map (·.2)) := by
    clear p1 p2 p3
    induction hs with
    | nil => exact .nil
    | cons z hs ih => exact .cons (each z (List.mem_cons_self ..)) (ih fun z hz => each z (List.mem_cons_of_mem _ hz))
  have e1 : (hs.map fun z : V × D => (z.1, (toP z.2).getD .none)).map (·.1) = hs.map (·.1) := by rw [List.map_map]; rfl
  rw [e1]
  refine give_new w hl (fun G' s e => .lst e (reps.mono s)) (f (hs.map (·.2)) ?_ ?_) k
  · have := p3.map (·.2)
    rwa [zip_snd hlen] at this
  · rw [List.pairwise_map] at p2 ⊢
    exact p2
theorem de_sortD (hu : X.A.units + 64 < cLine) (hm : X.mg "sorted" = none) (ha : DA X b [e] ta) (hg : Gl X "sorted") (he : starEach [e] X.env = [(false, eval e X.env)] := by rfl) (hpl : (backTo pos (starEach [] X.env)).any (·.1) = false := by rfl) : DE X b (.Call (.Name "sorted" p) [e] [] pos) (dFn fSortD ta) :=
  de_fn (on_sortD (K := X.K)) ha fun pa => pe_callB (cr_sortD hu) hg hm PyProof.Rows.boot_sorted pa (he := he) (hpl := hpl)
end
/-! what the order says of tuples of ints -/
theorem toP_tints (l : List Int) : toP (tints l) = some (.tuple (l.map PyData.int)) := by
  have : toPs (l.map D.int) = some (l.map PyData.int) := by
    induction l with
    | nil => rfl
    | cons a l ih => simp [toPs, toP, ih]
  simp [tints, toP, this]
theorem alike_ints : ∀ a c : List Int, PySem.W.alikeAll (a.map PyData.int) (c.map PyData.int) = true
  | [], _ => by simp [PySem.W.alikeAll]
  | _ :: _, [] => by simp [PySem.W.alikeAll]
  | a :: as, c :: cs => by simp [PySem.W.alikeAll, PySem.W.alike, alike_ints as cs]
end DD
namespace DD
open PySem L2
/-! ### a dict stands locked while an expression walks over it -/
abbrev Bs.lk (b : Bs) (G : Hp) (m : Wd) : Bs := { b with G0 := G, m0 := m }
def dead : Cell := .scr [] fun _ => True
structure Lk (b : Bs) (n : Nat) (ks : List Key) (ds : List D) : Prop where
  ex : ∃ (p : Addr) (od : Obj) (xs : List V), b.G0 p = some (.frz od (.dK (ks.zip xs))) ∧ ks.length = xs.length ∧ Reps b.cA b.G0 xs ds ∧ b.m0[n]? = some [p]
def dDLock (i : Nat) (t : Nat → List Key → List D → DTE) (ρ : R) (μ : M) (Q : W → M → Prop) : Prop := ∃ (n : Nat) (ks : List Key) (ds : List D), ρ[i]? = some (some (.r n)) ∧ μ[n]? = some (.dic ks ds) ∧ t n ks ds ρ (μ.set n dead) fun w μ2 => μ2[n]? = some dead ∧ Q w (μ2.set n (.dic ks ds))
section
variable {cA : Nat → Addr} {G G3 : Hp}
mutual
theorem rep_unlk (h : ∀ a o, G a = some o → (∀ od u, o ≠ .frz od u) → G3 a = some o) : ∀ {v : V} {d : D}, Rep cA G v d → Rep cA G3 v d
  | _, _, .non => .non
  | _, _, .bl b => .bl b
  | _, _, .int i => .int i
  | _, _, .str s => .str s
  | _, _, .tup e r => .tup (h _ _ e (fun _ _ c => by cases c)) (reps_unlk h r)
  | _, _, .lst e r => .lst (h _ _ e (fun _ _ c => by cases c)) (reps_unlk h r)
  | _, _, .obj e l r => .obj (h _ _ e (fun _ _ c => by cases c)) l (reps_unlk h r)
  | _, _, .dic e l r => .dic (h _ _ e (fun _ _ c => by cases c)) l (reps_unlk h r)
  | _, _, .dicT e l r => .dicT (h _ _ e (fun _ _ c => by cases c)) l (reps_unlk h r)
theorem reps_unlk (h : ∀ a o, G a = some o → (∀ od u, o ≠ .frz od u) → G3 a = some o) : ∀ {vs : List V} {ds : List D}, Reps cA G vs ds → Reps cA G3 vs ds
  | _, _, .nil => .nil
  | _, _, .cons r rs => .cons (rep_unlk h r) (reps_unlk h rs)
end
theorem wrel_unlk {m : Wd} (h : ∀ a o, G a = some o → (∀ od u, o ≠ .frz od u) → G3 a = some o) {v : V} {w : W} (r : WRel cA G m v w) : WRel cA G3 m v w := by
  cases r with
  | d r => exact .d (rep_unlk h r)
  | r e => exact .r e
theorem wrels_unlk {m : Wd} (h : ∀ a o, G a = some o → (∀ od u, o ≠ .frz od u) → G3 a = some o) : ∀ {vs : List V} {ws : List W}, WRels cA G m vs ws → WRels cA G3 m vs ws
  | _, _, .nil => .nil
  | _, _, .cons r rs => .cons (wrel_unlk h r) (wrels_unlk h rs)
end
open Classical in
theorem unlock {cA : Nat → Addr} {U G G2 H2 : Hp} {m m2 : Wd} {μ2 : M} {n : Nat} {p : Addr} {od : Obj} {ks : List Key} {xs : List V} {ds : List D} (hG : G p = none) (hU : U p = none) (l : Le G m G2 m2) (r2 : RelM cA U G2 m2 μ2 H2) (hp : G2 p = some (.frz od (.dK (ks.zip xs))))
    (hm : m2[n]? = some [p]) (hd : μ2[n]? = some dead) (hl : ks.length = xs.length) (hr : Reps cA G2 xs ds) :
    ∃ G3, Le G m G3 m2 ∧ RelM cA U G3 m2 (μ2.set n (.dic ks ds)) (upd H2 p (.dK (ks.zip xs))) ∧ ∀ a o, G2 a = some o → (∀ od u, o ≠ .frz od u) → G3 a = some o := by
  have key : ∀ a o, G2 a = some o → (∀ od u, o ≠ .frz od u) → (if a = p then none else G2 a) = some o := fun a o e ne => by
    rw [if_neg (fun z => by subst z; rw [hp] at e; cases e; exact ne _ _ rfl), e]
  have sub : ∀ a, (if a = p then none else G2 a) = none ∨ (a ≠ p ∧ (if a = p then none else G2 a) = G2 a) := fun a => by
    by_cases z : a = p
    · exact .inl (if_pos z)
    · exact .inr ⟨z, if_neg z⟩
  have hn : n < μ2.length := (List.getElem?_eq_some_iff.mp hd).1
  have split : ∀ (i : Nat) (x : Cell), (μ2.set n (.dic ks ds))[i]? = some x → (i ≠ n ∧ μ2[i]? = some x) ∨ (i = n ∧ x = .dic ks ds) := fun i x e => by
    by_cases q : i = n
    · subst q
      rw [List.getElem?_set_self hn] at e
      exact .inr ⟨rfl, (Option.some.inj e).symm⟩
    · rw [List.getElem?_set_ne (Ne.symm q)] at e
      exact .inl ⟨q, e⟩
  have neP : ∀ (i : Nat) (x : Cell) (as : List Addr) (a : Addr), μ2[i]? = some x → m2[i]? = some as → x.live = true → a ∈ as → a ≠ p := fun i x as a e1 e2 lv ha z => by
    subst z
    rw [(r2.free i x as a e1 e2 lv ha).1] at hp
    cases hp
  refine ⟨fun a => if a = p then none else G2 a, ⟨fun a o e => ?_, l.m⟩, ⟨fun a o e => ?_, fun a o e => ?_, fun a o e => ?_, by simp [r2.len], fun i c as e1 e2 => ?_, fun i c as e1 e2 lv => ?_, fun i j c c' as as' a e1 e2 e3 e4 e5 e6 e7 e8 => ?_, fun i c as a e1 e2 lv ha => ?_⟩, key⟩
  · have : ¬ a = p := fun z => by subst z; rw [hG] at e; cases e
    show (if a = p then none else G2 a) = some o
    rw [if_neg this]
    exact l.g _ _ e
  · have : ¬ a = p := fun z => by subst z; rw [hU] at e; cases e
    rw [upd_ne this]
    exact r2.uh _ _ e
  · have e : (if a = p then none else G2 a) = some o := e
    rcases sub a with z | ⟨z, z2⟩
    · rw [z] at e; cases e
    · rw [z2] at e
      rw [upd_ne z]
      exact r2.gh _ _ e
  · show (if a = p then none else G2 a) = none
    split
    · rfl
    · exact r2.ug a o e
  · rcases split i c e1 with ⟨q, e⟩ | ⟨rfl, rfl⟩
    · have k := r2.cell i c as e e2
      cases c with
      | lst es =>
        obtain ⟨p', ys, rfl, k1, k2⟩ := k
        exact ⟨p', ys, rfl, by rw [upd_ne (neP i _ _ p' e e2 rfl (by simp))]; exact k1, reps_unlk key k2⟩
      | lstW ws =>
        obtain ⟨p', ys, rfl, k1, k2⟩ := k
        exact ⟨p', ys, rfl, by rw [upd_ne (neP i _ _ p' e e2 rfl (by simp))]; exact k1, wrels_unlk key k2⟩
      | ins c fs ws =>
        obtain ⟨p', dx, ys, rfl, k1, k2, k3⟩ := k
        exact ⟨p', dx, ys, rfl, by rw [upd_ne (neP i _ _ p' e e2 rfl (by simp))]; exact k1, k2, wrels_unlk key k3⟩
      | dic ks' es =>
        obtain ⟨p', ys, rfl, k1, k2, k3⟩ := k
        exact ⟨p', ys, rfl, by rw [upd_ne (neP i _ _ p' e e2 rfl (by simp))]; exact k1, k2, reps_unlk key k3⟩
      | dicT ks' es =>
        obtain ⟨p', ys, rfl, k1, k2, k3⟩ := k
        exact ⟨p', ys, rfl, by rw [upd_ne (neP i _ _ p' e e2 rfl (by simp))]; exact k1, k2, reps_unlk key k3⟩
      | frz d =>
        obtain ⟨p', rfl, k⟩ := k
        exact ⟨p', rfl, rep_unlk key k⟩
      | tab P q =>
        obtain ⟨rfl, ps, k1, k2, k3⟩ := k
        refine ⟨rfl, ps, by rw [upd_ne (neP i _ _ P e e2 rfl (by simp))]; exact k1, k2, fun pos cv hc => ?_⟩
        obtain ⟨c0, z, z2⟩ := k3 pos cv hc
        refine ⟨c0, z, ?_⟩
        show (if c0 = p then none else G2 c0) = _
        rw [if_neg (fun w => by subst w; rw [hp] at z2; unfold LamX.CodeO at z2; cases z2), z2]
      | fn f c0 q =>
        refine ⟨k.1, ?_⟩
        have z2 := k.2
        show (if c0 = p then none else G2 c0) = _
        rw [if_neg (fun w => by subst w; rw [hp] at z2; unfold LamX.CodeO at z2; cases z2), z2]
      | scr ns S =>
        obtain ⟨p', rfl, k⟩ := k
        have go : ∀ o, (∀ od es, o ≠ HO.frz od (.dK es)) → G2 p' = some o → (if p' = p then none else G2 p') = some o := fun o hn e => by
          rw [if_neg (fun z => by subst z; rw [hp] at e; exact hn _ _ (Option.some.inj e).symm), e]
        exact ⟨p', rfl, k.imp (fun e => Or.imp (go _ (fun _ _ z => by cases z)) (fun ⟨o, e⟩ => ⟨o, go _ (fun _ _ z => by cases z) e⟩) e) id⟩
    · rw [hm] at e2
      cases e2
      exact ⟨p, xs, rfl, upd_same, hl, reps_unlk key hr⟩
  · rcases split i c e1 with ⟨q, e⟩ | ⟨rfl, rfl⟩
    · exact r2.nd i c as e e2 lv
    · rw [hm] at e2
      cases e2
      simp
  · rcases split i c e1 with ⟨q, e⟩ | ⟨rfl, rfl⟩
    · rcases split j c' e2 with ⟨q2, e'⟩ | ⟨rfl, rfl⟩
      · exact r2.apart i j c c' as as' a e e' e3 e4 e5 e6 e7 e8
      · rw [hm] at e4
        cases e4
        simp at e8
        exact absurd e8 (neP i c as a e e3 e5 e7)
    · rcases split j c' e2 with ⟨q2, e'⟩ | ⟨rfl, rfl⟩
      · rw [hm] at e3
        cases e3
        simp at e7
        exact absurd e7 (neP j c' as' a e' e4 e6 e8)
      · rfl
  · rcases split i c e1 with ⟨q, e⟩ | ⟨rfl, rfl⟩
    · obtain ⟨f1, f2⟩ := r2.free i c as a e e2 lv ha
      refine ⟨?_, f2⟩
      show (if a = p then none else G2 a) = none
      split
      · rfl
      · exact f1
    · rw [hm] at e2
      cases e2
      simp at ha
      subst ha
      exact ⟨if_pos rfl, hU⟩
section
variable {X : Cx} {b : Bs} {e : Expr} {t : Nat → List Key → List D → DTE}
theorem lock_rel {cA : Nat → Addr} {U G H : Hp} {m : Wd} {μ : M} {n : Nat} {p : Addr} {od : Obj} {ks : List Key} {xs : List V} {ds : List D} (r : RelM cA U G m μ H) (hc : μ[n]? = some (.dic ks ds)) (hm : m[n]? = some [p]) (hG : G p = none) (hU : U p = none) (hH : H p = some (.dK (ks.zip xs))) :
    RelM cA U (upd G p (.frz od (.dK (ks.zip xs)))) m (μ.set n dead) (upd H p (.frz od (.dK (ks.zip xs)))) := by
  have l : Le G m (upd G p (.frz od (.dK (ks.zip xs)))) m := Le.know hG
  have hn : n < μ.length := (List.getElem?_eq_some_iff.mp hc).1
  have split : ∀ (i : Nat) (x : Cell), (μ.set n dead)[i]? = some x → (i ≠ n ∧ μ[i]? = some x) ∨ (i = n ∧ x = dead) := fun i x e => by
    by_cases q : i = n
    · subst q
      rw [List.getElem?_set_self hn] at e
      exact .inr ⟨rfl, (Option.some.inj e).symm⟩
    · rw [List.getElem?_set_ne (Ne.symm q)] at e
      exact .inl ⟨q, e⟩
  have neP : ∀ (i : Nat) (x : Cell) (as : List Addr) (a : Addr), i ≠ n → μ[i]? = some x → m[i]? = some as → x.live = true → a ∈ as → a ≠ p := fun i x as a q e1 e2 lv ha z => by
    subst z
    exact q (r.apart i n x _ as [a] a e1 hc e2 hm lv rfl ha (by simp))
  have cases' : ∀ (i : Nat) (x : Cell), (μ.set n dead)[i]? = some x → x.live = true → i ≠ n ∧ μ[i]? = some x := fun i x e lv => by
    rcases split i x e with h | ⟨_, rfl⟩
    · exact h
    · cases lv
  refine ⟨r.uh.new hU, fun a u e => ?_, fun a u e => ?_, by simp [r.len], fun i c as e1 e2 => ?_, fun i c as e1 e2 lv => ?_, fun i j c c' as as' a e1 e2 e3 e4 e5 e6 e7 e8 => ?_, fun i c as a e1 e2 lv ha => ?_⟩
  · by_cases q : a = p
    · subst q; rw [upd_same] at e ⊢; exact e
    · rw [upd_ne q] at e ⊢; exact r.gh a u e
  · rw [upd_ne (fun z => by subst z; rw [hU] at e; cases e)]; exact r.ug a u e
  · rcases split i c e1 with ⟨q, e⟩ | ⟨rfl, rfl⟩
    · exact (r.cell i c as e e2).mono l fun lv a ha o h => by rw [upd_ne (neP i c as a q e e2 lv ha)]; exact h
    · rw [hm] at e2
      cases e2
      exact ⟨p, rfl, .inr trivial⟩
  · obtain ⟨q, e⟩ := cases' i c e1 lv
    exact r.nd i c as e e2 lv
  · obtain ⟨q, e⟩ := cases' i c e1 e5
    obtain ⟨q', e'⟩ := cases' j c' e2 e6
    exact r.apart i j c c' as as' a e e' e3 e4 e5 e6 e7 e8
  · obtain ⟨q, e⟩ := cases' i c e1 lv
    obtain ⟨f1, f2⟩ := r.free i c as a e e2 lv ha
    rw [upd_ne (neP i c as a q e e2 lv ha)]
    exact ⟨f1, f2⟩
theorem de_dlock (i : Nat) (h : ∀ (G : Hp) (m : Wd) (n : Nat) (ks : List Key) (ds : List D), Lk (b.lk G m) n ks ds → DE X (b.lk G m) e (t n ks ds)) : DE X b e (dDLock i t) := by
  refine ⟨tLockE (can X e), pe_lock ⟨fun pins s σ H Q I q => q pins s I⟩, fun {G m ρ μ σ H Q K} o r tt k => ?_⟩
  obtain ⟨n, ks, ds, h1, h2, tt⟩ := tt
  obtain ⟨v, hv, rv⟩ := r.2 i _ h1
  cases rv with
  | @r _ p as em =>
  obtain ⟨p', xs, e5, h5, h6, rp⟩ := o.rel.cell n _ _ h2 em
  cases e5
  obtain ⟨hG, hU⟩ := o.rel.free n _ _ p h2 em rfl (by simp)
  refine ⟨p, .dK (ks.zip xs), h5, trivial, fun od => ?_⟩
  have l1 : Le G m (upd G p (.frz od (.dK (ks.zip xs)))) m := Le.know hG
  have r1 := lock_rel (od := od) o.rel h2 em hG hU h5
  have o1 : WOk (b.lk (upd G p (.frz od (.dK (ks.zip xs)))) m) (upd G p (.frz od (.dK (ks.zip xs)))) m (μ.set n dead) (upd H p (.frz od (.dK (ks.zip xs)))) := ⟨Le.refl _ _, r1⟩
  obtain ⟨te, pe, q⟩ := (h _ m n ks ds ⟨p, od, xs, upd_same, h6, rp.mono l1.g, em⟩).ex
  intro pins s I
  refine pe.run pins s σ _ _ I (q o1 (r.mono l1) tt fun v' H2 G2 m2 w2 μ2 l2 o2 rv2 ⟨hd, hq⟩ => ?_)
  have hp2 := l2.g _ _ (upd_same (H := G) (a := p) (o := .frz od (.dK (ks.zip xs))))
  have hm2 := l2.m _ _ em
  obtain ⟨G3, l3, r3, key⟩ := unlock (ds := ds) hG hU (l1.trans l2) o2.rel hp2 hm2 hd h6 ((rp.mono l1.g).mono l2.g)
  exact ⟨o2.rel.gh _ _ hp2, k v' _ G3 m2 w2 _ l3 ⟨o.le.trans l3, r3⟩ (wrel_unlk key rv2) hq⟩
end
/-! .. or a statement -/
def canS (X : Cx) (st : Stmt) : TS := fun D σ H => ∀ (pins : List (Addr × Obj)) (s : Shared), Inv X pins σ H s → wpAny (model X.prog X.w) X.A (exec st X.env) (SP X pins D) X.xe s
def dDLockS (i : Nat) (t : Nat → List Key → List D → DTS) (D : DEnds) (ρ : R) (μ : M) : Prop := ∃ (n : Nat) (ks : List Key) (ds : List DD.D), ρ[i]? = some (some (.r n)) ∧ μ[n]? = some (.dic ks ds) ∧ t n ks ds
  ⟨fun ρ' μ' => μ'[n]? = some dead ∧ D.nx ρ' (μ'.set n (.dic ks ds)), fun w μ' => μ'[n]? = some dead ∧ D.rt w (μ'.set n (.dic ks ds)), fun ρ' μ' => μ'[n]? = some dead ∧ D.bk ρ' (μ'.set n (.dic ks ds)), fun ρ' μ' => μ'[n]? = some dead ∧ D.ct ρ' (μ'.set n (.dic ks ds))⟩ ρ (μ.set n dead)
theorem relR_unlk {cA : Nat → Addr} {G G3 : Hp} {m : Wd} (h : ∀ a o, G a = some o → (∀ od u, o ≠ .frz od u) → G3 a = some o) {σ : L2.St} {ρ : R} (r : RelR cA G m σ ρ) : RelR cA G3 m σ ρ := ⟨r.1, fun i w e => by
  obtain ⟨v, e1, r⟩ := r.2 i w e
  exact ⟨v, e1, wrel_unlk h r⟩⟩
theorem ds_dlock {X : Cx} {b : Bs} {st : Stmt} {t : Nat → List Key → List D → DTS} (i : Nat) (h : ∀ (G : Hp) (m : Wd) (n : Nat) (ks : List Key) (ds : List D), Lk (b.lk G m) n ks ds → DS X (b.lk G m) st (t n ks ds)) : DS X b st (dDLockS i t) := by
  refine ⟨tLock (canS X st), ps_lock ⟨fun pins s σ H D I q => q pins s I⟩, fun {G m ρ μ σ H D E} o r tt k => ?_⟩
  obtain ⟨n, ks, ds, h1, h2, tt⟩ := tt
  obtain ⟨v, hv, rv⟩ := r.2 i _ h1
  cases rv with
  | @r _ p as em =>
  obtain ⟨p', xs, e5, h5, h6, rp⟩ := o.rel.cell n _ _ h2 em
  cases e5
  obtain ⟨hG, hU⟩ := o.rel.free n _ _ p h2 em rfl (by simp)
  refine ⟨p, .dK (ks.zip xs), h5, trivial, fun od => ?_⟩
  have l1 : Le G m (upd G p (.frz od (.dK (ks.zip xs)))) m := Le.know hG
  have r1 := lock_rel (od := od) o.rel h2 em hG hU h5
  have o1 : WOk (b.lk (upd G p (.frz od (.dK (ks.zip xs)))) m) (upd G p (.frz od (.dK (ks.zip xs)))) m (μ.set n dead) (upd H p (.frz od (.dK (ks.zip xs)))) := ⟨Le.refl _ _, r1⟩
  obtain ⟨te, pe, q⟩ := (h _ m n ks ds ⟨p, od, xs, upd_same, h6, rp.mono l1.g, em⟩).ex
  intro pins s I
  have fin : ∀ {H2 G2 m2 μ2}, Le (upd G p (.frz od (.dK (ks.zip xs)))) m G2 m2 → WOk (b.lk (upd G p (.frz od (.dK (ks.zip xs)))) m) G2 m2 μ2 H2 → μ2[n]? = some dead → H2 p = some (.frz od (.dK (ks.zip xs))) ∧ ∃ G3, Le G m G3 m2 ∧ WOk b G3 m2 (μ2.set n (.dic ks ds)) (upd H2 p (.dK (ks.zip xs))) ∧ ∀ a o, G2 a = some o → (∀ od u, o ≠ .frz od u) → G3 a = some o := fun {H2 G2 m2 μ2} l2 o2 hd => by
    have hp2 := l2.g _ _ (upd_same (H := G) (a := p) (o := .frz od (.dK (ks.zip xs))))
    have hm2 := l2.m _ _ em
    obtain ⟨G3, l3, r3, key⟩ := unlock (ds := ds) hG hU (l1.trans l2) o2.rel hp2 hm2 hd h6 ((rp.mono l1.g).mono l2.g)
    exact ⟨o2.rel.gh _ _ hp2, G3, l3, ⟨o.le.trans l3, r3⟩, key⟩
  refine pe.run pins s σ _ _ I (q o1 (r.mono l1) tt ⟨fun σ' H2 G2 m2 ρ2 μ2 l2 o2 r2 ⟨hd, hq⟩ => ?_, fun v' H2 G2 m2 w2 μ2 l2 o2 rv2 ⟨hd, hq⟩ => ?_, fun σ' H2 G2 m2 ρ2 μ2 l2 o2 r2 ⟨hd, hq⟩ => ?_, fun σ' H2 G2 m2 ρ2 μ2 l2 o2 r2 ⟨hd, hq⟩ => ?_⟩)
  · obtain ⟨a1, G3, l3, o3, key⟩ := fin l2 o2 hd
    exact ⟨a1, k.nx σ' _ G3 m2 ρ2 _ l3 o3 (relR_unlk key r2) hq⟩
  · obtain ⟨a1, G3, l3, o3, key⟩ := fin l2 o2 hd
    exact ⟨a1, k.rt v' _ G3 m2 w2 _ l3 o3 (wrel_unlk key rv2) hq⟩
  · obtain ⟨a1, G3, l3, o3, key⟩ := fin l2 o2 hd
    exact ⟨a1, k.bk σ' _ G3 m2 ρ2 _ l3 o3 (relR_unlk key r2) hq⟩
  · obtain ⟨a1, G3, l3, o3, key⟩ := fin l2 o2 hd
    exact ⟨a1, k.ct σ' _ G3 m2 ρ2 _ l3 o3 (relR_unlk key r2) hq⟩
/-! the entries of a locked dict -/
@[simp] def kD : Key → D
  | .inl i => .int i
  | .inr s => .str s
def itemsD (ks : List Key) (ds : List D) : List W := (ks.zip ds).map fun z => .d (.tup [kD z.1, z.2])
@[simp] def iLk (its : List W) (i n : Nat) (ρ : R) (μ : M) (Q : Src → M → Prop) : Prop := ρ[i]? = some (some (.r n)) ∧ Q ⟨its, fun _ => True⟩ μ
section
variable {X : Cx} {b : Bs} {e tg : Expr} {pos apos cpos : Pos} {n : Nat} {ks : List Key} {ds : List D} {i : Nat} {x : Str}
theorem rep_kV {cA : Nat → Addr} {G : Hp} : ∀ k : Key, Rep cA G (kV k) (kD k)
  | .inl i => .int i
  | .inr s => .str s
theorem lk_at {ρ : R} {G : Hp} {m : Wd} {σ : L2.St} (le : Le b.G0 b.m0 G m) (r : RelR b.cA G m σ ρ) (h : ρ[i]? = some (some (.r n))) {p : Addr} (hm : b.m0[n]? = some [p]) : σ[i]? = some (some (.ref p)) := by
  obtain ⟨v, hv, rv⟩ := r.2 i _ h
  cases rv with
  | @r _ p' as em =>
    have := le.m _ _ hm
    rw [this] at em
    cases em
    exact hv
theorem di_itemsL {elts : List Expr} {kk : Nat} {tpos : Pos} (L : Lk b n ks ds) (he : PE X e (tVar i)) (hbase : attributeBase e "items" X.env (eval e X.env) = eval e X.env := by rfl) (hline : (apos.endLine == cpos.line) = true := by rfl) : DI X b (.Tuple elts kk tpos) (.Call (.Attribute e "items" apos) [] [] cpos) (iLk (itemsD ks ds) i n) := by
  obtain ⟨p, od, xs, hp, hl, hr, hm⟩ := L.ex
  refine ⟨_, pi_items he hbase hline, fun {G m ρ μ σ H Q K} o r t k => ?_⟩
  obtain ⟨t1, t2⟩ := t
  have hs := lk_at o.le r t1 hm
  have frz : ∀ {G' m' μ' H'}, Le G m G' m' → WOk b G' m' μ' H' → H' p = some (.frz od (.dK (ks.zip xs))) := fun {G' m' μ' H'} l o' => o'.rel.gh _ _ (o'.le.g _ _ hp)
  have ll : (ks.zip xs).length = (itemsD ks ds).length := by
    simp [itemsD, hr.len]
  refine ⟨_, hs, p, od, ks.zip xs, rfl, frz (Le.refl _ _) o, k _ H G m _ μ (Le.refl _ _) o ⟨fun {G' m' μ' H' j} l o' _ h => ⟨frz l o', by rw [ll]; exact h⟩, fun {G' m' μ' H' j y H2} l o' _ yy h => ?_, fun {G' m' μ' H'} l o' _ => ⟨frz l o', by rw [ll]; exact Nat.le_refl _⟩⟩ t2⟩
  obtain ⟨T, kk', v, hkv, rfl, hT, rfl⟩ := yy
  have hg := (o'.rel.new hT).1
  have l2 : Le G' m' (upd G' T (.tup [kV kk', v])) m' := Le.know hg
  obtain ⟨z1, z2⟩ := List.getElem?_zip_eq_some.mp hkv
  obtain ⟨d, hd, rd⟩ := hr.get z2
  refine ⟨_, .d (.tup [kD kk', d]), l2, o'.mono l2 (o'.rel.know hT), ?_, .d (.tup upd_same (.cons (rep_kV kk') (.cons ((rd.mono o'.le.g).mono l2.g) .nil)))⟩
  show ((ks.zip ds).map fun z => W.d (.tup [kD z.1, z.2]))[j]? = _
  rw [List.getElem?_map, (List.getElem?_zip_eq_some (z := (kk', d))).mpr ⟨z1, hd⟩]
  rfl
theorem di_valuesL (L : Lk b n ks ds) (he : PE X e (tVar i)) (hbase : attributeBase e "values" X.env (eval e X.env) = eval e X.env := by rfl) (hline : (apos.endLine == cpos.line) = true := by rfl) : DI X b tg (.Call (.Attribute e "values" apos) [] [] cpos) (iLk (ds.map W.d) i n) := by
  obtain ⟨p, od, xs, hp, hl, hr, hm⟩ := L.ex
  refine ⟨_, pi_values he hbase hline, fun {G m ρ μ σ H Q K} o r t k => ?_⟩
  obtain ⟨t1, t2⟩ := t
  have hs := lk_at o.le r t1 hm
  have frz : ∀ {G' m' μ' H'}, Le G m G' m' → WOk b G' m' μ' H' → H' p = some (.frz od (.dK (ks.zip xs))) := fun {G' m' μ' H'} l o' => o'.rel.gh _ _ (o'.le.g _ _ hp)
  have ll : (ks.zip xs).length = (ds.map W.d).length := by
    simp [← hr.len, hl]
  refine ⟨_, hs, p, od, ks.zip xs, rfl, frz (Le.refl _ _) o, k _ H G m _ μ (Le.refl _ _) o ⟨fun {G' m' μ' H' j} l o' _ h => ⟨frz l o', by rw [ll]; exact h⟩, fun {G' m' μ' H' j y H2} l o' _ yy h => ?_, fun {G' m' μ' H'} l o' _ => ⟨frz l o', by rw [ll]; exact Nat.le_refl _⟩⟩ t2⟩
  obtain ⟨rfl, kk', hkv⟩ := yy
  obtain ⟨z1, z2⟩ := List.getElem?_zip_eq_some.mp hkv
  obtain ⟨d, hd, rd⟩ := hr.get z2
  exact ⟨G', .d d, Le.refl _ _, o', by rw [List.getElem?_map, hd]; rfl, .d (rd.mono o'.le.g)⟩
theorem di_keysL (L : Lk b n ks ds) (he : PE X e (tVar i)) : DI X b tg e (iLk (ks.map fun k => W.d (kD k)) i n) := by
  obtain ⟨p, od, xs, hp, hl, hr, hm⟩ := L.ex
  refine ⟨_, pi_keys he, fun {G m ρ μ σ H Q K} o r t k => ?_⟩
  obtain ⟨t1, t2⟩ := t
  have hs := lk_at o.le r t1 hm
  have frz : ∀ {G' m' μ' H'}, Le G m G' m' → WOk b G' m' μ' H' → H' p = some (.frz od (.dK (ks.zip xs))) := fun {G' m' μ' H'} l o' => o'.rel.gh _ _ (o'.le.g _ _ hp)
  have ll : (ks.zip xs).length = (ks.map fun k => W.d (kD k)).length := by
    simp [← hl]
  refine ⟨_, hs, p, od, rfl, .inl ⟨ks.zip xs, frz (Le.refl _ _) o, k _ H G m _ μ (Le.refl _ _) o ⟨fun {G' m' μ' H' j} l o' _ h => ⟨frz l o', by rw [ll]; exact h⟩, fun {G' m' μ' H' j y H2} l o' _ yy h => ?_, fun {G' m' μ' H'} l o' _ => ⟨frz l o', by rw [ll]; exact Nat.le_refl _⟩⟩ t2⟩⟩
  obtain ⟨rfl, kk', v, hkv, rfl⟩ := yy
  obtain ⟨z1, z2⟩ := List.getElem?_zip_eq_some.mp hkv
  exact ⟨G', .d (kD kk'), Le.refl _ _, o', by rw [List.getElem?_map, z1]; rfl, .d (rep_kV kk')⟩
end
/-! x[::-1]; a list that may change, times a number -/
section
variable {X : Cx} {b : Bs} {e e1 e2 : Expr} {te ta tb : DTE} {pos : Pos}
@[simp] def dRevL (te : DTE) (ρ : R) (μ : M) (Q : W → M → Prop) : Prop := te ρ μ fun w μ1 => match rs μ1 w with
  | some (.lst ds) => Q (.d (.lst ds.reverse)) μ1
  | _ => False
theorem de_revL {k : Nat} {p1 p2 p3 : Pos} (he : DE X b e te) : DE X b (.Subscript e (.Slice none none (some (.UnaryOp .USub (.Constant (.int 1) k p1) p2)) p3) pos) (dRevL te) := by
  obtain ⟨t1, p1, q1⟩ := he.ex
  refine ⟨_, pe_revL p1, fun {G m ρ μ σ H Q K} o r t k => ?_⟩
  refine q1 o r t fun v H1 G1 m1 w μ1 l1 o1 r1 t1 => ?_
  split at t1
  · rename_i ds e
    obtain ⟨a, xs, rfl, h1, h2⟩ := rs_ok o1.rel r1 e
    refine ⟨a, xs, rfl, SqL.of h1, fun q hq => ?_⟩
    have hg := (o1.rel.new hq).1
    have l4 : Le G1 m1 (upd G1 q (.lst xs.reverse)) m1 := Le.know hg
    exact k _ _ _ m1 _ μ1 (l1.trans l4) (o1.mono l4 (o1.rel.know hq)) (.d (.lst upd_same ((reps_rev h2).mono l4.g))) t1
  · exact t1.elim
@[simp] def dMulM (ta tb : DTE) (ρ : R) (μ : M) (Q : W → M → Prop) : Prop := ta ρ μ fun x μ1 => tb ρ μ1 fun y μ2 => match rs μ2 x, rs μ2 y with
  | some (.lst xs), some (.int k) => -(2 ^ 63) ≤ k ∧ k < 2 ^ 63 ∧ xs.length * k.toNat ≤ sizeLine ∧ Q (.r μ2.length) (μ2 ++ [.lst (List.replicate k.toNat xs).flatten])
  | _, _ => False
theorem de_mulM (ha : DE X b e1 ta) (hb : DE X b e2 tb) : DE X b (.BinOp e1 .Mult e2 pos) (dMulM ta tb) := by
  obtain ⟨t1, p1, q1⟩ := ha.ex
  obtain ⟨t2, p2, q2⟩ := hb.ex
  refine ⟨_, pe_op op_rep p1 p2, fun {G m ρ μ σ H Q K} o r t k => ?_⟩
  refine q1 o r t fun x H1 G1 m1 w1 μ1 l1 o1 r1 t1 => ?_
  refine q2 o1 (r.mono l1) t1 fun y H2 G2 m2 w2 μ2 l2 o2 r2 t2 => ?_
  split at t2
  · rename_i xs j e1 e2
    obtain ⟨p, vs, rfl, h1, rp⟩ := rs_ok o2.rel (r1.mono l2) e1
    cases (show y = .int j from rs_ok o2.rel r2 e2)
    refine ⟨p, j, vs, rfl, rfl, h1, t2.1, t2.2.1, by rw [rp.len]; exact t2.2.2.1, fun q hq => ?_⟩
    exact k _ _ _ _ _ _ ((l1.trans l2).trans Le.cellNew) (o2.mono Le.cellNew (o2.rel.cellNew (c := .lst _) hq ⟨q, _, rfl, upd_same, reps_rep rp _⟩)) (.r (as := []) (by rw [← o2.rel.len]; simp)) t2.2.2.2
  · exact t2.elim
end
/-! a, b, .. = x, y, ..: the things may be mutable, the names cells -/
structure DGw (X : Cx) (b : Bs) (tgs : List Expr) (t : List W → R → M → (R → M → Prop) → Prop) : Prop where
  ex : ∃ g : TGs, PGs X tgs g ∧ ∀ {G : Hp} {m : Wd} {ρ : R} {μ : M} {σ : L2.St} {H : Hp} {vs : List V} {ws : List W} {Q : R → M → Prop} {K : L2.St → Hp → Prop}, WOk b G m μ H → RelR b.cA G m σ ρ → WRels b.cA G m vs ws → t ws ρ μ Q →
    (∀ σ' H' G' m' ρ' μ', Le G m G' m' → WOk b G' m' μ' H' → RelR b.cA G' m' σ' ρ' → Q ρ' μ' → K σ' H') → g vs σ H K
@[simp] def gwNil (ws : List W) (ρ : R) (μ : M) (Q : R → M → Prop) : Prop := match ws with
  | [] => Q ρ μ
  | _ => False
@[simp] def gwCons (t : DTG) (u : List W → R → M → (R → M → Prop) → Prop) (ws : List W) (ρ : R) (μ : M) (Q : R → M → Prop) : Prop := match ws with
  | w :: ws => t w ρ μ fun ρ1 μ1 => u ws ρ1 μ1 Q
  | _ => False
@[simp] def dParN (n : Nat) (ta : DTA) (g : List W → R → M → (R → M → Prop) → Prop) (D : DEnds) (ρ : R) (μ : M) : Prop := ta ρ μ fun ws μ1 => (ws.length = n ∧ n < 1000) ∧ g ws ρ μ1 D.nx
section
variable {X : Cx} {b : Bs} {e : Expr} {pos p1 p2 : Pos} {k1 k2 : Nat}
theorem dgw_nil : DGw X b [] gwNil := by
  refine ⟨_, pgs_nil, fun {G m ρ μ σ H vs ws Q K} o r q t k => ?_⟩
  cases q with
  | nil => exact ⟨rfl, k σ H G m ρ μ (Le.refl G m) o r t⟩
  | cons _ _ => exact t.elim
theorem dgw_cons {es : List Expr} {t : DTG} {u : List W → R → M → (R → M → Prop) → Prop} (h1 : DG X b e t) (h2 : DGw X b es u) (hs : (assignEach (e :: es) X.env).map (·.2) = assign e X.env :: (assignEach es X.env).map (·.2) := by rfl) : DGw X b (e :: es) (gwCons t u) := by
  obtain ⟨g, p, q⟩ := h1.ex
  obtain ⟨gs, ps, qs⟩ := h2.ex
  refine ⟨_, pgs_cons p ps hs, fun {G m ρ μ σ H vs ws Q K} o r rr t k => ?_⟩
  cases rr with
  | nil => exact t.elim
  | cons r1 rs => exact ⟨_, _, rfl, q o r r1 t fun σ' H' G' m' ρ' μ' l o' r' t' => qs o' r' (rs.mono l) t' fun σ2 H2 G2 m2 ρ2 μ2 l2 o2 r2 t2 => k σ2 H2 G2 m2 ρ2 μ2 (l.trans l2) o2 r2 t2⟩
theorem ds_parN {tgs es : List Expr} {ta : DTA} {g : List W → R → M → (R → M → Prop) → Prop} {n : Nat} (hc : X.calm = true) (ha : DA X b es ta) (hg : DGw X b tgs g)
    (hs : swapsWithSole [.Tuple tgs k1 p1] (.Tuple es k2 p2) pos.line X.env = pure false := by rfl) (hw : swappedStores [.Tuple tgs k1 p1] (.Tuple es k2 p2) X.env = pure none := by rfl)
    (h1 : (assignEach [.Tuple tgs k1 p1] X.env).map (·.2) = [assign (.Tuple tgs k1 p1) X.env] := by rfl) (hn : (assignEach tgs X.env).length = n := by rfl) (hst : (assignEach tgs X.env).findIdx? (·.1) = none := by rfl) : DS X b (.Assign [.Tuple tgs k1 p1] (.Tuple es k2 p2) pos) (dParN n ta g) := by
  obtain ⟨ta', pa, qa⟩ := ha.ex
  obtain ⟨gs, ps, qs⟩ := hg.ex
  refine ⟨_, ps_asg (pe_tup pa) (pg_tup hc ps hn hst) hs hw h1, fun {G m ρ μ σ H D E} o r t k => ?_⟩
  refine qa o r t fun vs H1 G1 m1 ws μ1 l1 o1 r1 t1 => ?_
  obtain ⟨⟨hl, h3⟩, t1⟩ := t1
  have hv := r1.len
  refine ⟨by rw [hv, hl]; exact Nat.le_trans (Nat.le_of_lt h3) (by decide), fun p hp => ?_⟩
  have hg' := (o1.rel.new hp).1
  have l3 : Le G1 m1 (upd G1 p (.tup vs)) m1 := Le.know hg'
  exact ⟨p, vs, rfl, SqT.of upd_same, by omega, qs (o1.mono l3 (o1.rel.know hp)) ((r.mono l1).mono l3) (r1.mono l3) t1 fun σ' H' G' m' ρ' μ' l o' r' t' => k.nx σ' H' G' m' ρ' μ' (l1.trans (l3.trans l)) o' r' t'⟩
end
end DD
namespace DD
open PySem L2
/-! ### sources of draws whose state keeps a bound -/
abbrev OK3 := Int → Int → Int → Prop
def SSw (ok : OK3) (n : Nat) (F : PG) : FS := fun ws μ P => ∃ (a b c : Int) (ds : List D), ok a b c ∧ ws = .r 0 :: ds.map W.d ∧ ds.length = n ∧ μ = [.lst (src a b c)] ∧ F ds (fun d => ∀ a' b' c' : Int, ok a' b' c' → P (.ret (.d d)) [.lst (src a' b' c')])
@[simp] def wAt (ok : OK3) (μ : M) (n : Nat) : Prop := match μ[n]? with
  | some (.lst [.int a, .int b, .int c]) => ok a b c
  | _ => False
@[simp] def cfSw (ok : OK3) (n : Nat) (F : PG) (ws : List W) (μ : M) (Q : W → M → Prop) (_xc : Exc → M → Prop) : Prop := match ws with
  | .r k :: ws' => wAt ok μ k ∧ match unD ws' with
    | some ds => ds.length = n ∧ F ds (fun d => ∀ a b c : Int, ok a b c → Q (.d d) (μ.set k (.lst (src a b c))))
    | none => False
  | _ => False
section
variable {ok : OK3} {n : Nat} {FG : PG} {ws : List W} {μ : M} {P : Res → M → Prop} {Q : W → M → Prop} {xc : Exc → M → Prop}
theorem wAt_ok {n : Nat} (h : wAt ok μ n) : ∃ a b c, μ[n]? = some (.lst (src a b c)) ∧ ok a b c := by
  unfold wAt at h
  split at h
  · exact ⟨_, _, _, by assumption, h⟩
  · exact h.elim
theorem le_sw (h : cfSw ok n FG ws μ Q xc) : callS (SSw ok n FG) ws μ Q xc := by
  unfold cfSw at h
  split at h
  · rename_i k ws'
    obtain ⟨hs, h⟩ := h
    split at h
    · rename_i ds e
      have := unD_map e
      subst this
      obtain ⟨a, b, c, hn, ho⟩ := wAt_ok hs
      refine call1 hn rfl (by simp [refsW, refs_map]) (by simp [refsW]) ⟨a, b, c, ds, ho, by simp [ren], h.1, rfl, ?_⟩
      have e3 : (fun d => ∀ a' b' c' : Int, ok a' b' c' → 1 ≤ ([.lst (src a' b' c')] : M).length ∧ Q (th [k] μ.length (.d d)) (merge μ [k] [.lst (src a' b' c')])) = fun d => ∀ a b c : Int, ok a b c → Q (.d d) (μ.set k (.lst (src a b c))) := by
        funext d
        simp [merge1l, th]
      exact e3 ▸ h.2
    · exact h.elim
  · exact h.elim
theorem len_sw (h : SSw ok n FG ws μ P) : ws.length = n + 1 := by
  obtain ⟨_, _, _, ds, _, rfl, h, _⟩ := h
  simpa using h
end
section
variable {ok : OK3} {mu : Bool} {g : DTG} {tt : DTT} {te : DTE} {vs : List Nat} {ρ : R} {Q : W → M → Prop}
theorem lc_srcw {s : Src} {rest : M} {a b c : Int} (good : Nat → D → Prop) (h0 : ok a b c) (hc : closedB (rest.length + 1) rest = true) (hz : s.items.length ≤ sizeLine) (hok : ∀ a b c acc, s.ok (.lst (src a b c) :: rest ++ [.lst acc]))
    (hstep : ∀ i w, s.items[i]? = some w → ∀ a b c acc (K : D → M → Prop) (N : M → Prop), ok a b c → (∀ d a' b' c', ok a' b' c' → good i d → K d (.lst (src a' b' c') :: rest ++ [.lst acc])) →
      g w (wipeR ρ vs) (.lst (src a b c) :: rest ++ [.lst acc]) fun ρ2 μ2 => tt ρ2 μ2 fun c μ3 => lcE te K N ρ2 c μ3)
    (hQ : ∀ ds a b c, ok a b c → ds.length = s.items.length → (∀ i d, ds[i]? = some d → good i d) → if mu then Q (.r (rest.length + 1)) (.lst (src a b c) :: rest ++ [.lst ds]) else Q (.d (.lst ds)) (.lst (src a b c) :: rest)) :
    lcB mu s g tt te vs ρ (.lst (src a b c) :: rest) Q := by
  refine ⟨fun i acc μ' => (∃ a b c, ok a b c ∧ μ' = .lst (src a b c) :: rest) ∧ acc.length = i ∧ ∀ j d, acc[j]? = some d → good j d, ⟨⟨a, b, c, h0, rfl⟩, rfl, fun j d h => by simp at h⟩, fun i acc μ' _ h => ?_, fun i w acc μ' e h => ?_, fun acc μ' h => ?_⟩
  · obtain ⟨⟨a, b, c, _, rfl⟩, _⟩ := h
    exact hok a b c acc
  · obtain ⟨⟨a, b, c, ho, rfl⟩, rfl, hg⟩ := h
    have hi := (List.getElem?_eq_some_iff.mp e).1
    refine ⟨by omega, ?_⟩
    refine hstep _ w e a b c acc (fun d' μ5 => closeL (Cell.lst (src a b c) :: rest).length acc μ5 ∧ (∃ a b c, ok a b c ∧ μ5.dropLast = .lst (src a b c) :: rest) ∧ (acc ++ [d']).length = acc.length + 1 ∧ ∀ j d, (acc ++ [d'])[j]? = some d → good j d)
      (fun μ3 => closeL (Cell.lst (src a b c) :: rest).length acc μ3 ∧ (∃ a b c, ok a b c ∧ μ3.dropLast = .lst (src a b c) :: rest) ∧ acc.length = acc.length + 1 ∧ ∀ j d, acc[j]? = some d → good j d) ho fun d a' b' c' ho' hd => ?_
    refine ⟨closeL_app.mpr ⟨by simp, rfl, by simpa [closedB, closedC] using hc⟩, ⟨a', b', c', ho', by rw [List.dropLast_concat]⟩, by simp, fun j x hj => ?_⟩
    by_cases hlt : j < acc.length
    · rw [List.getElem?_append_left hlt] at hj
      exact hg j x hj
    · have : j = acc.length := by
        have := (List.getElem?_eq_some_iff.mp hj).1
        simp at this
        omega
      subst this
      simp at hj
      subst hj
      exact hd
  · obtain ⟨⟨a, b, c, ho, rfl⟩, hl, hg⟩ := h
    exact hQ acc a b c ho hl hg
end
/-! what stands in a list is taken as data: the list changes no more -/
@[simp] def dEsc (t : DTE) (ρ : R) (μ : M) (Q : W → M → Prop) : Prop := t ρ μ fun w μ1 => match esc μ1 w with
  | some (d, μ2) => Q (.d d) μ2
  | none => False
theorem de_esc {X : Cx} {b : Bs} {e : Expr} {t : DTE} (h : DE X b e t) : DE X b e (dEsc t) := by
  obtain ⟨te, p, q⟩ := h.ex
  refine ⟨te, p, fun {G m ρ μ σ H Q K} o r tt k => q o r tt fun v H1 G1 m1 w μ1 l1 o1 r1 t1 => ?_⟩
  split at t1
  · rename_i d μ2 e
    obtain ⟨G2, l2, r2, rp⟩ := esc_ok o1.rel r1 e
    exact k v H1 G2 m1 (.d d) μ2 (l1.trans l2) (o1.mono l2 r2) (.d rp) t1
  · exact t1.elim
/-! what the order says of pairs of tuples -/
def pairT (p : List Nat × List Nat) : D := .tup [.tup (nats p.1), .tup (nats p.2)]
theorem toPs_nats (l : List Nat) : toPs (nats l) = some (l.map fun i : Nat => PyData.int i) := by
  induction l with
  | nil => rfl
  | cons a l ih => simp [nats, toPs, toP] at ih ⊢; rw [ih]
theorem toP_pairT (p : List Nat × List Nat) : toP (pairT p) = some (.tuple [.tuple (p.1.map fun i : Nat => PyData.int i), .tuple (p.2.map fun i : Nat => PyData.int i)]) := by
  simp [pairT, toP, toPs, toPs_nats]
theorem alike_intsN : ∀ a c : List Nat, PySem.W.alikeAll (a.map fun i : Nat => PyData.int i) (c.map fun i : Nat => PyData.int i) = true
  | [], _ => by simp [PySem.W.alikeAll]
  | _ :: _, [] => by simp [PySem.W.alikeAll]
  | a :: as, c :: cs => by simp [PySem.W.alikeAll, PySem.W.alike, alike_intsN as cs]
theorem toPs_pairs (l : List (List Nat × List Nat)) : toPs (l.map pairT) = some (l.map fun p => .tuple [.tuple (p.1.map fun i : Nat => PyData.int i), .tuple (p.2.map fun i : Nat => PyData.int i)]) := by
  induction l with
  | nil => rfl
  | cons p l ih => simp [toPs, toP_pairT, ih]
theorem dlt_pairT {x y : Nat} {t u s s' : List Nat} (h : x ≠ y) : dltD (pairT (x :: t, s)) (pairT (y :: u, s')) = decide (x < y) := by
  have e1 : PyData.eqv (.int (x : Int)) (.int (y : Int)) = false := by
    simp [PyData.eqv]
    omega
  have e2 : PyData.eqv (.tuple ((x :: t).map fun i : Nat => PyData.int i)) (.tuple ((y :: u).map fun i : Nat => PyData.int i)) = false := by
    simp [PyData.eqv, PyData.eqvAll]
    intro h
    omega
  unfold dltD
  rw [toP_pairT, toP_pairT]
  simp only [Option.getD_some]
  rw [PySem.W.dataLt_tuple, PySem.W.dataLt_all_no (by simp [PySem.W.alike, PySem.W.alikeAll, alike_intsN]) e2, PySem.W.dataLt_tuple, List.map_cons, List.map_cons, PySem.W.dataLt_all_no rfl e1, PySem.W.dataLt_int]
  simp
/-- pairs with different first numbers are sorted by them -/
theorem sort_pairs {l m es : List (List Nat × List Nat)} (hp : es.Perm l) (hs : (es.map pairT).Pairwise fun x y => dltD y x = false) (hm : m.Perm l) (ms : m.Pairwise fun a b => ∃ x t y u, a.1 = x :: t ∧ b.1 = y :: u ∧ x < y) : es = m := by
  have hpm : es.Perm m := hp.trans hm.symm
  rw [List.pairwise_map] at hs
  clear hp hm
  induction m generalizing es with
  | nil => exact hpm.eq_nil
  | cons c m ih =>
    cases es with
    | nil => exact absurd hpm.length_eq (by simp)
    | cons e es =>
      obtain ⟨m1, m2⟩ := List.pairwise_cons.mp ms
      obtain ⟨s1, s2⟩ := List.pairwise_cons.mp hs
      have hec : e = c := by
        have he : e ∈ c :: m := hpm.mem_iff.mp (List.mem_cons_self ..)
        rcases List.mem_cons.mp he with h | he
        · exact h
        have hc : c ∈ e :: es := hpm.mem_iff.mpr (List.mem_cons_self ..)
        rcases List.mem_cons.mp hc with h | hc
        · exact h.symm
        obtain ⟨x, t, y, u, q1, q2, q3⟩ := m1 e he
        have := s1 c hc
        obtain ⟨c1, c2⟩ := c
        obtain ⟨e1, e2⟩ := e
        simp only at q1 q2
        subst q1 q2
        rw [dlt_pairT (by omega)] at this
        simp at this
        omega
      subst hec
      rw [ih s2 m2 hpm.cons_inv]
theorem pairs_alike (l : List (List Nat × List Nat)) : PySem.W.AllAlike (l.map fun p => PyData.tuple [.tuple (p.1.map fun i : Nat => PyData.int i), .tuple (p.2.map fun i : Nat => PyData.int i)]) := fun d hd d' hd' => by
  obtain ⟨p, _, rfl⟩ := List.mem_map.mp hd
  obtain ⟨q, _, rfl⟩ := List.mem_map.mp hd'
  simp [PySem.W.alike, PySem.W.alikeAll, alike_intsN]
theorem pairs_sortable (l : List (List Nat × List Nat)) : PySem.W.Sortable (l.map fun p => PyData.tuple [.tuple (p.1.map fun i : Nat => PyData.int i), .tuple (p.2.map fun i : Nat => PyData.int i)]) := .inl fun d hd => by
  obtain ⟨p, _, rfl⟩ := List.mem_map.mp hd
  exact ⟨_, _, rfl⟩
theorem okD_nats2 (n : Nat) (l : List Nat) : okDs n (nats l) = true := by
  induction l with
  | nil => rfl
  | cons a l ih => simp [nats, okDs] at ih ⊢; exact ih
theorem okDs_pairs (n : Nat) (l : List (List Nat × List Nat)) : okDs (n + 2) (l.map pairT) = true := by
  induction l with
  | nil => rfl
  | cons p l ih => simp [okDs, ih, pairT, okD, okD_nats2]
/-- sorted(..) of such pairs -/
theorem sortD_pairs {l m : List (List Nat × List Nat)} {q : D → Prop} (hm : m.Perm l) (ms : m.Pairwise fun a b => ∃ x t y u, a.1 = x :: t ∧ b.1 = y :: u ∧ x < y) (h : q (.lst (m.map pairT))) : fSortD [.lst (l.map pairT)] q := by
  refine ⟨l.map pairT, _, rfl, toPs_pairs l, okDs_pairs 58 l, pairs_alike l, pairs_sortable l, fun es h1 h2 => ?_⟩
  obtain ⟨hs, rfl, h3⟩ := perm_map h1
  rw [sort_pairs h3 h2 hm ms]
  exact h
end DD
namespace DD
open PySem L2 PySem.Spec PyProof.Rows

/-! ### try with several clauses, some of them `as n` -/
/-- a clause: its class, the slot of its name (if it has one), its suite's reading -/
abbrev Cls1 := Value × Option Nat × (Addr → Value → Option Addr → TS)
def asEnd (i : Nat) (D : Ends) : Ends := { nx := fun σ' H' => D.nx (σ'.set i none) H', rt := D.rt, bk := fun σ' H' => D.bk (σ'.set i none) H', ct := fun σ' H' => D.ct (σ'.set i none) H' }
def wMix (K : PySem.W.Frag) (Wout : WX) (D : Ends) : List Cls1 → WX
  | [] => Wout
  | (c, none, ts) :: r => fun cls d σ H => ∃ b, PySem.W.exmOne K cls c = some b ∧ (b = true → ∀ a, H a = none → ts a cls d D σ H) ∧ (b = false → wMix K Wout D r cls d σ H)
  | (c, some i, ts) :: r => fun cls d σ H => ∃ b, PySem.W.exmOne K cls c = some b ∧ (b = true → ∀ a, H a = none → ts a cls d (asEnd i D) (σ.set i (some (.ref a))) H) ∧ (b = false → wMix K Wout D r cls d σ H)
abbrev SuiteOk (X : Cx) (sts : List Stmt) (ts : Addr → Value → Option Addr → TS) : Prop :=
  ∀ (a : Addr) (oe : Obj) (cls : Value) (d : Option Addr) (pn : List (Addr × Obj)), Zc cls d oe → (∃ vs, oe.data = .fields vs) → PSs (X.suite a ((a, oe) :: pn)) sts (ts a cls d)
inductive HdsMix (X : Cx) : List ExceptHandler → List Cls1 → Prop
  | nil : HdsMix X [] []
  | cons {x : Str} {c : Value} {ts : Addr → Value → Option Addr → TS} {b₀ : Stmt} {suite : List Stmt} {np pos' : Pos} {hds : List ExceptHandler} {l : List Cls1} (hc : Names X x c) (hsu : SuiteOk X (b₀ :: suite) ts) (r : HdsMix X hds l) :
      HdsMix X (.ExceptHandler (some (.Name x np)) none (b₀ :: suite) pos' :: hds) ((c, none, ts) :: l)
  | consAs {x n : Str} {i : Nat} {c : Value} {ts : Addr → Value → Option Addr → TS} {b₀ : Stmt} {suite : List Stmt} {np pos' : Pos} {hds : List ExceptHandler} {l : List Cls1} (hi : X.N[i]? = some n) (hln : X.env.kindOf n = some .local) (hc : Names X x c) (hsu : SuiteOk X (b₀ :: suite) ts) (r : HdsMix X hds l) :
      HdsMix X (.ExceptHandler (some (.Name x np)) (some n) (b₀ :: suite) pos' :: hds) ((c, some i, ts) :: l)
section
variable {X : Cx} {body : List Stmt} {h₀ : ExceptHandler} {hds : List ExceptHandler} {l : List Cls1} {pos : Pos} {tb : WX → TS} {Wout : WX}
theorem ps_try_mix (hs : X.stack = X.env :: X.outer) (hf : X.env.frame = some X.env.locals) (hN : X.N.Nodup) (tk : Takes X Wout)
    (hb : ∀ (W : WX) (pn : List (Addr × Obj)) (xe : Value → Shared → Prop), Takes (X.tr pn xe) W → PassesOwn (model X.prog X.w) X.A X.env xe → PSs (X.tr pn xe) body (tb W))
    (hh : HdsMix X (h₀ :: hds) l) : PS X (.Try body (h₀ :: hds) [] [] pos) (fun D σ H => tb (wMix X.K Wout D l) D σ H) := by
  refine ⟨fun pins s σ H D I h => ?_⟩
  have ok := I.ok
  have hfr : X.A.frames = some (X.env :: X.outer) := by rw [ok.frames, hs]
  refine wpAny_Try_except ?_
  refine wpAny_mono ((hb (wMix X.K Wout D l) (X.pn ++ pins) (fun e s₁ => wpAny (model X.prog X.w) X.A (noteFrame e X.env) (fun _ s₂ => wpAny (model X.prog X.w) X.A (setFlight e none) (fun _ s₃ =>
    wpAny (model X.prog X.w) X.A (handleBy e X.env (h₀ :: hds)) (SP X pins D) X.xe s₃) X.xe s₂) X.xe s₁) (fun u s' xx => ?_) PassesOwn.looking).run [] s σ H D (I.toTry _) h) (fun f s1 hsp => ?_) (fun e s1 he => he)
  · obtain ⟨a, B, sI, pins', σ', H', cls, d, rfl, J', nb, up, sky, na, os, ag, w⟩ := xx
    have J : Inv X pins σ' H' sI := J'.ofTry ok
    have sky' : Sky B (X.env :: X.outer) a (Zc cls d) X.env.locals s'.heap := by rw [← hs]; exact sky
    show wpAny (model X.prog X.w) X.A (noteFrame (.ref a) X.env) _ _ _
    refine Sky.land Zc.steady hfr hf sky' fun h3 fl3 up3 => ?_
    have J3 : Inv X pins σ' H' { s' with heap := h3 } := J.landed nb fl3.1 (up.trans up3) os ag
    obtain ⟨oe3, vs3, he3, hz3, hd3⟩ := fl3.there
    have nfr : a ∉ frs (X.env :: X.outer) := fun hm => by
      obtain ⟨_, o', e', hnf⟩ := fl3.2.2.1.mem hm
      rw [he3] at e'; cases e'
      exact hnf _ hd3
    have nL : a ≠ X.env.locals := fun z => nfr (List.mem_filterMap.mpr ⟨X.env, List.mem_cons_self, by rw [hf, z]⟩)
    have nF : a ∉ X.fs := fun hm => by
      obtain ⟨e, he, q⟩ := List.mem_filterMap.mp hm
      exact nfr (List.mem_filterMap.mpr ⟨e, List.mem_cons_of_mem _ he, q⟩)
    have S3 := J3.suite he3 hd3 na nL nF
    have LT : PySem.W.Looks (model X.prog X.w) h3 (typeOf (.ref a)) cls := fun A Q E s k q => wpAny_typeOf_ref (k _ _ he3) (by rw [hz3.1]; exact q)
    have test : ∀ {x : Str} {np : Pos} {c : Value} {Q : Value → Shared → Prop} {E : Value → Shared → Prop}, Names X x c → Q c { s' with heap := h3 } → wpAny (model X.prog X.w) (X.A.mark (some (.ref a))) (eval (.Name x np) X.env) Q E { s' with heap := h3 } := fun {x np c Q E} hc q => by
      obtain ⟨hg, hdbg, hm | ⟨hm, hv, hnn⟩⟩ := hc
      · exact ld_glob (X := X.suite a ((a, oe3) :: (X.pn ++ pins))) S3 hg hm q hdbg
      · exact ld_blt (X := X.suite a ((a, oe3) :: (X.pn ++ pins))) S3 hg hm hv q hnn hdbg
    have go : ∀ {hds' : List ExceptHandler} {l' : List Cls1}, HdsMix X hds' l' → wMix X.K Wout D l' cls d σ' H' →
        wpAny (model X.prog X.w) X.A (handleBy (.ref a) X.env hds') (SP X pins D) X.xe { s' with heap := h3 } := by
      intro hds' l' hk
      induction hk with
      | nil =>
        intro w
        refine wpAny_handleBy_nil ?_
        obtain ⟨k1, k2, k3, oe, vs, T, oT, ts', he, hz, hd, h1, hr⟩ := id fl3
        unfold PySem.passOn
        refine wpAny_bind (wpAny_field he hd h1 ?_)
        rw [if_neg (show ¬ ((Value.ref T == Value.none) = true) from by simp)]
        have fin : wpAny (model X.prog X.w) X.A (setFlight (.ref a) X.env.frame) (fun _ s4 => wpAny (model X.prog X.w) X.A (throw (.ref a) : Sem Flow) (SP X pins D) X.xe s4) X.xe { s' with heap := h3 } := by
          rw [hf]
          refine HandSPX.setFlight_upZ fl3 fun h4 hh4 up4 => wpAny_throw (tk _ _ ?_)
          exact ⟨a, B, sI, pins, σ', H', cls, d, rfl, J, nb, (up.trans up3).trans up4, .inr (.inr (by rw [hs]; exact hh4)), na, os, ag, w⟩
        first
          | exact wpAny_bind (wpAny_pure (wpAny_bind fin))
          | exact wpAny_bind fin
      | @cons x c ts b₀ suite np pos' hds2 l2 hc hsu r ih =>
        intro w
        obtain ⟨b, hb1, hyes, hno⟩ := w
        refine wpAny_handleBy_cons (codeAny_handlers_test ?_) (by intro q; cases q)
        have LM := PySem.W.exm_one (M := model X.prog X.w) (J3.kIn) LT hb1
        refine test hc (LM.here ?_)
        cases b with
        | true =>
          refine codeAny_handlers_suite ?_
          refine HandSPX.lands_againZ fl3 fun h4 fl4 up4 => ?_
          have J4 : Inv X pins σ' H' { s' with heap := h4 } := J.landed nb fl4.1 ((up.trans up3).trans up4) os ag
          obtain ⟨oe4, vs4, he4, hz4, hd4⟩ := fl4.there
          have S4 := J4.suite he4 hd4 na nL nF
          refine wpAny_mono ((hsu a oe4 cls d (X.pn ++ pins) hz4 ⟨_, hd4⟩).run [] _ _ H' _ S4 (hyes rfl a na)) (fun f s6 hsp => ?_) (fun _ _ z => False.elim z)
          cases f with
          | next =>
            obtain ⟨σ6, H6, S6, q6⟩ := hsp
            exact ⟨_, _, S6.unsuite ok, q6⟩
          | brk =>
            obtain ⟨σ6, H6, S6, q6⟩ := hsp
            exact ⟨_, _, S6.unsuite ok, q6⟩
          | cont =>
            obtain ⟨σ6, H6, S6, q6⟩ := hsp
            exact ⟨_, _, S6.unsuite ok, q6⟩
          | ret u =>
            obtain ⟨v6, σ6, H6, S6, r6, q6⟩ := hsp
            exact ⟨_, _, _, S6.unsuite ok, r6, q6⟩
        | false =>
          show wpAny _ X.A (handleBy (.ref a) X.env hds2) _ _ _
          exact ih (hno rfl)
      | @consAs x n i c ts b₀ suite np pos' hds2 l2 hi hln hc hsu r ih =>
        intro w
        obtain ⟨b, hb1, hyes, hno⟩ := w
        refine wpAny_handleBy_cons (codeAny_handlers_test ?_) (by intro q; cases q)
        have LM := PySem.W.exm_one (M := model X.prog X.w) (J3.kIn) LT hb1
        refine test hc (LM.here ?_)
        cases b with
        | true =>
          refine codeAny_handlers_suite_as ?_
          refine HandSPX.lands_againZ fl3 fun h4 fl4 up4 => ?_
          have J4 : Inv X pins σ' H' { s' with heap := h4 } := J.landed nb fl4.1 ((up.trans up3).trans up4) os ag
          obtain ⟨oe4, vs4, he4, hz4, hd4⟩ := fl4.there
          have S4 := J4.suite he4 hd4 na nL nF
          refine store_ok (X := X.suite a ((a, oe4) :: (X.pn ++ pins))) (v := .ref a) S4 hN hi (.inl hln) rfl (fun s5 S5 => ?_) (.inr hln)
          refine wpAny_mono ((hsu a oe4 cls d (X.pn ++ pins) hz4 ⟨_, hd4⟩).run [] s5 _ H' _ S5 (hyes rfl a na)) (fun f s6 hsp => ?_) (fun _ _ z => False.elim z)
          have end_ : ∀ {σ6 : L2.St} {H6 : Hp} {Q : Shared → Prop}, Inv (X.suite a ((a, oe4) :: (X.pn ++ pins))) [] σ6 H6 s6 → (∀ s7, Inv X pins (σ6.set i none) H6 s7 → Q s7) →
              wpAny (model X.prog X.w) X.A (do bindName X.env n .none; unbindBehindTheSuite X.env n pos') (fun _ s7 => Q s7) X.xe s6 := fun {σ6 H6 Q} S6 hq => gone_ok (S6.unsuite ok) hN hi hln hq
          cases f with
          | next =>
            obtain ⟨σ6, H6, S6, q6⟩ := hsp
            exact end_ S6 fun s7 J7 => ⟨_, _, J7, q6⟩
          | brk =>
            obtain ⟨σ6, H6, S6, q6⟩ := hsp
            exact end_ S6 fun s7 J7 => ⟨_, _, J7, q6⟩
          | cont =>
            obtain ⟨σ6, H6, S6, q6⟩ := hsp
            exact end_ S6 fun s7 J7 => ⟨_, _, J7, q6⟩
          | ret u =>
            obtain ⟨v6, σ6, H6, S6, r6, q6⟩ := hsp
            exact end_ S6 fun s7 J7 => ⟨_, _, _, J7, r6, q6⟩
        | false =>
          show wpAny _ X.A (handleBy (.ref a) X.env hds2) _ _ _
          exact ih (hno rfl)
    exact go hh w
  · cases f with
    | next =>
      obtain ⟨σ', H', J', q⟩ := hsp
      exact wpAny_execs_nil ⟨σ', H', J'.ofTry ok, q⟩
    | brk =>
      obtain ⟨σ', H', J', q⟩ := hsp
      exact ⟨σ', H', J'.ofTry ok, q⟩
    | cont =>
      obtain ⟨σ', H', J', q⟩ := hsp
      exact ⟨σ', H', J'.ofTry ok, q⟩
    | ret u =>
      obtain ⟨v, σ', H', J', r, q⟩ := hsp
      exact ⟨v, σ', H', J'.ofTry ok, r, q⟩
end
end DD
namespace DD
open PySem L2 PySem.Spec PyProof.Rows

/-! ### try: the reading -/
/-- a clause: which classes it takes, the slot of its name, its suite's reading (the exception, the number of its cell) -/
structure DCl where
  tab : Nat → Option Bool
  slot : Option Nat
  t : Exc → Nat → DTS
@[simp] def asR (i : Nat) (D : DEnds) : DEnds := { nx := fun ρ μ => D.nx (ρ.set i none) μ, rt := D.rt, bk := fun ρ μ => D.bk (ρ.set i none) μ, ct := fun ρ μ => D.ct (ρ.set i none) μ }
@[simp] def wMD (xc : Exc → M → Prop) (D : DEnds) (ρ0 : R) : List DCl → Exc → M → Prop
  | [], e, μ => xc e μ
  | k :: r, e, μ => match k.tab e.c with
    | some true => match k.slot with
      | none => k.t e 0 D ρ0 μ
      | some i => ∀ S, k.t e μ.length (asR i D) (ρ0.set i (some (.r μ.length))) (μ ++ [.scr [] S])
    | some false => wMD xc D ρ0 r e μ
    | none => False
@[simp] def dTry (xc : Exc → M → Prop) (n : Nat) (t : (Exc → M → Prop) → DTS) (cs : List DCl) (D : DEnds) (ρ : R) (μ : M) : Prop :=
  t (wMD xc D (List.replicate n none) cs) D ρ μ
/-- the exception e in a suite: its place is known, its dict stays -/
structure XIn (b : Bs) (a : Addr) (k : Nat) (e : Exc) (cls : Value) (d : Option Addr) : Prop where
  at_ : b.m0[k]? = some [a]
  cls : cls = .ref (b.cA e.c)
  fl : (e.fs = [] ∧ e.ds = [] ∧ d = none) ∨ ∃ dd xs, d = some dd ∧ (∀ {G m μ H}, WOk b G m μ H → H dd = some (.xd (e.fs.zip xs))) ∧ e.fs.length = xs.length ∧ Reps b.cA b.G0 xs e.ds
inductive DHds (X : Cx) (cA : Nat → Addr) : List ExceptHandler → List DCl → Prop
  | nil : DHds X cA [] []
  | cons {x : Str} {c : Nat} {tab : Nat → Option Bool} {t : DTS} {b₀ : Stmt} {suite : List Stmt} {np pos' : Pos} {hds : List ExceptHandler} {l : List DCl} (hc : Names X x (.ref (cA c)))
      (ht : ∀ k v, tab k = some v → PySem.W.exmOne X.K (.ref (cA k)) (.ref (cA c)) = some v)
      (hsu : ∀ (a : Addr) (oe : Obj) (pn : List (Addr × Obj)) (b' : Bs), b'.cA = cA → DSs (X.suite a ((a, oe) :: pn)) b' (b₀ :: suite) t) (r : DHds X cA hds l) :
      DHds X cA (.ExceptHandler (some (.Name x np)) none (b₀ :: suite) pos' :: hds) (⟨tab, none, fun _ _ => t⟩ :: l)
  | consAs {x n : Str} {i c : Nat} {tab : Nat → Option Bool} {t : Exc → Nat → DTS} {b₀ : Stmt} {suite : List Stmt} {np pos' : Pos} {hds : List ExceptHandler} {l : List DCl} (hi : X.N[i]? = some n) (hln : X.env.kindOf n = some .local) (hc : Names X x (.ref (cA c)))
      (ht : ∀ k v, tab k = some v → PySem.W.exmOne X.K (.ref (cA k)) (.ref (cA c)) = some v)
      (hsu : ∀ (a : Addr) (oe : Obj) (cls : Value) (d : Option Addr) (pn : List (Addr × Obj)) (b' : Bs) (e : Exc) (k : Nat), b'.cA = cA → XIn b' a k e cls d → Zc cls d oe → (∃ vs, oe.data = .fields vs) → DSs (X.suite a ((a, oe) :: pn)) b' (b₀ :: suite) (t e k)) (r : DHds X cA hds l) :
      DHds X cA (.ExceptHandler (some (.Name x np)) (some n) (b₀ :: suite) pos' :: hds) (⟨tab, some i, t⟩ :: l)
/-- a suite's reading, all its worlds at once -/
def suiT (OK : Bs → DTS → Prop) : TS := fun D σ H => ∃ (b : Bs) (t : DTS) (G : Hp) (m : Wd) (ρ : R) (μ : M) (DD : DEnds), OK b t ∧ WOk b G m μ H ∧ RelR b.cA G m σ ρ ∧ t DD ρ μ ∧ EOk b G m DD D
theorem suiT_ok {X : Cx} {sts : List Stmt} {OK : Bs → DTS → Prop} (h : ∀ b t, OK b t → DSs X b sts t) : PSs X sts (suiT OK) := by
  refine ⟨fun pins s σ H D I hh => ?_⟩
  obtain ⟨b, t, G, m, ρ, μ, DD, ok, w, r, tt, e⟩ := hh
  obtain ⟨ts, p, q⟩ := (h b t ok).ex
  exact p.run pins s σ H D I (q w r tt e)
section
variable {cA : Nat → Addr} {U G G' H H' : Hp} {m m' : Wd} {μ : M} {σ : L2.St} {ρ : R}
theorem RelR.unset (r : RelR cA G m σ ρ) (i : Nat) : RelR cA G m (σ.set i none) (ρ.set i none) := by
  refine ⟨by simp [r.1], fun j z h => ?_⟩
  by_cases e : i = j
  · subst e
    by_cases hl : i < ρ.length
    · rw [List.getElem?_set_self hl] at h
      cases h
    · rw [List.getElem?_eq_none (by simpa using hl)] at h
      cases h
  · rw [List.getElem?_set_ne e] at h
    obtain ⟨x, h1, h2⟩ := r.2 j z h
    exact ⟨x, by rw [List.getElem?_set_ne e]; exact h1, h2⟩
theorem RelR.fresh {n : Nat} (h : σ.length = n) : RelR cA G m σ (List.replicate n none) :=
  ⟨by simp [h], fun i w e => by
    by_cases hi : i < n
    · rw [List.getElem?_replicate_of_lt hi] at e
      cases e
    · rw [List.getElem?_eq_none (by simpa using hi)] at e
      cases e⟩
/-- what stands and is nobody's is known from now on -/
theorem RelM.knowAt (r : RelM cA U G m μ H) {p : Addr} {o : HO} (h : H p = some o) (hg : G p = none) (hu : U p = none) (hn : ∀ (i : Nat) (c : Cell) (as : List Addr), μ[i]? = some c → m[i]? = some as → c.live = true → p ∉ as) : RelM cA U (upd G p o) m μ H := by
  have l : Le G m (upd G p o) m := ⟨(Sub.refl G).new hg, fun _ _ e => e⟩
  refine ⟨r.uh, fun a u e => ?_, fun a u e => ?_, r.len, fun i c as h1 h2 => (r.cell i c as h1 h2).mono l fun _ _ _ _ z => z, r.nd, r.apart, fun i c as a h1 h2 h3 h4 => ?_⟩
  · by_cases q : a = p
    · subst q
      rw [upd_same] at e
      cases e
      exact h
    · rw [upd_ne q] at e
      exact r.gh a u e
  · rw [upd_ne (ne_of_none e hu)]
    exact r.ug a u e
  · rw [upd_ne (fun q : a = p => hn i c as h1 h2 h3 (by rw [← q]; exact h4))]
    exact r.free i c as a h1 h2 h3 h4
theorem cell_no_xd {c : Cell} {as : List Addr} {p : Addr} {fs : List (Str × V)} (h : CellOk cA G m H as c) (lv : c.live = true) (e : H p = some (.xd fs)) : p ∉ as := by
  intro hp
  cases c with
  | lst ds => obtain ⟨q, xs, rfl, e2, _⟩ := h; simp at hp; subst hp; rw [e] at e2; cases e2
  | lstW ws => obtain ⟨q, xs, rfl, e2, _⟩ := h; simp at hp; subst hp; rw [e] at e2; cases e2
  | ins c fs ws => obtain ⟨q, dx, xs, rfl, e2, _⟩ := h; simp at hp; subst hp; rw [e] at e2; cases e2
  | dic ks ds => obtain ⟨q, xs, rfl, e2, _⟩ := h; simp at hp; subst hp; rw [e] at e2; cases e2
  | dicT ks ds => obtain ⟨q, xs, rfl, e2, _⟩ := h; simp at hp; subst hp; rw [e] at e2; cases e2
  | frz d => cases lv
  | tab P q => obtain ⟨rfl, ps, e2, _⟩ := h; simp at hp; subst hp; rw [e] at e2; cases e2
  | fn f c q => cases lv
  | scr ns S => cases lv
/-- a cell for an address that nobody reads through -/
theorem RelM.scrNew (r : RelM cA U G m μ H) (a : Addr) : RelM cA U G (m ++ [[a]]) (μ ++ [.scr [] (fun p => p = a)]) H := by
  have l : Le G m G (m ++ [[a]]) := Le.cellNew
  have split : ∀ (i : Nat) (c' : Cell) (as : List Addr), (μ ++ [Cell.scr [] (fun p => p = a)])[i]? = some c' → (m ++ [[a]])[i]? = some as → (μ[i]? = some c' ∧ m[i]? = some as) ∨ (c' = Cell.scr [] (fun p => p = a) ∧ as = [a]) := fun i c' as h1 h2 => by
    have hl := r.len
    by_cases hi : i < μ.length
    · rw [List.getElem?_append_left hi] at h1
      rw [List.getElem?_append_left (by omega)] at h2
      exact .inl ⟨h1, h2⟩
    · have : i = μ.length := by
        have := (List.getElem?_eq_some_iff.mp h1).1
        simp at this
        omega
      subst this
      rw [List.getElem?_append_right (by omega)] at h1 h2
      simp [hl] at h1 h2
      exact .inr ⟨h1.symm, h2.symm⟩
  refine ⟨r.uh, r.gh, r.ug, by simp [r.len], fun i c as h1 h2 => ?_, fun i c as h1 h2 lv => ?_, fun i j c c' as as' x h1 h2 h3 h4 lv lv' h7 h8 => ?_, fun i c as x h1 h2 lv h4 => ?_⟩
  · rcases split i c as h1 h2 with ⟨e1, e2⟩ | ⟨rfl, rfl⟩
    · exact (r.cell i c as e1 e2).mono l fun _ _ _ _ z => z
    · exact ⟨a, rfl, .inr rfl⟩
  · rcases split i c as h1 h2 with ⟨e1, e2⟩ | ⟨rfl, rfl⟩
    · exact r.nd i c as e1 e2 lv
    · cases lv
  · rcases split i c as h1 h3 with ⟨e1, e2⟩ | ⟨rfl, rfl⟩
    · rcases split j c' as' h2 h4 with ⟨f1, f2⟩ | ⟨rfl, rfl⟩
      · exact r.apart i j c c' as as' x e1 f1 e2 f2 lv lv' h7 h8
      · cases lv'
    · cases lv
  · rcases split i c as h1 h2 with ⟨e1, e2⟩ | ⟨rfl, rfl⟩
    · exact r.free i c as x e1 e2 lv h4
    · cases lv
end
section
variable {X : Cx} {b : Bs} {body : List Stmt} {h₀ : ExceptHandler} {hds : List ExceptHandler} {cs : List DCl} {pos : Pos} {n : Nat} {t : (Exc → M → Prop) → DTS}
/-- what the clauses wish of an exception -/
theorem hds_ok (h : DHds X b.cA hds cs) : ∃ l, HdsMix X hds l ∧ ∀ {G : Hp} {m : Wd} {D : DEnds} {E : Ends} {cls : Value} {d : Option Addr} {σ' : L2.St} {H' : Hp} {e : Exc} {G' : Hp} {m' : Wd} {μ' : M}, σ'.length = n → Le b.G0 b.m0 G m → Le G m G' m' → RelM b.cA b.U G' m' μ' H' → ExcAt b.cA G' H' cls d e →
    wMD b.xc D (List.replicate n none) cs e μ' → EOk b G m D E → wMix X.K (fun cls d _ H => EX b cls d H) E l cls d σ' H' := by
  induction h with
  | nil => exact ⟨[], .nil, fun {G m D E cls d σ' H' e G' m' μ'} hl l0 l rm ea w k => ⟨e, G', m', μ', l0.trans l, rm, ea, w⟩⟩
  | @cons x c tab t b₀ suite np pos' hds l hc ht hsu r ih =>
    obtain ⟨l2, h2, w2⟩ := ih
    refine ⟨_, .cons (ts := fun a cls d => suiT fun b' t' => b'.cA = b.cA ∧ t' = t) hc (fun a oe cls d pn hz hv => suiT_ok ?_) h2, ?_⟩
    · rintro b' t' ⟨e1, rfl⟩
      exact hsu a oe pn b' e1
    · intro G m D E cls d σ' H' e G' m' μ' hl l0 l rm ea w k
      have ec := ea.1
      simp only [wMD] at w
      cases ht' : tab e.c with
      | none => rw [ht'] at w; exact w.elim
      | some v =>
        rw [ht'] at w
        refine ⟨v, by rw [ec]; exact ht _ _ ht', fun hv a na => ?_, fun hv => ?_⟩
        · subst hv
          exact ⟨⟨b.cA, b.U, G', m', fun _ _ => False⟩, t, G', m', _, μ', D, ⟨rfl, rfl⟩, ⟨Le.refl _ _, rm⟩, RelR.fresh hl, w,
            ⟨fun σ H G1 m1 ρ μ l1 o1 => k.nx σ H G1 m1 ρ μ (l.trans l1) ⟨(l0.trans l).trans l1, o1.rel⟩, fun v H G1 m1 w μ l1 o1 => k.rt v H G1 m1 w μ (l.trans l1) ⟨(l0.trans l).trans l1, o1.rel⟩,
              fun σ H G1 m1 ρ μ l1 o1 => k.bk σ H G1 m1 ρ μ (l.trans l1) ⟨(l0.trans l).trans l1, o1.rel⟩, fun σ H G1 m1 ρ μ l1 o1 => k.ct σ H G1 m1 ρ μ (l.trans l1) ⟨(l0.trans l).trans l1, o1.rel⟩⟩⟩
        · subst hv
          exact w2 hl l0 l rm ea w k
  | @consAs x nm i c tab t b₀ suite np pos' hds l hi hln hc ht hsu r ih =>
    obtain ⟨l2, h2, w2⟩ := ih
    refine ⟨_, .consAs (ts := fun a cls d => suiT fun b' t' => b'.cA = b.cA ∧ ∃ e k, XIn b' a k e cls d ∧ t' = t e k) hi hln hc (fun a oe cls d pn hz hv => suiT_ok ?_) h2, ?_⟩
    · rintro b' t' ⟨e1, e, k, hx, rfl⟩
      exact hsu a oe cls d pn b' e k e1 hx hz hv
    · intro G m D E cls d σ' H' e G' m' μ' hl l0 l rm ea w k
      have ec := ea.1
      simp only [wMD] at w
      cases ht' : tab e.c with
      | none => rw [ht'] at w; exact w.elim
      | some v =>
        rw [ht'] at w
        refine ⟨v, by rw [ec]; exact ht _ _ ht', fun hv a na => ?_, fun hv => ?_⟩
        · subst hv
          have w := w (fun p => p = a)
          have key : ∃ G'', Le G' m' G'' m' ∧ RelM b.cA b.U G'' m' μ' H' ∧ ((e.fs = [] ∧ e.ds = [] ∧ d = none) ∨ ∃ dd xs, d = some dd ∧ (G'' dd = some (.xd (e.fs.zip xs)) ∨ b.U dd = some (.xd (e.fs.zip xs))) ∧ e.fs.length = xs.length ∧ Reps b.cA G'' xs e.ds) := by
            rcases ea.2 with z | ⟨dd, xs, e1, e2, e3, e4⟩
            · exact ⟨G', Le.refl _ _, rm, .inl z⟩
            · cases eg : G' dd with
              | some o =>
                have := rm.gh dd o eg
                rw [e2] at this
                cases this
                exact ⟨G', Le.refl _ _, rm, .inr ⟨dd, xs, e1, .inl eg, e3, e4⟩⟩
              | none =>
                cases eu : b.U dd with
                | some o =>
                  have := rm.uh dd o eu
                  rw [e2] at this
                  cases this
                  exact ⟨G', Le.refl _ _, rm, .inr ⟨dd, xs, e1, .inr eu, e3, e4⟩⟩
                | none =>
                  exact ⟨upd G' dd (.xd (e.fs.zip xs)), Le.know eg, rm.knowAt e2 eg eu fun i c as h1 h2 lv => cell_no_xd (rm.cell i c as h1 h2) lv e2, .inr ⟨dd, xs, e1, .inl upd_same, e3, e4.mono ((Sub.refl G').new eg)⟩⟩
          obtain ⟨G'', lg, rm2, hf⟩ := key
          have lk : Le G' m' G'' (m' ++ [[a]]) := lg.trans Le.cellNew
          have lm : μ'.length = m'.length := rm.len.symm
          have atk : (m' ++ [[a]])[μ'.length]? = some [a] := by rw [lm]; simp
          refine ⟨⟨b.cA, b.U, G'', m' ++ [[a]], fun _ _ => False⟩, t e μ'.length, G'', m' ++ [[a]], _, _, asR i D, ⟨rfl, e, μ'.length, ⟨atk, ec, ?_⟩, rfl⟩, ⟨Le.refl _ _, rm2.scrNew a⟩, (RelR.fresh hl).set (.r (as := []) atk) i, w,
            ⟨fun σ H G1 m1 ρ μ l1 o1 r1 q1 => k.nx _ H G1 m1 _ μ ((l.trans lk).trans l1) ⟨((l0.trans l).trans lk).trans l1, o1.rel⟩ (r1.unset i) q1, fun v H G1 m1 w μ l1 o1 => k.rt v H G1 m1 w μ ((l.trans lk).trans l1) ⟨((l0.trans l).trans lk).trans l1, o1.rel⟩,
              fun σ H G1 m1 ρ μ l1 o1 r1 q1 => k.bk _ H G1 m1 _ μ ((l.trans lk).trans l1) ⟨((l0.trans l).trans lk).trans l1, o1.rel⟩ (r1.unset i) q1, fun σ H G1 m1 ρ μ l1 o1 r1 q1 => k.ct _ H G1 m1 _ μ ((l.trans lk).trans l1) ⟨((l0.trans l).trans lk).trans l1, o1.rel⟩ (r1.unset i) q1⟩⟩
          rcases hf with z | ⟨dd, xs, e1, e2, e3, e4⟩
          · exact .inl z
          · refine .inr ⟨dd, xs, e1, fun {G m μ H} o => ?_, e3, e4⟩
            rcases e2 with e2 | e2
            · exact o.rel.gh _ _ (o.le.g _ _ e2)
            · exact o.rel.uh _ _ e2
        · subst hv
          exact w2 hl l0 l rm ea w k
/-- the body of a try -/
abbrev TryBody (X : Cx) (cA : Nat → Addr) (body : List Stmt) (t : (Exc → M → Prop) → DTS) : Prop :=
  ∀ (pn : List (Addr × Obj)) (xe : Value → Shared → Prop) (b' : Bs), b'.cA = cA → XOk (X.tr pn xe) b' → (∀ W, (∀ cls d σ H, W cls d σ H → EX b' cls d H) → Takes (X.tr pn xe) W) → PassesOwn (model X.prog X.w) X.A X.env xe → DSs (X.tr pn xe) b' body (t b'.xc)
theorem ds_try (hs : X.stack = X.env :: X.outer) (hf : X.env.frame = some X.env.locals) (hN : X.N.Nodup) (hn : X.N.length = n) (tk : ∀ W, (∀ cls d σ H, W cls d σ H → EX b cls d H) → Takes X W)
    (hb : TryBody X b.cA body t) (hh : DHds X b.cA (h₀ :: hds) cs) : DS X b (.Try body (h₀ :: hds) [] [] pos) (dTry b.xc n t cs) := by
  obtain ⟨l, hm, hw⟩ := hds_ok (n := n) hh
  refine ⟨_, ps_try_mix (tb := fun W => fun D σ H => ∃ (b' : Bs) (G : Hp) (m : Wd) (ρ : R) (μ : M) (DD : DEnds), b'.cA = b.cA ∧ (∀ cls d σ H, σ.length = n → EX b' cls d H → W cls d σ H) ∧ WOk b' G m μ H ∧ RelR b'.cA G m σ ρ ∧ t b'.xc DD ρ μ ∧ EOk b' G m DD D)
    hs hf hN (tk _ fun _ _ _ _ h => h) (fun W pn xe tkW pw => ?_) hm, ?_⟩
  · refine ⟨fun pins s σ H D I h => ?_⟩
    obtain ⟨b', G, m, ρ, μ, DD, e1, hW, w, r, tt, ee⟩ := h
    have tk' : Takes (X.tr pn xe) (fun cls d _ H => EX b' cls d H) := fun u s' ⟨a, B, sI, pins, σ, H, cls, d, e, I, nb, up, sky, na, os, ag, w⟩ =>
      tkW u s' ⟨a, B, sI, pins, σ, H, cls, d, e, I, nb, up, sky, na, os, ag, hW _ _ _ _ (I.len.trans hn) w⟩
    obtain ⟨ts, p, q⟩ := (hb pn xe b' e1 (passes_call (X := X.tr pn xe) tk' fun _ _ _ _ h => h) (fun W hW => tk'.imp hW) pw).ex
    exact p.run pins s σ H D I (q w r tt ee)
  · intro G m ρ μ σ H D E o r tt k
    refine ⟨⟨b.cA, b.U, G, m, wMD b.xc D (List.replicate n none) cs⟩, G, m, ρ, μ, D, rfl, ?_, ⟨Le.refl _ _, o.rel⟩, r, tt, ?_⟩
    · rintro cls d σ' H' hl ⟨e, G', m', μ', l', rm, ea, hx⟩
      exact hw hl o.le l' rm ea hx k
    · exact ⟨fun σ H G1 m1 ρ μ l1 o1 => k.nx σ H G1 m1 ρ μ l1 ⟨o.le.trans o1.le, o1.rel⟩, fun v H G1 m1 w μ l1 o1 => k.rt v H G1 m1 w μ l1 ⟨o.le.trans o1.le, o1.rel⟩, fun σ H G1 m1 ρ μ l1 o1 => k.bk σ H G1 m1 ρ μ l1 ⟨o.le.trans o1.le, o1.rel⟩, fun σ H G1 m1 ρ μ l1 o1 => k.ct σ H G1 m1 ρ μ l1 ⟨o.le.trans o1.le, o1.rel⟩⟩
/-! ### raise C() -/
/-- what a class without fields must say -/
structure Xc0 (K : PySem.W.Frag) (cA : Nat → Addr) (c : Nat) : Prop where
  ex : ∃ bmB B newId initId, ExcBaseFacts B newId initId bmB ∧ PySem.W.excIn K (cA c) bmB newId = true
  keep : PySem.W.keepIn K (.ref (cA c)) = true
  sub : PySem.W.subIn K (.ref (cA c)) (.type "BaseException") = some true
  ty : PySem.W.typeIn K (.ref (cA c)) = some (.type "type")
@[simp] def dRaise0 (c : Nat) (xc : Exc → M → Prop) (_D : DEnds) (_ρ : R) (μ : M) : Prop := xc ⟨c, [], []⟩ μ
theorem pmk_own0 {C : Addr} {bmB : List Value} {B newId initId : String} {x : Str} {p pos : Pos} (F : ExcBaseFacts B newId initId bmB) (q : PySem.W.excIn X.K C bmB newId = true) (gC : X.mg x = some (.ref C)) (kC : PySem.W.keepIn X.K (.ref C) = true) (r : Raises X (.ref C)) (hg : Gl X x)
    (hdb : (x == ("__debug__" : Str)) = false := by decide) : PMk X (.Call (.Name x p) [] [] pos) (fun _ H Q => Q (.ref C) none H) := by
  intro pins s σ H Q I h
  refine wpAny_Call_Name_kw (ld_glob I hg gC ?_ hdb)
  refine PySem.W.callWith_K0 I.kIn kC ?_
  obtain ⟨bm, N, nm, qn, bs, hdct, sn, sub, ab, col, dd, k0, k1, k2, k3, k5, mN, hC, hN, hni, T⟩ := exc_obj I.kIn q
  refine wpAny_call_exc_subT F T hC hN hni (fun h' e hm => ?_) (by show 0 ≤ sizeLine; omega)
  exact mk_of I hm r h (I.hok.gone hm.new)
theorem ds_raise0 {x : Str} {c : Nat} {p p2 : Pos} (T : Xc0 X.K b.cA c) (hc : X.calm = true) (tk : ∀ W, (∀ cls d σ H, W cls d σ H → EX b cls d H) → Takes X W) (gC : X.mg x = some (.ref (b.cA c))) (hg : Gl X x)
    (hdb : (x == ("__debug__" : Str)) = false := by decide) : DS X b (.Raise (some (.Call (.Name x p) [] [] p2)) none pos) (dRaise0 c b.xc) := by
  obtain ⟨bmB, B, newId, initId, F, q⟩ := T.ex
  refine ⟨_, ps_raise hc (tk (fun cls d _ H => EX b cls d H) fun _ _ _ _ h => h) (pmk_own0 F q gC T.keep (raises_own T.sub T.ty) hg hdb), fun {G m ρ μ σ H D E} o r t k => ?_⟩
  exact ⟨⟨c, [], []⟩, G, m, μ, o.le, o.rel, ⟨rfl, .inl ⟨rfl, rfl, rfl⟩⟩, t⟩
end
end DD
namespace DD
open PySem L2 PySem.Spec PyProof.Rows

/-! ### sorted(set(l)), l a list of ints, any number of them below the scan's bound -/
section
variable {P : Program} {w : World} {A : Around} {E : Value → Shared → Prop} {s : Shared}
abbrev nset (w : World) : Obj := { cls := .type "set", dict := none, data := .set #[] 0 (.fresh 0 0 (!w.params.followText "set-order")) }
set_option maxHeartbeats 3200000 in
theorem set_of_ints {l : Addr} {items : Array Value} (ns : List Int) {Q : Value → Shared → Prop} (hh : A.handled = none) (hl : s.heap.IsList l items) (hit : IntsAre items.toList ns) (hb : ns.length + 1 < scanBound)
    (h : ∀ (h' : Heap) (tk c : Nat), SetR w h' s.heap.objs.size (fun j => decide (j ∈ ns)) c → c ≤ ns.length → (∀ b o, s.heap.get? b = some o → h'.get? b = some o) → Q (.ref s.heap.objs.size) { s with heap := h', toks := tk }) :
    wpAny (model P w) A (call (.type "set") [.ref l]) Q E s := by
  have hisz : items.size = ns.length := by
    have q := IntsAre.length hit
    rw [Array.length_toList] at q
    exact q
  obtain ⟨c, tl, hmro⟩ := F.called_set.mro
  have hmade := F.called_set.made
  have hsub := F.called_set.sub
  refine wpAny_call (codeAny_of_tree ?_)
  show wpAny _ _ (callAny (.type "set") _) _ _ _
  refine wpAny_pure ⟨Code.quiet_builtin _ (by decide +kernel), codeAny_builtin F.entry_type_call ?_⟩
  rw [Around.under_plain (weight_type_call_type "set" [.ref l] []) rfl]
  have h1 := F.called_set.notType
  have h2 := F.called_set.canCreate
  have hct := F.typeCall_set_1 (.ref l)
  repeat (any_goals (first | assumption | wp_step))
  refine codeAny_mono (code_set_led1 (.ref l) (E := E) (Q₁ := fun obj s₁ => obj = .ref s.heap.objs.size ∧ s₁ = { s with heap := s.heap.push (nset w) }) ⟨rfl, rfl⟩) fun r s₁ hr => ?_
  cases r with
  | error e => exact hr
  | ok fl =>
    cases fl with
    | ret obj =>
      obtain ⟨rfl, rfl⟩ := hr
      have hS : (s.heap.push (nset w)).get? s.heap.objs.size = some (nset w) := Heap.get?_push_size _ rfl
      have hT : Shared.TypeIs { s with heap := s.heap.push (nset w) } (.ref s.heap.objs.size) "set" := ⟨_, hS, rfl⟩
      have hli := F.called_set.init.lookup
      have hbi := F.called_set.init.bind (.ref s.heap.objs.size)
      repeat (any_goals (first | assumption | wp_step))
      refine codeAny_mono (codeAny_call_builtin (R := wants (fun r s₂ => r = .none ∧ ∃ h' tk c, s₂ = { s with heap := h', toks := tk } ∧ SetR w h' s.heap.objs.size (fun j => decide (j ∈ ns)) c ∧ c ≤ ns.length ∧
          (∀ b o, s.heap.get? b = some o → h'.get? b = some o)) E) F.called_set.init.plain F.entry_set_init (check_set_init_1 hT ?_)) fun r₂ s₂ hr₂ => ?_
      · obtain ⟨ol, hol, hcl, nl, hdl⟩ := hl
        obtain ⟨ocls, odict, odata, oslots⟩ := ol
        simp only at hcl hdl
        subst hcl; subst hdl
        have hol' : (s.heap.push (nset w)).get? l = some { cls := .type "list", dict := odict, data := .seq items nl, slots := oslots } := Heap.get?_push_of_some _ hol
        have hsls := F.sub_list_set
        have hslf := F.sub_list_frozenset
        have hne : (Value.type "list" == Value.type "dict") = false := by decide
        have hl1 : (s.heap.push (nset w)).IsList l items := ⟨_, hol', rfl, nl, rfl⟩
        unfold Builtin.«set.__init__» noKeywords Builtin.Frozenset.updateFrom
        generalize hPI : pyIter = PI
        wp_walk
        subst hPI
        refine wpAny_pyIter_list hl1 ?_
        refine wpAny_bind (wpAny_runValue ?_)
        have hlS : l < s.heap.objs.size := Heap.lt_size hol
        have hh3 : A.in1.in1.in1.handled = none := by simp [hh]
        have hneI : l ≠ (s.heap.push (nset w)).objs.size := by
          rw [Heap.size_push]; exact Nat.ne_of_lt (Nat.lt_succ_of_lt hlS)
        have hSf : s.heap.objs.size ∉ [(s.heap.push (nset w)).objs.size, l] := by
          rw [Heap.size_push]; simp only [List.mem_cons, List.mem_singleton, List.not_mem_nil, or_false, not_or]
          exact ⟨Nat.ne_of_lt (Nat.lt_succ_self _), Nat.ne_of_gt hlS⟩
        have hval : ∀ (i : Nat) (v : Value), items[i]? = some v → ∃ k t, ns[i]? = some k ∧ v = .int k t := fun i v hv => by
          have hi : i < ns.length := by rw [← hisz]; exact (Array.getElem?_eq_some_iff.mp hv).1
          obtain ⟨t, e⟩ := PyProof.Rows.IntsAre.int_at hit i v (by rw [Array.getElem?_toList]; exact hv)
          refine ⟨ns[i], t, List.getElem?_eq_getElem hi, ?_⟩
          rw [e, List.getD_eq_getElem?_getD, List.getElem?_eq_getElem hi] <;> rfl
        refine set_update_ints ((Walks.list hh3 _ l hneI items).toS) s.heap.objs.size
          hSf ns hisz hb hval (items.size - 0) 0 _ (by omega) (Nat.zero_le _)
          ⟨⟨_, Heap.get?_push_size _ rfl, rfl, rfl⟩, (hl1.push _)⟩ ⟨0, Nat.le_refl 0, setR_new_at (Heap.get?_push_of_some _ hS)⟩ fun s' c' hm hc' hS' => ?_
        obtain ⟨h', g2, d', tk', os'⟩ := s'
        have eg : g2 = s.gens := hm.gens
        have ed : d' = s.drawn := hm.drawn
        have eo : os' = s.os := hm.os
        subst eg; subst ed; subst eo
        show wpAny _ _ _ _ _ _
        refine wpAny_pure ?_
        show wpAny _ _ (ret Value.none) _ _ _
        rw [hisz] at hc'
        refine wpAny_pure ⟨rfl, h', tk', c', rfl, hS', hc', fun b o e => ?_⟩
        have hb0 : b < s.heap.objs.size := Heap.lt_size e
        have hb1 : b ≠ s.heap.objs.size := Nat.ne_of_lt hb0
        have hb2 : b ≠ (s.heap.push (nset w)).objs.size := by
          rw [Heap.size_push]; exact Nat.ne_of_lt (Nat.lt_succ_of_lt hb0)
        exact hm.heap b o (by simp only [List.mem_cons, List.mem_singleton, List.not_mem_nil, or_false, not_or]; exact ⟨hb1, hb2⟩) (Heap.get?_push_of_some _ (Heap.get?_push_of_some _ e))
      · cases r₂ with
        | error e => exact hr₂
        | ok fl₂ =>
          cases fl₂ with
          | ret r =>
            obtain ⟨rfl, h', tk, c', rfl, hS', hc', hk'⟩ := hr₂
            repeat (any_goals (first | assumption | wp_step))
            exact h _ _ _ hS' hc' hk'
          | _ => exact hr₂.elim
    | _ => exact hr.elim
end

end DD
namespace DD
open PySem L2 PySem.Spec PyProof.Rows

section
variable {P : Program} {w : World} {A : Around} {E : Value → Shared → Prop} {s : Shared} {a : Addr}
theorem sorted_setI {S : Int → Bool} {n : Nat} {Q : Value → Shared → Prop} (R : SetR w s.heap a S n) (hh : A.handled = none)
    (hQ : ∀ s' p (out : Array Value) (c : Nat) (ns : List Int), (∀ b o, s.heap.get? b = some o → s'.heap.get? b = some o) → s'.gens = s.gens → s'.os = s.os → s.heap.objs.size ≤ p →
      s'.heap.get? p = some (seqObj "list" out c) → IntsAre out.toList ns → ns.Pairwise (· < ·) → (∀ k, k ∈ ns ↔ S k = true) → ns.length = n → Q (.ref p) s') :
    wpAny (model P w) A (call (.builtin "sorted") [.ref a]) Q E s := by
  obtain ⟨o, es, ep, t, ho, hex, hd, g, nd, hm, hb, hf, hn, hr, hl⟩ := R
  refine Calls.call_function_entry kind_sorted plain_sorted entry_sorted (args_sorted1 _) ?_
  unfold Builtin.«sorted»
  refine wpAny_bind (m := checkCount "sorted" 1 1 _) (wpAny_pure ?_)
  refine wpAny_bind (collect_set (A := A.in1) hh ⟨o, ho, hex.1, hd⟩ hf hb hr hl fun s1 vs k1 hz g1 o1 pm => ?_)
  have hvl : vs.length = n := by rw [pm.length_eq, List.length_map, Array.length_toList]; exact hn
  have hnb : n < scanBound := by rw [← hn]; exact hb
  have hI : IntsAre vs (vs.map Builtin.Re.reRawOf) := ints_of vs fun v hv => by
    obtain ⟨e, he, q⟩ := List.mem_map.mp (pm.mem_iff.mp hv)
    obtain ⟨k, tk, h1, _⟩ := g e he
    exact ⟨k, tk, by rw [← q]; exact h1⟩
  have pk : (vs.map Builtin.Re.reRawOf).Perm (es.toList.map keyOf) := by
    have q := pm.map Builtin.Re.reRawOf
    rw [List.map_map] at q
    exact q
  have hzl : vs.length ≤ sizeLine := by
    have := fits_of_scanBound hnb
    omega
  refine wpAny_bind (wpAny_newList ?_ hzl)
  have hoL : (s1.heap.push (seqObj "list" vs.toArray 0)).get? s1.heap.objs.size = some (seqObj "list" vs.toArray 0) := Heap.get?_push_size _ rfl
  refine wpAny_bind (wpAny_holding (wpAny_call_entry slot_list_sort ⟨_, hoL, rfl⟩ entry_list_sort (SrtO.list_sort_ord SrtO.swo_int hoL hzl (fun h2 => SrtO.ints_sortable hI h2) fun out h1 h2 => ⟨_, rfl, ?_⟩) (args_list_sort _)))
  obtain ⟨a1, a2, a3⟩ := SrtO.ints_out hI h1 h2
  obtain ⟨c, hc⟩ := sortedHeap_at (vs := vs) (out := out.toArray) hoL
  have pn : (out.map SrtO.iv).Perm (es.toList.map keyOf) := a2.trans pk
  refine wpAny_pure ⟨_, rfl, hQ _ s1.heap.objs.size out.toArray c (out.map SrtO.iv) (fun b u e => ?_) g1 o1 hz hc (by simpa using a1) (lt_of_le_nodup _ a3 (pn.nodup_iff.mpr nd)) (fun k => by rw [pn.mem_iff, ← hm k]) ?_⟩
  · have q := k1 b u e
    have hlt := Heap.lt_size q
    show (sortedHeap (s1.heap.push (seqObj "list" vs.toArray 0)) s1.heap.objs.size vs out.toArray).get? b = some u
    rw [sortedHeap_old (Nat.ne_of_lt hlt) (by rw [size_push']; exact Nat.lt_succ_of_lt hlt)]
    exact Heap.get?_push_of_some _ q
  · rw [pn.length_eq, List.length_map, Array.length_toList]; exact hn
end
section
variable {X : Cx} {b : Bs} {pos p p2 q : Pos} {e : Expr} {te : DTE}
def rSoS (K : PySem.W.Frag) : List V → Hp → VK → Prop := fun vs H Q => ∃ (l : Addr) (ns : List Int), vs = [V.ref l] ∧ SqL K H l (ns.map V.int) ∧ ns.length + 1 < scanBound ∧
  ∀ (ms : List Int) (p : Addr), ms.Pairwise (· < ·) → (∀ k, k ∈ ms ↔ k ∈ ns) → H p = none → Q (.ref p) (upd H p (.lst (ms.map V.int)))
def tSoS (K : PySem.W.Frag) (ta : TE) : TE := fun σ H Q => ta σ H fun x H1 => rSoS K [x] H1 Q
theorem pe_sortSet {ta : TE} (hc : X.calm = true) (hg : Gl X "sorted") (hm : X.mg "sorted" = none) (hg2 : Gl X "set") (hm2 : X.mg "set" = none) (ha : PE X e ta)
    (na : starEach [e] X.env = (false, eval e X.env) :: starEach [] X.env := by rfl) : PE X (.Call (.Name "sorted" p) [.Call (.Name "set" p2) [e] [] q] [] pos) (tSoS X.K ta) := by
  refine ⟨fun pins s σ H Q I h => ?_⟩
  refine Call_ (ld_blt I hg hm PyProof.Rows.boot_sorted ?_)
  refine PyProof.Rows.callWith_builtin1 (PyProof.Rows.args_cons ?_ rfl) rfl rfl
  refine Call_ (ld_blt I hg2 hm2 PyProof.Rows.boot_set ?_)
  refine PyProof.Rows.callWith_type1 (PyProof.Rows.args_cons (thn (ha.run pins s σ H _ I h) fun v s1 ⟨x, H1, I1, r1, q1⟩ => PyProof.Rows.args_nil ?_) na) na rfl
  obtain ⟨l, ns, ex, hq, hb, q1⟩ := q1
  cases ex
  cases r1
  obtain ⟨its, r, pl, hz⟩ := I1.list hq
  refine set_of_ints ns (I1.ok.hd hc) pl.isList (by simpa using r.ints) hb fun h' tk c R hcn keep => ?_
  refine PyProof.Rows.args_nil ?_
  have I2 : Inv X pins σ H1 { s1 with heap := h', toks := tk } := I1.kept fun b o e => keep b o e
  generalize hs2 : ({ s1 with heap := h', toks := tk } : Shared) = s2 at I2
  have R2 : SetR X.w s2.heap s1.heap.objs.size (fun j => decide (j ∈ ns)) c := by rw [← hs2]; exact R
  refine sorted_setI (s := s2) R2 (I2.ok.hd hc) fun s' p out c ms k g o hp hge hi hs hmem hl => ?_
  have hlen : (ms.map V.int).length ≤ sizeLine := by
    rw [List.length_map, hl]
    have := fits_of_scanBound hb
    omega
  have hn : H1 p = none := I2.hok.fresh hp
  have J : Inv X pins σ (upd H1 p (.lst (ms.map V.int))) { s2 with heap := s'.heap, gens := s'.gens, drawn := s'.drawn, toks := s'.toks } :=
    I2.call (ch := []) (Un.laid k hp hn) (I2.hok.laid k hp ⟨hlen, out.toList, c, vals_of_ints hi, hge⟩) (by rw [g]; exact I2.bare) (fun _ z => nomatch z)
  have e : s' = { s2 with heap := s'.heap, gens := s'.gens, drawn := s'.drawn, toks := s'.toks } := by
    cases s'
    cases s2
    cases o
    rfl
  rw [e]
  exact ⟨.ref p, _, J, rfl, q1 ms p hs (fun k => by rw [hmem k]; simp) hn⟩
@[simp] def fSoS (ds : List D) (q : D → Prop) : Prop := ∃ ns : List Int, ds = [.lst (ns.map .int)] ∧ ns.length + 1 < 4096 ∧ ∀ ms : List Int, ms.Pairwise (· < ·) → (∀ k, k ∈ ms ↔ k ∈ ns) → q (.lst (ms.map .int))
@[simp] def dSoS (te : DTE) (ρ : R) (μ : M) (Q : W → M → Prop) : Prop := te ρ μ fun w μ1 => match rss μ1 [w] with
  | some ds => fSoS ds fun d => Q (.d d) μ1
  | none => False
theorem on_sos {K : PySem.W.Frag} : OpN b (rSoS K) fSoS := by
  intro G m μ H vs ds q Kq w n f k
  obtain ⟨ns, rfl, hb, f⟩ := f
  obtain ⟨a, us, rfl, h, rp⟩ := seq_at (K := K) n rfl
  have h := h.resolve_right (by rintro ⟨_, z⟩; cases z)
  have := reps_ints_v rp
  subst this
  refine ⟨a, ns, rfl, h.1, hb, fun ms p h1 h2 hp => ?_⟩
  exact give_new w hp (fun G' s e => .lst e (reps_ints _)) (f ms h1 h2) k
theorem de_sos (hc : X.calm = true) (hm : X.mg "sorted" = none) (hm2 : X.mg "set" = none) (he : DE X b e te) (hg : Gl X "sorted") (hg2 : Gl X "set") (na : starEach [e] X.env = (false, eval e X.env) :: starEach [] X.env := by rfl) :
    DE X b (.Call (.Name "sorted" p) [.Call (.Name "set" p2) [e] [] q] [] pos) (dSoS te) := by
  obtain ⟨t', pa, qa⟩ := he.ex
  refine ⟨_, pe_sortSet hc hg hm hg2 hm2 pa na, fun {G m ρ μ σ H Q K} o r t k => ?_⟩
  refine qa o r t fun v H1 G1 m1 w μ1 l1 o1 r1 t1 => ?_
  split at t1
  · rename_i ds e1
    exact on_sos o1 (rss_ok (vs := [v]) (ws := [w]) o1.rel (.cons r1 .nil) e1) t1 fun v' H' G' z l o' rp qz => k v' H' G' m1 _ μ1 (l1.trans l) o' (.d rp) qz
  · exact t1.elim
end
end DD
namespace DD
open PySem L2 PySem.Spec PyProof.Rows
section
variable {X : Cx} {b : Bs} {body : List Stmt} {h₀ : ExceptHandler} {hds : List ExceptHandler} {cs : List DCl} {pos : Pos} {n : Nat} {t : (Exc → M → Prop) → DTS}
theorem ds_tryX (hs : X.stack = X.env :: X.outer) (hf : X.env.frame = some X.env.locals) (hN : X.N.Nodup) (hn : X.N.length = n) (tk : ∀ W, (∀ cls d σ H, W cls d σ H → EX b cls d H) → Takes X W)
    (hb : ∀ (pn : List (Addr × Obj)) (xe : Value → Shared → Prop) (U G : Hp) (m : Wd) (xc : Exc → M → Prop), XOk (X.tr pn xe) ⟨b.cA, U, G, m, xc⟩ → (∀ W, (∀ cls d σ H, W cls d σ H → EX ⟨b.cA, U, G, m, xc⟩ cls d H) → Takes (X.tr pn xe) W) → PassesOwn (model X.prog X.w) X.A X.env xe → DSs (X.tr pn xe) ⟨b.cA, U, G, m, xc⟩ body (t xc))
    (hh : DHds X b.cA (h₀ :: hds) cs) : DS X b (.Try body (h₀ :: hds) [] [] pos) (dTry b.xc n t cs) := by
  refine ds_try hs hf hN hn tk (fun pn xe b' e h1 h2 h3 => ?_) hh
  obtain ⟨cA', U, G, m, xc⟩ := b'
  dsimp only at e
  subst e
  exact hb pn xe U G m xc h1 h2 h3
theorem dh_cons {cA : Nat → Addr} {x : Str} {c : Nat} {tab : Nat → Option Bool} {t : DTS} {b₀ : Stmt} {suite : List Stmt} {np pos' : Pos} {l : List DCl} (hc : Names X x (.ref (cA c)))
    (ht : ∀ k v, tab k = some v → PySem.W.exmOne X.K (.ref (cA k)) (.ref (cA c)) = some v)
    (hsu : ∀ (a : Addr) (oe : Obj) (pn : List (Addr × Obj)) (U G : Hp) (m : Wd) (xc : Exc → M → Prop), DSs (X.suite a ((a, oe) :: pn)) ⟨cA, U, G, m, xc⟩ (b₀ :: suite) t) (r : DHds X cA hds l) :
    DHds X cA (.ExceptHandler (some (.Name x np)) none (b₀ :: suite) pos' :: hds) (⟨tab, none, fun _ _ => t⟩ :: l) := by
  refine .cons hc ht (fun a oe pn b' e => ?_) r
  obtain ⟨cA', U, G, m, xc⟩ := b'
  dsimp only at e
  subst e
  exact hsu a oe pn U G m xc
theorem dh_as {cA : Nat → Addr} {x nm : Str} {i c : Nat} {tab : Nat → Option Bool} {t : Exc → Nat → DTS} {b₀ : Stmt} {suite : List Stmt} {np pos' : Pos} {l : List DCl} (hi : X.N[i]? = some nm) (hln : X.env.kindOf nm = some .local) (hc : Names X x (.ref (cA c)))
    (ht : ∀ k v, tab k = some v → PySem.W.exmOne X.K (.ref (cA k)) (.ref (cA c)) = some v)
    (hsu : ∀ (a : Addr) (oe : Obj) (cls : Value) (d : Option Addr) (pn : List (Addr × Obj)) (U G : Hp) (m : Wd) (xc : Exc → M → Prop) (e : Exc) (k : Nat), XIn ⟨cA, U, G, m, xc⟩ a k e cls d → Zc cls d oe → (∃ vs, oe.data = .fields vs) → DSs (X.suite a ((a, oe) :: pn)) ⟨cA, U, G, m, xc⟩ (b₀ :: suite) (t e k)) (r : DHds X cA hds l) :
    DHds X cA (.ExceptHandler (some (.Name x np)) (some nm) (b₀ :: suite) pos' :: hds) (⟨tab, some i, t⟩ :: l) := by
  refine .consAs hi hln hc ht (fun a oe cls d pn b' e k ec hx hz hv => ?_) r
  obtain ⟨cA', U, G, m, xc⟩ := b'
  dsimp only at ec
  subst ec
  exact hsu a oe cls d pn U G m xc e k hx hz hv
/-! ### e.f in a suite -/
structure XFld (K : PySem.W.Frag) (cA : Nat → Addr) (flx : Nat → List Str) : Prop where
  xf : ∀ c f, f ∈ flx c → XfC K (cA c) ∧ PySem.W.findIn K (.ref (cA c)) f = some none
@[simp] def dXf (flx : Nat → List Str) (e : Exc) (k i : Nat) (f : Str) (ρ : R) (μ : M) (Q : W → M → Prop) : Prop := ρ[i]? = some (some (.r k)) ∧ f ∈ flx e.c ∧ match (e.fs.zip e.ds).lookup f with
  | some d => Q (.d d) μ
  | none => False
theorem reps_look {cA : Nat → Addr} {G : Hp} {f : Str} {d : D} : ∀ {fs : List Str} {xs : List V} {ds : List D}, Reps cA G xs ds → (fs.zip ds).lookup f = some d → ∃ v, (fs.zip xs).lookup f = some v ∧ Rep cA G v d
  | [], _, _, _, h => by simp at h
  | a :: fs, _, _, .nil, h => by simp at h
  | a :: fs, _, _, .cons r rs, h => by
    rw [List.zip_cons_cons, List.lookup_cons] at h ⊢
    cases e : f == a with
    | true => rw [e] at h; cases h; exact ⟨_, rfl, r⟩
    | false => rw [e] at h; exact reps_look rs h
theorem pe_never {e : Expr} : PE X e (fun _ _ _ => False) := ⟨fun _ _ _ _ _ _ h => h.elim⟩
theorem de_xf {flx : Nat → List Str} {a : Addr} {oe : Obj} {cls : Value} {d : Option Addr} {pn : List (Addr × Obj)} {e : Exc} {k i : Nat} {nm f : Str} {p : Pos} (T : XFld X.K b.cA flx) (hx : XIn b a k e cls d) (hz : Zc cls d oe) (hv : ∃ vs, oe.data = .fields vs)
    (hp : PE (X.suite a ((a, oe) :: pn)) (.Name nm p) (tVar i)) : DE (X.suite a ((a, oe) :: pn)) b (.Attribute (.Name nm p) f pos) (dXf flx e k i f) := by
  by_cases hm : f ∈ flx e.c
  · obtain ⟨T1, T2⟩ := T.xf e.c f hm
    refine ⟨_, pe_xf T1 T2 hz hv hp (by rfl), fun {G m ρ μ σ H Q K} o r t kk => ?_⟩
    obtain ⟨h1, _, h3⟩ := t
    split at h3
    · rename_i dd el
      obtain ⟨v, e1, q⟩ := r.2 i _ h1
      cases q with
      | @r _ p2 as ea =>
        have e2 := o.le.m _ _ hx.at_
        rw [ea] at e2
        cases e2
        have el2 := el
        rcases hx.fl with ⟨z1, z2, _⟩ | ⟨dx, xs, rfl, hdx, hl, rp⟩
        · rw [z1] at el2
          simp at el2
        · obtain ⟨x, l1, r1⟩ := reps_look rp el
          refine ⟨_, e1, rfl, hx.cls, dx, _, x, rfl, hdx o, l1, ?_⟩
          exact kk x H G m _ μ (Le.refl _ _) o (.d (r1.mono o.le.g)) h3
    · exact h3.elim
  · exact ⟨_, pe_never, fun {G m ρ μ σ H Q K} o r t kk => absurd t.2.1 hm⟩
end
end DD
namespace DD
open PySem L2 RZ
/-! ### the script: its length, its numbers, its parts -/
section
variable {X : Cx} {b : Bs} {pos p p2 : Pos} {e e1 e2 : Expr} {te ta tb : DTE}
theorem scr_sq {G : Hp} {m : Wd} {μ : M} {H : Hp} {v : V} {n : Nat} {ns : List Int} (o : WOk b G m μ H) (r : WRel b.cA G m v (.r n)) (e : μ[n]? = some (.scr ns (scrK X.K ns))) : ∃ q, v = .ref q ∧ SqL X.K H q (ns.map V.int) := by
  cases r with
  | @r _ q as em =>
    obtain ⟨q', f1, f2⟩ := o.rel.cell n _ _ e em
    cases f1
    exact ⟨q, rfl, f2.elim (fun e => .inl (Or.imp (o.rel.gh _ _) (fun ⟨o', e⟩ => ⟨o', o.rel.gh _ _ e⟩) e)) fun e => .inr e⟩
@[simp] def dLenS (K : PySem.W.Frag) (te : DTE) (ρ : R) (μ : M) (Q : W → M → Prop) : Prop := te ρ μ fun w μ1 => match w with
  | .r n => match μ1[n]? with
    | some (.scr ns S) => S = scrK K ns ∧ Q (.d (.int ns.length)) μ1
    | _ => False
  | _ => False
theorem de_lenS (hm : X.mg "len" = none) (ha : DE X b e te) (hg : Gl X "len") (he : starEach [e] X.env = (false, eval e X.env) :: starEach [] X.env := by rfl) (hpl : (backTo pos (starEach [] X.env)).any (·.1) = false := by rfl) : DE X b (.Call (.Name "len" p) [e] [] pos) (dLenS X.K te) := by
  obtain ⟨t', pa, qa⟩ := ha.ex
  refine ⟨_, pe_callB call_len hg hm PySem.boot_len (pa_cons pa pa_nil he) (he := he) (hpl := hpl), fun {G m ρ μ σ H Q K} o r t k => ?_⟩
  refine qa o r t fun v H1 G1 m1 w μ1 l1 o1 r1 t1 => ?_
  split at t1
  · rename_i n
    split at t1
    · rename_i ns S e
      obtain ⟨rfl, t1⟩ := t1
      obtain ⟨q, rfl, sq⟩ := scr_sq o1 r1 e
      exact ⟨_, ns.length, rfl, .inl ⟨_, sq, by simp⟩, k _ H1 G1 m1 _ μ1 l1 o1 (.d (.int _)) t1⟩
    · exact t1.elim
  · exact t1.elim
@[simp] def dIxS (K : PySem.W.Frag) (ta tb : DTE) (ρ : R) (μ : M) (Q : W → M → Prop) : Prop := ta ρ μ fun x μ1 => tb ρ μ1 fun y μ2 => match x, y with
  | .r n, .d (.int i) => match μ2[n]? with
    | some (.scr ns S) => S = scrK K ns ∧ match atI ns i with
      | some z => Q (.d (.int z)) μ2
      | none => False
    | _ => False
  | _, _ => False
theorem atI_mapV {ns : List Int} {i z : Int} (h : atI ns i = some z) : atI (ns.map V.int) i = some (V.int z) := by
  unfold atI at h ⊢
  rw [List.length_map]
  cases e : ixN ns.length i with
  | none => rw [e] at h; cases h
  | some j =>
    rw [e] at h
    have h : ns[j]? = some z := h
    show (ns.map V.int)[j]? = _
    rw [List.getElem?_map, h]
    rfl
theorem de_ixS {e1 e2 : Expr} (ha : DE X b e1 ta) (hb : DE X b e2 tb) (hs : PlainIx e2 := by exact fun _ _ => rfl) : DE X b (.Subscript e1 e2 pos) (dIxS X.K ta tb) := by
  obtain ⟨ta', pa, qa⟩ := ha.ex
  obtain ⟨tb', pb, qb⟩ := hb.ex
  refine ⟨_, pe_ix ix_seq pa pb hs, fun {G m ρ μ σ H Q K} o r t k => ?_⟩
  refine qa o r t fun x H1 G1 m1 w1 μ1 l1 o1 r1 t1 => ?_
  refine qb o1 (r.mono l1) t1 fun y H2 G2 m2 w2 μ2 l2 o2 r2 t2 => ?_
  split at t2
  · rename_i n i
    split at t2
    · rename_i ns S hc
      obtain ⟨rfl, t2⟩ := t2
      split at t2
      · rename_i z ez
        obtain ⟨q, rfl, sq⟩ := scr_sq o2 (r1.mono l2) hc
        exact .inl ⟨q, _, i, _, rfl, isInt r2, sq, atI_mapV ez, k _ H2 G2 m2 _ μ2 (l1.trans l2) o2 (.d (.int z)) t2⟩
      · exact t2.elim
    · exact t2.elim
  · exact t2.elim
@[simp] def dSlS (K : PySem.W.Frag) (te : DTE) (tl th : DTO) (ρ : R) (μ : M) (Q : W → M → Prop) : Prop := te ρ μ fun w μ1 => tl ρ μ1 fun lo μ2 => th ρ μ2 fun hi μ3 => match w with
  | .r n => match μ3[n]? with
    | some (.scr ns S) => S = scrK K ns ∧ Q (.d (.lst ((cutL ns lo hi).map D.int))) μ3
    | _ => False
  | _ => False
theorem cut_map {α β : Type} {f : α → β} {xs : List α} {lo hi : Option Int} : cutL (xs.map f) lo hi = (cutL xs lo hi).map f := by
  unfold cutL
  rw [List.length_map, List.map_take, List.map_drop]
theorem de_slS {lo hi : Option Expr} {tl th : DTO} (ha : DE X b e te) (hl : DO X b lo tl) (hu : DO X b hi th) : DE X b (.Subscript e (.Slice lo hi none p2) pos) (dSlS X.K te tl th) := by
  obtain ⟨t', pa, qa⟩ := ha.ex
  obtain ⟨t1', p1, q1⟩ := hl.ex
  obtain ⟨t2', p2', q2⟩ := hu.ex
  refine ⟨_, pe_slice sl_list pa p1 p2', fun {G m ρ μ σ H Q K} o r t k => ?_⟩
  refine qa o r t fun v H1 G1 m1 w μ1 l1 o1 r1 t1 => ?_
  refine q1 o1 (r.mono l1) t1 fun lo H2 G2 m2 μ2 l2 o2 t2 => ?_
  refine q2 o2 ((r.mono l1).mono l2) t2 fun hi H3 G3 m3 μ3 l3 o3 t3 => ?_
  have lf := l1.trans (l2.trans l3)
  have rw3 := (r1.mono l2).mono l3
  split at t3
  · rename_i n
    split at t3
    · rename_i ns S hc
      obtain ⟨rfl, t3⟩ := t3
      obtain ⟨q, rfl, sq⟩ := scr_sq o3 rw3 hc
      refine ⟨q, _, rfl, sq, fun z hz => ?_⟩
      have hg := (o3.rel.new hz).1
      have l4 : Le G3 m3 (upd G3 z (.lst (cutV (ns.map V.int) lo hi))) m3 := Le.know hg
      refine k _ _ _ m3 _ μ3 (lf.trans l4) (o3.mono l4 (o3.rel.know hz)) (.d (.lst upd_same (Reps.mono l4.g ?_))) t3
      have := cut_reps (lo := lo) (hi := hi) (reps_ints (cA := b.cA) (G := G3) ns)
      rwa [cut_map] at this
    · exact t3.elim
  · exact t3.elim
end
end DD
namespace DD
open PySem L2 RZ PySem.Spec PyProof.Rows
/-! ### raise C(x), raise C(x, y): own exceptions whose __init__ stores what it is given -/
def spX1 (C : Addr) (f : Str) : Sp := fun vs H Q _ => ∃ (a : Addr) (y : V), vs = [.ref a, y] ∧ H a = some (exo a C none) ∧ ∀ dx, H dx = none → dx ≠ a → Q .non (upd (upd H dx (exd dx [(f, y)])) a (exo a C (some dx)))
def spX2 (C : Addr) (f g : Str) : Sp := fun vs H Q _ => ∃ (a : Addr) (y z : V), vs = [.ref a, y, z] ∧ H a = some (exo a C none) ∧ ∀ dx, H dx = none → dx ≠ a → Q .non (upd (upd (upd H dx (exd dx [(f, y)])) a (exo a C (some dx))) dx (exd dx [(g, z), (f, y)]))
section
variable {P : Program} {w : World} {K : PySem.W.Frag} {mg : Str → Option Value} {base : Heap} {C fI : Addr} {fd : FuncData} {qual f g : Str} {st : Stmt}
theorem fn_X1 {a x : Str} (T : OexC K C) (hf : PySem.W.findIn K (.ref C) f = some none) (F : L2.Fun K "__init__" qual st fI fd) (Sc : FnScope [a, x] [a, x] (defScope st))
    (hps : ∀ cdv A outer s H E, PSs (cxOf (L2.CX P w) P w K mg base [a, x] qual (defScope st) fI cdv A outer s H E) (defBody st) (tOst K f (tVar 0) (tVar 1))) : FnOk P w K mg base (L2.CX P w) 1 fI fd [a, x] (spX1 C f) := by
  refine F.okX (k := 0) Sc (fun vs H Q E h => by obtain ⟨a, y, rfl, _⟩ := h; rfl) (fun cdv A outer s H vs Q E hr h => ⟨_, hps cdv A outer s H E, ?_⟩)
  obtain ⟨a, y, rfl, ha, h⟩ := h
  exact ⟨y, rfl, .ref a, rfl, a, C, rfl, T, hf, .inl ⟨ha, fun dx h1 h2 => h dx h1 h2⟩⟩
theorem fn_X2 {a x y : Str} (T : OexC K C) (hf : PySem.W.findIn K (.ref C) f = some none) (hg : PySem.W.findIn K (.ref C) g = some none) (F : L2.Fun K "__init__" qual st fI fd) (Sc : FnScope [a, x, y] [a, x, y] (defScope st))
    (hps : ∀ cdv A outer s H E, PSs (cxOf (L2.CX P w) P w K mg base [a, x, y] qual (defScope st) fI cdv A outer s H E) (defBody st) (tSeq (tOst K f (tVar 0) (tVar 1)) (tOst K g (tVar 0) (tVar 2)))) : FnOk P w K mg base (L2.CX P w) 1 fI fd [a, x, y] (spX2 C f g) := by
  refine F.okX (k := 0) Sc (fun vs H Q E h => by obtain ⟨a, y, z, rfl, _⟩ := h; rfl) (fun cdv A outer s H vs Q E hr h => ⟨_, hps cdv A outer s H E, ?_⟩)
  obtain ⟨a, y, z, rfl, ha, h⟩ := h
  refine ⟨y, rfl, .ref a, rfl, a, C, rfl, T, hf, .inl ⟨ha, fun dx h1 h2 => ?_⟩⟩
  exact ⟨z, rfl, .ref a, rfl, a, C, rfl, T, hg, .inr ⟨dx, [(f, y)], upd_same, by rw [upd_ne h2, upd_same], by simp, h dx h1 h2⟩⟩
end
/-- what a raise of C needs -/
structure Xkc (P : Program) (w : World) (K : PySem.W.Frag) (mg : Str → Option Value) (base : Heap) (cA : Nat → Addr) (c : Nat) (sp : Sp) : Prop where
  ex : ∃ (fI : Addr) (fd : FuncData) (ps : List Str), OexC K (cA c) ∧ PySem.W.findIn K (.ref (cA c)) "__init__" = some (some (.ref fI)) ∧ PySem.W.typeIn K (.ref fI) = some (.type "function") ∧ FnOk P w K mg base (L2.CX P w) 1 fI fd ps sp ∧ Binds K fd ps []
@[simp] def dRaiseX (c : Nat) (fs : List Str) (ta : DTA) (xc : Exc → M → Prop) (_D : DEnds) (ρ : R) (μ : M) : Prop := ta ρ μ fun ws μ1 => match unD ws with
  | some ds => ds.length = fs.length ∧ xc ⟨c, fs, ds.reverse⟩ μ1
  | none => False
section
variable {X : Cx} {b : Bs} {x f g : Str} {c : Nat} {p p2 pos : Pos} {e : Expr} {es : List Expr} {ta : DTA}
theorem passes_no : Passes (L2.CX X.prog X.w) X (fun _ _ _ => False) := fun pins σ H s e s' I z => by
  obtain ⟨_, _, _, cls, d, _, _, _, _, _, _, _, z⟩ := z
  exact z.elim
theorem x_end {H H2 : Hp} {a dx : Addr} {o : HO} (ha : H a = none) (hd : H dx = none) (h2 : ∀ b, b ≠ a → b ≠ dx → H2 b = H b) : Sub H (upd (del H2 a) dx o) := fun b u e => by
  have n1 := ne_of_none e ha
  have n2 := ne_of_none e hd
  rw [upd_ne n2, del_ne n1, h2 b n1 n2]
  exact e
theorem ds_raiseX1 (B : Xkc X.prog X.w X.K X.mg X.base b.cA c (spX1 (b.cA c) f)) (hm : X.mg x = some (.ref (b.cA c))) (hr : Room 2 X.A) (hc : X.calm = true) (tk : ∀ W, (∀ cls d σ H, W cls d σ H → EX b cls d H) → Takes X W) (ha : DA X b (e :: es) ta) (hg : Gl X x)
    (hdb : (x == ("__debug__" : Str)) = false := by decide) (he : starEach (e :: es) X.env = (false, eval e X.env) :: starEach es X.env := by rfl) (hpl : (backTo p2 (starEach es X.env)).any (·.1) = false := by rfl) :
    DS X b (.Raise (some (.Call (.Name x p) (e :: es) [] p2)) none pos) (dRaiseX c [f] ta b.xc) := by
  obtain ⟨fI, fd, ps, T, iC, tI, F, hb⟩ := B.ex
  obtain ⟨t', pa, qa⟩ := ha.ex
  refine ⟨_, ps_raise hc (tk (fun cls d _ H => EX b cls d H) fun _ _ _ _ h => h) (pmk_oex T iC tI F hr hb .nil passes_no hg hm pa hdb he hpl), fun {G m ρ μ σ H D E} o r t k => ?_⟩
  refine qa o r t fun vs H1 G1 m1 ws μ1 l1 o1 r1 t1 => ?_
  split at t1
  · rename_i ds ed
    obtain ⟨hl, hx⟩ := t1
    have := unD_map ed
    subst this
    match ds, hl, r1, hx with
    | [d1], _, .cons (.d q1) .nil, hx =>
      rename_i y1
      refine ⟨by simp, fun a na => ?_⟩
      refine ⟨a, y1, rfl, upd_same, fun dx hd hn => ⟨rfl, dx, [(f, y1)], upd_same, by rw [upd_ne hn, upd_same], ?_, ?_⟩⟩
      · rw [upd_ne hn] at hd
        exact hd
      · have hd1 : H1 dx = none := by rw [upd_ne hn] at hd; exact hd
        have s : Sub H1 (upd (del (upd (upd (upd H1 a (exo a (b.cA c) none)) dx (exd dx [(f, y1)])) a (exo a (b.cA c) (some dx))) a) dx (.xd [(f, y1)])) := x_end na hd1 fun z h1 h2 => by rw [upd_ne h1, upd_ne h2, upd_ne h1]
        exact ⟨⟨c, [f], [d1]⟩, G1, m1, μ1, o1.le, o1.rel.grow s, ⟨rfl, .inr ⟨dx, [y1], rfl, upd_same, rfl, .cons q1 .nil⟩⟩, hx⟩
  · exact t1.elim
theorem ds_raiseX2 (B : Xkc X.prog X.w X.K X.mg X.base b.cA c (spX2 (b.cA c) f g)) (hm : X.mg x = some (.ref (b.cA c))) (hr : Room 2 X.A) (hc : X.calm = true) (tk : ∀ W, (∀ cls d σ H, W cls d σ H → EX b cls d H) → Takes X W) (ha : DA X b (e :: es) ta) (hg : Gl X x)
    (hdb : (x == ("__debug__" : Str)) = false := by decide) (he : starEach (e :: es) X.env = (false, eval e X.env) :: starEach es X.env := by rfl) (hpl : (backTo p2 (starEach es X.env)).any (·.1) = false := by rfl) :
    DS X b (.Raise (some (.Call (.Name x p) (e :: es) [] p2)) none pos) (dRaiseX c [g, f] ta b.xc) := by
  obtain ⟨fI, fd, ps, T, iC, tI, F, hb⟩ := B.ex
  obtain ⟨t', pa, qa⟩ := ha.ex
  refine ⟨_, ps_raise hc (tk (fun cls d _ H => EX b cls d H) fun _ _ _ _ h => h) (pmk_oex T iC tI F hr hb .nil passes_no hg hm pa hdb he hpl), fun {G m ρ μ σ H D E} o r t k => ?_⟩
  refine qa o r t fun vs H1 G1 m1 ws μ1 l1 o1 r1 t1 => ?_
  split at t1
  · rename_i ds ed
    obtain ⟨hl, hx⟩ := t1
    have := unD_map ed
    subst this
    match ds, hl, r1, hx with
    | [d1, d2], _, .cons (.d q1) (.cons (.d q2) .nil), hx =>
      rename_i y1 y2
      refine ⟨by simp, fun a na => ?_⟩
      refine ⟨a, y1, y2, rfl, upd_same, fun dx hd hn => ⟨rfl, dx, [(g, y2), (f, y1)], by rw [upd_ne (Ne.symm hn), upd_same], upd_same, ?_, ?_⟩⟩
      · rw [upd_ne hn] at hd
        exact hd
      · have hd1 : H1 dx = none := by rw [upd_ne hn] at hd; exact hd
        have s : Sub H1 (upd (del (upd (upd (upd (upd H1 a (exo a (b.cA c) none)) dx (exd dx [(f, y1)])) a (exo a (b.cA c) (some dx))) dx (exd dx [(g, y2), (f, y1)])) a) dx (.xd [(g, y2), (f, y1)])) := x_end na hd1 fun z h1 h2 => by rw [upd_ne h2, upd_ne h1, upd_ne h2, upd_ne h1]
        exact ⟨⟨c, [g, f], [d2, d1]⟩, G1, m1, μ1, o1.le, o1.rel.grow s, ⟨rfl, .inr ⟨dx, [y2, y1], rfl, upd_same, rfl, .cons q2 (.cons q1 .nil)⟩⟩, hx⟩
  · exact t1.elim
end
end DD
namespace DD
open PySem L2 RZ PySem.Spec PyProof.Rows
/-! ### l.index(k), l a list of ints that holds k -/
section
variable {X : Cx} {b : Bs} {pos p p2 q apos cpos : Pos} {o e : Expr} {to te : DTE} {ta : DTA}
@[simp] def dIndex (to : DTE) (ta : DTA) (ρ : R) (μ : M) (Q : W → M → Prop) : Prop := to ρ μ fun x μ1 => (∃ ds, rs μ1 x = some (.lst ds)) ∧ ta ρ μ1 fun ws μ2 => ∃ (ns : List Int) (k : Int) (j : Nat), rs μ2 x = some (.lst (ns.map .int)) ∧ rss μ2 ws = some [.int k] ∧ ns[j]? = some k ∧ (∀ m, m < j → ns[m]? ≠ some k) ∧ Q (.d (.int j)) μ2
theorem eqV_int (a c : Int) : eqV (.int a) (.int c) = decide (a = c) := by
  unfold eqV
  first | rfl | simp
theorem de_index (ho : DE X b o to) (ha : DA X b [e] ta)
    (hp : ∀ {to : TE} {ta : TA}, PE X o to → PA X [e] ta → PE X (.Call (.Attribute o "index" apos) [e] [] pos) (tBM X.K "list" (rIndex X.K) to ta)) : DE X b (.Call (.Attribute o "index" apos) [e] [] pos) (dIndex to ta) := by
  obtain ⟨to', po, qo⟩ := ho.ex
  obtain ⟨ta', pa, qa⟩ := ha.ex
  refine ⟨_, hp po pa, fun {G m ρ μ σ H Q K} ok rr t k => ?_⟩
  refine qo ok rr t fun v H1 G1 m1 w μ1 l1 o1 r1 t1 => ?_
  obtain ⟨⟨ds, e1⟩, t1⟩ := t1
  obtain ⟨p, us, rfl, h1, h2⟩ := rs_ok o1.rel r1 e1
  refine ⟨.inl ⟨rfl, us, SqL.of h1⟩, ?_⟩
  refine qa o1 (rr.mono l1) t1 fun vs H2 G2 m2 ws μ2 l2 o2 r2 t2 => ?_
  obtain ⟨ns, i, j, e2, e3, e4, e5, t2⟩ := t2
  obtain ⟨p2, us2, ep, g1, g2⟩ := rs_ok o2.rel (r1.mono l2) e2
  cases ep
  have := reps_ints_v g2
  subst this
  obtain ⟨v2, rfl, hv2⟩ := nows1 (rss_ok o2.rel r2 e3)
  cases hv2
  refine ⟨p, ns.map V.int, .int i, j, .int i, rfl, rfl, SqL.of g1, rfl, ?_, by rw [List.getElem?_map, e4]; rfl, by rw [eqV_int]; simp, fun m z hm hz => ?_, k _ H2 G2 m2 _ μ2 (l1.trans l2) o2 (.d (.int _)) t2⟩
  · exact List.all_eq_true.mpr fun x hx => by
      obtain ⟨y, _, rfl⟩ := List.mem_map.mp hx
      rfl
  · rw [List.getElem?_map] at hz
    cases hn : ns[m]? with
    | none => rw [hn] at hz; cases hz
    | some y =>
      rw [hn] at hz
      cases hz
      rw [eqV_int]
      have := e5 m hm
      rw [hn] at this
      simpa using this
end
/-! ### sorted(set(t)), t a tuple of ints -/
section
variable {X : Cx} {b : Bs} {pos p p2 q : Pos} {e : Expr} {te : DTE}
def rSoT (K : PySem.W.Frag) : List V → Hp → VK → Prop := fun vs H Q => ∃ (l : Addr) (ns : List Int), vs = [V.ref l] ∧ SqT K H l (ns.map V.int) ∧ ns.length + 1 < scanBound ∧
  ∀ (ms : List Int) (p : Addr), ms.Pairwise (· < ·) → (∀ k, k ∈ ms ↔ k ∈ ns) → H p = none → Q (.ref p) (upd H p (.lst (ms.map V.int)))
def tSoT (K : PySem.W.Frag) (ta : TE) : TE := fun σ H Q => ta σ H fun x H1 => rSoT K [x] H1 Q
theorem pe_sortSetT {ta : TE} (hc : X.calm = true) (hg : Gl X "sorted") (hm : X.mg "sorted" = none) (hg2 : Gl X "set") (hm2 : X.mg "set" = none) (ha : PE X e ta)
    (na : starEach [e] X.env = (false, eval e X.env) :: starEach [] X.env := by rfl) : PE X (.Call (.Name "sorted" p) [.Call (.Name "set" p2) [e] [] q] [] pos) (tSoT X.K ta) := by
  refine ⟨fun pins s σ H Q I h => ?_⟩
  refine Call_ (ld_blt I hg hm PyProof.Rows.boot_sorted ?_)
  refine PyProof.Rows.callWith_builtin1 (PyProof.Rows.args_cons ?_ rfl) rfl rfl
  refine Call_ (ld_blt I hg2 hm2 PyProof.Rows.boot_set ?_)
  refine PyProof.Rows.callWith_type1 (PyProof.Rows.args_cons (thn (ha.run pins s σ H _ I h) fun v s1 ⟨x, H1, I1, r1, q1⟩ => PyProof.Rows.args_nil ?_) na) na rfl
  obtain ⟨l, ns, ex, hq, hb, q1⟩ := q1
  cases ex
  cases r1
  obtain ⟨its, r, pl, hz⟩ := I1.tuple hq
  refine call_set_tupI ns (I1.ok.hd hc) pl (by simpa using r.ints) hb fun h' tk c R hcn keep => ?_
  refine PyProof.Rows.args_nil ?_
  have I2 : Inv X pins σ H1 { s1 with heap := h', toks := tk } := I1.kept fun b o e => keep b o e
  generalize hs2 : ({ s1 with heap := h', toks := tk } : Shared) = s2 at I2
  have R2 : SetR X.w s2.heap s1.heap.objs.size (fun j => decide (j ∈ ns)) c := by rw [← hs2]; exact R
  refine sorted_setI (s := s2) R2 (I2.ok.hd hc) fun s' p out c ms k g o hp hge hi hs hmem hl => ?_
  have hlen : (ms.map V.int).length ≤ sizeLine := by
    rw [List.length_map, hl]
    have := fits_of_scanBound hb
    omega
  have hn : H1 p = none := I2.hok.fresh hp
  have J : Inv X pins σ (upd H1 p (.lst (ms.map V.int))) { s2 with heap := s'.heap, gens := s'.gens, drawn := s'.drawn, toks := s'.toks } :=
    I2.call (ch := []) (Un.laid k hp hn) (I2.hok.laid k hp ⟨hlen, out.toList, c, vals_of_ints hi, hge⟩) (by rw [g]; exact I2.bare) (fun _ z => nomatch z)
  have e : s' = { s2 with heap := s'.heap, gens := s'.gens, drawn := s'.drawn, toks := s'.toks } := by
    cases s'
    cases s2
    cases o
    rfl
  rw [e]
  exact ⟨.ref p, _, J, rfl, q1 ms p hs (fun k => by rw [hmem k]; simp) hn⟩
@[simp] def fSoT (ds : List D) (q : D → Prop) : Prop := ∃ ns : List Int, ds = [.tup (ns.map .int)] ∧ ns.length + 1 < 4096 ∧ ∀ ms : List Int, ms.Pairwise (· < ·) → (∀ k, k ∈ ms ↔ k ∈ ns) → q (.lst (ms.map .int))
@[simp] def dSoT (te : DTE) (ρ : R) (μ : M) (Q : W → M → Prop) : Prop := te ρ μ fun w μ1 => match rss μ1 [w] with
  | some ds => fSoT ds fun d => Q (.d d) μ1
  | none => False
theorem on_sot {K : PySem.W.Frag} : OpN b (rSoT K) fSoT := by
  intro G m μ H vs ds q Kq w n f k
  obtain ⟨ns, rfl, hb, f⟩ := f
  obtain ⟨a, us, rfl, h, rp⟩ := seq_at (K := K) n rfl
  have h := h.resolve_left (by rintro ⟨_, z⟩; cases z)
  have := reps_ints_v rp
  subst this
  refine ⟨a, ns, rfl, h.1, hb, fun ms p h1 h2 hp => ?_⟩
  exact give_new w hp (fun G' s e => .lst e (reps_ints _)) (f ms h1 h2) k
theorem de_sot (hc : X.calm = true) (hm : X.mg "sorted" = none) (hm2 : X.mg "set" = none) (he : DE X b e te) (hg : Gl X "sorted") (hg2 : Gl X "set") (na : starEach [e] X.env = (false, eval e X.env) :: starEach [] X.env := by rfl) :
    DE X b (.Call (.Name "sorted" p) [.Call (.Name "set" p2) [e] [] q] [] pos) (dSoT te) := by
  obtain ⟨t', pa, qa⟩ := he.ex
  refine ⟨_, pe_sortSetT hc hg hm hg2 hm2 pa na, fun {G m ρ μ σ H Q K} o r t k => ?_⟩
  refine qa o r t fun v H1 G1 m1 w μ1 l1 o1 r1 t1 => ?_
  split at t1
  · rename_i ds e1
    exact on_sot o1 (rss_ok (vs := [v]) (ws := [w]) o1.rel (.cons r1 .nil) e1) t1 fun v' H' G' z l o' rp qz => k v' H' G' m1 _ μ1 (l1.trans l) o' (.d rp) qz
  · exact t1.elim
end
end DD
namespace DD
open PySem L2 RZ
/-! ### a list comprehension of two fors, over pure data -/
theorem uni_i {F : Cx → Prop} {b : Bs} {tg e : Expr} {t : DTI} (h : ∀ X, F X → DI X b tg e t) : ∃ wi : TI, (∀ X, F X → PI X tg e wi) ∧ ∀ {G : Hp} {m : Wd} {ρ : R} {μ : M} {σ : L2.St} {H : Hp} {Q : Src → M → Prop} {K : It → Hp → Prop}, WOk b G m μ H → RelR b.cA G m σ ρ → t ρ μ Q →
    (∀ J H' G' m' s μ', Le G m G' m' → WOk b G' m' μ' H' → SrcOk b G' m' s J → Q s μ' → K J H') → wi σ H K := by
  refine ⟨fun σ H R => ∀ X, F X → ∀ (pins : List (Addr × Obj)) (s : Shared), Inv X pins σ H s → wpAny (model X.prog X.w) X.A (eval e X.env) (fun v s1 => wpAny (model X.prog X.w) X.A (pyIter v) (PIE X pins σ tg R) X.xe s1) X.xe s,
    fun X hX => ⟨fun pins s σ H R I q => q X hX pins s I⟩, fun {G m ρ μ σ H Q K} o r t' k X hX pins s I => ?_⟩
  obtain ⟨wi, p, q⟩ := (h X hX).ex
  exact p.run pins s σ H K I (q o r t' k)
def dLc2 (ti : DTI) (g : DTG) (tt : DTT) (ti1 : DTI) (g1 : DTG) (tt1 : DTT) (te : DTE) (vs vs1 : List Nat) (ρ : R) (μ : M) (Q : W → M → Prop) : Prop := ti ρ μ fun s μ1 => ∃ P : Nat → List D → Prop, P 0 [] ∧
  (∀ acc, s.ok (μ1 ++ [.lst acc])) ∧
  (∀ i w acc, s.items[i]? = some w → P i acc → g w (wipeR ρ vs) (μ1 ++ [.lst acc]) fun ρ2 μ2 => tt ρ2 μ2 fun c μ3 =>
    if c = true then ti1 ρ2 μ3 fun s1 μ4 => μ4 = μ1 ++ [.lst acc] ∧ (∀ acc, s1.ok (μ1 ++ [.lst acc])) ∧ ∃ P1 : Nat → List D → Prop, P1 0 acc ∧
      (∀ j w acc', s1.items[j]? = some w → P1 j acc' → acc'.length < sizeLine ∧ g1 w (wipeR ρ2 vs1) (μ1 ++ [.lst acc']) fun ρ5 μ5 => tt1 ρ5 μ5 fun c μ6 =>
        if c = true then te ρ5 μ6 fun w μ7 => match w with
          | .d d => μ7 = μ1 ++ [.lst acc'] ∧ P1 (j + 1) (acc' ++ [d])
          | _ => False
        else μ6 = μ1 ++ [.lst acc'] ∧ P1 (j + 1) acc') ∧
      ∀ acc', P1 s1.items.length acc' → P (i + 1) acc'
    else μ3 = μ1 ++ [.lst acc] ∧ P (i + 1) acc) ∧
  ∀ acc, P s.items.length acc → Q (.d (.lst acc)) μ1
theorem lc2_coreD {X : Cx} {b : Bs} {wi wi1 : TI} {g g1 : TG} {tt tt1 : TT} {te : TE} {ti ti1 : DTI} {dg dg1 : DTG} {dt dt1 : DTT} {de : DTE} {vs vs1 : List Nat}
    (qi : ∀ {G : Hp} {m : Wd} {ρ : R} {μ : M} {σ : L2.St} {H : Hp} {Q : Src → M → Prop} {K : It → Hp → Prop}, WOk b G m μ H → RelR b.cA G m σ ρ → ti ρ μ Q → (∀ J H' G' m' s μ', Le G m G' m' → WOk b G' m' μ' H' → SrcOk b G' m' s J → Q s μ' → K J H') → wi σ H K)
    (qg : ∀ {G : Hp} {m : Wd} {ρ : R} {μ : M} {σ : L2.St} {H : Hp} {v : V} {w : W} {Q : R → M → Prop} {K : L2.St → Hp → Prop}, WOk b.q G m μ H → RelR b.q.cA G m σ ρ → WRel b.q.cA G m v w → dg w ρ μ Q →
      (∀ σ' H' G' m' ρ' μ', Le G m G' m' → WOk b.q G' m' μ' H' → RelR b.q.cA G' m' σ' ρ' → L2.wipe σ' vs = L2.wipe σ vs → Q ρ' μ' → K σ' H') → g v σ H K)
    (qt : ∀ {G : Hp} {m : Wd} {ρ : R} {μ : M} {σ : L2.St} {H : Hp} {Q : Bool → M → Prop} {K : Bool → Hp → Prop}, WOk b.q G m μ H → RelR b.q.cA G m σ ρ → dt ρ μ Q → (∀ c H' G' m' μ', Le G m G' m' → WOk b.q G' m' μ' H' → Q c μ' → K c H') → tt σ H K)
    (qi1 : ∀ {G : Hp} {m : Wd} {ρ : R} {μ : M} {σ : L2.St} {H : Hp} {Q : Src → M → Prop} {K : It → Hp → Prop}, WOk b.q G m μ H → RelR b.q.cA G m σ ρ → ti1 ρ μ Q → (∀ J H' G' m' s μ', Le G m G' m' → WOk b.q G' m' μ' H' → SrcOk b.q G' m' s J → Q s μ' → K J H') → wi1 σ H K)
    (qg1 : ∀ {G : Hp} {m : Wd} {ρ : R} {μ : M} {σ : L2.St} {H : Hp} {v : V} {w : W} {Q : R → M → Prop} {K : L2.St → Hp → Prop}, WOk b.q G m μ H → RelR b.q.cA G m σ ρ → WRel b.q.cA G m v w → dg1 w ρ μ Q →
      (∀ σ' H' G' m' ρ' μ', Le G m G' m' → WOk b.q G' m' μ' H' → RelR b.q.cA G' m' σ' ρ' → L2.wipe σ' vs1 = L2.wipe σ vs1 → Q ρ' μ' → K σ' H') → g1 v σ H K)
    (qt1 : ∀ {G : Hp} {m : Wd} {ρ : R} {μ : M} {σ : L2.St} {H : Hp} {Q : Bool → M → Prop} {K : Bool → Hp → Prop}, WOk b.q G m μ H → RelR b.q.cA G m σ ρ → dt1 ρ μ Q → (∀ c H' G' m' μ', Le G m G' m' → WOk b.q G' m' μ' H' → Q c μ' → K c H') → tt1 σ H K)
    (qe : ∀ {G : Hp} {m : Wd} {ρ : R} {μ : M} {σ : L2.St} {H : Hp} {Q : W → M → Prop} {K : VK}, WOk b.q G m μ H → RelR b.q.cA G m σ ρ → de ρ μ Q → (∀ v H' G' m' w μ', Le G m G' m' → WOk b.q G' m' μ' H' → WRel b.q.cA G' m' v w → Q w μ' → K v H') → te σ H K)
    {G : Hp} {m : Wd} {ρ : R} {μ : M} {σ : L2.St} {H : Hp} {Q : W → M → Prop} {K : VK} (o : WOk b G m μ H) (r : RelR b.cA G m σ ρ) (t : dLc2 ti dg dt ti1 dg1 dt1 de vs vs1 ρ μ Q)
    (k : ∀ v H' G' m' w μ', Le G m G' m' → WOk b G' m' μ' H' → WRel b.cA G' m' v w → Q w μ' → K v H') : tLc2 wi g tt wi1 g1 tt1 te vs vs1 σ H K := by
  refine qi o r t fun J H1 G1 m1 s μ1 l1 o1 so ⟨P, h0, hok, hstep, hend⟩ D hD => ?_
  have hcl : closedB μ1.length μ1 = true := closed_of o1.rel
  have hl : m1.length = μ1.length := o1.rel.len
  refine ⟨fun i n H => n = s.items.length - i ∧ i ≤ s.items.length ∧ ∃ acc G', Le G1 m1 G' (m1 ++ [[D]]) ∧ WOk b G' (m1 ++ [[D]]) (μ1 ++ [.lst acc]) H ∧ P i acc, ⟨s.items.length, by simp, Nat.zero_le _, [], G1, Le.cellNew, ?_, h0⟩, ?_⟩
  · exact o1.mono Le.cellNew (o1.rel.cellNew (c := .lst []) hD ⟨D, [], rfl, upd_same, .nil⟩)
  rintro i n H2 ⟨rfl, hi, acc, G2, l2, o2, hP⟩
  have same : ∀ {G2 G5 : Hp} {m5 : Wd} {acc : List DD.D} {H5 : Hp}, Le G2 (m1 ++ [[D]]) G5 m5 → RelM b.cA b.U G5 m5 (μ1 ++ [.lst acc]) H5 → m5 = m1 ++ [[D]] := fun {G2 G5 m5 acc H5} l5 o5 => by
    apply List.ext_getElem?
    intro i
    have hm5 : m5.length = (m1 ++ [[D]]).length := by rw [o5.len]; simp [hl]
    by_cases h : i < (m1 ++ [[D]]).length
    · rw [l5.m i _ (List.getElem?_eq_getElem h), List.getElem?_eq_getElem h]
    · rw [List.getElem?_eq_none (by omega), List.getElem?_eq_none (by omega)]
  by_cases hlt : i < s.items.length
  · refine .inr ⟨so.go l2 o2 (hok acc) hlt, fun H' => ∃ acc G', Le G1 m1 G' (m1 ++ [[D]]) ∧ WOk b G' (m1 ++ [[D]]) (μ1 ++ [.lst acc]) H' ∧ P (i + 1) acc, fun H' z => ⟨_, by omega, rfl, hlt, z⟩, fun x H3 y => ?_⟩
    obtain ⟨G3, d, l3, o3, e3, r3⟩ := so.yld l2 o2 (hok acc) y hlt
    have st := hstep i d acc e3 hP
    have r2 : RelR b.cA G3 (m1 ++ [[D]]) (L2.wipe σ vs) (wipeR ρ vs) := (((r.mono l1).mono l2).mono l3).wipe vs
    have wipe2 : L2.wipe (L2.wipe σ vs) vs = L2.wipe σ vs := wipe_wipe vs
    refine qg (v := x) (w := d) o3.q r2 r3 st fun σ4 H4 G4 m4 ρ4 μ4 l4 o4 r4 z4 t4 => ⟨z4.trans wipe2, ?_⟩
    refine qt o4 r4 t4 fun c H5 G5 m5 μ5 l5 o5 t5 => ?_
    have l35 := l4.trans l5
    cases c with
    | false =>
      obtain ⟨rfl, h5⟩ := t5
      have e5 := same l35 o5.rel
      subst e5
      exact ⟨acc, G5, l2.trans (l3.trans l35), o5.unq, h5⟩
    | true =>
      refine qi1 o5 (r4.mono l5) t5 fun J1 H6 G6 m6 s1 μ6 l6 o6 so1 ⟨eμ, hok1, P1, h01, hstep1, hend1⟩ => ?_
      subst eμ
      have e6 := same (l35.trans l6) o6.rel
      subst e6
      have l06 : Le G1 m1 G6 (m1 ++ [[D]]) := l2.trans (l3.trans (l35.trans l6))
      have r6 : RelR b.cA G6 (m1 ++ [[D]]) σ4 ρ4 := (r4.mono l5).mono l6
      refine ⟨fun j n H => n = s1.items.length - j ∧ j ≤ s1.items.length ∧ ∃ acc G', Le G6 (m1 ++ [[D]]) G' (m1 ++ [[D]]) ∧ WOk b.q G' (m1 ++ [[D]]) (μ1 ++ [.lst acc]) H ∧ P1 j acc, ⟨s1.items.length, by simp, Nat.zero_le _, acc, G6, Le.refl _ _, o6, h01⟩, ?_⟩
      rintro j n H7 ⟨rfl, hj, acc7, G7, l7, o7, hP1⟩
      by_cases hlt1 : j < s1.items.length
      · refine .inr ⟨so1.go l7 o7 (hok1 acc7) hlt1, fun H' => ∃ acc G', Le G6 (m1 ++ [[D]]) G' (m1 ++ [[D]]) ∧ WOk b.q G' (m1 ++ [[D]]) (μ1 ++ [.lst acc]) H' ∧ P1 (j + 1) acc, fun H' z => ⟨_, by omega, rfl, hlt1, z⟩, fun x H8 y => ?_⟩
        obtain ⟨G8, d8, l8, o8, e8, r8⟩ := so1.yld l7 o7 (hok1 acc7) y hlt1
        obtain ⟨hz, st1⟩ := hstep1 j d8 acc7 e8 hP1
        have r28 : RelR b.cA G8 (m1 ++ [[D]]) (L2.wipe σ4 vs1) (wipeR ρ4 vs1) := ((r6.mono l7).mono l8).wipe vs1
        have wipe3 : L2.wipe (L2.wipe σ4 vs1) vs1 = L2.wipe σ4 vs1 := wipe_wipe vs1
        refine qg1 (v := x) (w := d8) o8 r28 r8 st1 fun σ9 H9 G9 m9 ρ9 μ9 l9 o9 r9 z9 t9 => ⟨z9.trans wipe3, ?_⟩
        refine qt1 o9 r9 t9 fun c Ha Ga ma μa la oa ta => ?_
        cases c with
        | false =>
          obtain ⟨rfl, ha⟩ := ta
          have ea := same (l9.trans la) oa.rel
          subst ea
          exact ⟨acc7, Ga, l7.trans (l8.trans (l9.trans la)), oa, ha⟩
        | true =>
          refine qe oa (r9.mono la) ta fun y Hb Gb mb wb μb lb ob rb tb => ?_
          cases wb with
          | d db =>
            obtain ⟨rfl, hb⟩ := tb
            have lab := l9.trans (la.trans lb)
            have eb := same lab ob.rel
            subst eb
            have hn : (m1 ++ [[D]])[μ1.length]? = some [D] := by rw [← hl]; simp
            have hc : (μ1 ++ [Cell.lst acc7])[μ1.length]? = some (.lst acc7) := by simp
            obtain ⟨p', xs, f8, f9, f10⟩ := ob.rel.cell _ _ _ hc hn
            cases f8
            have pb : Rep b.cA Gb y db := by
              cases rb with
              | d q => exact q
            refine ⟨xs, f9, by rw [f10.len]; exact hz, acc7 ++ [db], Gb, l7.trans (l8.trans lab), ?_, hb⟩
            have rw7 := ob.rel.write (p := D) (o := .lst (xs ++ [y])) (c' := .lst (acc7 ++ [db])) hc hn rfl (by simp) rfl ⟨D, _, rfl, upd_same, f10.app (.cons pb .nil)⟩
            have e12 : (μ1 ++ [Cell.lst acc7]).set μ1.length (.lst (acc7 ++ [db])) = μ1 ++ [.lst (acc7 ++ [db])] := by simp
            rw [e12] at rw7
            exact ⟨ob.le, rw7⟩
          | r i => exact tb.elim
      · have e : j = s1.items.length := by omega
        subst e
        exact .inl ⟨so1.stop l7 o7 (hok1 acc7), acc7, G7, l06.trans l7, o7.unq, hend1 acc7 hP1⟩
  · have e : i = s.items.length := by omega
    subst e
    refine .inl ⟨so.stop l2 o2 (hok acc), ?_⟩
    have he := hend acc hP
    have hn : (m1 ++ [[D]])[μ1.length]? = some [D] := by rw [← hl]; simp
    have hc : (μ1 ++ [Cell.lst acc])[μ1.length]? = some (.lst acc) := by simp
    obtain ⟨p', xs, e8, e9, e10⟩ := o2.rel.cell _ _ _ hc hn
    cases e8
    have hg := (o2.rel.free _ _ _ D hc hn rfl (by simp)).1
    have rp : Rep b.cA (upd G2 D (.lst xs)) (.ref D) (.lst acc) := .lst upd_same (e10.mono (Le.know (m := m1) hg).g)
    have rz := o2.rel.freeze hc hn rfl e9 rp
    have e1 : ((μ1 ++ [Cell.lst acc]).set μ1.length (.frz (.lst acc))) = μ1 ++ [.frz (.lst acc)] := by simp
    rw [e1] at rz
    have rl := rel_last rz (by simpa using hcl)
    rw [dropLast_app, dropLast_app] at rl
    have l2' : Le G1 m1 G2 m1 := ⟨l2.g, fun _ _ e => e⟩
    have lk : Le G2 m1 (upd G2 D (.lst xs)) m1 := Le.know hg
    have le : Le b.G0 b.m0 G1 m1 := o1.le
    exact k _ H2 _ m1 _ μ1 (l1.trans (l2'.trans lk)) ⟨le.trans (l2'.trans lk), rl⟩ (.d rp) he
section
variable {X : Cx} {b : Bs} {elt tg iter tg1 iter1 : Expr} {ifs ifs1 : List Expr} {scope : Scope} {own : List (Str × Nat)} {vs1 : List Nat} {pos : Pos} {ti ti1 : DTI} {g g1 : DTG} {tt tt1 : DTT} {te : DTE}
theorem de_lc2 (hc : X.calm = true) (hN : X.N.Nodup) (hi : DI X b tg iter ti) (ok : BlkOk X.N X.env.scope scope own) (hv : ∀ i ∈ vs1, i ∈ own.map (·.2)) (hg : ∀ X', Blk X scope X' → DGo X' b.q (own.map (·.2)) tg g) (ht : ∀ X', Blk X scope X' → DTs X' b.q ifs tt)
    (hi1 : ∀ X', Blk X scope X' → DI X' b.q tg1 iter1 ti1) (hg1 : ∀ X', Blk X scope X' → DGo X' b.q vs1 tg1 g1) (ht1 : ∀ X', Blk X scope X' → DTs X' b.q ifs1 tt1) (he : ∀ X', Blk X scope X' → DE X' b.q elt te)
    (hs : ∀ x, foldedSetIterable iter X.env x = pure x := by intro _; rfl) (hs1 : ∀ env x, foldedSetIterable iter1 env x = pure x := by intro _ _; rfl) :
    DE X b (.ListComp elt [⟨tg, iter, ifs, 0⟩, ⟨tg1, iter1, ifs1, 0⟩] scope pos) (dLc2 ti g tt ti1 g1 tt1 te (own.map (·.2)) vs1) := by
  obtain ⟨wi, p1, q1⟩ := hi.ex
  obtain ⟨g', p2, q2⟩ := uni_g hg
  obtain ⟨t', p3, q3⟩ := uni_t ht
  obtain ⟨e', p4, q4⟩ := uni_e he
  obtain ⟨wi', p5, q5⟩ := uni_i hi1
  obtain ⟨g1', p6, q6⟩ := uni_g hg1
  obtain ⟨t1', p7, q7⟩ := uni_t ht1
  refine ⟨_, pe_lc2 hc hN p1 ok hv (fun s H C cl fp => p2 _ ⟨s, H, C, cl, fp, rfl⟩) (fun s H C cl fp => p3 _ ⟨s, H, C, cl, fp, rfl⟩) (fun s H C cl fp => p5 _ ⟨s, H, C, cl, fp, rfl⟩) (fun s H C cl fp => p6 _ ⟨s, H, C, cl, fp, rfl⟩) (fun s H C cl fp => p7 _ ⟨s, H, C, cl, fp, rfl⟩) (fun s H C cl fp => p4 _ ⟨s, H, C, cl, fp, rfl⟩) hs hs1, fun {G m ρ μ σ H Q K} o r t k => ?_⟩
  exact lc2_coreD (X := X) q1 q2 q3 q5 q6 q7 q4 o r t k
end
end DD
namespace DD
open PySem L2 RZ
open PySem.AutoSeq1 (wpAny_loadPart')
/-! ### l.extend(a tuple) -/
theorem list_extend_tup (l : Addr) (items : Array Value) (n : Nat) (b : Addr) (items2 : Array Value) (n2 : Nat) (dd : Option Addr) (sl : Array (Option Value)) (hs0 : ¬(!items.isEmpty && Builtin.List.listTooLong (items.size + items2.size)) = true) (hs1 : items.size ≤ sizeLine) (hs2 : items.size + items2.size ≤ sizeLine + 1) :
    Meets (Builtin.«list.extend» ⟨[.ref l, .ref b], []⟩) (fun _ R s => s.heap.get? l = some { cls := .type "list", dict := none, data := .seq items n, slots := #[] } ∧ s.heap.get? b = some { cls := .type "tuple", dict := dd, data := .seq items2 n2, slots := sl } ∧ R (.ok (.ret Value.none)) { s with heap := s.heap.update l (Obj.mapSeq fun x => x ++ items2), toks := s.toks }) :=
  .of_wp fun prog w A R s h => by
    obtain ⟨hp, g, d, tk, os⟩ := s
    obtain ⟨hl, hb, h⟩ := h
    have f1 := AutoSeq1.idx_int
    have f2 := AutoSeq1.sub_tuple_tuple
    have f3 := AutoSeq1.sub_list_list
    have f4 := AutoSeq1.sub_tuple_list
    have f5 := AutoSeq1.sub_list_tuple
    have hz' : (items ++ items2).size ≤ sizeLine + 1 := by rw [Array.size_append]; exact hs2
    wp_walk using (wpAny_updateSeq hl rfl (hz := hs1) (_hz' := hz')), wpAny_loadPart' hl, wpAny_loadPart' hb
    exact ⟨_, rfl, h⟩
def rExtendT : V → List V → Hp → VK → Prop := fun x vs H Q => ∃ l b xs zs, x = .ref l ∧ vs = [.ref b] ∧ H l = some (.lst xs) ∧ H b = some (.tup zs) ∧ xs.length + zs.length ≤ sizeLine ∧ Q .non (upd H l (.lst (xs ++ zs)))
section
variable {X : Cx}
theorem mt_extendT : MtM X "list.extend" rExtendT := by
  intro pins s σ H x vs v us Q I rx rv h
  obtain ⟨l, b, xs, zs, rfl, rfl, hH, hB, hz, q⟩ := h
  cases rx
  obtain ⟨u, rfl, ru⟩ := rv.one
  cases ru
  obtain ⟨z, its, n, r, hl, e⟩ := I.lstM hH
  obtain ⟨its2, r2, ⟨⟨cls, dd, data, sl⟩, e2, hc, n2, hd⟩, hl2⟩ := I.tuple (SqT.of hB)
  cases hc
  cases hd
  have l2 := r2.length
  have hsz : its.toArray.size + its2.toArray.size ≤ sizeLine := by rw [List.size_toArray, List.size_toArray]; omega
  have hlong : ¬ (!its.toArray.isEmpty && Builtin.List.listTooLong (its.toArray.size + its2.toArray.size)) = true := by
    rw [notLongL hsz, Bool.and_false]
    exact Bool.false_ne_true
  refine call_meets F.slot_list_extend ⟨_, e, rfl⟩ F.entry_list_extend (F.args_list_extend_2 _ _)
    (list_extend_tup l its.toArray n b its2.toArray n2 dd sl hlong (by rw [List.size_toArray]; omega) (by omega)) ⟨e, e2, ?_⟩
  refine ⟨.non, _, I.lset (its' := its ++ its2) hH e (by simp) (r.append r2) ?_, rfl, q⟩
  rw [List.length_append]
  omega
end
@[simp] def mExtT (ds es : List D) (q : List D → D → Prop) : Prop := match es with
  | [.tup zs] => ds.length + zs.length ≤ sizeLine ∧ q (ds ++ zs) .non
  | _ => False
theorem om_extT {b : Bs} : OpMs b rExtendT mExtT := by
  intro G H p us vs ds es q K hs h r1 r2 f k
  match es, r2, f with
  | [.tup zs], .cons r2 .nil, f =>
    cases r2 with
    | tup h2 r3 => exact ⟨p, _, us, _, rfl, rfl, h, hs _ _ h2, by rw [r1.len, r3.len]; exact f.1, k _ _ _ _ (r1.app r3) .non f.2⟩
/-! ### l + m as a list that may change -/
section
variable {X : Cx} {b : Bs} {e1 e2 : Expr} {ta tb : DTE} {pos : Pos}
@[simp] def dAddM (ta tb : DTE) (ρ : R) (μ : M) (Q : W → M → Prop) : Prop := ta ρ μ fun x μ1 => tb ρ μ1 fun y μ2 => match rs μ2 x, rs μ2 y with
  | some (.lst xs), some (.lst ys) => xs.length + ys.length ≤ sizeLine ∧ Q (.r μ2.length) (μ2 ++ [.lst (xs ++ ys)])
  | _, _ => False
theorem de_addM (ha : DE X b e1 ta) (hb : DE X b e2 tb) : DE X b (.BinOp e1 .Add e2 pos) (dAddM ta tb) := by
  obtain ⟨t1, p1, q1⟩ := ha.ex
  obtain ⟨t2, p2, q2⟩ := hb.ex
  refine ⟨_, pe_op op_cat p1 p2, fun {G m ρ μ σ H Q K} o r t k => ?_⟩
  refine q1 o r t fun x H1 G1 m1 w1 μ1 l1 o1 r1 t1 => ?_
  refine q2 o1 (r.mono l1) t1 fun y H2 G2 m2 w2 μ2 l2 o2 r2 t2 => ?_
  split at t2
  · rename_i xs ys e1 e2
    obtain ⟨p, vs, rfl, h1, rp⟩ := rs_ok o2.rel (r1.mono l2) e1
    obtain ⟨p', us, rfl, h2, rp'⟩ := rs_ok o2.rel r2 e2
    refine ⟨p, p', vs, us, rfl, rfl, h1, h2, by rw [rp.len, rp'.len]; exact t2.1, fun q hq => ?_⟩
    exact k _ _ _ _ _ _ ((l1.trans l2).trans Le.cellNew) (o2.mono Le.cellNew (o2.rel.cellNew (c := .lst _) hq ⟨q, _, rfl, upd_same, rp.app rp'⟩)) (.r (as := []) (by rw [← o2.rel.len]; simp)) t2.2
  · exact t2.elim
end
/-! ### a call with keywords, for handlers too -/
section
variable {X : Cx} {b : Bs} {p pos : Pos} {e : Expr} {es : List Expr} {kws : List Keyword} {ta : DTA} {x : Str} {S : FS} {j k n m : Nat} {f : CF1} {ks : List Str}
theorem de_calN' {tk : DTA} (hle : ∀ {ws : List W} {μ : M} {Q : W → M → Prop} {xc : Exc → M → Prop}, f ws μ Q xc → callS S ws μ Q xc) (h : CalN X.prog X.w X.K X.mg X.base b.cA x k S n ks) (hr : Room j X.A) (hj : k ≤ j) (hx : XOk X b) (ha : DA X b (e :: es) ta) (hw : DK X b kws tk) (hg : Gl X x)
    (hm : ks.length = m := by rfl) (hall : (backToKw pos (keywordEach kws X.env)).all (·.1.isSome) = true := by rfl) (hks : (backToKw pos (keywordEach kws X.env)).filterMap (·.1) = ks := by rfl)
    (hdb : (x == ("__debug__" : Str)) = false := by decide) (he : starEach (e :: es) X.env = (false, eval e X.env) :: starEach es X.env := by rfl)
    (hpl : ((backTo pos (starEach (e :: es) X.env)).any (·.1) || (backToKw pos (keywordEach kws X.env)).any (·.1.isNone)) = false := by rfl) :
    DE X b (.Call (.Name x p) (e :: es) kws pos) (dAppN f n m b.xc ta tk) := by
  subst hm
  exact de_calN hle h hr hj hx ha hw hg hall hks hdb he hpl
end
end DD
namespace DD
open PySem L2 RZ PySem.Spec PyProof.Rows
/-! ### len(set(t)), t a tuple of ints -/
section
variable {X : Cx} {b : Bs} {pos p p2 q : Pos} {e : Expr} {te : DTE}
def rLoT (K : PySem.W.Frag) : List V → Hp → VK → Prop := fun vs H Q => ∃ (l : Addr) (ns : List Int), vs = [V.ref l] ∧ SqT K H l (ns.map V.int) ∧ ns.length + 1 < scanBound ∧
  ∀ ms : List Int, ms.Nodup → (∀ k, k ∈ ms ↔ k ∈ ns) → Q (.int ms.length) H
def tLoT (K : PySem.W.Frag) (ta : TE) : TE := fun σ H Q => ta σ H fun x H1 => rLoT K [x] H1 Q
theorem pe_lenSetT {ta : TE} (hc : X.calm = true) (hg : Gl X "len") (hm : X.mg "len" = none) (hg2 : Gl X "set") (hm2 : X.mg "set" = none) (ha : PE X e ta)
    (na : starEach [e] X.env = (false, eval e X.env) :: starEach [] X.env := by rfl) : PE X (.Call (.Name "len" p) [.Call (.Name "set" p2) [e] [] q] [] pos) (tLoT X.K ta) := by
  refine ⟨fun pins s σ H Q I h => ?_⟩
  refine Call_ (ld_blt I hg hm boot_len ?_)
  refine PyProof.Rows.callWith_builtin1 (PyProof.Rows.args_cons ?_ rfl) rfl rfl
  refine Call_ (ld_blt I hg2 hm2 PyProof.Rows.boot_set ?_)
  refine PyProof.Rows.callWith_type1 (PyProof.Rows.args_cons (thn (ha.run pins s σ H _ I h) fun v s1 ⟨x, H1, I1, r1, q1⟩ => PyProof.Rows.args_nil ?_) na) na rfl
  obtain ⟨l, ns, ex, hq, hb, q1⟩ := q1
  cases ex
  cases r1
  obtain ⟨its, r, pl, hz⟩ := I1.tuple hq
  refine call_set_tupI ns (I1.ok.hd hc) pl (by simpa using r.ints) hb fun h' tk c R hcn keep => ?_
  refine PyProof.Rows.args_nil ?_
  have I2 : Inv X pins σ H1 { s1 with heap := h', toks := tk } := I1.kept fun b o e => keep b o e
  obtain ⟨o, es, ep, t, ho, hex, hd, _, hnd, hS, hsz, hf, hn, _⟩ := R
  have hlen : (es.toList.map keyOf).length = es.size := by simp
  have q2 := q1 _ hnd fun k => by rw [← hS k]; simp
  rw [hlen] at q2
  exact call_len_set ho hex hd hf (by unfold scanBound at hsz; omega) ⟨.int es.size, H1, I2.tok _, ⟨_, rfl⟩, q2⟩
@[simp] def fLoT (ds : List D) (q : D → Prop) : Prop := ∃ ns : List Int, ds = [.tup (ns.map .int)] ∧ ns.length + 1 < 4096 ∧ ∀ ms : List Int, ms.Nodup → (∀ k, k ∈ ms ↔ k ∈ ns) → q (.int ms.length)
@[simp] def dLoT (te : DTE) (ρ : R) (μ : M) (Q : W → M → Prop) : Prop := te ρ μ fun w μ1 => match rss μ1 [w] with
  | some ds => fLoT ds fun d => Q (.d d) μ1
  | none => False
theorem on_lot {K : PySem.W.Frag} : OpN b (rLoT K) fLoT := by
  intro G m μ H vs ds q Kq w n f k
  obtain ⟨ns, rfl, hb, f⟩ := f
  obtain ⟨a, us, rfl, h, rp⟩ := seq_at (K := K) n rfl
  have h := h.resolve_left (by rintro ⟨_, z⟩; cases z)
  have := reps_ints_v rp
  subst this
  exact ⟨a, ns, rfl, h.1, hb, fun ms h1 h2 => give_old w (.int _) (f ms h1 h2) k⟩
theorem de_lot (hc : X.calm = true) (hm : X.mg "len" = none) (hm2 : X.mg "set" = none) (he : DE X b e te) (hg : Gl X "len") (hg2 : Gl X "set") (na : starEach [e] X.env = (false, eval e X.env) :: starEach [] X.env := by rfl) :
    DE X b (.Call (.Name "len" p) [.Call (.Name "set" p2) [e] [] q] [] pos) (dLoT te) := by
  obtain ⟨t', pa, qa⟩ := he.ex
  refine ⟨_, pe_lenSetT hc hg hm hg2 hm2 pa na, fun {G m ρ μ σ H Q K} o r t k => ?_⟩
  refine qa o r t fun v H1 G1 m1 w μ1 l1 o1 r1 t1 => ?_
  split at t1
  · rename_i ds e1
    exact on_lot o1 (rss_ok (vs := [v]) (ws := [w]) o1.rel (.cons r1 .nil) e1) t1 fun v' H' G' z l o' rp qz => k v' H' G' m1 _ μ1 (l1.trans l) o' (.d rp) qz
  · exact t1.elim
end
/-! ### a, b = a tuple or a list -/
section
variable {X : Cx} {b : Bs} {pos : Pos}
@[simp] def gSq (n : Nat) (t : List D → R → M → (R → M → Prop) → Prop) (w : W) (ρ : R) (μ : M) (Q : R → M → Prop) : Prop := match w with
  | .d (.tup ds) => ds.length = n ∧ t ds ρ μ Q
  | .d (.lst ds) => ds.length = n ∧ t ds ρ μ Q
  | _ => False
theorem pg_or {tg : Expr} {g1 g2 : TG} (h1 : L2.PG X tg g1) (h2 : L2.PG X tg g2) : L2.PG X tg (fun v σ H Q => g1 v σ H Q ∨ g2 v σ H Q) :=
  ⟨fun pins s σ H v u Q I rv q => q.elim (fun q => h1.run pins s σ H v u Q I rv q) (fun q => h2.run pins s σ H v u Q I rv q)⟩
theorem dg_sq {es : List Expr} {j n : Nat} {t : List D → R → M → (R → M → Prop) → Prop} (hc : X.calm = true) (h : DGs X b es t) (hn : (assignEach es X.env).length = n := by rfl) (hst : (assignEach es X.env).findIdx? (·.1) = none := by rfl) : DG X b (.Tuple es j pos) (gSq n t) := by
  obtain ⟨gs, ps, qs⟩ := h.ex
  refine ⟨_, pg_or (pg_tup hc ps hn hst) (pg_unl hc ps hn hst), fun {G m ρ μ σ H v w Q K} o r q t k => ?_⟩
  unfold gSq at t
  split at t
  · rename_i ds
    cases q with
    | d q =>
      obtain ⟨p, xs, rfl, h1, r1⟩ := q.now o.rel.gh
      exact .inl ⟨p, xs, rfl, SqT.of h1, by rw [r1.len]; exact t.1, qs o r r1 t.2 k⟩
  · rename_i ds
    cases q with
    | d q =>
      obtain ⟨p, xs, rfl, h1, r1⟩ := q.now o.rel.gh
      exact .inr ⟨p, xs, rfl, SqL.of h1, by rw [r1.len]; exact t.1, qs o r r1 t.2 k⟩
  · exact t.elim
end
end DD
namespace DD
open PySem L2 RZ PySem.Spec PyProof.Rows
/-! ### enumerate(a tuple) -/
theorem enum_new_tup {t : Addr} {xs : Array Value} :
    Meets (Builtin.«enumerate.__new__» ⟨[.type "enumerate", .ref t], []⟩) (fun _ R s => s.heap.IsTuple t xs ∧
      R (.ok (.ret (.ref (s.heap.push { cls := .type "tuple_iterator", data := .fields #[.ref t, .int 0 0] }).objs.size))) { s with heap := (s.heap.push { cls := .type "tuple_iterator", data := .fields #[.ref t, .int 0 0] }).push { cls := .type "enumerate", data := .fields #[.none, .bool false, .ref s.heap.objs.size, rawInt 0, .none, .none] } }) :=
  .of_wp fun pr ww AA RR ss hh => by
    obtain ⟨heap0, gens0, drawn0, toks0, os0⟩ := ss
    obtain ⟨ht, hR⟩ := hh
    have sub0 := sub_enumerate
    have pit : ∀ {A' : Around} {E : Value → Shared → Prop} {Q : Value → Shared → Prop}, Q (.ref heap0.objs.size) ⟨heap0.push { cls := .type "tuple_iterator", data := .fields #[.ref t, .int 0 0] }, gens0, drawn0, toks0, os0⟩ → wpAny (model pr ww) A' (pyIter (.ref t)) Q E ⟨heap0, gens0, drawn0, toks0, os0⟩ :=
      fun q => wpAny_pyIter_tuple ht q
    wp_walk using pit
    refine wpAny_stack_any fun fr => wpAny_pure ?_
    split
    · rename_i cc _ _ _ _ _
      cases (cc == Value.type "enumerate")
      all_goals
        wp_walk using pit
        exact ⟨_, rfl, hR⟩
    · wp_walk using pit
      exact ⟨_, rfl, hR⟩
theorem enum_call_tup {prog : Program} {w : World} {A : Around} {E : Value → Shared → Prop} {s : Shared} {t : Addr} {xs : Array Value} {Q : Value → Shared → Prop} (ht : s.heap.IsTuple t xs)
    (k : ∀ h1, IsEnum h1 (s.heap.objs.size + 1) s.heap.objs.size 0 .none → h1.IsTupleIter s.heap.objs.size t 0 → (∀ b o, s.heap.get? b = some o → h1.get? b = some o) → Q (.ref (s.heap.objs.size + 1)) { s with heap := h1 }) :
    wpAny (model prog w) A (call (.type "enumerate") [.ref t]) Q E s := by
  have z1 : (s.heap.push { cls := .type "tuple_iterator", data := .fields #[.ref t, .int 0 0] }).objs.size = s.heap.objs.size + 1 := Heap.size_push ..
  refine callType_new F.called_enumerate (by decide) (F.typeCall_enumerate_1 _) (F.newCall_enumerate_1 _) (fun o1 => F.args_object_init_2 o1 _) F.entry_enumerate_new (enum_new_tup (xs := xs)) ⟨ht, ?_⟩
  show _ ∧ _
  rw [z1]
  have g1 := Heap.get?_push_size (s.heap.push { cls := .type "tuple_iterator", data := .fields #[.ref t, .int 0 0] }) (o := { cls := .type "enumerate", data := .fields #[.none, .bool false, .ref s.heap.objs.size, rawInt 0, .none, .none] }) rfl
  rw [z1] at g1
  exact ⟨⟨_, g1, rfl⟩, k _ g1 ⟨_, Heap.get?_push_of_some _ (Heap.get?_push_size _ rfl), rfl, rfl⟩ fun b o e => Heap.get?_push_of_some _ (Heap.get?_push_of_some _ e)⟩
/-- a tuple's items in new pairs -/
def IteT (K : PySem.W.Frag) (a : Addr) : It :=
  ⟨fun i H => ∃ xs x, SqT K H a xs ∧ xs[i]? = some x, fun i H v H' => ∃ T x, v = .ref T ∧ H T = none ∧ H' = upd H T (.tup [.int (i : Nat), x]) ∧ ∀ xs, SqT K H a xs → xs[i]? = some x, fun i H => ∃ xs, SqT K H a xs ∧ xs.length = i⟩
theorem tup_is {h : Heap} {a : Addr} {items : Array Value} (k : IsTup h a items) : h.IsTuple a items := k
theorem turn_enumT {P : Program} {w : World} {K : PySem.W.Frag} {elts : List Expr} {kk : Nat} {tpos : Pos} (t e it : Addr) (hti : t ≠ it) :
    Turn P w K (.Tuple elts kk tpos) (IteT K t) [e, it] e (fun i h => (∃ old, IsEnum h e it ((i : Nat) : Int) old) ∧ h.IsTupleIter it t i ∧ e ≠ it) where
  mem := by simp
  obj := fun i h st b hb => by
    obtain ⟨⟨old, h1⟩, ⟨o, h2, _, h3⟩, _⟩ := st
    have hb : b = e ∨ b = it := by simpa using hb
    rcases hb with rfl | rfl
    · exact ⟨_, h1, fun _ z => nomatch z⟩
    · exact ⟨o, h2, fun _ z => by rw [h3] at z; cases z⟩
  keep := fun i h h' st k => by
    obtain ⟨⟨old, h1⟩, h2, h4⟩ := st
    exact ⟨⟨old, k e (by simp) _ h1⟩, h2.at fun o z => k it (by simp) o z, h4⟩
  item := by
    intro X hP hw hK hc i pins s σ H E I hf st hg
    subst hP hw hK
    obtain ⟨⟨old, h1⟩, h2, h4⟩ := st
    obtain ⟨xs, x, hq, hx⟩ := hg
    obtain ⟨us, rv, pl, _⟩ := I.tuple hq
    have dr := Draws.tuple (prog := X.prog) (w := X.w) (A := X.A.in1) (I.ok.hd hc) it t hti us.toArray
    have el := Heap.lt_size h1
    have il : it < s.heap.objs.size := by
      obtain ⟨_, z, _⟩ := h2
      exact Heap.lt_size z
    have ilt : i < us.toArray.size := by
      have := (List.getElem?_eq_some_iff.mp hx).1
      rw [rv.length] at this
      simpa using this
    have tne : t ≠ e := fun z => by
      obtain ⟨o, g1, g2, _⟩ := tup_is pl
      rw [z, h1] at g1
      cases g1
      simp at g2
    refine wpAny_pyNext_enum_itemD dr h1 ⟨h2, tup_is pl⟩ ilt h4 (by simp [h4, Ne.symm tne]) fun u h5 tk hu ho hst hT hsz hk => ?_
    refine ⟨_, rfl, wpAny_letOwnedTupleGo_enum (s := { s with heap := h5, toks := tk + 1 }) ho fun h6 he6 sb => ?_⟩
    have hT6 : h6.get? s.heap.objs.size = some { cls := .type "tuple", data := .seq #[.int i tk, u] } := (sb.2 _ (Nat.ne_of_gt el)).trans hT
    obtain ⟨u', hu', ru⟩ := rv.get hx
    have eu : u' = u := by
      have : us[i]? = some u := by simpa using hu
      rw [hu'] at this
      exact Option.some.inj this
    subst eu
    have ob : ObjOk X.prog X.w (upd H s.heap.objs.size (.tup [.int (i : Nat), x])) h6 s.heap.objs.size (.tup [.int (i : Nat), x]) :=
      ⟨by show 2 ≤ sizeLine; decide, [.int i tk, u'], .cons ⟨_, rfl⟩ (.cons ru .nil), ⟨_, hT6, rfl, _, rfl⟩⟩
    have I6 : L2.Inv X pins σ (upd H s.heap.objs.size (.tup [.int (i : Nat), x])) { s with heap := h6, toks := tk + 1 } :=
      I.turnedNew (ch := [e, it]) (fun b o hb q => by
        have n1 : b ≠ e := fun z => hb (by simp [z])
        have n2 : b ≠ it := fun z => hb (by simp [z])
        exact (sb.2 b n1).trans (hk b o n1 n2 q)) hf (Nat.le_refl _) ob
    refine ⟨.ref s.heap.objs.size, _, I6, rfl, ⟨_, x, rfl, I.hok.fresh (Nat.le_refl _), rfl, fun ys hy => by rw [I.tuple_inj hy hq]; exact hx⟩, ⟨⟨u', ?_⟩, hst.1.at fun o z => (sb.2 it (Ne.symm h4)).trans z, h4⟩, fun b hb => ?_⟩
    · rw [show ((i + 1 : Nat) : Int) = (i : Int) + 1 by omega]
      exact he6
    · have hbl : b < s.heap.objs.size := by
        have hb : b = e ∨ b = it := by simpa using hb
        rcases hb with rfl | rfl
        · exact el
        · exact il
      rw [upd_ne (Nat.ne_of_lt hbl)]
      exact (hf b hb).1
  done := by
    intro X hP hw hK hc i pins s σ H E I hf st hg
    subst hP hw hK
    obtain ⟨⟨old, h1⟩, h2, h4⟩ := st
    obtain ⟨xs, hq, rfl⟩ := hg
    obtain ⟨us, rv, pl, _⟩ := I.tuple hq
    have dr := Draws.tuple (prog := X.prog) (w := X.w) (A := X.A.in1) (I.ok.hd hc) it t hti us.toArray
    have el : xs.length = us.toArray.size := by rw [rv.length]; simp
    rw [el] at h2
    obtain ⟨f0, f1, f2, f3, f4, f5⟩ := hf it (by simp)
    exact wpAny_pyNext_enum_endD dr h1 ⟨h2, tup_is pl⟩ fun h7 eb => ⟨rfl, I.turned (t' := s.toks) (fun b o hb q => eb b o hb q) f0 f1 f3 f4 f5⟩
  self := fun A i s Q E st h => by
    obtain ⟨⟨_, h1⟩, _⟩ := st
    exact wpAny_pyIter_enum h1 h
def iEnumT0 (K : PySem.W.Frag) (ta : TA) : TI := fun σ H R => ta σ H fun vs H1 => ∃ a xs, vs = [.ref a] ∧ SqT K H1 a xs ∧ R (IteT K a) H1
theorem pi_enumT {X : Cx} {e : Expr} {ta : TA} {p pos tpos : Pos} {elts : List Expr} {kk : Nat} (hg : Gl X "enumerate") (hm : X.mg "enumerate" = none) (ha : PA X [e] ta) (hs : starEach [e] X.env = [(false, eval e X.env)] := by rfl) :
    L2.PI X (.Tuple elts kk tpos) (.Call (.Name "enumerate" p) [e] [] pos) (iEnumT0 X.K ta) := by
  refine ⟨fun pins s σ H R I h => ?_⟩
  refine Call_ (ld_blt I hg hm boot_enumerate (PyProof.Rows.callWith_type1 (thn (ha.run pos pins s σ H _ I h) fun us s1 ⟨vs, H1, I1, r1, q1⟩ => ?_) hs rfl))
  obtain ⟨a, xs, ex, hq, q⟩ := q1
  subst ex
  cases r1 with
  | cons rh rt =>
    cases rt
    cases rh
    obtain ⟨its, rv, pl, _⟩ := I1.tuple hq
    refine enum_call_tup (tup_is pl) fun h1 he hit hk => wpAny_pyIter_enum he ?_
    have I2 : L2.Inv X pins σ H1 { s1 with heap := h1 } := I1.kept (t' := s1.toks) hk
    obtain ⟨o, ga, _⟩ := tup_is pl
    have al := Heap.lt_size ga
    refine ⟨s1.heap.objs.size + 1, [s1.heap.objs.size + 1, s1.heap.objs.size], _, _, H1, rfl, I2, turn_enumT a (s1.heap.objs.size + 1) s1.heap.objs.size (Nat.ne_of_lt al), ⟨⟨.none, he⟩, hit, Nat.succ_ne_self _⟩, fun b hb => ?_, q⟩
    have hle : s1.heap.objs.size ≤ b := by
      have hb : b = s1.heap.objs.size + 1 ∨ b = s1.heap.objs.size := by simpa using hb
      rcases hb with z | z
      · rw [z]
        exact Nat.le_add_right _ _
      · rw [z]
        exact Nat.le_refl _
    exact I1.fpOk hle (I1.hok.fresh hle)
@[simp] def iEnT (te : DTE) (ρ : R) (μ : M) (Q : Src → M → Prop) : Prop := te ρ μ fun w μ1 => match w with
  | .d (.tup ds) => Q ⟨numb 0 ds, fun _ => True⟩ μ1
  | _ => False
theorem di_enT {X : Cx} {b : Bs} {e : Expr} {te : DTE} {p pos tpos : Pos} {elts : List Expr} {kk : Nat} (hg : Gl X "enumerate") (hm : X.mg "enumerate" = none) (ha : DE X b e te) (hs : starEach [e] X.env = [(false, eval e X.env)] := by rfl) :
    DI X b (.Tuple elts kk tpos) (.Call (.Name "enumerate" p) [e] [] pos) (iEnT te) := by
  obtain ⟨t', pa, qa⟩ := ha.ex
  refine ⟨_, pi_enumT hg hm (pa_cons pa pa_nil hs) hs, fun {G m ρ μ σ H Q K} o r t k => ?_⟩
  refine qa o r t fun v H1 G1 m1 w μ1 l1 o1 r1 t1 => ?_
  split at t1
  · rename_i ds
    cases r1 with
    | d q =>
      obtain ⟨a, xs, rfl, h1, h2⟩ := q.now o1.rel.gh
      refine ⟨a, xs, rfl, SqT.of h1, k _ H1 G1 m1 _ μ1 l1 o1 ?_ t1⟩
      have key : ∀ {G' m' μ' H'}, Le G1 m1 G' m' → WOk b G' m' μ' H' → ∃ xs, H' a = some (.tup xs) ∧ Reps b.cA G' xs ds := fun {G' m' μ' H'} l o' => by
        obtain ⟨a', ys, e1, e2, e3⟩ := (q.mono l.g).now o'.rel.gh
        cases e1
        exact ⟨ys, e2, e3⟩
      refine ⟨fun {G' m' μ' H' i} l o' _ h => ?_, fun {G' m' μ' H' i x H2} l o' _ y h => ?_, fun {G' m' μ' H'} l o' _ => ?_⟩
      · obtain ⟨xs, e, rr⟩ := key l o'
        have hl := rr.len
        rw [numb_len] at h
        exact ⟨xs, xs[i]'(by rw [hl]; exact h), SqT.of e, List.getElem?_eq_getElem _⟩
      · obtain ⟨xs, e, rr⟩ := key l o'
        obtain ⟨T, z, rfl, hT, rfl, y⟩ := y
        obtain ⟨d, h3, h4⟩ := rr.get (y xs (SqT.of e))
        have hg := (o'.rel.new hT).1
        have l2 : Le G' m' (upd G' T (.tup [.int (i : Nat), z])) m' := Le.know hg
        refine ⟨_, _, l2, o'.mono l2 (o'.rel.know hT), numb_get h3, .d (.tup upd_same (.cons ?_ (.cons (h4.mono l2.g) .nil)))⟩
        rw [Nat.zero_add]
        exact .int _
      · obtain ⟨xs, e, rr⟩ := key l o'
        exact ⟨xs, SqT.of e, by rw [rr.len, numb_len]⟩
  · exact t1.elim
end DD
namespace DD
open PySem L2 RZ PySem.Spec PyProof.Rows
/-! ### is not True -/
section
variable {X : Cx} {b : Bs} {pos : Pos} {e1 e2 : Expr} {ta tb : DTE}
def rNotB : V → V → Hp → VK → Prop := fun x y H Q => ∃ c d, x = .bl c ∧ y = .bl d ∧ Q (.bl (!decide (c = d))) H
theorem op_notB : OpR X (compareOp .IsNot) rNotB := by
  intro pn st σ h0 x y v w K Iv r1 r2 z
  obtain ⟨c, d, rfl, rfl, k⟩ := z
  cases (show v = Value.bool c from r1)
  cases (show w = Value.bool d from r2)
  rcases Decidable.em (c = d) with rfl | e
  · refine wpAny_isNot_self rfl ?_
    exact ⟨.bl false, h0, Iv, rfl, by simpa using k⟩
  · refine wpAny_isNot_other rfl (fun z => e (Value.bool.inj z)) ?_
    exact ⟨.bl true, h0, Iv, rfl, by simpa [e] using k⟩
@[simp] def fNotB (x y : D) (q : D → Prop) : Prop := match x, y with
  | .bl c, .bl d => q (.bl (!decide (c = d)))
  | _, _ => False
theorem o2_notB : Op2 b rNotB fNotB := by
  intro G m μ H v u x y q Kq w nx ny f k
  match x, y, nx, ny, f with
  | .bl c, .bl d, nx, ny, f =>
    cases nx
    cases ny
    refine ⟨c, d, rfl, rfl, ?_⟩
    exact give_old w (.bl _) f k
theorem de_notB (ha : DE X b e1 ta) (hb : DE X b e2 tb) : DE X b (.Compare e1 [.IsNot] [e2] pos) (dOp fNotB ta tb) := de_cmp op_notB o2_notB ha hb (nomark _)
theorem dt_notB (ha : DE X b e1 ta) (hb : DE X b e2 tb) : DT X b (.Compare e1 [.IsNot] [e2] pos) (dB (dOp fNotB ta tb)) := dt_cmp op_notB o2_notB ha hb (nomark _)
end
end DD
namespace DD
open PySem L2 RZ PySem.Spec PyProof.Rows
/-! ### sorted(list of tuples), a list that may change -/
section
variable {X : Cx} {b : Bs} {pos p : Pos} {e : Expr} {ta : DTA}
theorem sort_tm {K : PySem.W.Frag} {G : Hp} {m : Wd} {μ : M} {H : Hp} {vs : List V} {ds : List D} {gs : List (List Int)} {Kq : VK} (w : WOk b G m μ H) (n : Nows b.cA G H vs ds) (e : seqIn ds = some (gs.map tints)) (hne : ∀ g ∈ gs, g ≠ []) (k : ∀ l ys, H l = none → Reps b.cA G ys ((sortG gs).map tints) → Kq (.ref l) (upd H l (.lst ys))) : rSortTL K vs H Kq := by
  obtain ⟨a, us, rfl, h, rp⟩ := seq_at (K := K) n e
  have each : ∀ {xs : List V} {gs : List (List Int)}, Reps b.cA G xs (gs.map tints) → ∀ x ∈ xs, ∃ g ∈ gs, Rep b.cA G x (tints g) := by
    intro xs gs
    induction gs generalizing xs with
    | nil => intro r; cases r; intro x hx; cases hx
    | cons g gs ih =>
      intro r
      cases r with
      | cons r rs =>
        intro x hx
        rcases List.mem_cons.mp hx with rfl | hx
        · exact ⟨g, List.mem_cons_self .., r⟩
        · obtain ⟨g', h1, h2⟩ := ih rs x hx
          exact ⟨g', List.mem_cons_of_mem _ h1, h2⟩
  refine ⟨a, us, rfl, h.imp (·.1) (·.1), fun x hx => ?_, fun ys l p1 p2 hl => ?_⟩
  · obtain ⟨g, h1, h2⟩ := each rp x hx
    exact ⟨g, rep_tints w.rel.gh h2, hne g h1⟩
  · obtain ⟨es, q1, q2⟩ := reps_perm p1 rp
    obtain ⟨hs, rfl, q3⟩ := perm_map q1
    have srt : hs.Pairwise fun a b => lexI b a = false := by
      clear q1 q3
      induction hs generalizing ys with
      | nil => exact List.Pairwise.nil
      | cons h1 hs ih =>
        cases q2 with
        | cons r rs =>
          rename_i y ys
          obtain ⟨z1, z2⟩ := List.pairwise_cons.mp p2
          refine List.pairwise_cons.mpr ⟨fun g hg => ?_, ?_⟩
          · obtain ⟨i, hi, rfl⟩ := List.getElem_of_mem hg
            obtain ⟨v, hv, rv⟩ := rs.get' (i := i) (d := tints hs[i]) (by simp [hi])
            exact z1 v (List.mem_of_getElem? hv) _ _ (rep_tints w.rel.gh r) (rep_tints w.rel.gh rv)
          · have : ∀ {xs : List V}, Reps b.cA G xs (hs.map tints) → xs.Pairwise (fun x y => ∀ n m, TupI K H x n → TupI K H y m → lexI m n = false) → hs.Pairwise fun a b => lexI b a = false := by
              intro xs
              clear ih z1 z2 p2 rs r p1 rp h1
              induction hs generalizing xs with
              | nil => intro _ _; exact List.Pairwise.nil
              | cons h2 hs ih =>
                intro r p2
                cases r with
                | cons r rs =>
                  obtain ⟨z1, z2⟩ := List.pairwise_cons.mp p2
                  refine List.pairwise_cons.mpr ⟨fun g hg => ?_, ih rs z2⟩
                  obtain ⟨i, hi, rfl⟩ := List.getElem_of_mem hg
                  obtain ⟨v, hv, rv⟩ := rs.get' (i := i) (d := tints hs[i]) (by simp [hi])
                  exact z1 v (List.mem_of_getElem? hv) _ _ (rep_tints w.rel.gh r) (rep_tints w.rel.gh rv)
            exact this rs z2
    rw [sortG_uniq q3 srt] at q2
    exact k l ys hl q2
@[simp] def dSortTM (ta : DTA) (ρ : R) (μ : M) (Q : W → M → Prop) : Prop := ta ρ μ fun ws μ1 => match rss μ1 ws with
  | some ds => ∃ gs : List (List Int), seqIn ds = some (gs.map tints) ∧ (∀ g ∈ gs, g ≠ []) ∧ Q (.r μ1.length) (μ1 ++ [.lst ((sortG gs).map tints)])
  | none => False
theorem de_sortTM (hm : X.mg "sorted" = none) (ha : DA X b [e] ta) (hg : Gl X "sorted") (he : starEach [e] X.env = [(false, eval e X.env)] := by rfl) (hpl : (backTo pos (starEach [] X.env)).any (·.1) = false := by rfl) : DE X b (.Call (.Name "sorted" p) [e] [] pos) (dSortTM ta) := by
  obtain ⟨t', pa, qa⟩ := ha.ex
  refine ⟨_, pe_callB cr_sortTL hg hm PyProof.Rows.boot_sorted pa (he := he) (hpl := hpl), fun {G m ρ μ σ H Q K} o r t k => ?_⟩
  refine qa o r t fun vs H1 G1 m1 ws μ1 l1 o1 r1 t1 => ?_
  split at t1
  · rename_i ds e1
    obtain ⟨gs, e2, hne, t1⟩ := t1
    refine sort_tm o1 (rss_ok o1.rel r1 e1) e2 hne fun l ys hl rp => ?_
    exact k _ _ _ _ _ _ (l1.trans Le.cellNew) (o1.mono Le.cellNew (o1.rel.cellNew (c := .lst _) hl ⟨l, ys, rfl, upd_same, rp⟩)) (.r (as := []) (by rw [← o1.rel.len]; simp)) t1
  · exact t1.elim
end
end DD
namespace DD
open PySem L2 PySem.Spec PyProof.Rows LamX

/-! ### a lambda handed to a def, the heap told exactly -/
/-- the maker's table after the lambda was made: as it was, or one code object more -/
def NewC (H : Hp) (P : Addr) (ps : Array Value) (q : Str) (H1 : Hp) (c1 : Addr) : Prop :=
  (H1 = H ∧ ∃ p' : Pos, codeAmong p' ps.toList = some (.ref c1)) ∨ (H c1 = none ∧ ∃ u v : Value, TriplesOk (ps ++ #[u, v, .ref c1]).toList ∧ (∀ (p' : Pos) (cv : Value), codeAmong p' (ps ++ #[u, v, .ref c1]).toList = some cv → codeAmong p' ps.toList = some cv ∨ cv = .ref c1) ∧ H1 = upd (upd H P (.tbl (ps ++ #[u, v, .ref c1]))) c1 (CodeO c1 q))
def TabOk (H : Hp) (ps : Array Value) (q : Str) : Prop := TriplesOk ps.toList ∧ ∀ (p' : Pos) (cv : Value), codeAmong p' ps.toList = some cv → ∃ c, cv = .ref c ∧ H c = some (CodeO c q)
section
variable {X : Cx} {pins : List (Addr × Obj)} {σ : L2.St} {H : Hp} {s : Shared}
theorem lam_born {c P : Addr} {ps : Array Value} {prm : Arguments} {bd : Expr} {sc : Scope} {at_ : Pos} {E Q : Value → Shared → Prop} (I : Inv X pins σ H s) (TB : TabB X.base X.mg c P) (hcode : X.env.code = .ref c)
    (hP : H P = some (.tbl ps)) (ok : TabOk H ps (X.env.qual ++ "<lambda>")) (hdef : defaultsOf prm X.env = ([], [])) (hfree : ∀ y ∈ sc.names, y.2 = .free → ∃ c, X.env.cells.lookup y.1 = some c)
    (h : ∀ (f c1 : Addr) (pm ct : Value) (H1 : Hp) (s1 : Shared), Inv X pins σ H1 s1 → NewC H P ps (X.env.qual ++ "<lambda>") H1 c1 →
      s1.heap.get? f = some (PySem.W.kla_obj "<lambda>" (X.env.qual ++ "<lambda>") prm bd sc (cloFrom X.env.cells sc.names []) pm c1 ct) → H1 f = none → f ∉ frs X.stack → Q (.ref f) s1) :
    wpAny (model X.prog X.w) X.A (eval (.Lambda prm bd sc at_) X.env) Q E s := by
  have e1 : s.heap.get? P = some { cls := .none, data := .fields ps } := I.hok P _ hP
  have bm : s.heap.BuiltinsAt X.mg P := TB.bm.keeps I.bk
  have nf : ∀ f, s.heap.objs.size ≤ f → f ∉ frs X.stack := fun f hf z => (List.mem_cons.mp (I.stkSub _ z)).elim (fun e => by
    have := I.lt
    rw [← e] at this
    exact Nat.lt_irrefl _ (Nat.lt_of_lt_of_le this hf)) (I.nofs hf)
  refine PySem.W.kla_eval hdef ?_
  rcases hc : codeAmong at_ ps.toList with _ | cv
  · refine PySem.W.kla_makeFunction (c := c) (P := P) (mg := X.mg) (ps := ps) (closure_ok hfree) I.ok.glob (I.mod.glob.keeps I.bk) hcode (TB.code.keeps I.bk) e1 ok.1 hc TB.gP bm fun c1 ct hp tk hx hge hlt hrec htb => ?_
    obtain ⟨c2, oc, vs, t, ec, hoc, hd, hv⟩ := hrec
    cases ec
    have big : s.heap.objs.size ≤ hp.objs.size := by omega
    have nC : H c1 = none := I.hok.fresh hge
    let nf_ := PySem.W.kla_obj "<lambda>" (X.env.qual ++ "<lambda>") prm bd sc (cloFrom X.env.cells sc.names []) ((X.mg "__name__").getD .none) c1 ct
    have J := inv_table (c := c1) (q := X.env.qual ++ "<lambda>") (t' := tk) (more := #[rawInt at_.line, rawInt at_.col, .ref c1]) (h' := hp.push nf_) I hP (fun b o hb e => Heap.get?_push_of_some _ (hx b o hb e)) (Heap.get?_push_of_some _ htb) hge ⟨oc, vs, t, Heap.get?_push_of_some _ hoc, hd, hv⟩
    have eL : (ps ++ #[rawInt at_.line, rawInt at_.col, Value.ref c1]).toList = ps.toList ++ [rawInt at_.line, rawInt at_.col, .ref c1] := by simp
    refine h hp.objs.size c1 ((X.mg "__name__").getD .none) ct _ _ J (.inr ⟨nC, _, _, ?_, fun p' cv z => ?_, rfl⟩) (Heap.get?_push_size _ rfl) ?_ (nf _ big)
    · rw [eL]
      exact PySem.TriplesOk_snoc _ _ _ _ ok.1
    · rw [eL] at z
      exact among_app _ ok.1 z
    · rw [upd_ne (show hp.objs.size ≠ c1 from Nat.ne_of_gt hlt), upd_ne (show hp.objs.size ≠ P from Nat.ne_of_gt (Nat.lt_of_lt_of_le (Heap.lt_size e1) big))]
      exact I.hok.fresh big
  · obtain ⟨c1, rfl, _⟩ := ok.2 at_ cv hc
    refine PySem.W.kla_makeFunctionHit (c := c) (P := P) (mg := X.mg) (ps := ps) (closure_ok hfree) I.ok.glob (I.mod.glob.keeps I.bk) hcode (TB.code.keeps I.bk) e1 ok.1 hc bm fun ct hp tk hx hsz => ?_
    let nf_ := PySem.W.kla_obj "<lambda>" (X.env.qual ++ "<lambda>") prm bd sc (cloFrom X.env.cells sc.names []) ((X.mg "__name__").getD .none) c1 ct
    have J : Inv X pins σ H { s with heap := hp.push nf_, toks := tk } := I.kept fun b o e => Heap.get?_push_of_some _ (hx b o e)
    exact h hp.objs.size c1 ((X.mg "__name__").getD .none) ct H _ J (.inl ⟨rfl, _, hc⟩) (Heap.get?_push_size _ rfl) (I.hok.fresh hsz) (nf _ hsz)
/-- the frame of the def that calls what it got -/
abbrev gX (X : Cx) (Ng : List Str) (x : Str) (sg : Scope) (g : Addr) (cdg : Value) (s : Shared) (H : Hp) : Cx := cxOf C8.CX0 X.prog X.w X.K X.mg X.base Ng x sg g cdg X.A X.stack s H C8.E0
/-- what the def that calls it makes of the lambda's reading -/
def Gives (X : Cx) (Ng : List Str) (x : Str) (sg : Scope) (g : Addr) (cdg : Value) (bg : List Stmt) (a : Str) (q : Str) (TT : (XK → Hp → VK → Prop) → Addr → Addr → Hp → VK → Prop) : Prop :=
  ∀ (f c1 : Addr) (s : Shared) (H : Hp) (Q : VK) (tl : XK → Hp → VK → Prop),
    (∀ (W : WX) (pn : List (Addr × Obj)) (xe : Value → Shared → Prop) (E : XK) (p1 p2 : Pos), Takes ((gX X Ng x sg g cdg s H).tr pn xe) W → (∀ cls d σ' H', E cls d H' → W cls d σ' H') →
      PE ((gX X Ng x sg g cdg s H).tr pn xe) (.Call (.Name a p1) [] [] p2) (fun σZ HZ Q => σZ[0]? = some (some (.ref f)) ∧ HZ c1 = some (CodeO c1 q) ∧ tl E HZ Q)) →
    TT tl f c1 H Q →
    ∃ t, PSs (gX X Ng x sg g cdg s H).nox bg t ∧ t { nx := fun _ H' => Q .non H', rt := Q } (L2.start Ng [.ref f]) H
def tLamX (P : Addr) (q : Str) (TT : (XK → Hp → VK → Prop) → Addr → Addr → Hp → VK → Prop) (t : XK → TE) : TE := fun σ H Q => ∃ ps, H P = some (.tbl ps) ∧ TabOk H ps q ∧ ∀ H1 f c1, NewC H P ps q H1 c1 → H1 f = none → TT (fun E H' Q' => t E σ H' Q') f c1 H1 Q
theorem pe_lamX {TT : (XK → Hp → VK → Prop) → Addr → Addr → Hp → VK → Prop} {x a : Str} {g c P : Addr} {k : Nat} {pg : Arguments} {bg : List Stmt} {sg : Scope} {dV kV doc pm cdv ct oc : Value} {an od : Option Addr} {osl : Array (Option Value)} {Ng : List Str}
    {prm : Arguments} {bd : Expr} {sc : Scope} {t : XK → TE} {p lpos pos : Pos} (hg : Gl X x) (hm : X.mg x = some (.ref g)) (hk : PySem.W.keepIn X.K (.ref g) = true)
    (lk : X.K.lookup g = some ⟨oc, od, .func (PySem.W.fnOf x x pg bg sg dV kV doc pm an cdv ct), osl⟩) (hcg : PySem.W.codeIn X.K cdv x = true) (hb : L2.Binds X.K (PySem.W.fnOf x x pg bg sg dV kV doc pm an cdv ct) [a] []) (Sg : FnScope Ng [a] sg) (hNg : Ng[0]? = some a) (hva : Vis sg a)
    (hG : Gives X Ng x sg g cdv bg a (X.env.qual ++ "<lambda>") TT)
    (TB : TabB X.base X.mg c P) (hcode : X.env.code = .ref c) (hr : Room (k + 2) X.A) (L : LamS X.env.scope sc) (hdef : defaultsOf prm X.env = ([], []))
    (hbind : ∀ (q : Str) (cl : List (Str × Addr)) (pm cv ct : Value), bindArgs (PySem.W.kla_fn "<lambda>" q prm bd sc cl pm cv ct) ⟨[], []⟩ = pure [])
    (hbody : ∀ (A : Around) (outer : List Env) (s : Shared) (H : Hp) (E : XK) (f c1 : Addr), Room k (A.deeper (lamEnv X sc s.heap.objs.size f c1)) → PE (lamCx X A outer s H E sc f c1) bd (t E))
    (hdb : (x == ("__debug__" : Str)) = false := by decide) (hd : (a == ("__debug__" : Str)) = false := by decide) (hcd : (a == ("__classdict__" : Str)) = false := by decide) :
    PE X (.Call (.Name x p) [.Lambda prm bd sc lpos] [] pos) (tLamX P (X.env.qual ++ "<lambda>") TT t) := by
  refine ⟨fun pins s σ H Q I ⟨ps, h1, h2, h3⟩ => ?_⟩
  refine wpAny_Call_Name_kw (ld_glob I hg hm (PySem.W.callWith_K (h₀ := X.base) I.ok.mod.kin hk ?_ (by rfl) (by rfl)) hdb)
  show wpAny _ _ (spliced ((false, eval (.Lambda prm bd sc lpos) X.env) :: backTo pos (starEach [] X.env))) _ _ s
  refine Calls.spliced_cons (lam_born I TB hcode h1 h2 hdef (L.has I.ok) fun f c1 pm1 ct1 H1 s1 J nw hf hfn hfr => Calls.spliced_nil ⟨J.kIn, ?_⟩)
  refine wpAny_call (codeAny_mono (run_ofS (CX := C8.CX0) (E := C8.E0) (Q := Q) (N := Ng) (ps := [a]) (us := [.ref f]) (vs := [.ref f]) lk hcg Sg hr J.env0 (hb s1 [.ref f] J.kIn rfl) (.cons rfl .nil) rfl fun hr1 => ?_) fun r s2 hq => ?_)
  · obtain ⟨t1, ht1, hq1⟩ := hG f c1 s1 H1 Q (fun E H' Q' => t E σ H' Q') (fun W pn xe E p1 p2 tk hW => pe_act (i := 0) J L hf hfn hfr (hbind _ _ _ _ _) tk hW hr1 (fun A outer s H hr2 => hbody A outer s H E f c1 hr2) hNg hva hd hcd) (h3 H1 f c1 nw hfn)
    exact ⟨t1, ht1.nox, hq1⟩
  · rcases r with e | fl
    · exact (show False from hq).elim
    · cases fl with
      | ret u => exact J.after hq
      | next => exact False.elim hq
      | brk => exact False.elim hq
      | cont => exact False.elim hq
end
/-! ### the same over data -/
abbrev LamT := (Exc → M → Prop) → M → (W → M → Prop) → Prop
def LamOk (cA : Nat → Addr) (G : Hp) (m : Wd) (tl : XK → Hp → VK → Prop) (dt : LamT) : Prop :=
  ∀ (b3 : Bs) (G3 : Hp) (m3 : Wd) (μ3 : M) (H3 : Hp) (Q3 : W → M → Prop) (K3 : VK), b3.cA = cA → Le G m G3 m3 → WOk b3 G3 m3 μ3 H3 → dt b3.xc μ3 Q3 →
    (∀ v H' G' m' w μ', Le G3 m3 G' m' → WOk b3 G' m' μ' H' → WRel cA G' m' v w → Q3 w μ' → K3 v H') → tl (EX b3) H3 K3
@[simp] def dAsk (k : Nat) (t : M → (W → M → Prop) → Prop) (ρ : R) (μ : M) (Q : W → M → Prop) : Prop := ρ[0]? = some (some (.r k)) ∧ t μ Q
@[simp] def lamEnds (k : Nat) (Q : W → M → Prop) : DEnds := endsOf .d k fun r μ' => match r with
  | .ret w => Q w μ'
  | .exc _ => False
abbrev LamG := Nat → LamT → DTS
def TTd (cA : Nat → Addr) (tg : LamG) (n : Nat) (q : Str) (tl : XK → Hp → VK → Prop) (f c1 : Addr) (H : Hp) (Q : VK) : Prop :=
  ∃ (U G : Hp) (m : Wd) (μ : M) (dt : LamT) (Qd : W → M → Prop), RelM cA U G m μ H ∧ G c1 = some (CodeO c1 q) ∧ LamOk cA G m tl dt ∧
    (∀ S, tg μ.length dt (lamEnds μ.length Qd) (some (.r μ.length) :: List.replicate (n - 1) none) (μ ++ [.scr [] S])) ∧
    ∀ v w μ' G' m' H', Qd w μ' → Le G m G' m' → RelM cA U G' m' μ' H' → WRel cA G' m' v w → Q v H'
@[simp] def dLam (P : Addr) (q : Str) (tg : LamG) (n : Nat) (te : (Exc → M → Prop) → DTE) (ρ : R) (μ : M) (Q : W → M → Prop) : Prop :=
  (∃ j : Nat, μ[j]? = some (.tab P q)) ∧ ∀ S, tg μ.length (fun xc μ' Q' => te xc ρ μ' Q') (lamEnds μ.length Q) (some (.r μ.length) :: List.replicate (n - 1) none) (μ ++ [.scr [] S])
section
variable {X : Cx} {b : Bs} {cA : Nat → Addr} {Ng : List Str} {x a q : Str} {sg : Scope} {g : Addr} {cdg : Value} {bg : List Stmt} {tg : LamG}
theorem gives_of (hl : 1 ≤ Ng.length)
    (body : ∀ (f c1 : Addr) (s : Shared) (H : Hp) (b : Bs) (k : Nat) (dt : LamT), b.cA = cA → b.xc = (fun _ _ => False) →
      (∀ (pn : List (Addr × Obj)) (xe : Value → Shared → Prop) (b' : Bs) (p1 p2 : Pos), b'.cA = cA → Le b.G0 b.m0 b'.G0 b'.m0 → (∀ W, (∀ cls d σ H, W cls d σ H → EX b' cls d H) → Takes ((gX X Ng x sg g cdg s H).tr pn xe) W) →
        DE ((gX X Ng x sg g cdg s H).tr pn xe) b' (.Call (.Name a p1) [] [] p2) (dAsk k (dt b'.xc))) →
      DSs (gX X Ng x sg g cdg s H).nox b bg (tg k dt)) : Gives X Ng x sg g cdg bg a q (TTd cA tg Ng.length q) := by
  intro f c1 s H Q tl act ⟨U, G, m, μ, dt, Qd, rm, hc, lo, ht, hQ⟩
  let b : Bs := ⟨cA, U, G, m ++ [[f]], fun _ _ => False⟩
  have lk : Le G m G (m ++ [[f]]) := Le.cellNew
  have atk : (m ++ [[f]])[μ.length]? = some [f] := by rw [← rm.len]; simp
  have D0 := body f c1 s H b μ.length dt rfl rfl fun pn xe b' p1 p2 e1 l1 tk => by
    refine ⟨_, act (fun cls d _ H => EX b' cls d H) pn xe (EX b') p1 p2 (tk _ fun _ _ _ _ h => h) (fun _ _ _ _ h => h), fun {G3 m3 ρ μ3 σ H3 Q3 K3} o r t k => ?_⟩
    have lz : Le G (m ++ [[f]]) G3 m3 := l1.trans o.le
    refine ⟨?_, o.rel.gh _ _ (lz.g _ _ hc), lo b' G3 m3 μ3 H3 Q3 K3 e1 (lk.trans lz) o t.2 fun v H' G' m' w μ' l o r => k v H' G' m' w μ' l o (by rw [e1]; exact r)⟩
    obtain ⟨v, h1, h2⟩ := r.2 0 _ t.1
    rw [h1]
    cases h2 with
    | @r _ p as e =>
      rw [lz.m _ _ atk] at e
      cases e
      rfl
  obtain ⟨ts, p, qq⟩ := D0.ex
  refine ⟨ts, p, ?_⟩
  have o : WOk b G (m ++ [[f]]) (μ ++ [.scr [] (fun p => p = f)]) H := ⟨Le.refl _ _, rm.scrNew f⟩
  have rr := wrels_start (N := Ng) (WRels.cons (cA := cA) (G := G) (m := m ++ [[f]]) (.r (p := f) (as := []) atk) .nil)
  have fin : ∀ {v : V} {w : W} {H' G' : Hp} {m' : Wd} {μ' : M}, Le G (m ++ [[f]]) G' m' → RelM cA U G' m' μ' H' → WRel cA G' m' v w → rtOf .d μ.length (fun r μ' => match r with
      | .ret w => Qd w μ'
      | .exc _ => False) w μ' → Q v H' := fun {v w H' G' m' μ'} l r qr t => by
    rw [← rm.len] at t
    refine rt_end (E := fun _ _ _ => False) (lk.trans l) r qr t fun r μ2 G2 m2 H2 hp l2 r2 => ?_
    cases r with
    | ret w2 => exact fun v2 q2 => hQ v2 w2 μ2 G2 m2 H2 hp l2 r2 q2
    | exc e => exact hp.elim
  refine qq o rr (ht _) ⟨fun σ' H' G' m' ρ' μ' l o' r' t' => ?_, fun v H' G' m' w μ' l o' r' t' => ?_, fun _ _ _ _ _ _ _ _ _ z => z.elim, fun _ _ _ _ _ _ _ _ _ z => z.elim⟩
  · exact fin l o'.rel (.d .non) t'
  · exact fin l o'.rel r' t'
theorem upd_swap {H : Hp} {a c : Addr} {o u : HO} (h : a ≠ c) : upd (upd H a o) c u = upd (upd H c u) a o := by
  funext z
  by_cases h1 : z = c
  · subst h1
    rw [upd_same, upd_ne (Ne.symm h), upd_same]
  · by_cases h2 : z = a
    · subst h2
      rw [upd_ne h1, upd_same, upd_same]
    · rw [upd_ne h1, upd_ne h2, upd_ne h2, upd_ne h1]
/-- x(lambda: bd) -/
theorem de_lam {c P : Addr} {k : Nat} {pg : Arguments} {dV kV doc pm cdv ct oc : Value} {an od : Option Addr} {osl : Array (Option Value)} {prm : Arguments} {bd : Expr} {sc : Scope} {te : (Exc → M → Prop) → DTE} {p lpos pos : Pos} (hg : Gl X x) (hm : X.mg x = some (.ref g)) (hk : PySem.W.keepIn X.K (.ref g) = true)
    (lk : X.K.lookup g = some ⟨oc, od, .func (PySem.W.fnOf x x pg bg sg dV kV doc pm an cdv ct), osl⟩) (hcg : PySem.W.codeIn X.K cdv x = true) (hb : L2.Binds X.K (PySem.W.fnOf x x pg bg sg dV kV doc pm an cdv ct) [a] []) (Sg : FnScope Ng [a] sg) (hNg : Ng[0]? = some a) (hva : Vis sg a)
    (hG : Gives X Ng x sg g cdv bg a (X.env.qual ++ "<lambda>") (TTd b.cA tg Ng.length (X.env.qual ++ "<lambda>")))
    (TB : TabB X.base X.mg c P) (hcode : X.env.code = .ref c) (hr : Room (k + 2) X.A) (L : LamS X.env.scope sc) (hdef : defaultsOf prm X.env = ([], []))
    (hbind : ∀ (q : Str) (cl : List (Str × Addr)) (pm cv ct : Value), bindArgs (PySem.W.kla_fn "<lambda>" q prm bd sc cl pm cv ct) ⟨[], []⟩ = pure [])
    (hbody : ∀ (A : Around) (outer : List Env) (s : Shared) (H : Hp) (b3 : Bs) (f c1 : Addr), b3.cA = b.cA → XOk (lamCx X A outer s H (EX b3) sc f c1) b3 → Room k (A.deeper (lamEnv X sc s.heap.objs.size f c1)) → DE (lamCx X A outer s H (EX b3) sc f c1) b3 bd (te b3.xc))
    (hdb : (x == ("__debug__" : Str)) = false := by decide) (hd : (a == ("__debug__" : Str)) = false := by decide) (hcd : (a == ("__classdict__" : Str)) = false := by decide) :
    DE X b (.Call (.Name x p) [.Lambda prm bd sc lpos] [] pos) (dLam P (X.env.qual ++ "<lambda>") tg Ng.length te) := by
  refine ⟨_, pe_lamX (t := fun E σ H K => ∃ (b3 : Bs) (G : Hp) (m : Wd) (ρ : R) (μ : M) (Q : W → M → Prop), E = EX b3 ∧ b3.cA = b.cA ∧ WOk b3 G m μ H ∧ RelR b3.cA G m σ ρ ∧ te b3.xc ρ μ Q ∧ ∀ v H' G' m' w μ', Le G m G' m' → WOk b3 G' m' μ' H' → WRel b3.cA G' m' v w → Q w μ' → K v H')
    hg hm hk lk hcg hb Sg hNg hva hG TB hcode hr L hdef hbind (fun A outer s H E f c1 hr2 => ⟨fun pins s2 σ2 H2 Q2 I h => ?_⟩) hdb hd hcd, fun {G m ρ μ σ H Q K} o r t k => ?_⟩
  · obtain ⟨b3, G, m, ρ, μ, Q, rfl, e1, w, r, tt, kk⟩ := h
    have tk : Takes (lamCx X A outer s H (EX b3) sc f c1) (fun cls d _ H => EX b3 cls d H) := takes_of rfl rfl rfl rfl
    obtain ⟨te', p', q'⟩ := (hbody A outer s H b3 f c1 e1 (fun pins σ H' s' e s'' I c => passes_call tk (fun _ _ _ _ h => h) pins σ H' s' e s'' I c) hr2).ex
    exact p'.run pins s2 σ2 H2 Q2 I (q' w r tt kk)
  · obtain ⟨⟨j, hj⟩, t⟩ := t
    have rm := o.rel
    obtain ⟨as, has⟩ : ∃ as, m[j]? = some as := by
      have := (List.getElem?_eq_some_iff.mp hj).1
      exact ⟨m[j]'(by rw [rm.len]; exact this), List.getElem?_eq_getElem _⟩
    obtain ⟨rfl, ps, h1, h2, h3⟩ := rm.cell j _ _ hj has
    refine ⟨ps, h1, ⟨h2, fun p' cv hc => ?_⟩, fun H1 f c1 nw hf => ?_⟩
    · obtain ⟨c0, z, z2⟩ := h3 p' cv hc
      exact ⟨c0, z, rm.gh _ _ z2⟩
    · have key : ∃ G1, Le G m G1 m ∧ RelM b.cA b.U G1 m μ H1 ∧ G1 c1 = some (CodeO c1 (X.env.qual ++ "<lambda>")) := by
        rcases nw with ⟨rfl, p', hp'⟩ | ⟨hn, u, v, h4, h5, rfl⟩
        · obtain ⟨c0, z, z2⟩ := h3 p' _ hp'
          cases z
          exact ⟨G, Le.refl _ _, rm, z2⟩
        · have ne : P ≠ c1 := fun z => by
            rw [z, hn] at h1
            cases h1
          have hG1 := (rm.new hn).1
          have l1 : Le G m (upd G c1 (CodeO c1 (X.env.qual ++ "<lambda>"))) m := Le.know hG1
          refine ⟨_, l1, ?_, upd_same⟩
          have r1 := rm.know (o := CodeO c1 (X.env.qual ++ "<lambda>")) hn
          rw [upd_swap ne]
          have r2 := r1.write (c' := .tab P (X.env.qual ++ "<lambda>")) (o := .tbl (ps ++ #[u, v, .ref c1])) hj has rfl (List.mem_singleton.mpr rfl) rfl ⟨rfl, _, upd_same, h4, fun p' cv hc => ?_⟩
          · have e : μ.set j (.tab P (X.env.qual ++ "<lambda>")) = μ := by
              obtain ⟨hi, e⟩ := List.getElem?_eq_some_iff.mp hj
              rw [← e, List.set_getElem_self]
            rw [e] at r2
            exact r2
          · rcases h5 p' cv hc with z | z
            · obtain ⟨c0, z1, z2⟩ := h3 p' cv z
              exact ⟨c0, z1, l1.g _ _ z2⟩
            · exact ⟨c1, z, upd_same⟩
      obtain ⟨G1, l1, r1, hc1⟩ := key
      refine ⟨b.U, G1, m, μ, fun xc μ' Q' => te xc ρ μ' Q', Q, r1, hc1, ?_, t, fun v w μ' G' m' H' hq l' r' q' => k v H' G' m' w μ' (l1.trans l') ⟨(o.le.trans l1).trans l', r'⟩ q' hq⟩
      intro b3 G3 m3 μ3 H3 Q3 K3 e1 l3 o3 t3 k3
      exact ⟨b3, G3, m3, ρ, μ3, Q3, rfl, e1, o3, by rw [e1]; exact (r.mono l1).mono l3, t3, fun v H' G' m' w μ' l o r => k3 v H' G' m' w μ' l o (by rw [← e1]; exact r)⟩
end
/-! ### try in such a def -/
abbrev TryBodyL (X : Cx) (b : Bs) (body : List Stmt) (t : (Exc → M → Prop) → DTS) : Prop :=
  ∀ (pn : List (Addr × Obj)) (xe : Value → Shared → Prop) (b' : Bs), b'.cA = b.cA → Le b.G0 b.m0 b'.G0 b'.m0 → (∀ W, (∀ cls d σ H, W cls d σ H → EX b' cls d H) → Takes (X.tr pn xe) W) → DSs (X.tr pn xe) b' body (t b'.xc)
section
variable {X : Cx} {b : Bs} {body : List Stmt} {h₀ : ExceptHandler} {hds : List ExceptHandler} {cs : List DCl} {pos : Pos} {n : Nat} {t : (Exc → M → Prop) → DTS}
theorem ds_tryL (hs : X.stack = X.env :: X.outer) (hf : X.env.frame = some X.env.locals) (hN : X.N.Nodup) (hn : X.N.length = n) (hx : b.xc = fun _ _ => False)
    (hb : TryBodyL X b body t) (hh : DHds X b.cA (h₀ :: hds) cs) : DS X b (.Try body (h₀ :: hds) [] [] pos) (dTry (fun _ _ => False) n t cs) := by
  obtain ⟨l, hm, hw⟩ := hds_ok (n := n) hh
  refine ⟨_, ps_try_mix (tb := fun W => fun D σ H => ∃ (b' : Bs) (G : Hp) (m : Wd) (ρ : R) (μ : M) (DD : DEnds), b'.cA = b.cA ∧ Le b.G0 b.m0 b'.G0 b'.m0 ∧ (∀ cls d σ H, σ.length = n → EX b' cls d H → W cls d σ H) ∧ WOk b' G m μ H ∧ RelR b'.cA G m σ ρ ∧ t b'.xc DD ρ μ ∧ EOk b' G m DD D)
    hs hf hN (LamX.takes0.imp (W' := fun cls d _ H => EX b cls d H) fun cls d σ H ⟨e, G, m, μ, _, _, _, z⟩ => by rw [hx] at z; exact z) (fun W pn xe tkW pw => ⟨fun pins s σ H D I h => ?_⟩) hm, fun {G m ρ μ σ H D E} o r tt k => ?_⟩
  · obtain ⟨b', G, m, ρ, μ, DD, e1, lb, hW, w, r, tt, ee⟩ := h
    have tk' : Takes (X.tr pn xe) (fun cls d _ H => EX b' cls d H) := fun u s' ⟨a, B, sI, pins, σ, H, cls, d, e, I, nb, up, sky, na, os, ag, w⟩ =>
      tkW u s' ⟨a, B, sI, pins, σ, H, cls, d, e, I, nb, up, sky, na, os, ag, hW _ _ _ _ (I.len.trans hn) w⟩
    obtain ⟨ts, p, q⟩ := (hb pn xe b' e1 lb fun W hW => tk'.imp hW).ex
    exact p.run pins s σ H D I (q w r tt ee)
  · rw [← hx] at tt
    refine ⟨⟨b.cA, b.U, G, m, wMD b.xc D (List.replicate n none) cs⟩, G, m, ρ, μ, D, rfl, o.le, ?_, ⟨Le.refl _ _, o.rel⟩, r, tt, ?_⟩
    · rintro cls d σ' H' hl ⟨e, G', m', μ', l', rm, ea, hx'⟩
      exact hw hl o.le l' rm ea hx' k
    · exact ⟨fun σ H G1 m1 ρ μ l1 o1 => k.nx σ H G1 m1 ρ μ l1 ⟨o.le.trans o1.le, o1.rel⟩, fun v H G1 m1 w μ l1 o1 => k.rt v H G1 m1 w μ l1 ⟨o.le.trans o1.le, o1.rel⟩, fun σ H G1 m1 ρ μ l1 o1 => k.bk σ H G1 m1 ρ μ l1 ⟨o.le.trans o1.le, o1.rel⟩, fun σ H G1 m1 ρ μ l1 o1 => k.ct σ H G1 m1 ρ μ l1 ⟨o.le.trans o1.le, o1.rel⟩⟩
end
/-! ### defs that are handed lambdas, defs that make them -/
structure LamH (K : PySem.W.Frag) (mg : Str → Option Value) (x a : Str) (st : Stmt) : Prop where
  ex : ∃ (g : Addr) (fd : FuncData), L2.Fun K x x st g fd ∧ mg x = some (.ref g) ∧ L2.Binds K fd [a] []
theorem de_lamF {X : Cx} {b : Bs} {x a q : Str} {st : Stmt} {Ng : List Str} {tg : LamG} {n : Nat} {c P : Addr} {k : Nat} {prm : Arguments} {bd : Expr} {sc : Scope} {te : (Exc → M → Prop) → DTE} {p lpos pos : Pos} (h : LamH X.K X.mg x a st) (hg : Gl X x) (Sg : FnScope Ng [a] (defScope st)) (hNg : Ng[0]? = some a) (hn : Ng.length = n) (hva : Vis (defScope st) a)
    (hG : ∀ (g : Addr) (cdg : Value), Gives X Ng x (defScope st) g cdg (defBody st) a q (TTd b.cA tg n q)) (hq : X.env.qual ++ "<lambda>" = q)
    (TB : TabB X.base X.mg c P) (hcode : X.env.code = .ref c) (hr : Room (k + 2) X.A) (L : LamS X.env.scope sc) (hdef : defaultsOf prm X.env = ([], []))
    (hbind : ∀ (q : Str) (cl : List (Str × Addr)) (pm cv ct : Value), bindArgs (PySem.W.kla_fn "<lambda>" q prm bd sc cl pm cv ct) ⟨[], []⟩ = pure [])
    (hbody : ∀ (A : Around) (outer : List Env) (s : Shared) (H : Hp) (U G : Hp) (m : Wd) (xc : Exc → M → Prop) (f c1 : Addr), XOk (lamCx X A outer s H (EX ⟨b.cA, U, G, m, xc⟩) sc f c1) ⟨b.cA, U, G, m, xc⟩ → Room k (A.deeper (lamEnv X sc s.heap.objs.size f c1)) → DE (lamCx X A outer s H (EX ⟨b.cA, U, G, m, xc⟩) sc f c1) ⟨b.cA, U, G, m, xc⟩ bd (te xc))
    (hdb : (x == ("__debug__" : Str)) = false := by decide) (hd : (a == ("__debug__" : Str)) = false := by decide) (hcd : (a == ("__classdict__" : Str)) = false := by decide) :
    DE X b (.Call (.Name x p) [.Lambda prm bd sc lpos] [] pos) (dLam P q tg n te) := by
  subst hq hn
  obtain ⟨g, fd, F, hm, hb⟩ := h.ex
  obtain ⟨oc, od, kV, doc, pm, an, cdv, ct, osl, rfl, lk, hcg⟩ := F.ex
  refine de_lam hg hm F.kp lk hcg hb Sg hNg hva (hG g cdv) TB hcode hr L hdef hbind (fun A outer s H b3 f c1 e hx hr => ?_) hdb hd hcd
  obtain ⟨cA', U, G, m, xc⟩ := b3
  dsimp only at e
  subst e
  exact hbody A outer s H U G m xc f c1 hx hr
theorem tab_code {K : PySem.W.Frag} {x : Str} {c P f : Addr} {fd : FuncData} {oc : Value} {od : Option Addr} {osl : Array (Option Value)} (ht : PySem.W.tabIn K x = some (c, P)) (hm : PySem.W.nsIn K mainGlobals x = some (some (.ref f))) (lk : K.lookup f = some ⟨oc, od, .func fd, osl⟩) : fd.code = .ref c := by
  unfold PySem.W.tabIn at ht
  rw [hm] at ht
  dsimp only at ht
  rw [lk] at ht
  dsimp only at ht
  split at ht
  · rename_i c' e
    rw [e]
    split at ht
    · split at ht
      · cases ht; rfl
      · cases ht
    · cases ht
  · cases ht
section
variable {P : Program} {w : World} {K : PySem.W.Frag} {mg : Str → Option Value} {base : Heap}
/-- fn_okD, the def's code object known -/
theorem fn_okT {x qual : Str} {st : Stmt} {f : Addr} {fd : FuncData} {N ps : List Str} {k : Nat} {cA : Nat → Addr} {S : FS} (md : Mode) (F : L2.Fun K x qual st f fd) (Sc : FnScope N ps (defScope st)) (len : ∀ ws μ P, S ws μ P → ws.length = ps.length)
    (body : ∀ (X : Cx) (b : Bs), Room k X.A → PassesOwn (model X.prog X.w) X.A X.env X.xe → XOk X b → b.cA = cA →
      (∀ W, (∀ cls d σ H, W cls d σ H → EX b cls d H) → Takes X W) → (∃ A outer s H E, X = fX P w K mg base N qual (defScope st) f fd.code A outer s H E) →
      ∃ t, DSs X b (defBody st) t ∧ ∀ ws μ Post, S ws μ Post → b.xc = xcOf μ.length Post → t (endsOf md μ.length Post) (ws.map some ++ List.replicate (N.length - ws.length) none) μ) :
    FnOk P w K mg base (L2.CX P w) (k + 1) f fd ps (spD cA S) := by
  obtain ⟨oc, od, kV, doc, pm, an, cdv, ct, osl, rfl, lk, hcd⟩ := F.ex
  refine fn_of lk hcd Sc (fun vs H Q E h => ?_) (fun A outer s H vs Q E hr h => ?_)
  · obtain ⟨U, G, m, ws, μ, Post, _, r, hS, _⟩ := h
    rw [r.len]
    exact len ws μ Post hS
  · obtain ⟨U, G, m, ws, μ, Post, rm, rw', hS, hk⟩ := h
    let b : Bs := ⟨cA, U, G, m, xcOf μ.length Post⟩
    have hl : μ.length = m.length := rm.len.symm
    have hx : ∀ cls d H', EX b cls d H' → E cls d H' := fun cls d H' ⟨e, G', m', μ', l, r, ea, hc⟩ => by
      have hc' : xcOf μ.length Post e μ' := hc
      unfold xcOf at hc'
      rw [hl] at hc'
      exact hk _ _ G' _ H' hc'.2 (le_take l rfl) (rel_take r hc'.1) cls d ea
    have tk : Takes (cxOf (L2.CX P w) P w K mg base N qual (defScope st) f cdv A outer s H E) (fun cls d _ H => E cls d H) := takes_of rfl rfl rfl rfl
    obtain ⟨t, ht, hw⟩ := body (cxOf (L2.CX P w) P w K mg base N qual (defScope st) f cdv A outer s H E) b hr (passes_of rfl)
      (fun pins σ H' s' e s'' I c => passes_call (X := cxOf (L2.CX P w) P w K mg base N qual (defScope st) f cdv A outer s H E) tk (fun cls d σ H' h => hx cls d H' h) pins σ H' s' e s'' I c) rfl
      (fun W hW => tk.imp fun cls d σ H' h => hx cls d H' (hW cls d σ H' h)) ⟨A, outer, s, H, E, rfl⟩
    obtain ⟨ts, p, q⟩ := ht.ex
    have o : WOk b G m μ H := ⟨Le.refl G m, rm⟩
    refine ⟨ts, p, q o (wrels_start rw') (hw ws μ Post hS rfl) ⟨fun σ' H' G' m' ρ' μ' l o' r' t' => ?_, fun v H' G' m' w μ' l o' r' t' => ?_, fun _ _ _ _ _ _ _ _ _ z => z.elim, fun _ _ _ _ _ _ _ _ _ z => z.elim⟩⟩
    · have t' : rtOf md μ.length Post (.d .non) μ' := t'
      rw [hl] at t'
      exact rt_end (v := .non) l o'.rel (.d .non) t' hk
    · have t' : rtOf md μ.length Post w μ' := t'
      rw [hl] at t'
      exact rt_end l o'.rel r' t' hk
end
@[simp] theorem closedC_tab {k : Nat} {P : Addr} {q : Str} : closedC k (.tab P q) = true := rfl
end DD
namespace DD
open PySem L2
/-! ### a // b, the divisor any number of some thousand bits -/
section
variable {X : Cx} {b : Bs} {pos : Pos} {e1 e2 : Expr} {ta tb : DTE}
abbrev fDivW := fI (fun _ j => 0 < j ∧ j < 10000000000000000000000000000000000000000) fun i j => .int (i / j)
theorem de_fdivW (ha : DE X b e1 ta) (hb : DE X b e2 tb) : DE X b (.BinOp e1 .FloorDiv e2 pos) (dOp fDivW ta tb) := de_op op_fdivW (op2_I (fun _ j h => wide_div (b := 140) h.1 (by
  have e : (2 : Nat) ^ 140 = 1393796574908163946345982392040522594123776 := by decide
  rw [e]
  omega) (by decide) (by decide)) fun _ _ _ => .int _) ha hb
end
/-! ### l.index(x), l a list of plain data that holds x -/
section
variable {X : Cx} {b : Bs} {pos apos : Pos} {o e : Expr} {to : DTE} {ta : DTA}
@[simp] def dIndexD (to : DTE) (ta : DTA) (ρ : R) (μ : M) (Q : W → M → Prop) : Prop := to ρ μ fun x μ1 => (∃ ds, rs μ1 x = some (.lst ds)) ∧ ta ρ μ1 fun ws μ2 => ∃ (ds : List D) (d : D) (j : Nat) (z : D), rs μ2 x = some (.lst ds) ∧ rss μ2 ws = some [d] ∧ okD 60 d = true ∧ okDs 59 ds = true ∧ ds[j]? = some z ∧ deq z d = true ∧ (∀ (m : Nat) (z' : D), m < j → ds[m]? = some z' → deq z' d = false) ∧ Q (.d (.int j)) μ2
theorem toPs_get : ∀ {ds : List D} {ps : List PyData}, toPs ds = some ps → ∀ {j : Nat} {z : D}, ds[j]? = some z → ∃ p, ps[j]? = some p ∧ toP z = some p
  | [], ps, h, j, z, hz => by simp at hz
  | d :: ds, ps, h, j, z, hz => by
    simp [toPs, Option.bind_eq_some_iff] at h
    obtain ⟨a, h1, c, h2, rfl⟩ := h
    cases j with
    | zero => simp at hz; subst hz; exact ⟨a, rfl, h1⟩
    | succ j => simpa using toPs_get h2 (j := j) (by simpa using hz)
theorem toPs_len : ∀ {ds : List D} {ps : List PyData}, toPs ds = some ps → ps.length = ds.length
  | [], ps, h => by simp [toPs] at h; subst h; rfl
  | d :: ds, ps, h => by
    simp [toPs, Option.bind_eq_some_iff] at h
    obtain ⟨a, h1, c, h2, rfl⟩ := h
    simp [toPs_len h2]
theorem de_indexD (ho : DE X b o to) (ha : DA X b [e] ta)
    (hp : ∀ {to : TE} {ta : TA}, PE X o to → PA X [e] ta → PE X (.Call (.Attribute o "index" apos) [e] [] pos) (tBM X.K "list" (rIndexD X.K) to ta)) : DE X b (.Call (.Attribute o "index" apos) [e] [] pos) (dIndexD to ta) := by
  obtain ⟨to', po, qo⟩ := ho.ex
  obtain ⟨ta', pa, qa⟩ := ha.ex
  refine ⟨_, hp po pa, fun {G m ρ μ σ H Q K} ok rr t k => ?_⟩
  refine qo ok rr t fun v H1 G1 m1 w μ1 l1 o1 r1 t1 => ?_
  obtain ⟨⟨ds, e1⟩, t1⟩ := t1
  obtain ⟨p, us, rfl, h1, h2⟩ := rs_ok o1.rel r1 e1
  refine ⟨.inl ⟨rfl, us, SqL.of h1⟩, ?_⟩
  refine qa o1 (rr.mono l1) t1 fun vs H2 G2 m2 ws μ2 l2 o2 r2 t2 => ?_
  obtain ⟨ds, d, j, z, e2, e3, k1, k2, hz, e4, e5, t2⟩ := t2
  have n1 := rs_ok o2.rel (r1.mono l2) e2
  obtain ⟨v2, rfl, n2⟩ := nows1 (rss_ok o2.rel r2 e3)
  obtain ⟨p1, f1, c1, q1⟩ := okD_toP _ _ k1
  obtain ⟨ps, f2, c2, q2⟩ := okDs_toPs _ _ k2
  have f3 : toP (.lst ds) = some (.list ps) := by simp [toP, f2]
  obtain ⟨pz, g1, g2⟩ := toPs_get f2 hz
  refine ⟨p, v2, p1, ps, j, pz, rfl, rfl, Now.dp o2.rel.gh n1 f3, n2.dp o2.rel.gh f1, shaped_ok c2 (by simp [PyData.depth]; omega), shaped_ok c1 q1, g1, by rw [eqv_deq z d pz p1 g2 f1]; exact e4, fun m z' hm hz' => ?_, k _ H2 G2 m2 _ μ2 (l1.trans l2) o2 (.d (.int _)) t2⟩
  have hml : m < ds.length := by
    have := (List.getElem?_eq_some_iff.mp hz').1
    rwa [toPs_len f2] at this
  obtain ⟨y, x1, x2⟩ := toPs_get f2 (List.getElem?_eq_getElem hml)
  rw [hz'] at x1
  cases x1
  rw [eqv_deq _ d _ p1 x2 f1]
  exact e5 m _ hm (List.getElem?_eq_getElem hml)
end
end DD
namespace DD
open PySem PySem.Spec PyProof.Rows PySem.SeqAt L2
open AutoSeq1 (wpAny_loadPart')
open MeetsSeq MeetsSeq2 MeetsSeq3 SeqRoads2
/-! ### l.index(x) with the own __eq__ -/
section
variable {prog : Program} {w : World} {A : Around} {R : Result → Shared → Prop}
theorem lpIx (l : Addr) (u : Value) (N : Nat) (cs : Nat → Bool) (J : Shared → Prop) (hl : Seq1 prog w A R l u N cs J) (j : Nat) (hj : j < N) (hit : cs j = true) (hno : ∀ m, m < j → cs m = false) (upto : Int) (hupto : (j : Int) < upto)
    (fin : ∀ s, J s → R (.ok (.ret (.int j s.toks))) { s with toks := s.toks + 1 }) (k : Nat) :
    ∀ i : Nat, j - i = k → i ≤ j → ∀ s, J s → wpAny (model prog w) A.in1 (Builtin.«list.index.loop» ⟨[.ref l, u, rawInt i, rawInt upto], []⟩) (GQ.FinOf prog w A R) (fun e z => R (.error e) z) s := by
  induction k with
  | zero =>
    intro i hk hij s h
    have hij' : i = j := by omega
    subst hij'
    obtain ⟨zs, n, q1, q3, turn⟩ := hl _ h
    have g1 : i < zs.size := by omega
    have ht := turn i g1
    obtain ⟨hp, g, d, tk, os⟩ := s
    wp_walk using wpAny_loadPart' q1
    have j1 : (if (i : Int) < upto then zs[((i : Nat) : Int).toNat]? else none) = some zs[i] := by simp [hupto, g1]
    rw [j1]
    refine wpAny_bind (wpAny_mono ht (fun c s2 h2 => ?_) fun _ _ x => x)
    obtain ⟨hr, h2⟩ := h2
    rw [hit] at hr
    subst hr
    have hR := fin s2 h2
    obtain ⟨hp2, g2, d2, tk2, os2⟩ := s2
    wp_walk
    exact hR
  | succ k ih =>
    intro i hk hij s h
    obtain ⟨zs, n, q1, q3, turn⟩ := hl _ h
    have g1 : i < zs.size := by omega
    have hst : (i : Int) < upto := by omega
    have ht := turn i g1
    obtain ⟨hp, g, d, tk, os⟩ := s
    wp_walk using wpAny_loadPart' q1
    have j1 : (if (i : Int) < upto then zs[((i : Nat) : Int).toNat]? else none) = some zs[i] := by simp [hst, g1]
    have hc : ((i : Int) + 1) = ((i + 1 : Nat) : Int) := by omega
    rw [j1]
    refine wpAny_bind (wpAny_mono ht (fun c s2 h2 => ?_) fun _ _ x => x)
    obtain ⟨hr, h2⟩ := h2
    rw [hno i (by omega)] at hr
    subst hr
    have hrec := ih (i + 1) (by omega) (by omega) s2 h2
    obtain ⟨hp2, g2, d2, tk2, os2⟩ := s2
    wp_walk
    rw [hc]
    exact ⟨plainId_quiet plain_index_loop _, codeAny_builtin entry_index_loop (by rw [Around.under_plainId plain_index_loop _]; exact hrec)⟩
theorem liIx (l : Addr) (u : Value) (N : Nat) (cs : Nat → Bool) (J : Shared → Prop) (hl : Seq1 prog w A R l u N cs J) (j : Nat) (hj : j < N) (hit : cs j = true) (hno : ∀ m, m < j → cs m = false) (hsmall : (j : Int) < 2 ^ 63 - 1)
    (fin : ∀ s, J s → R (.ok (.ret (.int j s.toks))) { s with toks := s.toks + 1 }) {s : Shared} (h : J s) :
    wpAny (model prog w) A.in1 (Builtin.«list.index» ⟨[.ref l, u], []⟩) (GQ.FinOf prog w A R) (fun e z => R (.error e) z) s := by
  obtain ⟨zs, n, q1, q3, _⟩ := hl _ h
  have hrec := lpIx (A := A) (R := R) l u N cs J hl j hj hit hno (2 ^ 63 - 1) hsmall fin _ 0 rfl (Nat.zero_le _) s h
  obtain ⟨hp, g, d, tk, os⟩ := s
  wp_walk using wpAny_loadPart' q1
  have a1 : ((fun i : Int => if i < 0 then max 0 (i + (zs.size : Int)) else i) ((none : Option Int).getD 0)) = ((0 : Nat) : Int) := by simp
  have a2 : ((fun i : Int => if i < 0 then max 0 (i + (zs.size : Int)) else i) ((none : Option Int).getD (2 ^ 63 - 1))) = 2 ^ 63 - 1 := by simp
  rw [a1, a2]
  exact ⟨plainId_quiet plain_index_loop _, codeAny_builtin entry_index_loop (by rw [Around.under_plainId plain_index_loop _]; exact hrec)⟩
end
section
variable {X : Cx} {b : Bs} {cA : Nat → Addr} {T : Nat → Option (List Str)} {n : Nat}
def rIndexE (cA : Nat → Addr) (T : Nat → Option (List Str)) (n : Nat) : V → List V → Hp → VK → Prop := fun x ys H Q => ∃ (p : Addr) (y : V) (xs : List V) (ds : List D) (e : D) (j : Nat), x = .ref p ∧ ys = [y] ∧ H p = some (.lst xs) ∧ Reps cA H xs ds ∧ Rep cA H y e ∧ okEs T n ds = true ∧ okE T n e = true ∧ j < 16777216 ∧ j < ds.length ∧ inAt ds e j = true ∧ (∀ m, m < j → inAt ds e m = false) ∧ ∀ H', Ext H H' → Q (.int j) H'
theorem mt_indexE (hE : EqN X cA T n) (hr : Room (n + 2) X.A) : MtR X "list.index" (rIndexE cA T n) := by
  intro pins s σ H x ys v us Q I rx rys h
  obtain ⟨p, y, xs, ds, e, j, rfl, rfl, hp, rs, re, o, o', hs, hj, hit, hno, q⟩ := h
  cases rx
  cases rys with
  | cons ry rt =>
    rename_i uy ut
    cases rt
    have sb : L2.Sub X (n + 2) X.A := ⟨hr, rfl⟩
    have one : Seq1 X.prog X.w X.A (wants (EP X pins σ Q) X.xe) p uy ds.length (inAt ds e) (LoopI X pins σ H) := fun z L => by
      obtain ⟨H1, I1, e1⟩ := id L
      obtain ⟨_, its, k, r, e2⟩ := I1.hok p _ (e1 _ _ hp)
      exact ⟨its.toArray, k, e2, by rw [List.size_toArray, ← r.length, rs.len], fun i h1 => turn_in hE sb rs re ry o o' r i h1 z L⟩
    obtain ⟨zs, k1, h1, _⟩ := one s ⟨H, I, Ext.rfl'⟩
    refine GQ.call_here F.slot_list_index ⟨_, h1, rfl⟩ F.entry_list_index (F.args_list_index_2 _ _) (liIx p uy ds.length (inAt ds e) (LoopI X pins σ H) one j hj hit hno (by omega) (fun z L => ?_) ⟨H, I, Ext.rfl'⟩)
    obtain ⟨H1, I1, e1⟩ := L
    exact ⟨.int (j : Nat), H1, I1.tok _, ⟨_, rfl⟩, q H1 e1⟩
end
section
variable {X : Cx} {b : Bs} {T : Nat → Option (List Str)} {n : Nat} {pos apos : Pos} {o e : Expr} {to : DTE} {ta : DTA}
@[simp] def dIndexE (T : Nat → Option (List Str)) (n : Nat) (to : DTE) (ta : DTA) (ρ : R) (μ : M) (Q : W → M → Prop) : Prop := to ρ μ fun x μ1 => (∃ ds, rs μ1 x = some (.lst ds)) ∧ ta ρ μ1 fun ws μ2 => ∃ (ds : List D) (d : D) (j : Nat) (z : D), rs μ2 x = some (.lst ds) ∧ rss μ2 ws = some [d] ∧ okE T n d = true ∧ okEs T n ds = true ∧ j < 16777216 ∧ ds[j]? = some z ∧ deq z d = true ∧ (∀ (m : Nat) (z' : D), m < j → ds[m]? = some z' → deq z' d = false) ∧ Q (.d (.int j)) μ2
theorem de_indexE (ho : DE X b o to) (ha : DA X b [e] ta)
    (hp : ∀ {to : TE} {ta : TA}, PE X o to → PA X [e] ta → PE X (.Call (.Attribute o "index" apos) [e] [] pos) (tBM X.K "list" (rIndexE b.cA T n) to ta)) : DE X b (.Call (.Attribute o "index" apos) [e] [] pos) (dIndexE T n to ta) := by
  obtain ⟨to', po, qo⟩ := ho.ex
  obtain ⟨ta', pa, qa⟩ := ha.ex
  refine ⟨_, hp po pa, fun {G m ρ μ σ H Q K} ok rr t k => ?_⟩
  refine qo ok rr t fun v H1 G1 m1 w μ1 l1 o1 r1 t1 => ?_
  obtain ⟨⟨ds, e1⟩, t1⟩ := t1
  obtain ⟨p, us, rfl, h1, h2⟩ := rs_ok o1.rel r1 e1
  refine ⟨.inl ⟨rfl, us, SqL.of h1⟩, ?_⟩
  refine qa o1 (rr.mono l1) t1 fun vs H2 G2 m2 ws μ2 l2 o2 r2 t2 => ?_
  obtain ⟨ds, d, j, z, e2, e3, k1, k2, hs, hz, e4, e5, t2⟩ := t2
  obtain ⟨p2, us2, ep, g1, g2⟩ := rs_ok o2.rel (r1.mono l2) e2
  cases ep
  obtain ⟨v2, rfl, n2⟩ := nows1 (rss_ok o2.rel r2 e3)
  have hlt := (List.getElem?_eq_some_iff.mp hz).1
  refine ⟨p, v2, us2, ds, d, j, rfl, rfl, g1, g2.mono o2.rel.gh, n2.rep o2.rel.gh, k2, k1, hs, hlt, by unfold inAt; rw [hz]; exact e4, fun m hm => ?_, fun H' ex => ?_⟩
  · unfold inAt
    cases hm2 : ds[m]? with
    | none => rfl
    | some z' => exact e5 m z' hm hm2
  · exact k _ H' G2 m2 _ μ2 (l1.trans l2) (o2.mono (Le.refl G2 m2) (o2.rel.grow ex)) (.d (.int _)) t2
end
end DD
namespace DD
open PySem L2
/-! ### dicts whose keys are tuples of ints and texts -/
@[simp] def keysD : List D → Option (List Key)
  | [] => some []
  | d :: ds => match keyD d, keysD ds with
    | some k, some ks => some (k :: ks)
    | _, _ => none
@[simp] def keyTW : W → Option (List Key)
  | .d (.tup ds) => keysD ds
  | _ => none
def dgetLX {κ : Type} [DecidableEq κ] {α : Type} : List κ → List α → κ → Option α
  | k' :: ks, x :: xs, k => if k' = k then some x else dgetLX ks xs k
  | _, _, _ => none
def hasKX {κ : Type} [DecidableEq κ] (ks : List κ) (k : κ) : Bool := ks.any fun k' => decide (k' = k)
def dputKX {κ : Type} [DecidableEq κ] (ks : List κ) (k : κ) : List κ := if hasKX ks k = true then ks else ks ++ [k]
def dmapLX {κ : Type} [DecidableEq κ] {α : Type} : List κ → List α → κ → α → List α
  | k' :: ks, x :: xs, k, v => (if k' = k then v else x) :: dmapLX ks xs k v
  | _, _, _, _ => []
def dputLX {κ : Type} [DecidableEq κ] {α : Type} (ks : List κ) (xs : List α) (k : κ) (v : α) : List α := if hasKX ks k = true then dmapLX ks xs k v else xs ++ [v]
theorem val_getX {κ : Type} [DecidableEq κ] : ∀ {ks : List κ} {xs : List V} {k : κ}, valV (ks.zip xs) k = dgetLX ks xs k
  | [], xs, k => by simp [valV, dgetLX]
  | _ :: _, [], k => by simp [valV, dgetLX]
  | k' :: ks, x :: xs, k => by
    have ih := val_getX (ks := ks) (xs := xs) (k := k)
    unfold valV at ih ⊢
    simp only [List.zip_cons_cons, List.find?_cons, dgetLX]
    by_cases e : k' = k
    · simp [e]
    · simp [e, ih]
theorem dmap_lenX {κ : Type} [DecidableEq κ] {α : Type} : ∀ {ks : List κ} {xs : List α} {k : κ} {v : α}, ks.length = xs.length → (dmapLX ks xs k v).length = xs.length
  | [], [], _, _, _ => rfl
  | k' :: ks, x :: xs, k, v, h => by simp only [dmapLX, List.length_cons]; rw [dmap_lenX (by simpa using h)]
  | [], _ :: _, _, _, h => by simp at h
  | _ :: _, [], _, _, h => by simp at h
theorem dmap_zipX {κ : Type} [DecidableEq κ] : ∀ {ks : List κ} {xs : List V} {k : κ} {v : V}, ks.length = xs.length → (ks.zip xs).map (fun kv => if kv.1 = k then (kv.1, v) else kv) = ks.zip (dmapLX ks xs k v)
  | [], [], _, _, _ => rfl
  | k' :: ks, x :: xs, k, v, h => by
    simp only [dmapLX, List.zip_cons_cons, List.map_cons]
    rw [dmap_zipX (by simpa using h)]
    by_cases e : k' = k <;> simp [e]
  | [], _ :: _, _, _, h => by simp at h
  | _ :: _, [], _, _, h => by simp at h
theorem any_zipX {κ : Type} [DecidableEq κ] : ∀ {ks : List κ} {xs : List V} {k : κ}, ks.length = xs.length → ((ks.zip xs).any fun kv => decide (kv.1 = k)) = hasKX ks k
  | [], [], _, _ => rfl
  | k' :: ks, x :: xs, k, h => by
    simp only [List.zip_cons_cons, List.any_cons]
    rw [any_zipX (by simpa using h)]
    rfl
  | [], _ :: _, _, h => by simp at h
  | _ :: _, [], _, h => by simp at h
theorem put_zipX {κ : Type} [DecidableEq κ] {ks : List κ} {xs : List V} {k : κ} {v : V} (h : ks.length = xs.length) : putK (ks.zip xs) k v = (dputKX ks k).zip (dputLX ks xs k v) ∧ (dputKX ks k).length = (dputLX ks xs k v).length := by
  unfold putK dputKX dputLX
  rw [any_zipX h]
  by_cases e : hasKX ks k = true
  · simp only [e, if_true]
    exact ⟨dmap_zipX h, by rw [dmap_lenX h, h]⟩
  · simp only [e, if_false, Bool.false_eq_true]
    exact ⟨by rw [List.zip_append h]; rfl, by simp [h]⟩
section
variable {cA : Nat → Addr} {G : Hp}
theorem dmap_relX {κ : Type} [DecidableEq κ] {v : V} {d : D} (r : Rep cA G v d) {k : κ} : ∀ {ks : List κ} {xs : List V} {ds : List D}, Reps cA G xs ds → Reps cA G (dmapLX ks xs k v) (dmapLX ks ds k d)
  | [], _, _, _ => .nil
  | _ :: _, _, _, .nil => .nil
  | k' :: ks, _, _, .cons q qs => by
    simp only [dmapLX]
    by_cases e : k' = k
    · simp only [e, if_true]; exact .cons r (dmap_relX r qs)
    · simp only [e, if_false]; exact .cons q (dmap_relX r qs)
theorem dput_relX {κ : Type} [DecidableEq κ] {v : V} {d : D} (r : Rep cA G v d) {k : κ} {ks : List κ} {xs : List V} {ds : List D} (q : Reps cA G xs ds) : Reps cA G (dputLX ks xs k v) (dputLX ks ds k d) := by
  unfold dputLX
  split
  · exact dmap_relX r q
  · exact q.app (.cons r .nil)
theorem dget_relX {κ : Type} [DecidableEq κ] {k : κ} : ∀ {ks : List κ} {xs : List V} {ds : List D}, Reps cA G xs ds → (dgetLX ks xs k = none ∧ dgetLX ks ds k = none) ∨ ∃ v d, dgetLX ks xs k = some v ∧ dgetLX ks ds k = some d ∧ Rep cA G v d
  | [], _, _, _ => .inl ⟨rfl, rfl⟩
  | _ :: _, _, _, .nil => .inl ⟨rfl, rfl⟩
  | k' :: ks, _, _, .cons q qs => by
    simp only [dgetLX]
    by_cases e : k' = k
    · simp only [e, if_true]; exact .inr ⟨_, _, rfl, rfl, q⟩
    · simp only [e, if_false]; exact dget_relX qs
end
section
variable {X : Cx} {b : Bs} {pos apos cpos pos' : Pos} {o e f i value : Expr} {td ty tx tv : DTE}
/-- {} -/
@[simp] def dDNewT (_ρ : R) (μ : M) (Q : W → M → Prop) : Prop := Q (.r μ.length) (μ ++ [.dicT [] []])
theorem de_dnewT : DE X b (.Dict [] [] pos) dDNewT := by
  refine ⟨_, pe_dnewT, fun {G m ρ μ σ H Q K} o r t k => ?_⟩
  intro p hp
  exact k _ _ _ _ _ _ Le.cellNew (o.mono Le.cellNew (o.rel.cellNew (c := .dicT [] []) hp ⟨p, [], rfl, upd_same, rfl, .nil⟩)) (.r (as := []) (by rw [← o.rel.len]; simp)) t
@[simp] def dicTW (μ : M) (w : W) : Option (List (List Key) × List D) := match rs μ w with
  | some (.dicT ks ds) => some (ks, ds)
  | _ => none
theorem dicTW_ok {cA : Nat → Addr} {U G H : Hp} {m : Wd} {μ : M} {v : V} {w : W} {ks : List (List Key)} {ds : List D} (r : RelM cA U G m μ H) (q : WRel cA G m v w) (h : dicTW μ w = some (ks, ds)) : ∃ p xs, v = .ref p ∧ H p = some (.dT (ks.zip xs)) ∧ ks.length = xs.length ∧ Reps cA G xs ds := by
  unfold dicTW at h
  split at h
  · rename_i ks' ds' e
    cases h
    exact rs_ok r q e
  · cases h
theorem kV_rep {cA : Nat → Addr} {G : Hp} {v : V} {d : D} {k : Key} (r : Rep cA G v d) (h : keyD d = some k) : v = kV k := by
  cases r with
  | int i => cases h; rfl
  | str s => cases h; rfl
  | _ => cases h
theorem kVs_rep {cA : Nat → Addr} {G : Hp} : ∀ {vs : List V} {ds : List D} {ks : List Key}, Reps cA G vs ds → keysD ds = some ks → vs = ks.map kV
  | _, _, ks, .nil, h => by simp [keysD] at h; subst h; rfl
  | _, _, ks, .cons (d := d) (ds := ds) r rs, h => by
    unfold keysD at h
    cases e1 : keyD d with
    | none => rw [e1] at h; simp at h
    | some k =>
      cases e2 : keysD ds with
      | none => rw [e1, e2] at h; simp at h
      | some t =>
        rw [e1, e2] at h
        simp at h
        subst h
        rw [kV_rep r e1, kVs_rep rs e2]
        rfl
theorem kT_of {cA : Nat → Addr} {U G H : Hp} {m : Wd} {μ : M} {v : V} {w : W} {k : List Key} (o : RelM cA U G m μ H) (q : WRel cA G m v w) (h : keyTW w = some k) : ∃ b, v = .ref b ∧ H b = some (.tup (k.map kV)) := by
  cases q with
  | r e => cases h
  | d r =>
    cases r with
    | tup e rs =>
      have := kVs_rep rs h
      subst this
      exact ⟨_, rfl, o.gh _ _ e⟩
    | _ => cases h
/-- d.get(k, z) -/
@[simp] def dDGet2T (td ty tx : DTE) (ρ : R) (μ : M) (Q : W → M → Prop) : Prop := td ρ μ fun w μ1 => (dicTW μ1 w).isSome = true ∧ ty ρ μ1 fun y μ2 => tx ρ μ2 fun z μ3 => match dicTW μ3 w, keyTW y with
  | some (ks, ds), some k => (match dgetLX ks ds k with
    | some d => Q (.d d) μ3
    | none => Q z μ3)
  | _, _ => False
theorem de_dget2T (hu : X.A.units + 1 < cLine) (ho : DE X b o td) (he : DE X b e ty) (hf : DE X b f tx) (m : M2 X o "get" apos e f cpos) : DE X b (.Call (.Attribute o "get" apos) [e, f] [] cpos) (dDGet2T td ty tx) := by
  obtain ⟨t1, p1, q1⟩ := ho.ex
  obtain ⟨t2, p2, q2⟩ := he.ex
  obtain ⟨t3, p3, q3⟩ := hf.ex
  refine ⟨_, pe_dget2 hu p1 p2 p3 m, fun {G m ρ μ σ H Q K} o r t k => ?_⟩
  refine q1 o r t fun v H1 G1 m1 w μ1 l1 o1 r1 ⟨hs, t1⟩ => ?_
  obtain ⟨⟨ks, ds⟩, hw⟩ := Option.isSome_iff_exists.mp hs
  obtain ⟨p, xs, rfl, h1, _, _⟩ := dicTW_ok o1.rel r1 hw
  refine ⟨p, rfl, .inr ⟨_, .inl h1⟩, q2 o1 (r.mono l1) t1 fun y H2 G2 m2 w2 μ2 l2 o2 r2 t2 => q3 o2 (r.mono (l1.trans l2)) t2 fun z H3 G3 m3 w3 μ3 l3 o3 r3 t3 => ?_⟩
  split at t3
  · rename_i ks ds ky e1 e2
    obtain ⟨p', xs', e3, h2, _, rp⟩ := dicTW_ok o3.rel (r1.mono (l2.trans l3)) e1
    cases e3
    obtain ⟨kb, rfl, hkb⟩ := kT_of o3.rel (r2.mono l3) e2
    refine ⟨_, DGet.t h2 hkb, ?_⟩
    rw [val_getX]
    rcases dget_relX (k := ky) (ks := ks) rp with ⟨z1, z2⟩ | ⟨v, d, z1, z2, z3⟩
    · rw [z2] at t3
      rw [z1]
      exact k z H3 G3 m3 w3 μ3 (l1.trans (l2.trans l3)) o3 r3 t3
    · rw [z2] at t3
      rw [z1]
      exact k v H3 G3 m3 _ μ3 (l1.trans (l2.trans l3)) o3 (.d z3) t3
  · exact t3.elim
/-- d[k] -/
@[simp] def dDIxT (td ty : DTE) (ρ : R) (μ : M) (Q : W → M → Prop) : Prop := td ρ μ fun w μ1 => ty ρ μ1 fun y μ2 => match dicTW μ2 w, keyTW y with
  | some (ks, ds), some k => (match dgetLX ks ds k with
    | some d => Q (.d d) μ2
    | none => False)
  | _, _ => False
theorem de_dixT (hu : X.A.units + 1 < cLine) (ho : DE X b o td) (hi : DE X b i ty) (hs : NoSl i := by exact fun _ _ => rfl) : DE X b (.Subscript o i pos) (dDIxT td ty) := by
  obtain ⟨t1, p1, q1⟩ := ho.ex
  obtain ⟨t2, p2, q2⟩ := hi.ex
  refine ⟨_, pe_dget hu p1 p2 hs, fun {G m ρ μ σ H Q K} o r t k => ?_⟩
  refine q1 o r t fun v H1 G1 m1 w μ1 l1 o1 r1 t1 => q2 o1 (r.mono l1) t1 fun y H2 G2 m2 w2 μ2 l2 o2 r2 t2 => ?_
  split at t2
  · rename_i ks ds ky e1 e2
    obtain ⟨p', xs', rfl, h2, _, rp⟩ := dicTW_ok o2.rel (r1.mono l2) e1
    obtain ⟨kb, rfl, hkb⟩ := kT_of o2.rel r2 e2
    rcases dget_relX (k := ky) (ks := ks) rp with ⟨z1, z2⟩ | ⟨v, d, z1, z2, z3⟩
    · rw [z2] at t2
      exact t2.elim
    · rw [z2] at t2
      refine ⟨p', v, rfl, ?_, k v H2 G2 m2 _ μ2 (l1.trans l2) o2 (.d z3) t2⟩
      have := DGet.t (k := ky) h2 hkb
      rw [val_getX, z1] at this
      exact this
  · exact t2.elim
/-- k in d, k not in d -/
@[simp] def dDInT (neg : Bool) (ty td : DTE) (ρ : R) (μ : M) (Q : W → M → Prop) : Prop := ty ρ μ fun y μ1 => td ρ μ1 fun w μ2 => match dicTW μ2 w, keyTW y with
  | some (ks, ds), some k => Q (.d (.bl (hasKX ks k != neg))) μ2
  | _, _ => False
theorem get_inX : ∀ {ks : List (List Key)} {xs : List V} {k : List Key}, ks.length = xs.length → (dgetLX ks xs k).isSome = hasKX ks k
  | [], [], _, _ => rfl
  | k' :: ks, x :: xs, k, h => by
    have ih := get_inX (ks := ks) (xs := xs) (k := k) (by simpa using h)
    simp only [dgetLX, hasKX, List.any_cons]
    by_cases e : k' = k
    · simp [e]
    · simp only [e, if_false, decide_false, Bool.false_or]
      exact ih
  | [], _ :: _, _, h => by simp at h
  | _ :: _, [], _, h => by simp at h
theorem din_coreX {G0 H : Hp} {m0 : Wd} {μ : M} {v y : V} {w w2 : W} {ks : List (List Key)} {ds : List D} {k : List Key} (o : WOk b G0 m0 μ H) (r : WRel b.cA G0 m0 v w) (r2 : WRel b.cA G0 m0 y w2) (e1 : dicTW μ w = some (ks, ds)) (e2 : keyTW w2 = some k) : ∃ a ov, v = .ref a ∧ DGet H a y ov ∧ ov.isSome = hasKX ks k := by
  obtain ⟨p', xs', rfl, h2, hl, rp⟩ := dicTW_ok o.rel r e1
  obtain ⟨kb, rfl, hkb⟩ := kT_of o.rel r2 e2
  exact ⟨p', _, rfl, DGet.t h2 hkb, by rw [val_getX, get_inX hl]⟩
theorem de_dinT (hu : X.A.units + 1 < cLine) (hi : DE X b i ty) (ho : DE X b o td) (hm : behindInMarks .In o = false) : DE X b (.Compare i [.In] [o] pos) (dDInT false ty td) := by
  obtain ⟨t1, p1, q1⟩ := hi.ex
  obtain ⟨t2, p2, q2⟩ := ho.ex
  refine ⟨_, pe_cmp (pc_din hu p1 p2) hm, fun {G m ρ μ σ H Q K} o r t k => ?_⟩
  refine q1 o r t fun y H1 G1 m1 w μ1 l1 o1 r1 t1 => q2 o1 (r.mono l1) t1 fun v H2 G2 m2 w2 μ2 l2 o2 r2 t2 => ?_
  split at t2
  · rename_i ks ds ky e1 e2
    obtain ⟨a, ov, rfl, g, hv⟩ := din_coreX o2 r2 (r1.mono l2) e1 e2
    refine ⟨a, ov, rfl, g, ?_⟩
    rw [hv]
    exact k _ H2 G2 m2 _ μ2 (l1.trans l2) o2 (.d (.bl _)) (by simpa using t2)
  · exact t2.elim
theorem dt_dinT (hu : X.A.units + 1 < cLine) (hi : DE X b i ty) (ho : DE X b o td) (hm : behindInMarks .In o = false) : DT X b (.Compare i [.In] [o] pos) (dB (dDInT false ty td)) := by
  obtain ⟨t1, p1, q1⟩ := hi.ex
  obtain ⟨t2, p2, q2⟩ := ho.ex
  refine ⟨_, pt_cmp (pc_din hu p1 p2) hm, fun {G m ρ μ σ H Q K} o r t k => ?_⟩
  refine q1 o r t fun y H1 G1 m1 w μ1 l1 o1 r1 t1 => q2 o1 (r.mono l1) t1 fun v H2 G2 m2 w2 μ2 l2 o2 r2 t2 => ?_
  split at t2
  · rename_i ks ds ky e1 e2
    obtain ⟨a, ov, rfl, g, hv⟩ := din_coreX o2 r2 (r1.mono l2) e1 e2
    refine ⟨a, ov, rfl, g, ?_⟩
    rw [hv]
    exact ⟨_, rfl, k _ H2 G2 m2 μ2 (l1.trans l2) o2 (by simpa using t2)⟩
  · exact t2.elim
theorem dt_dnotinT (hu : X.A.units + 1 < cLine) (hi : DE X b i ty) (ho : DE X b o td) (hm : behindInMarks .NotIn o = false) : DT X b (.Compare i [.NotIn] [o] pos) (dB (dDInT true ty td)) := by
  obtain ⟨t1, p1, q1⟩ := hi.ex
  obtain ⟨t2, p2, q2⟩ := ho.ex
  refine ⟨_, pt_cmp (pc_dnotin hu p1 p2) hm, fun {G m ρ μ σ H Q K} o r t k => ?_⟩
  refine q1 o r t fun y H1 G1 m1 w μ1 l1 o1 r1 t1 => q2 o1 (r.mono l1) t1 fun v H2 G2 m2 w2 μ2 l2 o2 r2 t2 => ?_
  split at t2
  · rename_i ks ds ky e1 e2
    obtain ⟨a, ov, rfl, g, hv⟩ := din_coreX o2 r2 (r1.mono l2) e1 e2
    refine ⟨a, ov, rfl, g, ?_⟩
    rw [hv]
    exact ⟨_, rfl, k _ H2 G2 m2 μ2 (l1.trans l2) o2 (by simpa using t2)⟩
  · exact t2.elim
/-- d[k] = v -/
@[simp] def dDPutT (td ty tv : DTE) (D : DEnds) (ρ : R) (μ : M) : Prop := tv ρ μ fun x μ1 => td ρ μ1 fun w μ2 => ty ρ μ2 fun y μ3 => match w, keyTW y with
  | .r n, some k => (match esc μ3 x with
    | some (d, μ4) => (match μ4[n]? with
      | some (.dicT ks ds) => ks.length < sizeLine ∧ D.nx ρ (μ4.set n (.dicT (dputKX ks k) (dputLX ks ds k d)))
      | _ => False)
    | none => False)
  | _, _ => False
theorem ds_dputT (hu : X.A.units + 1 < cLine) (ho : DE X b o td) (hi : DE X b i ty) (hv : DE X b value tv) (hs : swapsWith value (some (.Subscript o i pos')) pos.line X.env = pure false := by rfl) : DS X b (.Assign [.Subscript o i pos'] value pos) (dDPutT td ty tv) := by
  obtain ⟨t1, p1, q1⟩ := ho.ex
  obtain ⟨t2, p2, q2⟩ := hi.ex
  obtain ⟨t3, p3, q3⟩ := hv.ex
  refine ⟨_, ps_dput hu p1 p2 p3 hs, fun {G m ρ μ σ H D E} o r t k => ?_⟩
  refine q3 o r t fun x H1 G1 m1 wx μ1 l1 o1 r1 t1 => q1 o1 (r.mono l1) t1 fun v H2 G2 m2 w μ2 l2 o2 r2 t2 => q2 o2 (r.mono (l1.trans l2)) t2 fun y H3 G3 m3 wy μ3 l3 o3 r3 t3 => ?_
  split at t3
  · rename_i n ky e2
    split at t3
    · rename_i d μ4 e3
      split at t3
      · rename_i ks ds e4
        obtain ⟨hl, t3⟩ := t3
        obtain ⟨G4, l4, r4, rx⟩ := esc_ok o3.rel (r1.mono (l2.trans l3)) e3
        obtain ⟨kb, rfl, hkb⟩ := kT_of r4 (r3.mono l4) e2
        cases r2 with
        | @r _ p as em =>
        have em' := l4.m _ _ (l3.m _ _ em)
        obtain ⟨p', xs, e5, h5, h6, rp⟩ := r4.cell n _ _ e4 em'
        cases e5
        obtain ⟨z1, z2⟩ := put_zipX (k := ky) (v := x) h6
        refine ⟨p, _, rfl, DPut.t h5 hkb (by rw [List.length_zip]; omega), ?_⟩
        rw [z1]
        have lo : Le G m G4 m3 := l1.trans (l2.trans (l3.trans l4))
        refine k.nx σ _ G4 m3 ρ _ lo (o3.mono l4 (r4.write (p := p) (c' := .dicT (dputKX ks ky) (dputLX ks ds ky d)) e4 em' rfl (by simp) rfl ⟨p, _, rfl, upd_same, z2, dput_relX rx rp⟩)) (r.mono lo) t3
      · exact t3.elim
    · exact t3.elim
  · exact t3.elim
end
end DD
namespace DD
open PySem L2 PySem.W
/-! ### dict(a list of pairs), keys tuples of ints and texts, each once -/
inductive PairsH (H : Hp) : List V → List (List Key) → List V → Prop
  | nil : PairsH H [] [] []
  | cons {a b : Addr} {k : List Key} {v : V} {xs : List V} {ks : List (List Key)} {vs : List V} (h1 : H a = some (.tup [.ref b, v])) (h2 : H b = some (.tup (k.map kV))) (t : PairsH H xs ks vs) : PairsH H (.ref a :: xs) (k :: ks) (v :: vs)
def rDictP : V → Hp → VK → Prop := fun x H Q => ∃ (l : Addr) (xs : List V) (ks : List (List Key)) (vs : List V), x = .ref l ∧ H l = some (.lst xs) ∧ PairsH H xs ks vs ∧ ks.Nodup ∧ ∀ a, H a = none → Q (.ref a) (upd H a (.dT (ks.zip vs)))
section
variable {H : Hp} {P : Program} {w : World} {h : Heap}
theorem PairsH.len {xs : List V} {ks : List (List Key)} {vs : List V} (q : PairsH H xs ks vs) : ks.length = vs.length ∧ xs.length = ks.length := by
  induction q with
  | nil => exact ⟨rfl, rfl⟩
  | cons _ _ _ ih => simp [ih.1, ih.2]
theorem pairs_low (ok : HOk P w H h) : ∀ {xs : List V} {ks : List (List Key)} {vs : List V} {its : List Value}, PairsH H xs ks vs → Vals xs its →
    ∃ (as : List Addr) (qs : List (List Key × Addr × Value)), its = as.map Value.ref ∧ qs.length = as.length ∧ KT H (ks.zip vs) qs ∧ (∀ (j : Nat) (a : Addr) (q : List Key × Addr × Value), as[j]? = some a → qs[j]? = some q → PairAt h a (.ref q.2.1) q.2.2) ∧ qs.map (·.1) = ks := by
  intro xs ks vs its q
  induction q generalizing its with
  | nil =>
    intro r
    cases r
    exact ⟨[], [], rfl, rfl, .nil, by simp, rfl⟩
  | @cons a b k v xs ks vs h1 h2 t ih =>
    intro r
    cases r with
    | @cons _ u _ us rv rs =>
    cases (show u = Value.ref a from rv)
    obtain ⟨as, qs, rfl, hl, kt, pa, hk⟩ := ih rs
    obtain ⟨_, it2, r2, tp⟩ := (show ObjOk P w H h a (.tup [.ref b, v]) from ok a _ h1)
    cases r2 with
    | @cons _ u1 _ us1 q1 r3 =>
    cases (show u1 = Value.ref b from q1)
    cases r3 with
    | @cons _ u2 _ us2 q2 r4 =>
    cases r4
    refine ⟨a :: as, (k, b, u2) :: qs, rfl, by simp [hl], .cons ⟨rfl, h2, q2⟩ kt, fun j a' q' e1 e2 => ?_, by simp [hk]⟩
    cases j with
    | zero =>
      simp at e1 e2
      subst e1 e2
      exact .inl tp
    | succ j => exact pa j a' q' (by simpa using e1) (by simpa using e2)
theorem storedAll_nodup {K : Type} [DecidableEq K] : ∀ (ps xs : List (K × Addr × Value)), ((xs ++ ps).map (·.1)).Nodup → storedAllH xs ps = xs ++ ps
  | [], xs, _ => by simp [storedAllH]
  | p :: ps, xs, h => by
    have hn : atKey xs p.1 = none := by
      have h2 : p.1 ∉ xs.map (·.1) := fun z => by
        rw [List.map_append, List.map_cons, List.nodup_append] at h
        exact h.2.2 _ z _ (List.mem_cons_self ..) rfl
      cases e : atKey xs p.1 with
      | none => rfl
      | some v =>
        exfalso
        apply h2
        unfold atKey at e
        obtain ⟨y, hy, _⟩ := Option.map_eq_some_iff.mp e
        have := List.find?_some hy
        exact List.mem_map.mpr ⟨y, List.mem_of_find?_eq_some hy, by simpa using this⟩
    show storedAllH (storedH xs p.1 p.2.1 p.2.2) ps = xs ++ p :: ps
    rw [storedH_new hn, storedAll_nodup ps _ (by simpa using h)]
    simp
end
section
variable {X : Cx} {p pos : Pos} {e : Expr} {ta : TE}
theorem rl_dictP (hc : X.calm = true) (hu : X.A.units + 64 < cLine) (pins : List (Addr × Obj)) (s : Shared) (σ : L2.St) (H : Hp) (x : V) (v : Value) (Q : VK) (I : Inv X pins σ H s) (r : RelV x v) (h : rDictP x H Q) :
    wpAny (model X.prog X.w) X.A (call (.type "dict") [v]) (EP X pins σ Q) X.xe s := by
  obtain ⟨l, xs, ks, vs, rfl, hl, hp, hn, q⟩ := h
  cases (show v = Value.ref l from r)
  obtain ⟨hz, its, n, rv, ho⟩ := (show ObjOk X.prog X.w H s.heap l (.lst xs) from I.hok l _ hl)
  obtain ⟨as, qs, rfl, hq, kt, pa, hk⟩ := pairs_low I.hok hp rv
  have hlen := hp.len
  have hxl : xs.length = as.length := by have := Paired.length rv; simpa using this
  refine call_dict_pairsH (knd := tupleKind (mixKind X.prog X.w)) (ps := qs) (PairArg.list l (as.map Value.ref).toArray (fun j => as.getD j 0) (qs.map fun q => (Value.ref q.2.1, q.2.2))) (I.ok.hd hc) (show (_ : Nat) < cLine from by show X.A.units + 2 < cLine; omega) ⟨⟨_, n, ho, rfl, rfl, rfl⟩, by simp [hq], fun j k u hj => ?_⟩ ⟨by simp, fun i key u hr => ?_⟩ (fun h' hk' x hx => ?_) (by rw [List.length_map]; omega) fun h' tk hd hkeep => ?_
  · rw [List.getElem?_map] at hj
    obtain ⟨y, hy, e1⟩ := Option.map_eq_some_iff.mp hj
    cases e1
    have hjl : j < as.length := by have := (List.getElem?_eq_some_iff.mp hy).1; omega
    have hja : as[j]? = some as[j] := List.getElem?_eq_getElem hjl
    have e2 : as.getD j 0 = as[j] := by rw [List.getD_eq_getElem?_getD, hja]; rfl
    show (List.map Value.ref as).toArray[j]? = some (Value.ref (as.getD j 0)) ∧ PairAt s.heap (as.getD j 0) _ _
    rw [e2]
    exact ⟨by simp [hja], pa j _ y hja hy⟩
  · have hr : (qs.map fun q => (Value.ref q.2.1, q.2.2))[i]? = some (key, u) := hr
    rw [List.getElem?_map] at hr
    obtain ⟨y, hy, e1⟩ := Option.map_eq_some_iff.mp hr
    cases e1
    exact ⟨y.1, y.2.1, hy, rfl⟩
  · have key : (tupleKind (mixKind X.prog X.w)).is s.heap x.1 x.2.1 := by
      have all : ∀ {l : List (List Key × V)} {m : List (List Key × Addr × Value)}, KT H l m → ∀ x ∈ m, (tupleKind (mixKind X.prog X.w)).is s.heap x.1 x.2.1 := by
        intro l m q
        induction q with
        | nil => intro x hx; exact nomatch hx
        | @cons p q ps qs hq t ih =>
          intro x hx
          rcases List.mem_cons.mp hx with e | hx
          · subst e
            exact key_of I.hok (by rw [← hq.1]; exact hq.2.1)
          · exact ih x hx
      exact all kt x hx
    exact tupleKind_stays.stays (fun b o vs n hb _ => hk' b o (Nat.ne_of_lt (Heap.lt_size hb)) (by simp) hb) key
  · rw [storedAll_nodup qs [] (by simpa [hk] using hn), List.nil_append] at hd
    obtain ⟨o, es, ep, h1, h2, h3, h4, _, h5⟩ := id hd
    have hnew := I.hok.fresh (Nat.le_refl s.heap.objs.size)
    have kt2 : KT (upd H s.heap.objs.size (.dT (ks.zip vs))) (ks.zip vs) qs := Paired.mapP kt fun p q z => ⟨z.1, by rw [upd_ne (ne_of_none z.2.1 hnew)]; exact z.2.1, z.2.2⟩
    refine ⟨.ref s.heap.objs.size, upd H s.heap.objs.size (.dT (ks.zip vs)), I.laid (fun b u e => hkeep b u (by simp) e) (Nat.le_refl _) ⟨by rw [List.length_zip]; omega, beq_eq_false_iff_ne.mpr (Nat.ne_of_gt I.big), qs, kt2, o, es, ep, h1, h2, h3, h4, h5⟩, rfl, q _ hnew⟩
theorem pe_dictP (hc : X.calm = true) (hu : X.A.units + 64 < cLine) (hg : Gl X "dict") (hm : X.mg "dict" = none) (ha : PE X e ta) (na : starEach [e] X.env = (false, eval e X.env) :: starEach [] X.env := by rfl) :
    PE X (.Call (.Name "dict" p) [e] [] pos) (tThenZ ta rDictP) := pe_callTy (call_r1 (rl_dictP hc hu)) hg hm (by decide +kernel) (pa_cons ha pa_nil na) (he := na)
end
/-- the keys and values of pairs -/
@[simp] def pairsK : List D → Option (List (List Key) × List D)
  | [] => some ([], [])
  | .tup [.tup kd, v] :: ps => match keysD kd, pairsK ps with
    | some k, some (ks, ds) => some (k :: ks, v :: ds)
    | _, _ => none
  | _ => none
section
variable {cA : Nat → Addr} {G H : Hp}
theorem pairsK_ok (gh : Sub G H) : ∀ {xs : List V} {ps : List D} {ks : List (List Key)} {ds : List D}, Reps cA G xs ps → pairsK ps = some (ks, ds) → ∃ vs, PairsH H xs ks vs ∧ Reps cA G vs ds
  | _, _, ks, ds, .nil, h => by simp at h; obtain ⟨rfl, rfl⟩ := h; exact ⟨[], .nil, .nil⟩
  | _, _, ks, ds, .cons (d := d) (ds := ps) r rs, h => by
    unfold pairsK at h
    split at h
    · rename_i e; cases e
    · rename_i kd v ps' e
      cases e
      cases e1 : keysD kd with
      | none => rw [e1] at h; simp at h
      | some k =>
        cases e2 : pairsK ps with
        | none => rw [e1, e2] at h; simp at h
        | some z =>
          obtain ⟨ks1, ds1⟩ := z
          rw [e1, e2] at h
          simp at h
          obtain ⟨rfl, rfl⟩ := h
          obtain ⟨vs, q1, q2⟩ := pairsK_ok gh rs e2
          cases r with
          | tup hp rp =>
          cases rp with
          | cons ra rb =>
          cases rb with
          | cons rv rn =>
          cases rn
          cases ra with
          | tup hb rk =>
          have := kVs_rep rk e1
          subst this
          exact ⟨_, .cons (gh _ _ hp) (gh _ _ hb) q1, .cons rv q2⟩
    · cases h
end
section
variable {X : Cx} {b : Bs} {p pos : Pos} {e : Expr} {te : DTE}
@[simp] def dDictP (te : DTE) (ρ : R) (μ : M) (Q : W → M → Prop) : Prop := te ρ μ fun w μ1 => match rs μ1 w with
  | some (.lst ps) => ∃ ks ds, pairsK ps = some (ks, ds) ∧ ks.Nodup ∧ Q (.r μ1.length) (μ1 ++ [.dicT ks ds])
  | _ => False
theorem de_dictP (hc : X.calm = true) (hu : X.A.units + 64 < cLine) (hm : X.mg "dict" = none) (ha : DE X b e te) (hg : Gl X "dict") (na : starEach [e] X.env = (false, eval e X.env) :: starEach [] X.env := by rfl) :
    DE X b (.Call (.Name "dict" p) [e] [] pos) (dDictP te) := by
  obtain ⟨t', pa, qa⟩ := ha.ex
  refine ⟨_, pe_dictP hc hu hg hm pa na, fun {G m ρ μ σ H Q K} o r t k => ?_⟩
  refine qa o r t fun v H1 G1 m1 w μ1 l1 o1 r1 t1 => ?_
  split at t1
  · rename_i ps e1
    obtain ⟨ks, ds, e2, hn, t1⟩ := t1
    obtain ⟨l, xs, rfl, hl, rx⟩ := rs_ok o1.rel r1 e1
    obtain ⟨vs, q1, q2⟩ := pairsK_ok o1.rel.gh rx e2
    refine ⟨l, xs, ks, vs, rfl, hl, q1, hn, fun a ha => ?_⟩
    exact k _ _ _ _ _ _ (l1.trans Le.cellNew) (o1.mono Le.cellNew (o1.rel.cellNew (c := .dicT ks ds) ha ⟨a, vs, rfl, upd_same, q1.len.1, q2⟩)) (.r (as := []) (by rw [← o1.rel.len]; simp)) t1
  · exact t1.elim
end
/-! ### range(i, j, -1) -/
section
variable {X : Cx} {b : Bs} {pos : Pos}
def rngC (lo : Int) (n : Nat) : List W := (List.range n).map fun (i : Nat) => W.d (.int (lo + (i : Int) * (-1)))
theorem src_rngC {G : Hp} {m : Wd} {lo : Int} {n : Nat} : SrcOk b G m ⟨rngC lo n, fun _ => True⟩ (Itc lo (-1) n) := by
  have hl : (rngC lo n).length = n := by simp [rngC]
  refine ⟨fun {G' m' μ' H' i} l o k h => by rw [hl] at h; exact h, fun {G' m' μ' H' i x H2} l o k y h => ?_, fun {G' m' μ' H'} l o k => by rw [hl]; exact Nat.le_refl _⟩
  obtain ⟨rfl, rfl⟩ := y
  rw [hl] at h
  exact ⟨G', .d (.int (lo + i * (-1))), Le.refl _ _, o, by simp [rngC, h], .d (.int _)⟩
@[simp] def iR3 (ta : DTA) (ρ : R) (μ : M) (Q : Src → M → Prop) : Prop := ta ρ μ fun ws μ1 => match ws with
  | [.d (.int i), .d (.int j), .d (.int c)] => c = -1 ∧ (-(2 ^ 62) ≤ i ∧ i < 2 ^ 62 ∧ -(2 ^ 62) ≤ j ∧ j < 2 ^ 62) ∧ Q ⟨rngC i (i - j).toNat, fun _ => True⟩ μ1
  | _ => False
theorem di_range3 {tg a c d : Expr} {ta : DTA} {p : Pos} (hg : Gl X "range") (hm : X.mg "range" = none) (ha : DA X b [a, c, d] ta) (hs : starEach [a, c, d] X.env = (false, eval a X.env) :: starEach [c, d] X.env := by rfl) (hpl : (backTo pos (starEach [c, d] X.env)).any (·.1) = false := by rfl) :
    DI X b tg (.Call (.Name "range" p) [a, c, d] [] pos) (iR3 ta) := by
  obtain ⟨t', p1, q⟩ := ha.ex
  refine ⟨_, pi_range3 hg hm p1 hs hpl, fun {G m ρ μ σ H Q K} o r t k => ?_⟩
  refine q o r t fun vs H1 G1 m1 ws μ1 l1 o1 r1 t1 => ?_
  match ws, r1, t1 with
  | [.d (.int i), .d (.int j), .d (.int c)], .cons r1 (.cons r2 (.cons r3 .nil)), t1 =>
    cases isInt r1
    cases isInt r2
    cases isInt r3
    obtain ⟨rfl, ⟨h1, h2, h3, h4⟩, t1⟩ := t1
    exact ⟨i, j, -1, _, rfl, RgC.neg h1 h2 h3 h4, k _ H1 G1 m1 _ μ1 l1 o1 src_rngC t1⟩
end
end DD
namespace DD
open PySem L2 PySem.W
/-! ### sum of a list of ints, list(range(a, b)) -/
def fSum (ds : List D) (q : D → Prop) : Prop := ∃ ns : List Int, ds = [lints ns] ∧ q (.int ns.sum)
section
variable {X : Cx} {b : Bs} {pos p : Pos} {e e2 : Expr} {ta : DTA} {te te2 : DTE}
theorem on_sum {K : PySem.W.Frag} : OpN b (rSum K) fSum := by
  intro G m μ H vs ds q Kq w n f k
  obtain ⟨ns, rfl, f⟩ := f
  obtain ⟨v, rfl, a, us, rfl, h, r⟩ := nows1 (d := .lst (ns.map D.int)) n
  rw [reps_ints_v r] at h
  exact ⟨a, ns, rfl, SqL.of h, give_old w (.int _) f k⟩
theorem de_sum (hc : X.calm = true) (hm : X.mg "sum" = none) (ha : DA X b [e] ta) (hg : Gl X "sum") (he : starEach [e] X.env = [(false, eval e X.env)] := by rfl) (hpl : (backTo pos (starEach [] X.env)).any (·.1) = false := by rfl) : DE X b (.Call (.Name "sum" p) [e] [] pos) (dFn fSum ta) :=
  de_fn (on_sum (K := X.K)) ha fun pa => pe_callB (cr_sum hc) hg hm (by decide +kernel) pa (he := he) (hpl := hpl)
def dLRng2 (mu : Bool) (te te2 : DTE) (ρ : R) (μ : M) (Q : W → M → Prop) : Prop := te ρ μ fun w μ1 => te2 ρ μ1 fun w2 μ2 => match w, w2 with
  | .d (.int i), .d (.int j) => (-(2 ^ 62) ≤ i ∧ i < 2 ^ 62 ∧ -(2 ^ 62) ≤ j ∧ j < 2 ^ 62 ∧ j - i ≤ 16777216) ∧ if mu then Q (.r μ2.length) (μ2 ++ [.lst (rngD i (j - i).toNat)]) else Q (.d (.lst (rngD i (j - i).toNat))) μ2
  | _, _ => False
theorem de_lrng2 (mu : Bool) {p2 pos2 : Pos} (hc : X.calm = true) (hm : X.mg "list" = none) (hm2 : X.mg "range" = none) (ha : DE X b e te) (hb : DE X b e2 te2) (hg : Gl X "list") (hg2 : Gl X "range") (na : starEach [e, e2] X.env = (false, eval e X.env) :: starEach [e2] X.env := by rfl)
    (nb : starEach [e2] X.env = (false, eval e2 X.env) :: starEach [] X.env := by rfl) (hp : (backTo pos2 (starEach [e2] X.env)).any (·.1) = false := by rfl)
    (nc : starEach [.Call (.Name "range" p2) [e, e2] [] pos2] X.env = (false, eval (.Call (.Name "range" p2) [e, e2] [] pos2) X.env) :: starEach [] X.env := by rfl) : DE X b (.Call (.Name "list" p) [.Call (.Name "range" p2) [e, e2] [] pos2] [] pos) (dLRng2 mu te te2) := by
  obtain ⟨t1, p1, q1⟩ := ha.ex
  obtain ⟨t2, p3, q2⟩ := hb.ex
  refine ⟨_, pe_listRg hc hg hm (prg_2 hg2 hm2 p1 p3 na nb hp) nc, fun {G m ρ μ σ H Q K} o r t k => ?_⟩
  refine q1 o r t fun v H1 G1 m1 w μ1 l1 o1 r1 t1 => q2 o1 (r.mono l1) t1 fun v2 H2 G2 m2 w2 μ2 l2 o2 r2 t2 => ?_
  split at t2
  · rename_i i j
    obtain ⟨⟨h1, h2, h3, h4, h5⟩, t2⟩ := t2
    refine ⟨i, j, isInt r1, isInt r2, ⟨h1, h2, h3, h4, by omega⟩, fun q hq => ?_⟩
    have rp : Reps b.cA G2 (rgV i j) (rngD i (j - i).toNat) := reps_rng
    cases mu with
    | true =>
      exact k _ _ _ _ _ _ ((l1.trans l2).trans Le.cellNew) (o2.mono Le.cellNew (o2.rel.cellNew (c := .lst (rngD i (j - i).toNat)) hq ⟨q, _, rfl, upd_same, rp⟩)) (.r (as := []) (by rw [← o2.rel.len]; simp)) t2
    | false =>
      have hg := (o2.rel.new hq).1
      have l3 : Le G2 m2 (upd G2 q (.lst (rgV i j))) m2 := Le.know hg
      exact k _ _ _ m2 _ μ2 ((l1.trans l2).trans l3) (o2.mono l3 (o2.rel.know hq)) (.d (.lst upd_same (rp.mono l3.g))) t2
  · exact t2.elim
end
end DD
namespace DD
open PySem L2
/-! ### list(d.values()) of a dict whose keys are tuples -/
section
variable {prog : Program} {w : World}
theorem hintV {A : Around} {E : Value → Shared → Prop} {s : Shared} {r : Addr} {Q : Bool → Shared → Prop} (ht : s.TypeIs (.ref r) "dict_values") (h : Q false s) : wpAny (model prog w) A (Builtin.List.listLengthHint (.ref r)) Q E s := by
  unfold Builtin.List.listLengthHint
  refine PySem.wpAny_bind (wpAny_specialOf (name := "__len__") ht F.slot_dict_values_len.lookup ?_)
  dsimp only
  have es : splitId "dict_values.__len__" = some ("dict_values", "__len__") := by rfl
  rw [es]
  dsimp only
  refine PySem.wpAny_bind (wpAny_isInstance (b := true) ht (by rfl) ?_)
  simp only [Bool.not_true, Bool.false_eq_true, if_false]
  rw [if_pos (by rfl)]
  refine PySem.wpAny_bind (wpAny_typeOf ht ?_)
  dsimp only
  exact wpAny_pure h
/-- a dict as it stands, and its view -/
def RawV (r d : Addr) (es : Array DictEntry) (ep : Nat) (h : Heap) : Prop := h.get? r = some (DSub.viewOb "dict_values" d) ∧ ∃ od, h.get? d = some od ∧ od.data = .dict es ep
theorem view_type {s : Shared} {r d : Addr} (h : s.heap.get? r = some (DSub.viewOb "dict_values" d)) : s.TypeIs (.ref r) "dict_values" := DVw.itOb_is (fs := #[.ref d]) h
theorem kdl_raw {r d : Addr} {es : Array DictEntry} {ep : Nat} : PySem.W.KdlSrc prog w "dict_values" r d es.size (fun i v => ∃ e, es[i]? = some e ∧ v = e.val) (RawV r d es ep) where
  type s h := view_type h.1
  there h k := ⟨Heap.lt_size k.1, by obtain ⟨_, od, h2, _⟩ := k; exact Heap.lt_size h2⟩
  keep h h' k f := by
    obtain ⟨h1, od, h2, h3⟩ := k
    exact ⟨f r (.inl rfl) _ h1, od, f d (.inr rfl) _ h2, h3⟩
  notList := by rfl
  notTuple := by rfl
  hint A E s Q k h := hintV (view_type k.1) h
  iter A s hh k := by
    obtain ⟨h1, od, h2, h3⟩ := k
    refine ⟨DVw.valOb d 0 es.size ep, fun i h => h.get? s.heap.objs.size = some (DVw.valOb d i es.size ep) ∧ ∃ od, h.get? d = some od ∧ od.data = .dict es ep, fun E Q hq => DSub.iter_vals h1 h2 h3 hq, ?_, Heap.get?_push_size _ rfl, od, Heap.get?_push_of_some _ h2, h3⟩
    refine ⟨fun b hb => ?_, fun i h h' k f => ?_, fun i s' Q E hi k hq => ?_, fun s' Q E k hq => ?_, fun i s' Q E k hq => ?_⟩
    · rw [List.mem_singleton.mp hb]
      exact List.mem_cons_self ..
    · obtain ⟨k1, od, k2, k3⟩ := k
      exact ⟨f _ (List.mem_cons_self ..) _ k1, od, f d (List.mem_cons_of_mem _ (List.mem_cons_self ..)) _ k2, k3⟩
    · obtain ⟨k1, od, k2, k3⟩ := k
      have ne : d ≠ s.heap.objs.size := Nat.ne_of_lt (Heap.lt_size h2)
      refine DVw.val_item k1 k2 k3 rfl (Array.getElem?_eq_getElem hi) fun h' e1 sb => ?_
      refine hq _ h' s'.toks ⟨_, Array.getElem?_eq_getElem hi, rfl⟩ ⟨e1, od, by rw [sb.2 d ne]; exact k2, k3⟩ fun b o hb e => ?_
      rw [sb.2 b fun z => hb (by rw [z]; exact List.mem_cons_self ..)]
      exact e
    · obtain ⟨k1, od, k2, k3⟩ := k
      refine DVw.val_end hh k1 k2 k3 rfl (by simp) fun h' eb => ?_
      exact hq h' s'.toks fun b o hb e => eb b o (fun z => hb (by rw [z]; exact List.mem_cons_self ..)) e
    · obtain ⟨k1, _⟩ := k
      exact wpAny_pyIter_valiter (d := d) (i := i) (n := es.size) (ep := ep) ⟨_, k1, rfl, rfl⟩ hq
end
def rListValsT : V → Hp → VK → Prop := fun x H Q => ∃ (d : Addr) (kvs : List (List Key × V)), x = .ref d ∧ H d = some (.dT kvs) ∧ ∀ q, H q = none → Q (.ref q) (upd H q (.lst (kvs.map (·.2))))
section
variable {X : Cx} {e : Expr} {te : TE} {p apos cpos pos : Pos}
theorem kvT_at {H : Hp} : ∀ {kvs : List (List Key × V)} {xs : List (List Key × Addr × Value)} {j : Nat} {x : V} {z : List Key × Addr × Value}, Paired (fun (p : List Key × V) (q : List Key × Addr × Value) => p.1 = q.1 ∧ H q.2.1 = some (HO.tup (p.1.map kV)) ∧ RelV p.2 q.2.2) kvs xs → (kvs.map (·.2))[j]? = some x → xs[j]? = some z → RelV x z.2.2
  | _, _, j, _, _, .nil, h, _ => by simp at h
  | _, _, 0, _, _, .cons r rs, h, h2 => by simp at h h2; subst h; obtain ⟨_, _, g⟩ := r; rw [h2] at g; exact g
  | _, _, j + 1, _, _, .cons r rs, h, h2 => kvT_at rs (by simpa using h) (by simpa using h2)
theorem pe_listValsT (hc : X.calm = true) (he : PE X e te) (hg : Gl X "list") (hm : X.mg "list" = none) (hv : bootBuiltins "list" = some (.type "list")) (hbase : attributeBase e "values" X.env (eval e X.env) = eval e X.env := by rfl) (hline : (apos.endLine == cpos.line) = true := by rfl)
    (hs : starEach [.Call (.Attribute e "values" apos) [] [] cpos] X.env = (false, eval (.Call (.Attribute e "values" apos) [] [] cpos) X.env) :: starEach [] X.env := by rfl) :
    PE X (.Call (.Name "list" p) [.Call (.Attribute e "values" apos) [] [] cpos] [] pos) (fun σ H Q => te σ H fun x H1 => rListValsT x H1 Q) := by
  refine ⟨fun pins s σ H Q I hq => ?_⟩
  refine wpAny_Call_Name_kw (ld_blt I hg hm hv ?_)
  refine PyProof.Rows.callWith_type1 ?_ hs rfl
  rw [hs]
  show wpAny _ _ (spliced ((false, eval (.Call (.Attribute e "values" apos) [] [] cpos) X.env) :: backTo pos (starEach [] X.env))) _ _ s
  refine Calls.spliced_cons ?_
  refine wpAny_Call_method (T := "dict") (id := "dict.values") hbase rfl hline F.plainAttrs_dict F.slot_dict_values F.type_dict_values (thn (he.run pins s σ H _ I hq) fun u s1 ⟨x, H1, I1, rx, d, kvs, ex, hd, q⟩ => ?_)
  subst ex
  obtain rfl : u = Value.ref d := rx
  obtain ⟨hz, hs0, xs, kv, o, es, ep, ho, hx, hdat, hes, hnd⟩ := (show ObjOk X.prog X.w H1 s1.heap d (.dT kvs) from I1.hok d _ hd)
  have raw : DT.Raw s1.heap d es ep := ⟨o, ho, hx, hdat⟩
  have lk : kvs.length = xs.length := Paired.length kv
  have le : es.size = xs.length := by
    have := congrArg List.length hes
    simpa using this
  have I2 : Inv X pins σ H1 { s1 with heap := s1.heap.push { cls := .type "dict_values", data := .fields #[.ref d] } } := I1.kept (t' := s1.toks) fun b ob q => Heap.get?_push_of_some _ q
  refine ⟨raw.typeIs, fun a ea => (by cases ea; exact ⟨o, ho, hx.2.1⟩), ?_⟩
  show wpAny _ _ (callWith cpos (.builtin "dict.values") [.ref d] [] []) _ X.xe s1
  refine method_meetsIn F.slot_dict_values F.entry_dict_values rfl (PySem.evalArgs_none ⟨rfl, raw.typeIs, F.args_dict_values_1 _, _, meets_dict_values_raw d hs0, ⟨es, ep, o, ho, hx, hdat⟩, ?_⟩)
  refine Calls.spliced_nil ?_
  refine PySem.W.kdl_call (kdl_raw (es := es) (ep := ep) (d := d)) (I1.ok.hd hc) ⟨Heap.get?_push_size _ rfl, o, Heap.get?_push_of_some _ ho, hdat⟩ (by rw [le, ← lk]; exact hz) fun h' tk acc' c' hkeep hS hacc => ?_
  refine ⟨.ref (s1.heap.push { cls := .type "dict_values", data := .fields #[.ref d] }).objs.size, upd H1 _ (.lst (kvs.map (·.2))), I2.laid (t' := tk) hkeep (Nat.le_refl _) (show ObjOk X.prog X.w _ _ _ (.lst (kvs.map (·.2))) from ⟨?_, acc'.toList, c', ?_, ?_⟩), rfl, q _ (I2.hok.fresh (Nat.le_refl _))⟩
  · rw [List.length_map]; exact hz
  · have el : acc'.toList.length = acc'.size := by simp
    refine vals_of_at (by rw [List.length_map, el, hacc.1, le, lk]) fun j x w h1 h2 => ?_
    obtain ⟨en, hen, rfl⟩ := hacc.2 j w (by rw [← Array.getElem?_toList]; exact h2)
    rw [← Array.getElem?_toList, hes, List.getElem?_map] at hen
    obtain ⟨z, hz1, rfl⟩ := Option.map_eq_some_iff.mp hen
    exact kvT_at kv h1 hz1
  · rw [Array.toArray_toList]; exact hS
end
section
variable {X : Cx} {b : Bs} {pos apos cpos p : Pos} {e : Expr} {te : DTE}
@[simp] def dListValsT (te : DTE) (ρ : R) (μ : M) (Q : W → M → Prop) : Prop := te ρ μ fun w μ1 => match dicTW μ1 w with
  | some (_, ds) => Q (.d (.lst ds)) μ1
  | none => False
theorem de_listValsT (hc : X.calm = true) (hm : X.mg "list" = none) (he : DE X b e te) (hg : Gl X "list") (hbase : attributeBase e "values" X.env (eval e X.env) = eval e X.env := by rfl) (hline : (apos.endLine == cpos.line) = true := by rfl)
    (hs : starEach [.Call (.Attribute e "values" apos) [] [] cpos] X.env = (false, eval (.Call (.Attribute e "values" apos) [] [] cpos) X.env) :: starEach [] X.env := by rfl) :
    DE X b (.Call (.Name "list" p) [.Call (.Attribute e "values" apos) [] [] cpos] [] pos) (dListValsT te) := by
  obtain ⟨t1, p1, q1⟩ := he.ex
  refine ⟨_, pe_listValsT hc p1 hg hm (by decide +kernel) hbase hline hs, fun {G m ρ μ σ H Q K} o r t k => ?_⟩
  refine q1 o r t fun v H1 G1 m1 w μ1 l1 o1 r1 t1 => ?_
  split at t1
  · rename_i ks ds e1
    obtain ⟨a, xs, rfl, h, hl, rp⟩ := dicTW_ok o1.rel r1 e1
    refine ⟨a, _, rfl, h, fun q hq => ?_⟩
    have e2 : (ks.zip xs).map (·.2) = xs := by rw [List.map_snd_zip]; omega
    rw [e2]
    have hg := (o1.rel.new hq).1
    have l2 : Le G1 m1 (upd G1 q (.lst xs)) m1 := Le.know hg
    exact k _ _ _ m1 _ μ1 (l1.trans l2) (o1.mono l2 (o1.rel.know hq)) (.d (.lst upd_same (rp.mono l2.g))) t1
  · exact t1.elim
end
theorem lookup_map {g : Str × NameKind → Str × NameKind} (hg : ∀ n k, g (n, k) = (n, k) ∨ (k = .free ∧ g (n, k) = (n, .cell))) (a : Str) : ∀ l : List (Str × NameKind), (l.lookup a = some .cell ∨ l.lookup a = some .free) → ((l.map g).lookup a = some .cell ∨ (l.map g).lookup a = some .free)
  | [], h => by simp at h
  | (n, k) :: l, h => by
    rw [List.map_cons]
    rcases hg n k with e | ⟨rfl, e⟩
    · rw [e]
      rw [List.lookup_cons] at h ⊢
      split at h
      · exact h
      · exact lookup_map hg a l h
    · rw [e]
      rw [List.lookup_cons] at h ⊢
      split at h
      · exact .inl rfl
      · exact lookup_map hg a l h
/-- a block in a block -/
theorem blkOk_map {N : List Str} {kd kd' : ScopeKind} {l : List (Str × NameKind)} {g : Str × NameKind → Str × NameKind} {a b a' b' : Bool} {x x' : List (Str × Const)} {scope : Scope} {own : List (Str × Nat)} (hg : ∀ n k, g (n, k) = (n, k) ∨ (k = .free ∧ g (n, k) = (n, .cell))) (h : BlkOk N ⟨kd', l, a', b', x'⟩ scope own) : BlkOk N ⟨kd, l.map g, a, b, x⟩ scope own :=
  ⟨h.kind, h.uniq, h.ix, fun y hy e => lookup_map hg y.1 l (h.free y hy e), h.own⟩
end DD
namespace DD
open PySem L2
/-! ### a < b < c < d -/
section
variable {X : Cx} {a b c d : Expr} {ta tb tc td : TE} {pos : Pos}
def tChain3 (r r' r'' : R2) (ta tb tc td : TE) : TE := fun σ H Q => ta σ H fun x H1 => tb σ H1 fun y H2 => r x y H2 fun z H3 => ∃ k, z = .bl k ∧
  (if k = true then tc σ H3 fun w H4 => r' y w H4 fun z2 H5 => ∃ k2, z2 = .bl k2 ∧ (if k2 = true then td σ H5 fun u H6 => r'' w u H6 Q else Q (.bl false) H5) else Q (.bl false) H3)
theorem pe_chain3 {op op' op'' : CmpOp} {r r' r'' : R2} (ho : OpR X (compareOp op) r) (ho' : OpR X (compareOp op') r') (ho'' : OpR X (compareOp op'') r'') (ha : PE X a ta) (hb : PE X b tb) (hc : PE X c tc) (hd : PE X d td)
    (hm : lastMarks [op, op', op''] [b, c, d] = false := by with_unfolding_all rfl) : PE X (.Compare a [op, op', op''] [b, c, d] pos) (tChain3 r r' r'' ta tb tc td) := by
  refine ⟨fun pins s σ H Q I h => ?_⟩
  refine PyProof.Rows.Compare_chain (thn (ha.run pins s σ H _ I h) fun v s1 ⟨x, H1, I1, r1, q1⟩ => PyProof.Rows.chain_link (thn (hb.run pins s1 σ H1 _ I1 q1) fun u s2 ⟨y, H2, I2, r2, q2⟩ =>
    thn (ho pins s2 σ H2 x y v u _ I2 r1 r2 q2) fun d s3 ⟨z, H3, I3, r3, k, e, q3⟩ => ?_)) hm
  subst e
  cases r3
  refine wpAny_truthy_bool ?_
  cases k with
  | false => exact PyProof.Rows.ite_ff ⟨.bl false, H3, I3, rfl, q3⟩
  | true =>
    refine PyProof.Rows.ite_tt (PyProof.Rows.chain_link (thn (hc.run pins s3 σ H3 _ I3 q3) fun w' s4 ⟨z', H4, I4, r4, q4⟩ => thn (ho' pins s4 σ H4 y z' u w' _ I4 r2 r4 q4) fun d s5 ⟨z2, H5, I5, r5, k, e, q5⟩ => ?_))
    subst e
    cases r5
    refine wpAny_truthy_bool ?_
    cases k with
    | false => exact PyProof.Rows.ite_ff ⟨.bl false, H5, I5, rfl, q5⟩
    | true => exact PyProof.Rows.ite_tt (PyProof.Rows.chain_last (thn (hd.run pins s5 σ H5 _ I5 q5) fun w2 s6 ⟨z3, H6, I6, r6, q6⟩ => ho'' pins s6 σ H6 z' z3 w' w2 Q I6 r4 r6 q6))
end
section
variable {X : Cx} {b : Bs} {e1 e2 e3 e4 : Expr} {ta tb tc td : DTE} {pos : Pos}
@[simp] def dCh3 (g g' g'' : Int → Int → Bool) (ta tb tc td : DTE) (ρ : R) (μ : M) (Q : W → M → Prop) : Prop := ta ρ μ fun x μ1 => tb ρ μ1 fun y μ2 => match x, y with
  | .d (.int i), .d (.int j) => if g i j = true then tc ρ μ2 fun z μ3 => (match z with
      | .d (.int n) => if g' j n = true then td ρ μ3 fun u μ4 => (match u with
        | .d (.int l) => Q (.d (.bl (g'' n l))) μ4
        | _ => False) else Q (.d (.bl false)) μ3
      | _ => False) else Q (.d (.bl false)) μ2
  | _, _ => False
theorem de_chain3 {op op' op'' : CmpOp} {g g' g'' : Int → Int → Bool} (ho : OpR X (compareOp op) (rI0 fun i j => .bl (g i j))) (ho' : OpR X (compareOp op') (rI0 fun i j => .bl (g' i j))) (ho'' : OpR X (compareOp op'') (rI0 fun i j => .bl (g'' i j)))
    (ha : DE X b e1 ta) (hb : DE X b e2 tb) (hc : DE X b e3 tc) (hd : DE X b e4 td) (hm : lastMarks [op, op', op''] [e2, e3, e4] = false := by with_unfolding_all rfl) : DE X b (.Compare e1 [op, op', op''] [e2, e3, e4] pos) (dCh3 g g' g'' ta tb tc td) := by
  obtain ⟨ta', pa, qa⟩ := ha.ex
  obtain ⟨tb', pb, qb⟩ := hb.ex
  obtain ⟨tc', pc, qc⟩ := hc.ex
  obtain ⟨td', pd, qd⟩ := hd.ex
  refine ⟨_, pe_chain3 ho ho' ho'' pa pb pc pd hm, fun {G m ρ μ σ H Q K} o r t k => ?_⟩
  refine qa o r t fun x H1 G1 m1 w1 μ1 l1 o1 r1 t1 => ?_
  refine qb o1 (r.mono l1) t1 fun y H2 G2 m2 w2 μ2 l2 o2 r2 t2 => ?_
  split at t2
  · rename_i i j
    refine ⟨i, j, isInt r1, isInt r2, g i j, rfl, ?_⟩
    split
    · rename_i e
      rw [if_pos e] at t2
      refine qc o2 ((r.mono l1).mono l2) t2 fun z H3 G3 m3 w3 μ3 l3 o3 r3 t3 => ?_
      split at t3
      · rename_i n
        refine ⟨j, n, isInt r2, isInt r3, g' j n, rfl, ?_⟩
        split
        · rename_i e
          rw [if_pos e] at t3
          refine qd o3 (((r.mono l1).mono l2).mono l3) t3 fun z H4 G4 m4 w4 μ4 l4 o4 r4 t4 => ?_
          split at t4
          · rename_i l
            exact ⟨n, l, isInt r3, isInt r4, k _ H4 G4 m4 _ μ4 (l1.trans (l2.trans (l3.trans l4))) o4 (.d (.bl _)) t4⟩
          · exact t4.elim
        · rename_i e
          rw [if_neg e] at t3
          exact k _ H3 G3 m3 _ μ3 (l1.trans (l2.trans l3)) o3 (.d (.bl _)) t3
      · exact t3.elim
    · rename_i e
      rw [if_neg e] at t2
      exact k _ H2 G2 m2 _ μ2 (l1.trans l2) o2 (.d (.bl _)) t2
  · exact t2.elim
end
/-! ### d[k] as a target -/
section
variable {X : Cx} {b : Bs} {o i : Expr} {to ti : DTE} {pos : Pos}
@[simp] def dgDx (to ti : DTE) (x : W) (ρ : R) (μ : M) (Q : R → M → Prop) : Prop := to ρ μ fun w μ1 => ti ρ μ1 fun y μ2 => match w, keyW y with
  | .r n, some k => (match esc μ2 x with
    | some (d, μ3) => (match μ3[n]? with
      | some (.dic ks ds) => ks.length < sizeLine ∧ Q ρ (μ3.set n (.dic (dputK ks k) (dputL ks ds k d)))
      | _ => False)
    | none => False)
  | _, _ => False
theorem dg_dx (hu : X.A.units + 1 < cLine) (ho : DE X b o to) (hi : DE X b i ti) (ha : ∀ v, assign (.Subscript o i pos) X.env v = (do
      let ov ← holding [v] (eval o X.env)
      let iv ← holding [v, ov] (eval i X.env)
      standAt pos
      holding [v, ov, iv] (setItem ov iv v)
      release [v, ov, iv] []) := by intro _; rfl) : DG X b (.Subscript o i pos) (dgDx to ti) := by
  obtain ⟨to', po, qo⟩ := ho.ex
  obtain ⟨ti', pi, qi⟩ := hi.ex
  refine ⟨_, pg_sub po pi (set_dict hu) ha, fun {G m ρ μ σ H v x Q K} ok rr rx t k => ?_⟩
  refine qo ok rr t fun v1 H1 G1 m1 w μ1 l1 o1 r1 t1 => ?_
  refine qi o1 (rr.mono l1) t1 fun v2 H2 G2 m2 z μ2 l2 o2 r2 t2 => ?_
  split at t2
  · rename_i n ky e2
    split at t2
    · rename_i d μ3 e3
      obtain ⟨G3, l3, r3, rp⟩ := esc_ok o2.rel ((rx.mono l1).mono l2) e3
      split at t2
      · rename_i ks ds e4
        obtain ⟨hl, t2⟩ := t2
        have := kV_of r2 e2
        subst this
        cases r1 with
        | @r _ p as em =>
        have hm := l3.m _ _ (l2.m _ _ em)
        obtain ⟨p', xs, e5, h5, h6, rpx⟩ := r3.cell n _ _ e4 hm
        cases e5
        obtain ⟨z1, z2⟩ := put_zip (k := ky) (v := v) h6
        refine ⟨p, _, rfl, DPut.k h5 (by rw [List.length_zip]; omega), ?_⟩
        rw [z1]
        have lf := l1.trans (l2.trans l3)
        exact k σ _ G3 m2 ρ _ lf (o2.mono l3 (r3.write (c' := .dic (dputK ks ky) (dputL ks ds ky d)) e4 hm rfl (by simp) rfl ⟨p, _, rfl, upd_same, z2, dput_rel rp rpx⟩)) (rr.mono lf) t2
      · exact t2.elim
    · exact t2.elim
  · exact t2.elim
end
/-! ### d[k] while d is walked -/
section
variable {X : Cx} {b : Bs} {e ie : Expr} {ty : DTE} {pos : Pos} {n i : Nat} {ks : List Key} {ds : List D}
@[simp] def dDIxL (ks : List Key) (ds : List D) (i n : Nat) (ty : DTE) (ρ : R) (μ : M) (Q : W → M → Prop) : Prop := ρ[i]? = some (some (.r n)) ∧ ty ρ μ fun y μ1 => match keyW y with
  | some k => (match dgetL ks ds k with
    | some d => Q (.d d) μ1
    | none => False)
  | none => False
theorem de_dixL (L : Lk b n ks ds) (hu : X.A.units + 1 < cLine) (he : PE X e (tVar i)) (hi : DE X b ie ty) (hs : NoSl ie := by exact fun _ _ => rfl) : DE X b (.Subscript e ie pos) (dDIxL ks ds i n ty) := by
  obtain ⟨p, od, xs, hp, hl, hr, hm⟩ := L.ex
  obtain ⟨t2, p2, q2⟩ := hi.ex
  refine ⟨_, pe_dget hu he p2 hs, fun {G m ρ μ σ H Q K} o r t k => ?_⟩
  obtain ⟨t1, tt⟩ := t
  have hv := lk_at o.le r t1 hm
  refine ⟨_, hv, q2 o r tt fun y H2 G2 m2 w2 μ2 l2 o2 r2 t3 => ?_⟩
  split at t3
  · rename_i ky e2
    have := kV_of r2 e2
    subst this
    have frz : H2 p = some (.frz od (.dK (ks.zip xs))) := o2.rel.gh _ _ (o2.le.g _ _ hp)
    have hr2 := (hr.mono o.le.g).mono l2.g
    rcases dget_rel (k := ky) (ks := ks) hr2 with ⟨z1, z2⟩ | ⟨v, d, z1, z2, z3⟩
    · rw [z2] at t3
      exact t3.elim
    · rw [z2] at t3
      refine ⟨p, v, rfl, ?_, k v H2 G2 m2 _ μ2 l2 o2 (.d z3) t3⟩
      have : DGet H2 p (kV ky) (valV (ks.zip xs) ky) := .inl ⟨_, ky, .inr ⟨od, frz⟩, rfl, rfl⟩
      rw [val_get, z1] at this
      exact this
  · exact t3.elim
end
end DD
namespace DD
open PySem L2 RZ PySem.Spec PyProof.Rows PySem.W
/-! ### methods of texts with one argument -/
def OpT (b : Bs) (r : V → List V → Hp → VK → Prop) (f : Str → List D → (D → Prop) → Prop) : Prop :=
  ∀ {G : Hp} {m : Wd} {μ : M} {H : Hp} {vs : List V} {a : Str} {ds : List D} {q : D → Prop} {K : VK}, WOk b G m μ H → Nows b.cA G H vs ds → f a ds q →
    (∀ v' H' G' z, Le G m G' m → WOk b G' m μ H' → Rep b.cA G' v' z → q z → K v' H') → r (.str a) vs H K
@[simp] def dTm1 (f : Str → List D → (D → Prop) → Prop) (to te : DTE) (ρ : R) (μ : M) (Q : W → M → Prop) : Prop := to ρ μ fun w μ1 => match w with
  | .d (.str a) => te ρ μ1 fun u μ2 => match rss μ2 [u] with
    | some ds => f a ds fun z => Q (.d z) μ2
    | none => False
  | _ => False
theorem isStr {cA : Nat → Addr} {G : Hp} {m : Wd} {v : V} {a : Str} (h : WRel cA G m v (.d (.str a))) : v = .str a := by
  cases h with
  | d h => cases h; rfl
section
variable {X : Cx} {b : Bs} {pos apos p : Pos} {o e : Expr} {es : List Expr} {to te : DTE} {ta : DTA} {name : Str}
theorem de_tm1 {r : V → List V → Hp → VK → Prop} {f : Str → List D → (D → Prop) → Prop} (hf : OpT b r f) (ho : DE X b o to) (he : DE X b e te)
    (hp : ∀ {to te : TE}, PE X o to → PE X e te → PE X (.Call (.Attribute o name apos) [e] [] pos) (tM1 r to te)) : DE X b (.Call (.Attribute o name apos) [e] [] pos) (dTm1 f to te) := by
  obtain ⟨t1, p1, q1⟩ := ho.ex
  obtain ⟨t2, p2, q2⟩ := he.ex
  refine ⟨_, hp p1 p2, fun {G m ρ μ σ H Q K} ok rr t k => ?_⟩
  refine q1 ok rr t fun v H1 G1 m1 w μ1 l1 o1 r1 s1 => ?_
  split at s1
  · rename_i a
    refine ⟨⟨a, isStr r1⟩, ?_⟩
    refine q2 o1 (rr.mono l1) s1 fun u H2 G2 m2 w2 μ2 l2 o2 r2 s2 => ?_
    split at s2
    · rename_i ds e1
      rw [isStr r1]
      exact hf o2 (rss_ok o2.rel (.cons r2 .nil) e1) s2 fun v' H' G' z l o' rp qz => k v' H' G' m2 _ μ2 (l1.trans (l2.trans l)) o' (.d rp) qz
    · exact s2.elim
  · exact s1.elim
def strsD (ys : List Str) : List D := ys.map .str
theorem reps_strs {cA : Nat → Addr} {G : Hp} : ∀ ys : List Str, Reps cA G (ys.map V.str) (strsD ys)
  | [] => .nil
  | _ :: ys => .cons (.str _) (reps_strs ys)
theorem reps_strs_v {cA : Nat → Addr} {G : Hp} : ∀ {ys : List Str} {xs : List V}, Reps cA G xs (strsD ys) → xs = ys.map V.str
  | [], _, .nil => rfl
  | _ :: ys, _, .cons r rs => by cases r; rw [reps_strs_v rs]; rfl
/-- text.split(sep) -/
@[simp] def fSplit (a : Str) (ds : List D) (q : D → Prop) : Prop := match ds with
  | [.str c] => (c.length == 0) = false ∧ a.length + 2 ≤ sizeLine ∧ q (.lst (strsD (Txt.split a c)))
  | _ => False
theorem ot_split : OpT b (fun x xs H Q => ∃ a c, x = .str a ∧ xs = [.str c] ∧ (c.length == 0) = false ∧ a.length + 2 ≤ sizeLine ∧ rNewStrs (Txt.split a c) H Q) fSplit := by
  intro G m μ H vs a ds q K w n f k
  match ds, n, f with
  | [.str c], n, f =>
    obtain ⟨v, rfl, n1⟩ := nows1 n
    cases (show v = .str c from n1)
    exact ⟨a, c, rfl, rfl, f.1, f.2.1, fun l hl => give_new w hl (fun G' s e => .lst e (reps_strs _)) f.2.2 k⟩
theorem de_split (ho : DE X b o to) (he : DE X b e te) (hs : starEach [e] X.env = [(false, eval e X.env)] := by rfl) (hbase : attributeBase o "split" X.env (eval o X.env) = eval o X.env := by rfl) (hline : (apos.endLine == pos.line) = true := by rfl) :
    DE X b (.Call (.Attribute o "split" apos) [e] [] pos) (dTm1 fSplit to te) := de_tm1 ot_split ho he fun p1 p2 => pe_split p1 p2 hs hbase hline
/-- sep.join(texts) -/
@[simp] def fJoin (a : Str) (ds : List D) (q : D → Prop) : Prop := match ds with
  | [.lst xs] => ∃ ys : List Str, xs = strsD ys ∧ (ys.map (·.length)).sum + ys.length * a.length ≤ 16777216 ∧ q (.str (Txt.join a ys))
  | _ => False
theorem ot_join {K : PySem.W.Frag} : OpT b (fun x xs H Q => ∃ a p, ∃ ys : List Str, x = .str a ∧ xs = [.ref p] ∧ (SqL K H p (ys.map V.str) ∨ SqT K H p (ys.map V.str)) ∧ (ys.map (·.length)).sum + ys.length * a.length ≤ 16777216 ∧ Q (.str (Txt.join a ys)) H) fJoin := by
  intro G m μ H vs a ds q Kq w n f k
  match ds, n, f with
  | [.lst xs], n, f =>
    obtain ⟨ys, rfl, hz, f⟩ := f
    obtain ⟨v, rfl, p, us, rfl, h, r⟩ := nows1 n
    have := reps_strs_v r
    subst this
    exact ⟨a, p, ys, rfl, rfl, .inl (SqL.of h), hz, give_old w (.str _) f k⟩
theorem de_join (ho : DE X b o to) (he : DE X b e te) (hs : starEach [e] X.env = [(false, eval e X.env)] := by rfl) (hbase : attributeBase o "join" X.env (eval o X.env) = eval o X.env := by rfl) (hline : (apos.endLine == pos.line) = true := by rfl) :
    DE X b (.Call (.Attribute o "join" apos) [e] [] pos) (dTm1 fJoin to te) := de_tm1 ot_join ho he fun p1 p2 => pe_join p1 p2 hs hbase hline
/-! ### str(an int), int(a text) -/
@[simp] def fStrI : List D → (D → Prop) → Prop
  | [.int i], q => i.natAbs.log2 < 1920 ∧ q (.str (Str.ofString (toString i)))
  | _, _ => False
theorem on_strI : OpN b (fun xs H Q => ∃ i : Int, xs = [.int i] ∧ i.natAbs.log2 < 1920 ∧ Q (.str (toString i)) H) fStrI := by
  intro G m μ H vs ds q Kq w n f k
  match ds, n, f with
  | [.int i], n, f =>
    obtain ⟨v, rfl, n1⟩ := nows1 n
    cases n1
    exact ⟨i, rfl, f.1, give_old w (.str _) f.2 k⟩
theorem de_strI (hm : X.mg "str" = none) (ha : DA X b [e] ta) (hg : Gl X "str") (he : starEach [e] X.env = [(false, eval e X.env)] := by rfl) (hpl : (backTo pos (starEach [] X.env)).any (·.1) = false := by rfl) : DE X b (.Call (.Name "str" p) [e] [] pos) (dFn fStrI ta) :=
  de_fn on_strI ha fun pa => pe_callTy call_str_int hg hm (by decide +kernel) pa (he := he) (hpl := hpl)
@[simp] def fIntS : List D → (D → Prop) → Prop
  | [.str a], q => ∃ n, PySem.intText? a = some n ∧ a.length ≤ 640 ∧ q (.int n)
  | _, _ => False
theorem on_intS : OpN b (fun xs H Q => ∃ a n, xs = [.str a] ∧ PySem.intText? a = some n ∧ a.length ≤ 640 ∧ Q (.int n) H) fIntS := by
  intro G m μ H vs ds q Kq w n f k
  match ds, n, f with
  | [.str a], n, f =>
    obtain ⟨v, rfl, n1⟩ := nows1 n
    cases (show v = .str a from n1)
    obtain ⟨z, h1, h2, f⟩ := f
    exact ⟨a, z, rfl, h1, h2, give_old w (.int _) f k⟩
theorem de_intS (hm : X.mg "int" = none) (ha : DA X b [e] ta) (hg : Gl X "int") (he : starEach [e] X.env = [(false, eval e X.env)] := by rfl) (hpl : (backTo pos (starEach [] X.env)).any (·.1) = false := by rfl) : DE X b (.Call (.Name "int" p) [e] [] pos) (dFn fIntS ta) :=
  de_fn on_intS ha fun pa => pe_callTy call_int_str hg hm (by decide +kernel) pa (he := he) (hpl := hpl)
/-! ### a text that is a constant of the module -/
theorem de_gs {x s : Str} (h : ∃ t, X.mg x = some (.str s t)) (hg : Gl X x) (hd : (x == ("__debug__" : Str)) = false := by decide) : DE X b (.Name x pos) (dC (.str s)) := by
  obtain ⟨t, h⟩ := h
  exact de_c (v := .str s) (pe_glob hg h ⟨t, rfl⟩ hd) fun _ => .str s
/-! ### the signs of a text, one after another -/
def signsW (s : Str) : List W := s.cps.toList.map fun c => W.d (.str ⟨#[c]⟩)
theorem signsW_len (s : Str) : (signsW s).length = s.cps.size := by simp [signsW]
@[simp] def iSig (te : DTE) (ρ : R) (μ : M) (Q : Src → M → Prop) : Prop := te ρ μ fun w μ1 => match w with
  | .d (.str s) => Q ⟨signsW s, fun _ => True⟩ μ1
  | _ => False
theorem src_str {G : Hp} {m : Wd} {s : Str} : SrcOk b G m ⟨signsW s, fun _ => True⟩ (Its s) := by
  refine ⟨fun {G' m' μ' H' i} l o k h => ?_, fun {G' m' μ' H' i x H2} l o k y h => ?_, fun {G' m' μ' H'} l o k => ?_⟩
  · have h : i < (signsW s).length := h
    rw [signsW_len] at h; exact h
  · obtain ⟨rfl, c, e, rfl⟩ := y
    refine ⟨G', .d (.str ⟨#[c]⟩), Le.refl _ _, o, ?_, .d (.str _)⟩
    show (signsW s)[i]? = _
    rw [← Array.getElem?_toList] at e
    simp [signsW, e]
  · show s.cps.size ≤ (signsW s).length
    rw [signsW_len]; exact Nat.le_refl _
theorem di_str {tg : Expr} (h : DE X b e te) : DI X b tg e (iSig te) := by
  obtain ⟨t', p, q⟩ := h.ex
  refine ⟨_, pi_str p, fun {G m ρ μ σ H Q K} o r t k => ?_⟩
  refine q o r t fun v H1 G1 m1 w μ1 l1 o1 r1 t1 => ?_
  split at t1
  · rename_i s
    exact ⟨s, isStr r1, k _ H1 G1 m1 _ μ1 l1 o1 src_str t1⟩
  · exact t1.elim
/-! ### a <= b <= c of texts -/
def leS (a c : Str) : Bool := !decide (c.cps.toList < a.cps.toList)
@[simp] def dChS (ta tb tc : DTE) (ρ : R) (μ : M) (Q : W → M → Prop) : Prop := ta ρ μ fun x μ1 => tb ρ μ1 fun y μ2 => match x, y with
  | .d (.str i), .d (.str j) => if leS i j = true then tc ρ μ2 fun z μ3 => (match z with
      | .d (.str n) => Q (.d (.bl (leS j n))) μ3
      | _ => False) else Q (.d (.bl false)) μ2
  | _, _ => False
theorem de_chainS {e1 e2 e3 : Expr} {ta tb tc : DTE} (ha : DE X b e1 ta) (hb : DE X b e2 tb) (hc : DE X b e3 tc) (hm : lastMarks [.LtE, .LtE] [e2, e3] = false := by with_unfolding_all rfl) : DE X b (.Compare e1 [.LtE, .LtE] [e2, e3] pos) (dChS ta tb tc) := by
  obtain ⟨ta', pa, qa⟩ := ha.ex
  obtain ⟨tb', pb, qb⟩ := hb.ex
  obtain ⟨tc', pc, qc⟩ := hc.ex
  refine ⟨_, pe_chain op_le_str op_le_str pa pb pc hm, fun {G m ρ μ σ H Q K} o r t k => ?_⟩
  refine qa o r t fun x H1 G1 m1 w1 μ1 l1 o1 r1 t1 => ?_
  refine qb o1 (r.mono l1) t1 fun y H2 G2 m2 w2 μ2 l2 o2 r2 t2 => ?_
  split at t2
  · rename_i i j
    refine ⟨i, j, isStr r1, isStr r2, leS i j, rfl, ?_⟩
    split
    · rename_i e
      rw [if_pos e] at t2
      refine qc o2 ((r.mono l1).mono l2) t2 fun z H3 G3 m3 w3 μ3 l3 o3 r3 t3 => ?_
      split at t3
      · rename_i n
        exact ⟨j, n, isStr r2, isStr r3, k _ H3 G3 m3 _ μ3 (l1.trans (l2.trans l3)) o3 (.d (.bl _)) t3⟩
      · exact t3.elim
    · rename_i e
      rw [if_neg e] at t2
      exact k _ H2 G2 m2 _ μ2 (l1.trans l2) o2 (.d (.bl _)) t2
  · exact t2.elim
end
/-! ### a, *rest = a list -/
section
variable {prog : Program} {w : World} {A : Around} {E : Value → Shared → Prop} {s : Shared}
theorem starL {l : Addr} {items : Array Value} {n i : Nat} {Q : List Value → Shared → Prop} (hl : s.heap.IsList l items) (hh : A.handled = none) (hi : i < n) (hn : n ≤ items.size + 1) (hz : items.size ≤ sizeLine)
    (h : ∀ h₂ tk, Heap.ExtBut s.heap.objs.size s.heap h₂ → Q (items.toList.take i ++ [.ref h₂.objs.size] ++ (items.toList.drop i).drop (items.size + 1 - n)) { s with heap := h₂.push { cls := .type "list", data := .seq ((items.toList.drop i).take (items.size + 1 - n)).toArray }, toks := tk }) :
    wpAny (model prog w) A (unpackItems (.ref l) n (some i)) Q E s := by
  have hlt : l ≠ s.heap.objs.size := by obtain ⟨o, ho, _⟩ := hl; exact Nat.ne_of_lt (Heap.lt_size ho)
  unfold unpackItems
  refine wpAny_bind ?_
  unfold notIterableAtAll
  refine wpAny_bind (wpAny_specialOf hl.typeIs slot_list_iter.lookup ?_)
  refine wpAny_pure ?_
  simp only [Bool.false_eq_true, if_false]
  refine wpAny_bind (wpAny_holding (wpAny_pyIter_list hl ?_))
  refine wpAny_bind (wpAny_holding (kun_draw hlt i 0 _ _ ⟨_, Heap.get?_push_size _ rfl, rfl, rfl⟩ (hl.push _) (by omega) fun h₁ hit₁ hs₁ => ?_))
  have hl₁ : h₁.IsList l items := (hl.push _).extBut hs₁.extBut hlt
  rw [Nat.zero_add] at hit₁
  have hit₁' := hit₁
  obtain ⟨oi, hoi, _⟩ := hit₁'
  have hl₁' := hl₁
  obtain ⟨ol, hol, _⟩ := hl₁'
  rw [List.drop_zero]
  have hfl : (items.toList.take i).length = i := by rw [List.length_take, Array.length_toList]; omega
  rw [if_neg (show ¬ ((items.toList.take i).length < i) by rw [hfl]; omega)]
  refine wpAny_bind (wpAny_holding (kun_collect (s := { s with heap := h₁ }) (T := "list_iterator") (.inr (.inr (.inl rfl))) (Walks.list (A := A.in1) hh s.heap.objs.size l hlt items) (fun j u st => st.1.typeIs) (k := i) (by omega) ⟨hit₁, hl₁⟩ (Heap.lt_size hoi) (Heap.lt_size hol) (fun h₂ tk hk => ?_) hz))
  have hrl : (items.toList.drop i).length = items.size - i := by rw [List.length_drop, Array.length_toList]
  have hmid : (items.toList.drop i).length - (n - 1 - i) = items.size + 1 - n := by rw [hrl]; omega
  show wpAny _ _ (if (items.toList.drop i).length < n - 1 - i then _ else _) _ _ _
  rw [if_neg (by rw [hrl]; omega)]
  show wpAny _ _ (newList ((items.toList.drop i).take ((items.toList.drop i).length - (n - 1 - i))) >>= fun d => pure (items.toList.take i ++ [d] ++ (items.toList.drop i).drop ((items.toList.drop i).length - (n - 1 - i)))) _ _ _
  rw [hmid]
  have he : Heap.ExtBut s.heap.objs.size s.heap h₂ := fun b o hb e => hk b o hb (hs₁.extBut b o hb (Heap.get?_push_of_some _ e))
  refine wpAny_bind (wpAny_newList (wpAny_pure (h h₂ tk he)) (by rw [List.length_take, hrl]; omega))
end
section
variable {X : Cx} {b : Bs} {x y : Expr} {p pos : Pos} {j : Nat}
def gStar (K : PySem.W.Frag) (g1 g2 : TG) : TG := fun v σ H Q => ∃ a x0 xs, v = .ref a ∧ SqL K H a (x0 :: xs) ∧ ∀ l, H l = none → g1 x0 σ (upd H l (.lst xs)) fun σ' H' => g2 (.ref l) σ' H' Q
theorem pg_star {g1 g2 : TG} (hc : X.calm = true) (h1 : L2.PG X x g1) (h2 : L2.PG X y g2) (hn : (assignEach [x, .Starred y p] X.env).length = 2 := by rfl) (hst : (assignEach [x, .Starred y p] X.env).findIdx? (·.1) = some 1 := by rfl)
    (hs : (assignEach [x, .Starred y p] X.env).map (·.2) = [assign x X.env, assign y X.env] := by rfl) : L2.PG X (.Tuple [x, .Starred y p] j pos) (gStar X.K g1 g2) := by
  refine ⟨fun pins s σ H v u Q I r hw => ?_⟩
  obtain ⟨a, x0, xs, e1, hq, hw⟩ := hw
  subst e1
  cases r
  obtain ⟨its, rv, pl, hz⟩ := I.list hq
  have hl' : s.heap.IsList a its.toArray := by
    obtain ⟨o, m, e, c, d, q⟩ := pl
    exact ⟨o, e, c, m, q⟩
  have hsz : its.toArray.size = its.length := by simp
  cases rv with
  | @cons _ u0 _ us r0 rs =>
  rw [PyProof.Rows.assign_Tuple]
  refine wpAny_bind (wpAny_standAt ?_)
  unfold unpack
  rw [hn, hst, hs]
  have hl2 := rs.length
  refine wpAny_bind (wpAny_holding (starL (items := (u0 :: us).toArray) hl' (I.ok.hd hc) (by decide) (by simp) (by rw [hsz, List.length_cons, ← hl2]; exact hz) fun h₂ tk hx => ?_))
  have I1 : Inv X pins σ H { s with heap := h₂, toks := tk } := I.kept (t' := tk) fun b o e => hx b o (Nat.ne_of_lt (Heap.lt_size e)) e
  have e3 : ((u0 :: us).toArray.toList.drop 1).take ((u0 :: us).toArray.size + 1 - 2) = us := by simp
  have e4 : ((u0 :: us).toArray.toList.drop 1).drop ((u0 :: us).toArray.size + 1 - 2) = [] := by simp
  rw [e3, e4]
  have hp := I1.hok.fresh (Nat.le_refl _)
  have I2 : Inv X pins σ (upd H h₂.objs.size (.lst xs)) { s with heap := h₂.push { cls := .type "list", data := .seq us.toArray }, toks := tk } :=
    I1.laid (t' := tk) (fun b u q => Heap.get?_push_of_some _ q) (Nat.le_refl _) ⟨by first | (simp at hz hl2 ⊢; omega) | omega, us, _, rs, Heap.get?_push_size _ rfl⟩
  show wpAny _ _ (assignInOrder [assign x X.env, assign y X.env] [u0, .ref h₂.objs.size]) _ _ _
  refine assignInOrder_cons (thn (h1.run pins _ σ _ x0 u0 _ I2 r0 (hw _ hp)) fun _ s1 ⟨σ1, H1, I3, q1⟩ => ?_)
  refine assignInOrder_cons (thn (h2.run pins s1 σ1 H1 (.ref h₂.objs.size) _ _ I3 rfl q1) fun _ s2 ⟨σ2, H2, I4, q2⟩ => ?_)
  exact assignInOrder_nil ⟨σ2, H2, I4, q2⟩
@[simp] def gSt (g1 g2 : DTG) (w : W) (ρ : R) (μ : M) (Q : R → M → Prop) : Prop := match w with
  | .d (.lst (d :: ds)) => g1 (.d d) ρ μ fun ρ1 μ1 => g2 (.d (.lst ds)) ρ1 μ1 Q
  | _ => False
theorem dg_star {g1 g2 : DTG} (hc : X.calm = true) (h1 : DG X b x g1) (h2 : DG X b y g2) (hn : (assignEach [x, .Starred y p] X.env).length = 2 := by rfl) (hst : (assignEach [x, .Starred y p] X.env).findIdx? (·.1) = some 1 := by rfl)
    (hs : (assignEach [x, .Starred y p] X.env).map (·.2) = [assign x X.env, assign y X.env] := by rfl) : DG X b (.Tuple [x, .Starred y p] j pos) (gSt g1 g2) := by
  obtain ⟨t1, p1, q1⟩ := h1.ex
  obtain ⟨t2, p2, q2⟩ := h2.ex
  refine ⟨_, pg_star hc p1 p2 hn hst hs, fun {G m ρ μ σ H v w Q K} o r q t k => ?_⟩
  unfold gSt at t
  split at t
  · rename_i d ds
    cases q with
    | d q =>
      obtain ⟨a, xs, rfl, h, r1⟩ := q.now o.rel.gh
      cases r1 with
      | @cons x0 _ us _ r0 rs =>
      refine ⟨a, x0, us, rfl, SqL.of h, fun l hl => ?_⟩
      have hg := (o.rel.new hl).1
      have l2 : Le G m (upd G l (.lst us)) m := Le.know hg
      refine q1 (o.mono l2 (o.rel.know hl)) (r.mono l2) (.d (r0.mono l2.g)) t fun σ1 H1 G1 m1 ρ1 μ1 l3 o1 rr1 t1 => ?_
      refine q2 o1 rr1 (.d ((Rep.lst upd_same (rs.mono l2.g)).mono l3.g)) t1 fun σ2 H2 G2 m2 ρ2 μ2 l4 o2 rr2 t2 => ?_
      exact k σ2 H2 G2 m2 ρ2 μ2 (l2.trans (l3.trans l4)) o2 rr2 t2
  · exact t.elim
end
end DD
namespace DD
open PySem L2
/-! ### x < y of plain data that is alike; min of a list of such data -/
def rLtD (K : PySem.W.Frag) : R2 := fun x y H Q => ∃ p r : PyData, Dp K H x p ∧ Dp K H y r ∧ PySem.W.alike p r = true ∧ p ≠ .none ∧ p.depth ≤ 60 ∧ Q (.bl (PySem.W.dataLt p r)) H
def alikeD (x y : D) : Bool := PySem.W.alike ((toP x).getD .none) ((toP y).getD .none)
def fLtD (x y : D) (q : D → Prop) : Prop := okD 60 x = true ∧ okD 60 y = true ∧ alikeD x y = true ∧ x ≠ .non ∧ q (.bl (dltD x y))
def rMinD (K : PySem.W.Frag) : List V → Hp → VK → Prop := fun vs H Q => ∃ (a : Addr) (xs : List V) (x : PyData) (ps : List PyData), vs = [V.ref a] ∧ SqL K H a xs ∧ DpAll K H xs (x :: ps) ∧ PySem.W.AlikeAll (x :: ps) ∧ PyData.depthAll (x :: ps) ≤ 60 ∧
  ∀ (i : Nat) (v : V), xs[i]? = some v → (x :: ps)[i]? = some (PySem.W.minD x ps) → Q v H
section
variable {X : Cx} {b : Bs} {pos p : Pos} {e e1 e2 : Expr} {ta tb : DTE} {tl : DTA}
theorem op_ltD (hu : X.A.units + 64 < cLine) : OpR X (compareOp .Lt) (rLtD X.K) := by
  intro pins s σ H x y v u Q I rx ry h
  obtain ⟨p, r, d1, d2, ha, hn, hd, q⟩ := h
  obtain ⟨as, h1⟩ := Dp.reads I _ _ _ d1 rx
  obtain ⟨bs, h2⟩ := Dp.reads I _ _ _ d2 ry
  exact PySem.W.lt_data h1 h2 ha hn (by have := Nat.min_le_left p.depth r.depth; omega) ⟨.bl _, H, I, rfl, q⟩
theorem toP_non {x : D} {p : PyData} (h : toP x = some p) (hx : x ≠ .non) : p ≠ .none := by
  cases x with
  | non => exact (hx rfl).elim
  | bl _ => cases h; simp
  | int _ => cases h; simp
  | str _ => cases h; simp
  | lst ds => simp [toP] at h; obtain ⟨_, _, rfl⟩ := h; simp
  | tup ds => simp [toP] at h; obtain ⟨_, _, rfl⟩ := h; simp
  | obj _ _ _ => simp [toP] at h
  | dic _ _ => simp [toP] at h
  | dicT _ _ => simp [toP] at h
theorem o2_ltD {K : PySem.W.Frag} : Op2 b (rLtD K) fLtD := by
  intro G m μ H v u x y q Kq w nx ny f k
  obtain ⟨o1, o2, hal, hn, f⟩ := f
  obtain ⟨p, e1, c1, l1⟩ := okD_toP _ _ o1
  obtain ⟨r, e2, c2, l2⟩ := okD_toP _ _ o2
  unfold alikeD at hal
  unfold dltD at f
  rw [e1, e2] at hal f
  exact ⟨p, r, nx.dp w.rel.gh e1, ny.dp w.rel.gh e2, hal, toP_non e1 hn, l1, give_old w (.bl _) f k⟩
theorem de_ltD (hu : X.A.units + 64 < cLine) (ha : DE X b e1 ta) (hb : DE X b e2 tb) : DE X b (.Compare e1 [.Lt] [e2] pos) (dOp fLtD ta tb) := de_cmp (op_ltD hu) o2_ltD ha hb (nomark _)
theorem dt_ltD (hu : X.A.units + 64 < cLine) (ha : DE X b e1 ta) (hb : DE X b e2 tb) : DT X b (.Compare e1 [.Lt] [e2] pos) (dB (dOp fLtD ta tb)) := dt_cmp (op_ltD hu) o2_ltD ha hb (nomark _)
theorem cr_minD (hc : X.calm = true) (hu : X.A.units + 64 < cLine) : CallR X (.builtin "min") (rMinD X.K) := by
  intro pins s σ H vs us Q I r h
  obtain ⟨a, xs, x, ps, rfl, hs, hd, ha, hdep, q⟩ := h
  obtain ⟨its, rv, hl, hz⟩ := I.list hs
  rw [Vals.ref1 r]
  obtain ⟨as, hr⟩ := Dp.readsAll I _ _ _ hd rv
  refine PySem.W.min_list_data (I.ok.hd hc) hl.isList (x := x) (xs := ps) (by simpa using hr) ha (by omega) fun i v h' tk bs hv hrd hk => ?_
  have hv' : its[i]? = some v := by simpa using hv
  obtain ⟨cs, hc1, hi, hm, _⟩ := PySem.W.readsAll_at hr i v hv'
  have hlen := rv.length
  have hit : i < xs.length := by
    have := (List.getElem?_eq_some_iff.mp hv').1
    omega
  obtain ⟨y, hy⟩ : ∃ y, xs[i]? = some y := ⟨_, List.getElem?_eq_getElem hit⟩
  have ry : RelV y v := by
    obtain ⟨v2, h2, h3⟩ := Vals.get rv hy
    rw [hv'] at h2
    cases h2
    exact h3
  refine ⟨y, H, I.kept hk, ry, q i y hy ?_⟩
  have e1 := PySem.W.reads_keeps hk hc1
  have e2 := (PySem.Reads.unique e1 _ _ hrd).1
  rw [← e2, List.getD_eq_getElem?_getD, List.getElem?_eq_getElem hi]
  rfl
end
mutual
theorem toP_inj : ∀ (x y : D) (p : PyData), toP x = some p → toP y = some p → x = y
  | .non, y, p, h, k => by cases h; cases y <;> simp [toP] at k <;> rfl
  | .bl b, y, p, h, k => by cases h; cases y <;> simp [toP] at k; rw [k]
  | .int b, y, p, h, k => by cases h; cases y <;> simp [toP] at k; rw [k]
  | .str b, y, p, h, k => by cases h; cases y <;> simp [toP] at k; rw [k]
  | .lst ds, y, p, h, k => by
    simp [toP] at h
    obtain ⟨ps, h, rfl⟩ := h
    cases y <;> simp [toP] at k
    rw [toPs_inj _ _ _ h k]
  | .tup ds, y, p, h, k => by
    simp [toP] at h
    obtain ⟨ps, h, rfl⟩ := h
    cases y <;> simp [toP] at k
    rw [toPs_inj _ _ _ h k]
  | .obj _ _ _, _, _, h, _ => by simp [toP] at h
  | .dic _ _, _, _, h, _ => by simp [toP] at h
  | .dicT _ _, _, _, h, _ => by simp [toP] at h
theorem toPs_inj : ∀ (xs ys : List D) (ps : List PyData), toPs xs = some ps → toPs ys = some ps → xs = ys
  | [], ys, ps, h, k => by
    cases h
    cases ys with
    | nil => rfl
    | cons y ys => simp [toPs, Option.bind_eq_some_iff] at k
  | x :: xs, ys, ps, h, k => by
    simp [toPs, Option.bind_eq_some_iff] at h
    obtain ⟨p, h1, qs, h2, rfl⟩ := h
    cases ys with
    | nil => simp [toPs] at k
    | cons y ys =>
      simp [toPs, Option.bind_eq_some_iff] at k
      obtain ⟨k1, k2⟩ := k
      rw [toP_inj x y _ h1 k1, toPs_inj xs ys _ h2 k2]
end
def minDD (x : D) (xs : List D) : D := xs.foldl (fun a y => if dltD y a = true then y else a) x
def fMinD (ds : List D) (q : D → Prop) : Prop := ∃ (x : D) (xs : List D), ds = [.lst (x :: xs)] ∧ okDs 60 (x :: xs) = true ∧ (∀ y ∈ x :: xs, ∀ z ∈ x :: xs, alikeD y z = true) ∧ (∀ y ∈ x :: xs, y ≠ .non) ∧ q (minDD x xs)
theorem toPs_at : ∀ {ds : List D} {ps : List PyData}, toPs ds = some ps → ∀ {i : Nat} {d : D}, ds[i]? = some d → ∃ p, ps[i]? = some p ∧ toP d = some p
  | [], _, _, i, d, hd => by simp at hd
  | x :: xs, ps, h, i, d, hd => by
    simp [toPs, Option.bind_eq_some_iff] at h
    obtain ⟨p, h1, qs, h2, rfl⟩ := h
    cases i with
    | zero => cases hd; exact ⟨p, rfl, h1⟩
    | succ i => exact toPs_at h2 (i := i) (by simpa using hd)
theorem toPs_of : ∀ {ds : List D} {ps : List PyData}, toPs ds = some ps → ∀ p ∈ ps, ∃ d ∈ ds, toP d = some p
  | [], _, h, p, hp => by cases h; cases hp
  | x :: xs, ps, h, p, hp => by
    simp [toPs, Option.bind_eq_some_iff] at h
    obtain ⟨p', h1, qs, h2, rfl⟩ := h
    rcases List.mem_cons.mp hp with rfl | hp
    · exact ⟨x, List.mem_cons_self, h1⟩
    · obtain ⟨d, hd, e⟩ := toPs_of h2 p hp
      exact ⟨d, List.mem_cons_of_mem _ hd, e⟩
theorem toP_min : ∀ {xs : List D} {ps : List PyData} {x : D} {p : PyData}, toP x = some p → toPs xs = some ps → toP (minDD x xs) = some (PySem.W.minD p ps)
  | [], _, x, p, hx, h => by cases h; exact hx
  | y :: xs, _, x, p, hx, h => by
    simp [toPs, Option.bind_eq_some_iff] at h
    obtain ⟨r, h1, qs, h2, rfl⟩ := h
    have e : dltD y x = PySem.W.dataLt r p := by unfold dltD; rw [hx, h1]; rfl
    show toP (minDD (if dltD y x = true then y else x) xs) = some (PySem.W.minD (if PySem.W.dataLt r p = true then r else p) qs)
    rw [e]
    split
    · exact toP_min h1 h2
    · exact toP_min hx h2
theorem on_minD {b : Bs} {K : PySem.W.Frag} : OpN b (rMinD K) fMinD := by
  intro G m μ H vs ds q Kq w n f k
  obtain ⟨x, xs, rfl, hok, hal, hnn, f⟩ := f
  obtain ⟨a, us, rfl, h, rp⟩ := seq_at (K := K) n rfl
  have h := h.resolve_right (by rintro ⟨_, z⟩; cases z)
  obtain ⟨ps', hps, _, hdep⟩ := okDs_toPs 60 (x :: xs) hok
  have hps0 := hps
  simp [toPs, Option.bind_eq_some_iff] at hps
  obtain ⟨p, h1, ps, h2, rfl⟩ := hps
  have get : ∀ z ∈ p :: ps, ∃ d ∈ x :: xs, toP d = some z := toPs_of hps0
  refine ⟨a, us, p, ps, rfl, h.1, rp.dps w.rel.gh hps0, ⟨fun y hy z hz => ?_, fun y hy => ?_⟩, hdep, fun i v hv he => ?_⟩
  · obtain ⟨d, hd, e⟩ := get y hy
    obtain ⟨d', hd', e'⟩ := get z hz
    have := hal d hd d' hd'
    unfold alikeD at this
    rwa [e, e'] at this
  · obtain ⟨d, hd, e⟩ := get y hy
    exact toP_non e (hnn d hd)
  · obtain ⟨d, hd, r⟩ := rp.get hv
    obtain ⟨p', e1, e2⟩ := toPs_at hps0 hd
    rw [he] at e1
    cases e1
    rw [toP_inj _ _ _ e2 (toP_min h1 h2)] at r
    exact give_old w r f k
theorem de_minD {X : Cx} {b : Bs} {pos p : Pos} {e : Expr} {ta : DTA} (hc : X.calm = true) (hu : X.A.units + 64 < cLine) (hm : X.mg "min" = none) (ha : DA X b [e] ta) (hg : Gl X "min") (he : starEach [e] X.env = [(false, eval e X.env)] := by rfl) (hpl : (backTo pos (starEach [] X.env)).any (·.1) = false := by rfl) : DE X b (.Call (.Name "min" p) [e] [] pos) (dFn fMinD ta) :=
  de_fn (on_minD (K := X.K)) ha fun pa => pe_callB (cr_minD hc hu) hg hm (by decide +kernel) pa (he := he) (hpl := hpl)
end DD
namespace DD
open PySem L2
/-! ### calls that hand on cells that the arguments do not reach -/
def callJ (S : FS) (js : List Nat) (ws : List W) (μ : M) (Q : W → M → Prop) (xc : Exc → M → Prop) : Prop :=
  okJs μ ws js = true ∧ S (ws.map (ren js)) (cellsOf μ js) fun r μ2 => js.length ≤ μ2.length ∧ match r with
    | .ret w => Q (th js μ.length w) (merge μ js μ2)
    | .exc e => xc e (merge μ js μ2)
def callE (S : FS) (ws : List W) (μ : M) (Q : W → M → Prop) (xc : Exc → M → Prop) : Prop := ∃ js, callJ S js ws μ Q xc
theorem callE_of {S : FS} {ws : List W} {μ : M} {Q : W → M → Prop} {xc : Exc → M → Prop} (h : callS S ws μ Q xc) : callE S ws μ Q xc := ⟨_, h⟩
theorem call_coreE {b : Bs} {S : FS} {G : Hp} {m : Wd} {μ : M} {H : Hp} {vs : List V} {ws : List W} {Q : W → M → Prop} {K : VK} (o : WOk b G m μ H) (r : WRels b.cA G m vs ws) (t : callE S ws μ Q b.xc)
    (k : ∀ v H' G' m' w μ', Le G m G' m' → WOk b G' m' μ' H' → WRel b.cA G' m' v w → Q w μ' → K v H') : spD b.cA S vs H K (EX b) := by
  obtain ⟨js, hj, t⟩ := t
  obtain ⟨ok, hw⟩ := okJs_ok hj
  refine ⟨_, G, _, _, _, _, rel_sub o.rel ok, ren_rels r hw, t, fun r2 μ2 G2 m2 H2 hp l rm => ?_⟩
  obtain ⟨hk, hp⟩ := hp
  obtain ⟨rb, lb⟩ := rel_back o.rel ok l rm hk
  cases r2 with
  | ret w =>
    intro v q
    exact k v H2 G2 _ _ _ lb (o.mono lb rb) (th_rel o.rel.len l (fun j hj => by rw [o.rel.len]; exact ok.lt j hj) q) hp
  | exc e => exact fun cls d ea => ⟨e, G2, _, _, o.le.trans lb, rb, ea, hp⟩
section
variable {X : Cx} {b : Bs} {pos p : Pos} {e : Expr} {es : List Expr} {ta : DTA} {x : Str} {S : FS} {j k : Nat} {f : CF1}
/-- a call by the form f of its contract, any cells handed on -/
theorem de_calE (hle : ∀ {ws : List W} {μ : M} {Q : W → M → Prop} {xc : Exc → M → Prop}, f ws μ Q xc → callE S ws μ Q xc) (h : Cal X.prog X.w X.K X.mg X.base b.cA x k S) (hr : Room j X.A) (hj : k ≤ j) (hx : XOk X b) (ha : DA X b (e :: es) ta) (hg : Gl X x)
    (hdb : (x == ("__debug__" : Str)) = false := by decide) (he : starEach (e :: es) X.env = (false, eval e X.env) :: starEach es X.env := by rfl) (hpl : (backTo pos (starEach es X.env)).any (·.1) = false := by rfl) :
    DE X b (.Call (.Name x p) (e :: es) [] pos) (dApp f b.xc ta) := by
  obtain ⟨g, fd, ps, F, hm, hk, hb⟩ := h.ex
  obtain ⟨t', pa, qa⟩ := ha.ex
  refine ⟨_, pe_call F (hr.mono hj) hg hm hk hb .nil hx pa hdb he hpl, fun {G m ρ μ σ H Q K} o r t kk => ?_⟩
  refine qa o r t fun vs H1 G1 m1 ws μ1 l1 o1 r1 t1 => ?_
  rw [List.append_nil]
  exact call_coreE o1 r1 (hle t1) fun v H' G' m' w μ' l o' q t' => kk v H' G' m' w μ' (l1.trans l) o' q t'
end
/-! ### the source and the tables of lambdas -/
def tabsM (Ps : List (Addr × Str)) : M := Ps.map fun p => .tab p.1 p.2
def STb (n : Nat) (F : PG) (Ps : List (Addr × Str)) : FS := fun ws μ P => ∃ (a b c : Int) (ds : List D), ws = .r 0 :: ds.map W.d ∧ ds.length = n ∧ μ = .lst (src a b c) :: tabsM Ps ∧ F ds (fun d => ∀ a' b' c' : Int, P (.ret (.d d)) (.lst (src a' b' c') :: tabsM Ps))
@[simp] def cfTb (n : Nat) (F : PG) (Ps : List (Addr × Str)) (ws : List W) (μ : M) (Q : W → M → Prop) (_xc : Exc → M → Prop) : Prop := match ws with
  | .r k :: ws' => srcAt μ k = true ∧ (∃ js : List Nat, js.Nodup ∧ js.map (fun j => μ[j]?) = (tabsM Ps).map some) ∧ match unD ws' with
    | some ds => ds.length = n ∧ F ds (fun d => ∀ a b c : Int, Q (.d d) (μ.set k (.lst (src a b c))))
    | none => False
  | _ => False
theorem setAll_same : ∀ {js : List Nat} {μ cs : M}, js.map (fun j => μ[j]?) = cs.map some → setAll μ js cs = μ
  | [], μ, cs, _ => by unfold setAll; rfl
  | j :: js, μ, [], h => by simp at h
  | j :: js, μ, c :: cs, h => by
    simp only [List.map_cons, List.cons.injEq] at h
    unfold setAll
    have e : μ.set j c = μ := by
      obtain ⟨hj, e⟩ := List.getElem?_eq_some_iff.mp h.1
      rw [← e, List.set_getElem_self]
    rw [e]
    exact setAll_same h.2
theorem tabsM_ren (f : W → W) (Ps : List (Addr × Str)) : (tabsM Ps).map (renC f) = tabsM Ps := by
  unfold tabsM
  rw [List.map_map]
  rfl
section
variable {n : Nat} {FG : PG} {Ps : List (Addr × Str)} {ws : List W} {μ : M} {Q : W → M → Prop} {xc : Exc → M → Prop} {P : Res → M → Prop}
theorem le_tb (h : cfTb n FG Ps ws μ Q xc) : callE (STb n FG Ps) ws μ Q xc := by
  unfold cfTb at h
  split at h
  · rename_i k ws'
    obtain ⟨hs, ⟨js, nd, hjs⟩, h⟩ := h
    split at h
    · rename_i ds e
      have := unD_map e
      subst this
      obtain ⟨a, b, c, hn⟩ := srcAt_ok hs
      have hlen : js.length = Ps.length := by simpa [tabsM] using congrArg List.length hjs
      have at_ : ∀ j ∈ js, ∃ p : Addr × Str, μ[j]? = some (.tab p.1 p.2) := fun j hj => by
        have : μ[j]? ∈ js.map (fun j => μ[j]?) := List.mem_map.mpr ⟨j, hj, rfl⟩
        rw [hjs] at this
        obtain ⟨c, hc, e⟩ := List.mem_map.mp this
        obtain ⟨p, _, rfl⟩ := List.mem_map.mp hc
        exact ⟨p, e.symm⟩
      have hk : k ∉ js := fun z => by
        obtain ⟨p, e⟩ := at_ k z
        rw [hn] at e
        cases e
      refine ⟨k :: js, ?_, a, b, c, ds, ?_, h.1, ?_, ?_⟩
      · unfold okJs
        simp only [Bool.and_eq_true, List.all_eq_true, decide_eq_true_eq, List.contains_iff_mem]
        refine ⟨⟨⟨List.nodup_cons.mpr ⟨hk, nd⟩, fun j hj => ?_⟩, fun i hi => ?_⟩, fun j hj => ?_⟩
        · rcases List.mem_cons.mp hj with rfl | hj
          · exact (List.getElem?_eq_some_iff.mp hn).1
          · obtain ⟨p, e⟩ := at_ j hj
            exact (List.getElem?_eq_some_iff.mp e).1
        · simp [refsW, refs_map] at hi
          simp [hi]
        · rcases List.mem_cons.mp hj with rfl | hj
          · rw [hn]; simp [refsC]
          · obtain ⟨p, e⟩ := at_ j hj
            rw [e]; simp [refsC]
      · rw [List.map_cons, ren_map]
        simp [ren]
      · apply List.ext_getElem?
        intro i
        unfold cellsOf
        rw [List.getElem?_map]
        cases i with
        | zero => simp [hn, renC]
        | succ i =>
          have z : (js.map (fun j => μ[j]?))[i]? = ((tabsM Ps).map some)[i]? := by rw [hjs]
          rw [List.getElem?_map, List.getElem?_map] at z
          rw [List.getElem?_cons_succ, List.getElem?_cons_succ]
          cases e1 : js[i]? with
          | none =>
            rw [e1] at z
            cases e2 : (tabsM Ps)[i]? with
            | none => rfl
            | some c => rw [e2] at z; cases z
          | some j =>
            obtain ⟨p, e3⟩ := at_ j (List.mem_of_getElem? e1)
            rw [e1] at z
            cases e2 : (tabsM Ps)[i]? with
            | none => rw [e2] at z; cases z
            | some c =>
              rw [e2] at z
              simp only [Option.map_some, Option.some.injEq] at z
              rw [e3] at z
              cases z
              simp [e3, renC]
      · have e3 : (fun d => ∀ a' b' c' : Int, (k :: js).length ≤ (Cell.lst (src a' b' c') :: tabsM Ps).length ∧ Q (th (k :: js) μ.length (.d d)) (merge μ (k :: js) (.lst (src a' b' c') :: tabsM Ps))) = fun d => ∀ a b c : Int, Q (.d d) (μ.set k (.lst (src a b c))) := by
          funext d
          have hm : ∀ a b c : Int, merge μ (k :: js) (.lst (src a b c) :: tabsM Ps) = μ.set k (.lst (src a b c)) := fun a b c => by
            have hl2 : (Cell.lst (src a b c) :: tabsM Ps).length = (k :: js).length := by simp [tabsM, hlen]
            unfold merge
            rw [List.take_of_length_le (by omega), List.drop_eq_nil_of_le (by omega), List.map_cons, tabsM_ren]
            simp only [List.map_nil, List.append_nil]
            unfold setAll
            refine setAll_same ?_
            rw [← hjs]
            refine List.map_congr_left fun j hj => ?_
            rw [List.getElem?_set_ne]
            rintro rfl
            exact hk hj
          simp [hm, th, show (tabsM Ps).length = Ps.length by simp [tabsM], hlen]
        exact e3 ▸ h.2
    · exact h.elim
  · exact h.elim
theorem len_tb (h : STb n FG Ps ws μ P) : ws.length = n + 1 := by
  obtain ⟨_, _, _, ds, rfl, h, _⟩ := h
  simpa using h
end
/-! ### an object is made of data, or not -/
def SMkX (c : Nat) (fs : List Str) (n : Nat) (F : List D → (List D → Prop) → (Exc → Prop) → Prop) : FS := fun ws μ P => ∃ ds, ws = .r 0 :: ds.map W.d ∧ ds.length = n ∧ μ = [.ins c [] []] ∧ F ds (fun vs => P (.ret (.d .non)) [.ins c fs (vs.map W.d)]) (fun e => ∀ (gs : List Str) (vs : List D), P (.exc e) [.ins c gs (vs.map W.d)])
@[simp] def cfMkX (c : Nat) (fs : List Str) (n : Nat) (F : List D → (List D → Prop) → (Exc → Prop) → Prop) (ws : List W) (μ : M) (Q : W → M → Prop) (xc : Exc → M → Prop) : Prop := match unD ws with
  | some ds => ds.length = n ∧ F ds (fun vs => closedB μ.length μ = true ∧ Q (.d (.obj c fs vs)) μ) (fun e => ∀ (gs : List Str) (vs : List D), xc e (μ ++ [.ins c gs (vs.map W.d)]))
  | none => False
section
variable {n : Nat} {ws : List W} {μ : M} {Q : W → M → Prop} {xc : Exc → M → Prop} {P : Res → M → Prop}
theorem refs_ofmap (vs : List D) : (vs.map W.d).flatMap refsW = [] := refs_map vs
theorem le_MkX {c : Nat} {fs : List Str} {F : List D → (List D → Prop) → (Exc → Prop) → Prop} (h : cfMkX c fs n F ws μ Q xc) : fMk (SMkX c fs n F) c finD ws μ Q xc := by
  unfold cfMkX at h
  split at h
  · rename_i ds e
    have := unD_map e
    subst this
    refine call1 (n := μ.length) (c := .ins c [] []) (by simp) rfl (by simp [refsW, refs_map]) (by simp [refsW]) ⟨ds, ?_, h.1, rfl, ?_⟩
    · rw [List.map_cons, ren_map]
      simp [ren]
    · have e1 : ∀ (gs : List Str) (vs : List D), (μ ++ [Cell.ins c [] []]).set μ.length (renC (th [μ.length] (μ ++ [Cell.ins c [] []]).length) (.ins c gs (vs.map W.d))) = μ ++ [.ins c gs (vs.map W.d)] := fun gs vs => by
        simp only [renC, th_map]
        simp
      have e3 : (fun vs : List D => 1 ≤ ([.ins c fs (vs.map W.d)] : M).length ∧ (fun (w : W) (μ2 : M) => w = .d .non ∧ finD μ.length μ2 Q) (th [μ.length] (μ ++ [Cell.ins c [] []]).length (.d .non)) (merge (μ ++ [Cell.ins c [] []]) [μ.length] [.ins c fs (vs.map W.d)])) = fun vs => closedB μ.length μ = true ∧ Q (.d (.obj c fs vs)) μ := by
        funext vs
        rw [merge1, e1]
        have e4 : esc (μ ++ [.ins c fs (vs.map W.d)]) (.r μ.length) = some (.obj c fs vs, μ ++ [.frz (.obj c fs vs)]) := by
          simp [esc, esc0, unD_ofmap]
        apply propext
        show 1 ≤ 1 ∧ (W.d .non) = .d .non ∧ finD μ.length (μ ++ [.ins c fs (vs.map W.d)]) Q ↔ _
        unfold finD
        rw [e4]
        simp
      have e5 : (fun e : Exc => ∀ (gs : List Str) (vs : List D), 1 ≤ ([.ins c gs (vs.map W.d)] : M).length ∧ xc e (merge (μ ++ [Cell.ins c [] []]) [μ.length] [.ins c gs (vs.map W.d)])) = fun e => ∀ (gs : List Str) (vs : List D), xc e (μ ++ [.ins c gs (vs.map W.d)]) := by
        funext e
        apply propext
        constructor
        · intro z gs vs
          have := (z gs vs).2
          rwa [merge1, e1] at this
        · intro z gs vs
          refine ⟨by simp, ?_⟩
          rw [merge1, e1]
          exact z gs vs
      show F ds (fun vs : List D => 1 ≤ ([.ins c fs (vs.map W.d)] : M).length ∧ (fun (w : W) (μ2 : M) => w = .d .non ∧ finD μ.length μ2 Q) (th [μ.length] (μ ++ [Cell.ins c [] []]).length (.d .non)) (merge (μ ++ [Cell.ins c [] []]) [μ.length] [.ins c fs (vs.map W.d)]))
        (fun e : Exc => ∀ (gs : List Str) (vs : List D), 1 ≤ ([.ins c gs (vs.map W.d)] : M).length ∧ xc e (merge (μ ++ [Cell.ins c [] []]) [μ.length] [.ins c gs (vs.map W.d)]))
      rw [e3, e5]
      exact h.2
  · exact h.elim
end
end DD
namespace DD
open PySem L2
/-! ### repr of a list of plain data, where nothing is under way -/
section
variable {X : Cx}
theorem cr_repr (hg : X.A.guards = some []) (hu : X.A.units + 70 < cLine) : CallR X (.builtin "repr") (fun xs H Q => ∃ (a : Addr) (p : PyData), xs = [.ref a] ∧ Dp X.K H (.ref a) p ∧ p.hasDict = false ∧ p.showable = true ∧ p.depth ≤ 60 ∧ p.shown.length ≤ sizeLine ∧ Q (.str p.shown) H) := by
  intro pins s σ H xs us Q I r h
  obtain ⟨a, p, rfl, hd, h1, h2, h3, h4, q⟩ := h
  rw [Vals.ref1 r]
  obtain ⟨as, rd⟩ := Dp.reads I p (.ref a) (.ref a) hd rfl
  refine repr_of_reads' rd h2 (PyData.noDict_hsm h1) hg (by omega) (fun _ _ e => e) (fun h' u tk hk => ?_) h4
  exact ⟨.str _, H, I.kept (t' := tk) fun b ob e => hk b ob e, ⟨_, rfl⟩, q⟩
end
end DD
namespace DD
open PySem L2 PySem.Spec PyProof.Rows
/-! ### defs that are called where no repr is under way -/
structure FnG (P : Program) (w : World) (K : PySem.W.Frag) (mg : Str → Option Value) (base : Heap) (C : CXT) (k : Nat) (f : Addr) (fd : FuncData) (ps : List Str) (S : Sp) : Prop where
  n : ∀ vs H Q E, S vs H Q E → vs.length = ps.length
  r : ∀ (A : Around) (o : List Env) (s : Shared) (H : Hp) (as : Args) (us : List Value) (vs : List V) (Q : VK) (E : XK), A.guards = some [] → Room k A → Env0 P w K mg base A o s H → BindsTo s fd as (ps.zip us) → Vals vs us → S vs H Q E → codeAny (model P w) A (.call (.ref f) as) (CR C o P w H s Q E) s
section
variable {P : Program} {w : World} {K : PySem.W.Frag} {mg : Str → Option Value} {base : Heap}
theorem FnG.weak {C : CXT} {k : Nat} {f : Addr} {fd : FuncData} {ps : List Str} {S S' : Sp} (F : FnG P w K mg base C k f fd ps S) (h : ∀ vs H Q E, S' vs H Q E → S vs H Q E) : FnG P w K mg base C k f fd ps S' :=
  ⟨fun vs H Q E z => F.n vs H Q E (h _ _ _ _ z), fun A o s H as us vs Q E g hr e hb r z => F.r A o s H as us vs Q E g hr e hb r (h _ _ _ _ z)⟩
theorem FnG.mono {C : CXT} {j k : Nat} {f : Addr} {fd : FuncData} {ps : List Str} {S : Sp} (F : FnG P w K mg base C j f fd ps S) (h : j ≤ k) : FnG P w K mg base C k f fd ps S := ⟨F.n, fun A o s H as us vs Q E g hr => F.r A o s H as us vs Q E g (hr.mono h)⟩
theorem fn_okG {x qual : Str} {st : Stmt} {f : Addr} {fd : FuncData} {N ps : List Str} {k : Nat} {cA : Nat → Addr} {S : FS} (md : Mode) (F : L2.Fun K x qual st f fd) (Sc : FnScope N ps (defScope st)) (len : ∀ ws μ P, S ws μ P → ws.length = ps.length)
    (body : ∀ (X : Cx) (b : Bs), X.A.guards = some [] → Room k X.A → PassesOwn (model X.prog X.w) X.A X.env X.xe → XOk X b → b.cA = cA →
      (∀ W, (∀ cls d σ H, W cls d σ H → EX b cls d H) → Takes X W) → (∃ A outer s H E, X = fX P w K mg base N qual (defScope st) f fd.code A outer s H E) →
      ∃ t, DSs X b (defBody st) t ∧ ∀ ws μ Post, S ws μ Post → b.xc = xcOf μ.length Post → t (endsOf md μ.length Post) (ws.map some ++ List.replicate (N.length - ws.length) none) μ) :
    FnG P w K mg base (L2.CX P w) (k + 1) f fd ps (spD cA S) := by
  obtain ⟨oc, od, kV, doc, pm, an, cdv, ct, osl, rfl, lk, hcd⟩ := F.ex
  have lenS : ∀ vs H Q E, spD cA S vs H Q E → vs.length = ps.length := fun vs H Q E ⟨_, _, _, ws, μ, Post, _, r, hS, _⟩ => r.len.trans (len ws μ Post hS)
  refine ⟨lenS, fun A o s H as us vs Q E hg hr e0 hb rv hsp => ?_⟩
  -- the body's reading
  have B : ∃ t, PSs (cxOf (L2.CX P w) P w K mg base N qual (defScope st) f cdv A o s H E) (defBody st) t ∧ t { nx := fun _ H' => Q .non H', rt := Q } (start N vs) H := by
    obtain ⟨U, G, m, ws, μ, Post, rm, rw', hS, hk⟩ := hsp
    have hl : μ.length = m.length := rm.len.symm
    have hx : ∀ cls d H', EX ⟨cA, U, G, m, xcOf μ.length Post⟩ cls d H' → E cls d H' := fun cls d H' ⟨e, G', m', μ', l, r, ea, hc⟩ => by
      have hc' : xcOf μ.length Post e μ' := hc
      unfold xcOf at hc'
      rw [hl] at hc'
      exact hk _ _ G' _ H' hc'.2 (le_take l rfl) (rel_take r hc'.1) cls d ea
    have tk : Takes (cxOf (L2.CX P w) P w K mg base N qual (defScope st) f cdv A o s H E) (fun cls d _ H => E cls d H) := takes_of rfl rfl rfl rfl
    obtain ⟨t, ht, hw⟩ := body (cxOf (L2.CX P w) P w K mg base N qual (defScope st) f cdv A o s H E) ⟨cA, U, G, m, xcOf μ.length Post⟩ hg (hr.deeper _) (passes_of rfl)
      (fun pins σ H' s' e s'' I c => passes_call (X := cxOf (L2.CX P w) P w K mg base N qual (defScope st) f cdv A o s H E) tk (fun cls d σ H' h => hx cls d H' h) pins σ H' s' e s'' I c) rfl
      (fun W hW => tk.imp fun cls d σ H' h => hx cls d H' (hW cls d σ H' h)) ⟨A, o, s, H, E, rfl⟩
    obtain ⟨ts, p, q⟩ := ht.ex
    refine ⟨ts, p, q ⟨Le.refl G m, rm⟩ (wrels_start rw') (hw ws μ Post hS rfl) ⟨fun σ' H' G' m' ρ' μ' l o' r' t' => ?_, fun v H' G' m' w μ' l o' r' t' => ?_, fun _ _ _ _ _ _ _ _ _ z => z.elim, fun _ _ _ _ _ _ _ _ _ z => z.elim⟩⟩
    · have t' : rtOf md μ.length Post (.d .non) μ' := t'
      rw [hl] at t'
      exact rt_end (v := .non) l o'.rel (.d .non) t' hk
    · have t' : rtOf md μ.length Post w μ' := t'
      rw [hl] at t'
      exact rt_end l o'.rel r' t' hk
  obtain ⟨t, ht, hq⟩ := B
  have kin : K.In s.heap := e0.mod.kin.keeps fun b ob z => (e0.bs b ob z).1
  refine codeAny_call_function hr.depth (kin _ _ lk) rfl Sc.co Sc.gen rfl (PySem.W.codeRec_of kin hcd) (hb _ _ _ _ (wpAny_newFunctionEnv_cells Sc.kind (fun y hy => (Sc.par y.1 (List.of_mem_zip hy).1).imp id fun q => ⟨q, PySem.W.cellsFrom_some _ _ _ (.inl q)⟩) fun env he s1 x => ?_))
  subst he
  refine ⟨(e0.mod.nolimit.keeps fun b ob z => (e0.bs b ob z).1).keeps x.toInCall.keep, codeAny_func (wpAny_mono (ht.run [] s1 (start N vs) H _ (inv_start (CX := L2.CX P w) Sc hr.hd e0 (lenS _ _ _ _ hsp) rv x) hq) (fun fl s' hs => ?_) fun e s' hs => hs)⟩
  match fl, hs with
  | .ret u, ⟨v, σ', H', J, rr, q⟩ => exact ⟨v, H', J.os, J.bare, J.base, J.hok, rr, q⟩
  | .next, ⟨σ', H', J, q⟩ => exact ⟨.non, H', J.os, J.bare, J.base, J.hok, rfl, q⟩
  | .brk, ⟨_, _, _, q⟩ => exact q.elim
  | .cont, ⟨_, _, _, q⟩ => exact q.elim
end
end DD
namespace DD
open PySem L2 PySem.Spec PyProof.Rows LamX
/-! ### the law's call -/
/-- what is tracked at the law's call: the tables, and the script where the module does not own it -/
def trk (K : PySem.W.Frag) (T : List Addr) (a : Addr) (ob : Obj) (xs : List V) : Hp := fun b => if b ∈ T then some (.tbl #[]) else if b = a ∧ K.lookup a = none then some (.frz ob (.lst xs)) else none
section
variable {K : PySem.W.Frag} {T : List Addr} {a b : Addr} {ob : Obj} {xs : List V} {u : HO}
theorem trk_t (h : b ∈ T) : trk K T a ob xs b = some (.tbl #[]) := if_pos h
theorem trk_a (h : a ∉ T) (n : K.lookup a = none) : trk K T a ob xs a = some (.frz ob (.lst xs)) := (if_neg h).trans (if_pos ⟨rfl, n⟩)
theorem trk_is (h : trk K T a ob xs b = some u) : (b ∈ T ∧ u = .tbl #[]) ∨ (b ∉ T ∧ b = a ∧ K.lookup a = none ∧ u = .frz ob (.lst xs)) := by
  unfold trk at h
  split at h
  · rename_i z; exact .inl ⟨z, (Option.some.inj h).symm⟩
  · rename_i z
    split at h
    · rename_i y; exact .inr ⟨z, y.1, y.2, (Option.some.inj h).symm⟩
    · cases h
end
theorem law_callG {P : Program} {w : World} {K : PySem.W.Frag} {mg mb : Str → Option Value} {C : CXT} {k : Nat} {fa a : Addr} {cs : List (Addr × Addr)} {fd : FuncData} {x : Str} {S : Sp} {s : Shared} {vs : List Value} {ns : List Int}
    (kin : K.In s.heap) (gl : s.heap.Ns mainGlobals mg) (bt : s.heap.Ns builtinsNs mb) (bb : ∀ y : Str, y ≠ "__name__" → mb y = bootBuiltins y) (nl : s.heap.NoLimit) (g0 : s.gens = #[])
    (tT : ∀ p ∈ cs, s.heap.get? p.2 = some { cls := .none, data := .fields #[] }) (tN : ∀ p ∈ cs, K.lookup p.2 = none) (tC : ∀ p ∈ cs, PySem.W.CodeHd s.heap p.1 p.2)
    (bm : cs = [] ∨ ∃ (m : Addr) (o : Obj), mg "__builtins__" = some (.ref m) ∧ m ≠ builtinsNs ∧ s.heap.get? m = some o ∧ o.cls = .type "module" ∧ o.dict = some builtinsNs ∧ o.data = .plain)
    (sa : s.heap.get? a = some { cls := .type "list", data := .seq vs.toArray }) (si : IntsAre vs ns) (sl : ns.length ≤ sizeLine) (room : Room k callerA)
    (F : ∀ base : Heap, K.In base → base.Ns mainGlobals mg → (∀ p ∈ cs, TabB base mg p.1 p.2) → FnG P w K mg base C k fa fd [x] S) (bind : ∀ (t : Shared) (u : Value), BindsTo t fd ⟨[u], []⟩ [(x, u)])
    (prom : ∀ H : Hp, (∀ p ∈ cs, H p.2 = some (.tbl #[])) → (∀ b, H b = none ∨ b ∈ cs.map (·.2) ∨ ∃ o xs, H b = some (.frz o (.lst xs))) → SqL K H a (ns.map V.int) → S [.ref a] H (fun v _ => v = .bl true) fun _ _ _ => False) (noC : ∀ H e s', C [] H s (fun _ _ _ => False) e s' → False) :
    codeAny (model P w) callerA (.call (.ref fa) ⟨[.ref a], []⟩) (fun r s' => r = .ok (.ret (.bool true)) ∧ OldK s.heap s'.heap ∧ s'.os = s.os ∧ AllBare s'.gens) s := by
  let T := cs.map (·.2)
  let H := trk K T a { cls := .type "list", data := .seq vs.toArray } (ns.map V.int)
  have inT : ∀ p ∈ cs, p.2 ∈ T := fun p hp => List.mem_map.mpr ⟨p, hp, rfl⟩
  have ofT : ∀ b ∈ T, ∃ p ∈ cs, p.2 = b := fun b hb => by
    obtain ⟨p, h1, h2⟩ := List.mem_map.mp hb
    exact ⟨p, h1, h2⟩
  have atT : ∀ b ∈ T, s.heap.get? b = some { cls := .none, data := .fields #[] } := fun b hb => by
    obtain ⟨p, h1, rfl⟩ := ofT b hb
    exact tT p h1
  have aT : a ∉ T := fun z => by
    have q := (atT a z).symm.trans sa
    injection q with q
    have q := congrArg Obj.data q
    have q : Data.fields #[] = Data.seq vs.toArray _ := q
    cases q
  have free : ∀ {b : Addr} {o : Obj}, s.heap.get? b = some o → (∀ us n, o.data ≠ .seq us n) → o.data ≠ .fields #[] → H b = none := fun {b o} e n1 n2 => by
    cases q : H b with
    | none => rfl
    | some u =>
      rcases trk_is q with ⟨z, _⟩ | ⟨_, z, _, _⟩
      · have := (atT b z).symm.trans e
        cases this
        exact absurd rfl n2
      · rw [z, sa] at e
        cases e
        exact absurd rfl (n1 _ _)
  have hid : ∀ {b : Addr} {o : Obj}, s.heap.get? b = some o → H b = none → (hidT s.heap H).get? b = some o := fun e n => hidT_get e n
  have hidNs : ∀ {b : Addr} {m : Str → Option Value}, s.heap.Ns b m → (hidT s.heap H).Ns b m := fun {b m} h => by
    obtain ⟨o, es, ep, e, d, r⟩ := h
    exact ⟨o, es, ep, hid e (free e (fun _ _ z => by rw [d] at z; cases z) fun z => by rw [d] at z; cases z), d, r⟩
  have kinH : K.In (hidT s.heap H) := fun b o e => by
    refine hid (kin b o e) ?_
    cases q : H b with
    | none => rfl
    | some u =>
      rcases trk_is q with ⟨z, _⟩ | ⟨_, z, n, _⟩
      · obtain ⟨p, h1, rfl⟩ := ofT b z
        rw [tN p h1] at e
        cases e
      · rw [z, n] at e
        cases e
  have okH : HOk P w H s.heap := fun b u q => by
    rcases trk_is q with ⟨z, rfl⟩ | ⟨_, rfl, _, rfl⟩
    · exact atT b z
    · exact ⟨sa, by rw [List.length_map]; exact sl, vs, _, vals_ints si, sa⟩
  have sq : SqL K H a (ns.map V.int) := by
    cases n : K.lookup a with
    | none => exact .inl (.inr ⟨_, trk_a aT n⟩)
    | some o =>
      have := (kin a o n).symm.trans sa
      cases this
      exact .inr ⟨_, vs.toArray, _, n, rfl, rfl, rfl, by rw [List.size_toArray, si.length]; exact sl, by simpa using vals_ints si⟩
  have tb : ∀ p ∈ cs, TabB (hidT s.heap H) mg p.1 p.2 := fun p hp => by
    refine ⟨?_, ?_, fun z => ?_⟩
    · obtain ⟨o, us, f, tf, fl, tg, iF, tx, tt, e1, r1, r2, r3, r⟩ := tC p hp
      exact ⟨o, us, f, tf, fl, tg, iF, tx, tt, hid e1 (free e1 (fun _ _ z => by rw [r2] at z; cases z) fun z => by rw [r2] at z; cases z; simp at r3), r1, r2, r3, r⟩
    · rcases bm with rfl | ⟨m, o, b1, b2, b3, b4, b5, b6⟩
      · cases hp
      · refine ⟨m, o, b1, b2, fun q => ?_, fun q => ?_, hid b3 (free b3 (fun _ _ z => by rw [b6] at z; cases z) fun z => by rw [b6] at z; cases z), b4, b5, b6⟩
        · obtain ⟨o2, es, ep, e, d, _⟩ := gl
          have := (q ▸ b3).symm.trans e
          cases this
          rw [b6] at d
          cases d
        · have := (q ▸ b3).symm.trans (tT p hp)
          cases this
          cases b6
    · obtain ⟨o2, es, ep, e, d, _⟩ := gl
      have := (z ▸ e).symm.trans (tT p hp)
      cases this
      cases d
  have md : L2.Mod K mg (hidT s.heap H) := ⟨kinH, hidNs gl, ⟨mb, hidNs bt, bb⟩, by obtain ⟨mc, h1, h2⟩ := nl; exact ⟨mc, hidNs h1, h2⟩⟩
  have only : ∀ b, H b = none ∨ b ∈ cs.map (·.2) ∨ ∃ o xs, H b = some (.frz o (.lst xs)) := fun b => by
    cases q : H b with
    | none => exact .inl rfl
    | some u =>
      rcases trk_is q with ⟨z, _⟩ | ⟨_, _, _, rfl⟩
      · exact .inr (.inl z)
      · exact .inr (.inr ⟨_, _, rfl⟩)
  have e0 : Env0 P w K mg (hidT s.heap H) callerA [] s H := ⟨rfl, md, fun b o e => of_hidT e, Nat.le_of_eq (hidT_size _ _), trivial, fun b hb => (List.not_mem_nil hb).elim, okH, .of_eq g0⟩
  refine codeAny_mono ((F _ kinH (hidNs gl) tb).r callerA [] s H ⟨[.ref a], []⟩ [.ref a] [.ref a] _ _ rfl room e0 (bind s (.ref a)) (.cons rfl .nil) (prom H (fun p hp => trk_t (inT p hp)) only sq)) fun r s' h => ?_
  match r, h with
  | .error e, h => exact (noC H e s' h).elim
  | .ok .next, h => exact h.elim
  | .ok .brk, h => exact h.elim
  | .ok .cont, h => exact h.elim
  | .ok (.ret u), ⟨v, H', os, bare, un, ok', rv, q⟩ =>
    have q : v = .bl true := q
    subst q
    have rv : u = Value.bool true := rv
    subst rv
    have same : ∀ b o, b ∉ T → s.heap.get? b = some o → s'.heap.get? b = some o := fun b o nb e => by
      cases q : H b with
      | none => exact un.keep b o e q (fun z => (List.not_mem_nil z).elim) (by simp)
      | some u =>
        rcases trk_is q with ⟨z, _⟩ | ⟨_, rfl, n, rfl⟩
        · exact absurd z nb
        · have := (ok' b _ (un.frzs b _ _ q)).1
          rw [this, ← sa]
          exact e
    have more : ∀ p ∈ cs, ∃ us : Array Value, s'.heap.get? p.2 = some { cls := .none, data := .fields us } := fun p hp => by
      obtain ⟨us, z⟩ := un.tbls p.2 #[] (trk_t (inT p hp))
      exact ⟨_, ok' p.2 _ z⟩
    refine ⟨rfl, ⟨fun b o e => ?_, fun b o e => ?_⟩, os, bare⟩
    · by_cases hb : b ∈ T
      · obtain ⟨p, hp, rfl⟩ := ofT b hb
        obtain ⟨us, hu⟩ := more p hp
        cases (tT p hp).symm.trans e
        exact .inr (.inl ⟨((tC p hp).tab (tT p hp)).isCodeTable, rfl, #[], us, rfl, by rw [Array.empty_append]; exact hu⟩)
      · exact .inl (same b o hb e)
    · by_cases hb : b ∈ T
      · obtain ⟨p, hp, rfl⟩ := ofT b hb
        obtain ⟨us, hu⟩ := more p hp
        exact ⟨_, hu⟩
      · exact ⟨o, same b o hb e⟩
end DD
namespace DD
open PySem L2
/-! ### calls, repr and str there -/
structure CalG (P : Program) (w : World) (K : PySem.W.Frag) (mg : Str → Option Value) (base : Heap) (cA : Nat → Addr) (x : Str) (k : Nat) (S : FS) : Prop where
  ex : ∃ (f : Addr) (fd : FuncData) (ps : List Str), FnG P w K mg base (L2.CX P w) k f fd ps (spD cA S) ∧ mg x = some (.ref f) ∧ PySem.W.keepIn K (.ref f) = true ∧ Binds K fd ps []
section
variable {X : Cx} {b : Bs} {pos p : Pos} {e : Expr} {es : List Expr} {ta : DTA} {t : TA} {x : Str} {S : FS} {j k : Nat} {f : CF1}
theorem pe_callG {g : Addr} {fd : FuncData} {ps : List Str} {sp : Sp} {E : XK} (hg0 : X.A.guards = some []) (F : FnG X.prog X.w X.K X.mg X.base (L2.CX X.prog X.w) k g fd ps sp) (hr : Room k X.A) (hg : Gl X x) (hm : X.mg x = some (.ref g)) (hk : PySem.W.keepIn X.K (.ref g) = true) (hb : Binds X.K fd ps []) (hx : Passes (L2.CX X.prog X.w) X E)
    (ha : PA X (e :: es) t) (hdb : (x == ("__debug__" : Str)) = false := by decide) (he : starEach (e :: es) X.env = (false, eval e X.env) :: starEach es X.env := by rfl) (hpl : (backTo pos (starEach es X.env)).any (·.1) = false := by rfl) : PE X (.Call (.Name x p) (e :: es) [] pos) (tCall sp [] E t) := by
  refine ⟨fun pins s σ H Q I h => wpAny_Call_Name_kw (ld_glob I hg hm (PySem.W.callWith_K (h₀ := X.base) I.ok.mod.kin hk (thn (ha.run pos pins s σ H _ I h) fun us s1 ⟨vs, H1, I1, r, q⟩ => ⟨I1.kIn, ?_⟩) he hpl) hdb)⟩
  have q : sp (vs ++ []) H1 Q E := q
  rw [List.append_nil] at q
  have hl : us.length = ps.length := r.length.symm.trans (F.n _ _ _ _ q)
  have b0 := hb s1 us I1.kIn (by rw [List.append_nil]; exact hl)
  rw [List.append_nil] at b0
  refine wpAny_call (codeAny_mono (F.r X.A X.stack s1 H1 ⟨us, []⟩ us vs Q E hg0 hr I1.env0 b0 r q) fun r s' hq => ?_)
  match r, hq with
  | .error e, hq => exact hx pins σ H1 s1 e s' I1 hq
  | .ok (.ret u), hq => exact I1.after hq
  | .ok .next, hq => exact hq.elim
  | .ok .brk, hq => exact hq.elim
  | .ok .cont, hq => exact hq.elim
theorem de_calG (hg0 : X.A.guards = some []) (hle : ∀ {ws : List W} {μ : M} {Q : W → M → Prop} {xc : Exc → M → Prop}, f ws μ Q xc → callE S ws μ Q xc) (h : CalG X.prog X.w X.K X.mg X.base b.cA x k S) (hr : Room j X.A) (hj : k ≤ j) (hx : XOk X b) (ha : DA X b (e :: es) ta) (hg : Gl X x)
    (hdb : (x == ("__debug__" : Str)) = false := by decide) (he : starEach (e :: es) X.env = (false, eval e X.env) :: starEach es X.env := by rfl) (hpl : (backTo pos (starEach es X.env)).any (·.1) = false := by rfl) :
    DE X b (.Call (.Name x p) (e :: es) [] pos) (dApp f b.xc ta) := by
  obtain ⟨g, fd, ps, F, hm, hk, hb⟩ := h.ex
  obtain ⟨t', pa, qa⟩ := ha.ex
  refine ⟨_, pe_callG hg0 F (hr.mono hj) hg hm hk hb hx pa hdb he hpl, fun {G m ρ μ σ H Q K} o r t kk => ?_⟩
  refine qa o r t fun vs H1 G1 m1 ws μ1 l1 o1 r1 t1 => ?_
  show spD b.cA S (vs ++ []) H1 K (EX b)
  rw [List.append_nil]
  exact call_coreE o1 r1 (hle t1) fun v H' G' m' w μ' l o' q t' => kk v H' G' m' w μ' (l1.trans l) o' q t'
/-- the text of a list of plain data -/
def fShow (ds : List D) (q : D → Prop) : Prop := ∃ (xs : List D) (ps : List PyData), ds = [.lst xs] ∧ toPs xs = some ps ∧ okDs 58 xs = true ∧ (PyData.list ps).hasDict = false ∧ (PyData.list ps).showable = true ∧ (PyData.list ps).shown.length ≤ sizeLine ∧ q (.str (PyData.list ps).shown)
def rShow (K : PySem.W.Frag) : List V → Hp → VK → Prop := fun vs H Q => ∃ (a : Addr) (p : PyData), vs = [.ref a] ∧ Dp K H (.ref a) p ∧ p.hasDict = false ∧ p.showable = true ∧ p.depth ≤ 60 ∧ p.shown.length ≤ sizeLine ∧ Q (.str p.shown) H
theorem on_show {K : PySem.W.Frag} : OpN b (rShow K) fShow := by
  intro G m μ H vs ds q Kq w n f k
  obtain ⟨xs, ps, rfl, hps, hok, h1, h2, h3, f⟩ := f
  obtain ⟨a, us, rfl, h, rp⟩ := seq_at (K := K) n rfl
  have h := h.resolve_right (by rintro ⟨_, z⟩; cases z)
  obtain ⟨ps', hps', _, hdep⟩ := okDs_toPs 58 xs hok
  rw [hps] at hps'
  cases hps'
  exact ⟨a, .list ps, rfl, .lst h.1 (rp.dps w.rel.gh hps), h1, h2, by show PyData.depthAll ps + 1 ≤ 60; omega, h3, give_old w (.str _) f k⟩
theorem de_repr (hg0 : X.A.guards = some []) (hr : Room j X.A) (hm : X.mg "repr" = none) (ha : DA X b [e] ta) (hg : Gl X "repr") (he : starEach [e] X.env = [(false, eval e X.env)] := by rfl) (hpl : (backTo pos (starEach [] X.env)).any (·.1) = false := by rfl) : DE X b (.Call (.Name "repr" p) [e] [] pos) (dFn fShow ta) :=
  de_fn (on_show (K := X.K)) ha fun pa => pe_callB (cr_repr hg0 (by have := hr.un; omega)) hg hm (by decide +kernel) pa (he := he) (hpl := hpl)
theorem cr_strL (hg : X.A.guards = some []) (hu : X.A.units + 70 < cLine) : CallR X (.type "str") (rShow X.K) := by
  intro pins s σ H xs us Q I r h
  obtain ⟨a, p, rfl, hd, h1, h2, h3, h4, q⟩ := h
  rw [Vals.ref1 r]
  obtain ⟨as, rd⟩ := Dp.reads I p (.ref a) (.ref a) hd rfl
  refine PySem.str_of_reads rd h2 (PyData.noDict_hsm h1) hg (by omega) (fun _ _ e => e) (fun h' u tk hk => ?_) h4
  exact ⟨.str _, H, I.kept (t' := tk) fun b ob e => hk b ob e, ⟨_, rfl⟩, q⟩
theorem de_strL (hg0 : X.A.guards = some []) (hr : Room j X.A) (hm : X.mg "str" = none) (ha : DA X b [e] ta) (hg : Gl X "str") (he : starEach [e] X.env = [(false, eval e X.env)] := by rfl) (hpl : (backTo pos (starEach [] X.env)).any (·.1) = false := by rfl) : DE X b (.Call (.Name "str" p) [e] [] pos) (dFn fShow ta) :=
  de_fn (on_show (K := X.K)) ha fun pa => pe_callTy (cr_strL hg0 (by have := hr.un; omega)) hg hm (by decide +kernel) pa (he := he) (hpl := hpl)
end
end DD
namespace DD
open PySem L2
/-! ### l.clear() of a list of live things -/
section
variable {X : Cx} {b : Bs} {pos apos : Pos} {o : Expr} {to : DTE}
@[simp] def dClrW (to : DTE) (ρ : R) (μ : M) (Q : W → M → Prop) : Prop := to ρ μ fun w μ1 => match w with
  | .r n => match μ1[n]? with
    | some (.lstW _) => Q (.d .non) (μ1.set n (.lstW []))
    | _ => False
  | _ => False
theorem de_clrW (ho : DE X b o to) (hp : ∀ {to : TE}, PE X o to → PE X (.Call (.Attribute o "clear" apos) [] [] pos) (tBM0 X.K "list" rClear to)) : DE X b (.Call (.Attribute o "clear" apos) [] [] pos) (dClrW to) := by
  obtain ⟨to', po, qo⟩ := ho.ex
  refine ⟨_, hp po, fun {G m ρ μ σ H Q K} ok rr t k => ?_⟩
  refine qo ok rr t fun v H1 G1 m1 w μ1 l1 o1 r1 t1 => ?_
  split at t1
  · rename_i n
    split at t1
    · rename_i ws hc
      cases r1 with
      | @r _ p as e =>
      obtain ⟨p', us, e1, e2, e3⟩ := o1.rel.cell n _ _ hc e
      cases e1
      refine ⟨.inl ⟨rfl, us, SqL.of e2⟩, p, us, rfl, rfl, e2, ?_⟩
      exact k _ _ G1 m1 _ _ l1 (o1.mono (Le.refl _ _) (o1.rel.write (c' := .lstW []) hc e rfl (by simp) rfl ⟨p, _, rfl, upd_same, .nil⟩)) (.d .non) t1
    · exact t1.elim
  · exact t1.elim
end
end DD
namespace DD
open PySem L2 RZ
abbrev xcNo : Exc → M → Prop := fun _ _ => False
/-- the fields of each class, in the order in which they are first stored -/
@[simp] def FL : Nat → List Str
  | 10 => ["people", "groups"]
  | _ => []
def TF : Nat → Option (List Str)
  | 10 => some ["people", "groups"]
  | _ => none
def kindOf : Nat → Str
  | 10 => "division"
  | _ => ""
@[simp] def isB_bool : String → Option Bool
  | "bool" => some true
  | _ => none
@[simp] def isO_bool : Nat → Option Bool := fun _ => none
@[simp] def isB_tuple : String → Option Bool
  | "tuple" => some true
  | _ => none
@[simp] def isO_tuple : Nat → Option Bool := fun _ => none
@[simp] def isB_Thing : String → Option Bool := fun _ => some false
@[simp] def isO_Thing (c : Nat) : Option Bool := (TF c).map fun _ => true
theorem TF_cases {c : Nat} {fs : List Str} (h : TF c = some fs) : (c = 10) ∧ fs = FL c := by
  unfold TF at h
  split at h <;> first | (cases h; simp [FL]; done) | cases h
theorem kind_inj {c c' : Nat} {fs fs' : List Str} (h : TF c = some fs) (h' : TF c' = some fs') : (kindOf c = kindOf c') ↔ c = c' := by
  obtain ⟨h1, _⟩ := TF_cases h
  obtain ⟨h2, _⟩ := TF_cases h'
  rcases h1 with rfl <;> rcases h2 with rfl <;> simp [kindOf]
def S_kind (c : Nat) (s : Str) : FS := fun ws μ P => ∃ ds, ws = [.d (.obj c (FL c) ds)] ∧ μ = [] ∧ P (.ret (.d (.str s))) []
def S_facts (c : Nat) : FS := fun ws μ P => ∃ ds, ws = [.d (.obj c (FL c) ds)] ∧ μ = [] ∧ ds.length = (FL c).length ∧ P (.ret (.d (.tup ds))) []
abbrev S_Division_kind := S_kind 10 "division"
abbrev S_Division_facts := S_facts 10
section
variable {ws : List W} {w : W} {μ : M} {P : Res → M → Prop} {Q : W → M → Prop} {xc : Exc → M → Prop}
@[simp] def cf_kind (w : W) (μ : M) (Q : W → M → Prop) (_xc : Exc → M → Prop) : Prop := match w with
  | .d (.obj c fs ds) => TF c = some fs ∧ ds.length = fs.length ∧ Q (.d (.str (kindOf c))) μ
  | _ => False
@[simp] def cf_facts (w : W) (μ : M) (Q : W → M → Prop) (_xc : Exc → M → Prop) : Prop := match w with
  | .d (.obj c fs ds) => TF c = some fs ∧ ds.length = fs.length ∧ Q (.d (.tup ds)) μ
  | _ => False
theorem le_kind (h : cf_kind w μ Q xc) : fMe [(10, S_Division_kind)] "kind" w μ Q xc := by
  unfold cf_kind at h
  split at h
  · rename_i c fs ds
    obtain ⟨hc, hl, hq⟩ := h
    have h2 := TF_cases hc
    clear hc
    obtain ⟨hc, rfl⟩ := h2
    unfold fMe
    rcases hc with rfl
    all_goals exact ⟨by simp [FL, ofStr_inj], _, rfl, call0 rfl ⟨ds, rfl, rfl, by simpa [th, kindOf] using hq⟩⟩
  · exact h.elim
theorem le_facts (h : cf_facts w μ Q xc) : fMe [(10, S_Division_facts)] "facts" w μ Q xc := by
  unfold cf_facts at h
  split at h
  · rename_i c fs ds
    obtain ⟨hc, hl, hq⟩ := h
    have h2 := TF_cases hc
    clear hc
    obtain ⟨hc, rfl⟩ := h2
    unfold fMe
    rcases hc with rfl
    all_goals exact ⟨by simp [FL, ofStr_inj], _, rfl, call0 rfl ⟨ds, rfl, rfl, hl, by simpa [th] using hq⟩⟩
  · exact h.elim
end
end DD
namespace DD
open PySem L2 RZ
/-! ### the law's draws -/
def F_l_draw : PG := fun ds q => match ds with
  | [.int n] => (0 < n ∧ n < 1073741824) ∧ ∀ v : Nat, (v : Int) < n → q (nat v)
  | _ => False
abbrev S_l_draw : FS := SSr 1 F_l_draw
abbrev cf_l_draw : CF1 := cfSr 1 F_l_draw
theorem le_l_draw {ws : List W} {μ : M} {Q : W → M → Prop} {xc : Exc → M → Prop} (h : cf_l_draw ws μ Q xc) : callS S_l_draw ws μ Q xc := le_sr h
theorem len_l_draw {ws : List W} {μ : M} {P : Res → M → Prop} (h : S_l_draw ws μ P) : ws.length = 2 := len_sr h
def S_l_source : FS := fun ws μ P => ∃ x : Int, ws = [.d (.int x)] ∧ μ = [] ∧ ∀ a b c : Int, P (.ret (.r 0)) [.lst (src a b c)]
@[simp] def cf_l_source (ws : List W) (μ : M) (Q : W → M → Prop) (_xc : Exc → M → Prop) : Prop := match ws with
  | [.d (.int _)] => ∀ a b c : Int, Q (.r μ.length) (μ ++ [.lst (src a b c)])
  | _ => False
theorem le_l_source {ws : List W} {μ : M} {Q : W → M → Prop} {xc : Exc → M → Prop} (h : cf_l_source ws μ Q xc) : callS S_l_source ws μ Q xc := by
  unfold cf_l_source at h
  split at h
  · refine call0 rfl ⟨_, rfl, rfl, fun a b c => ?_⟩
    have := h a b c
    simpa [th, thI, renC] using this
  · exact h.elim
def F_l_pick : PG := fun ds q => match ds with
  | [.lst ds] => (0 < ds.length ∧ ds.length < 1000000) ∧ ∀ d, isIn ds d → q d
  | _ => False
/-- one of some lists that may change -/
def S_pickW : FS := fun ws μ P => ∃ (a b c : Int) (us : List W) (rest : M), ws = [.r 0, .r 1] ∧ μ = .lst (src a b c) :: .lstW us :: rest ∧ 0 < us.length ∧ us.length < 1000000 ∧ ∀ u ∈ us, ∀ a' b' c' : Int, P (.ret u) (.lst (src a' b' c') :: .lstW us :: rest)
def S_l_pick : FS := fun ws μ P => SSr 1 F_l_pick ws μ P ∨ S_pickW ws μ P
/-- the lists stand behind their list -/
def rowsM (gs : List (List Nat)) : M := gs.map fun g => .lst (nats g)
def refsM (k : Nat) : List W := (List.range k).map fun i => .r (i + 2)
theorem refsM_flat (k : Nat) : (refsM k).flatMap refsW = (List.range k).map (· + 2) := by
  unfold refsM
  generalize List.range k = l
  induction l with
  | nil => rfl
  | cons i l ih => simp [refsW, ih]
/-- every cell points into the memory -/
def shutC (n : Nat) (c : Cell) : Prop := ∀ j ∈ refsC c, j < n
def pickE (us : List W) (rest : M) (Q : W → M → Prop) : Prop := (∀ c ∈ Cell.lstW us :: rest, shutC (rest.length + 2) c) ∧ (0 < us.length ∧ us.length < 1000000) ∧ ∀ u, u ∈ us → ∀ a b c : Int, Q u (.lst (src a b c) :: .lstW us :: rest)
@[simp] def cf_l_pick (ws : List W) (μ : M) (Q : W → M → Prop) (xc : Exc → M → Prop) : Prop := match ws with
  | [.r 0, .r 1] => ∃ (a b c : Int) (us : List W) (rest : M), μ = .lst (src a b c) :: .lstW us :: rest ∧ pickE us rest Q
  | ws => cfSr 1 F_l_pick ws μ Q xc
/-- the callee gets all there is -/
theorem callAll {S : FS} {ws : List W} {μ : M} {Q : W → M → Prop} {xc : Exc → M → Prop} (hc : ∀ c ∈ μ, shutC μ.length c) (hw : ∀ j ∈ ws.flatMap refsW, j < μ.length)
    (h : S ws μ fun r μ2 => μ.length ≤ μ2.length ∧ match r with
      | .ret w => Q (th (List.range μ.length) μ.length w) (merge μ (List.range μ.length) μ2)
      | .exc e => xc e (merge μ (List.range μ.length) μ2)) : callE S ws μ Q xc := by
  refine ⟨List.range μ.length, ?_, ?_⟩
  · unfold okJs
    simp only [Bool.and_eq_true, List.all_eq_true, decide_eq_true_eq, List.contains_iff_mem, List.mem_range]
    refine ⟨⟨⟨List.nodup_range, fun j hj => hj⟩, hw⟩, fun j hj => ?_⟩
    rw [List.getElem?_eq_getElem hj]
    simp only [List.all_eq_true, List.contains_iff_mem, List.mem_range]
    exact hc _ (List.getElem_mem hj)
  · have key : ∀ ws : List W, (∀ j ∈ ws.flatMap refsW, j < μ.length) → ws.map (ren (List.range μ.length)) = ws := fun ws h => by
      induction ws with
      | nil => rfl
      | cons w ws ih =>
        rw [List.map_cons, ren_range fun j hj => h j (by simp [hj]), ih fun j hj => h j (by simp at hj ⊢; exact .inr hj)]
    rw [key ws hw]
    have e2 : cellsOf μ (List.range μ.length) = μ := by
      apply List.ext_getElem?
      intro i
      unfold cellsOf
      by_cases hi : i < μ.length
      · rw [List.getElem?_map, List.getElem?_range hi, List.getElem?_eq_getElem hi]
        simp only [Option.map_some, List.getElem?_eq_getElem hi]
        rw [renC_range (hc _ (List.getElem_mem hi))]
      · rw [List.getElem?_eq_none (by simp; omega), List.getElem?_eq_none (by omega)]
    rw [e2, List.length_range]
    exact h
section
variable {ws : List W} {μ : M} {P : Res → M → Prop} {Q : W → M → Prop} {xc : Exc → M → Prop}
theorem le_l_pick (h : cf_l_pick ws μ Q xc) : callE S_l_pick ws μ Q xc := by
  have one : ∀ {ws : List W} {μ : M}, cfSr 1 F_l_pick ws μ Q xc → callE S_l_pick ws μ Q xc := fun {ws μ} h => by
    have := le_sr h
    exact callE_of ⟨this.1, .inl this.2⟩
  unfold cf_l_pick at h
  split at h
  · obtain ⟨a, b, c, us, rest, rfl, hc, ⟨h0, h1⟩, hq⟩ := h
    have hc2 : ∀ (a b c : Int), ∀ x ∈ (Cell.lst (src a b c) :: .lstW us :: rest : M), ∀ j ∈ refsC x, j < rest.length + 2 := fun a b c x hx => by
      rcases List.mem_cons.mp hx with rfl | hx
      · intro j hj; cases hj
      · exact hc x hx
    have hl : ∀ (a b c : Int), (Cell.lst (src a b c) :: .lstW us :: rest : M).length = rest.length + 2 := fun a b c => by simp
    refine callAll (fun x hx => by rw [hl]; exact hc2 a b c x hx) (by simp [refsW]) (.inr ⟨a, b, c, us, rest, rfl, rfl, h0, h1, fun u hu a' b' c' => ⟨by simp, ?_⟩⟩)
    have hm : merge (.lst (src a b c) :: .lstW us :: rest) (List.range (Cell.lst (src a b c) :: .lstW us :: rest : M).length) (.lst (src a' b' c') :: .lstW us :: rest) = .lst (src a' b' c') :: .lstW us :: rest := by
      rw [hl, mergePre (k := rest.length + 2) (by simp) (by simp) (hc2 a' b' c')]
      rw [List.drop_eq_nil_of_le (by simp), List.append_nil]
    have ht : th (List.range (Cell.lst (src a b c) :: .lstW us :: rest : M).length) (Cell.lst (src a b c) :: .lstW us :: rest : M).length u = u := by
      cases u with
      | d d => rfl
      | r j =>
        have hj : j < rest.length + 2 := hc _ (List.mem_cons_self ..) j (by simp only [refsC, List.mem_flatMap]; exact ⟨_, hu, by simp [refsW]⟩)
        rw [hl]
        simp [th, thI, List.getElem?_range hj]
    show Q (th _ _ u) (merge _ _ _)
    rw [hm, ht]
    exact hq u hu a' b' c'
  · exact one h
end
/-! ### divisions -/
def F_check_people : PF := fun ds q _ => match ds with
  | [.int p] => (1 ≤ p ∧ p ≤ 16) ∧ q .non
  | _ => False
abbrev S_check_people : FS := SPu 1 F_check_people
abbrev cf_check_people : CF1 := cfPu 1 F_check_people
theorem le_check_people {ws : List W} {μ : M} {Q : W → M → Prop} {xc : Exc → M → Prop} (h : cf_check_people ws μ Q xc) : callS S_check_people ws μ Q xc := le_pu h
theorem len_check_people {ws : List W} {μ : M} {P : Res → M → Prop} (h : S_check_people ws μ P) : ws.length = 1 := len_pu h
def F_check_person : PF := fun ds q _ => match ds with
  | [.int n, .int p] => (0 ≤ p ∧ p < n) ∧ q .non
  | _ => False
abbrev S_check_person : FS := SPu 2 F_check_person
abbrev cf_check_person : CF1 := cfPu 2 F_check_person
theorem le_check_person {ws : List W} {μ : M} {Q : W → M → Prop} {xc : Exc → M → Prop} (h : cf_check_person ws μ Q xc) : callS S_check_person ws μ Q xc := le_pu h
theorem len_check_person {ws : List W} {μ : M} {P : Res → M → Prop} (h : S_check_person ws μ P) : ws.length = 2 := len_pu h
def tupsN (gs : List (List Nat)) : D := .tup (gs.map fun g => .tup (nats g))
def lstsN (gs : List (List Nat)) : D := .lst (gs.map fun g => .lst (nats g))
/-- a sequence of these numbers -/
def SeqN (x : D) (g : List Nat) : Prop := x = .lst (nats g) ∨ x = .tup (nats g)
/-- sequences of these numbers -/
def SeqsN : List D → List (List Nat) → Prop
  | [], [] => True
  | x :: xs, g :: gs => SeqN x g ∧ SeqsN xs gs
  | _, _ => False
def GrpsD (x : D) (gs : List (List Nat)) : Prop := ∃ xs, (x = .lst xs ∨ x = .tup xs) ∧ SeqsN xs gs
/-- the groups of those in one room, by their smallest people -/
def canonF (n : Nat) (r : Nat → Nat) : List (List Nat) := (List.range n).filterMap fun p => if (List.range p).all (fun q => r q != r p) then some ((List.range n).filter fun q => r q == r p) else none
def canonL (r : List Nat) : List (List Nat) := canonF r.length (r.getD · 0)
/-- the groups gs are those of the rooms r -/
structure Fits (n : Nat) (gs : List (List Nat)) (r : Nat → Nat) : Prop where
  ne : ∀ g ∈ gs, g ≠ []
  lt : ∀ g ∈ gs, ∀ i ∈ g, i < n
  nd : gs.flatten.Nodup
  eq : ∀ p q, p < n → q < n → (r p = r q ↔ p = q ∨ ∃ g ∈ gs, p ∈ g ∧ q ∈ g)
def sortN (g : List Nat) : List Nat := g.mergeSort fun a b => decide (a ≤ b)
def zI (g : List Nat) : List Int := g.map Int.ofNat
def divG (n : Nat) (gs : List (List Nat)) : List (List Nat) := (sortG ((gs.map fun g => zI (sortN g)) ++ (((List.range n).filter fun p => !(gs.flatten.contains p)).map fun p => zI [p]))).map fun g => g.map Int.toNat
def F_sorted_groups : PF := fun ds q _ => ∃ (xs : List D) (gs : List (List Nat)), ds = [.lst xs] ∧ SeqsN xs gs ∧ (∀ g ∈ gs, g ≠ []) ∧ gs.length < 10000 ∧ q (.tup ((sortG (gs.map fun g => zI (sortN g))).map tints))
abbrev S_sorted_groups : FS := SPu 1 F_sorted_groups
abbrev cf_sorted_groups : CF1 := cfPu 1 F_sorted_groups
theorem le_sorted_groups {ws : List W} {μ : M} {Q : W → M → Prop} {xc : Exc → M → Prop} (h : cf_sorted_groups ws μ Q xc) : callS S_sorted_groups ws μ Q xc := le_pu h
theorem len_sorted_groups {ws : List W} {μ : M} {P : Res → M → Prop} (h : S_sorted_groups ws μ P) : ws.length = 1 := len_pu h
def F_Division : List D → (List D → Prop) → Prop := fun ds q => ∃ (n : Nat) (x : D) (gs : List (List Nat)) (r : Nat → Nat), ds = [nat n, x] ∧ GrpsD x gs ∧ (1 ≤ n ∧ n ≤ 16) ∧ Fits n gs r ∧ q [nat n, tupsN (canonF n r)]
abbrev S_Division : FS := SMk 10 ["people", "groups"] 2 F_Division
abbrev cf_Division : CF1 := cfMk 10 ["people", "groups"] 2 F_Division
theorem le_Division {ws : List W} {μ : M} {Q : W → M → Prop} {xc : Exc → M → Prop} (h : cf_Division ws μ Q xc) : fMk S_Division 10 finD ws μ Q xc := le_Mk h
theorem len_Division_init {ws : List W} {μ : M} {P : Res → M → Prop} (h : S_Division ws μ P) : ws.length = 3 := len_Mk h
def divD (n : Nat) (gs : List (List Nat)) : D := .obj 10 ["people", "groups"] [nat n, tupsN gs]
/-! ### the law's own model -/
theorem th_range {n : Nat} (w : W) : th (List.range n) n w = w := by
  cases w with
  | d d => rfl
  | r i =>
    by_cases h : i < n
    · simp [th, thI, List.getElem?_range h]
    · simp [th, thI, List.getElem?_eq_none (l := List.range n) (i := i) (by simp; omega)]
      omega
theorem renC_thr {n : Nat} (c : Cell) : renC (th (List.range n) n) c = c := by
  have e : th (List.range n) n = id := by funext w; exact th_range w
  rw [e]
  cases c <;> simp [renC]
theorem merge_all {μ μ2 : M} (h : μ.length ≤ μ2.length) : merge μ (List.range μ.length) μ2 = μ2 := by
  have e : (fun c => renC (th (List.range μ.length) μ.length) c) = id := by funext c; exact renC_thr c
  unfold merge
  rw [List.length_range]
  have e2 : ∀ l : M, l.map (renC (th (List.range μ.length) μ.length)) = l := fun l => by
    have : renC (th (List.range μ.length) μ.length) = id := e
    rw [this, List.map_id]
  rw [e2, e2]
  have e3 : setAll μ (List.range μ.length) (μ2.take μ.length) = μ2.take μ.length := by
    apply List.ext_getElem?
    intro i
    by_cases hi : i < μ.length
    · rw [setAll_in (List.range μ.length) μ _ i (μ2[i]'(by omega)) List.nodup_range (fun j hj => List.mem_range.mp hj) (by simpa using hi) (by rw [List.getElem?_take_of_lt hi, List.getElem?_eq_getElem]) i (by rw [List.getElem?_range hi]), List.getElem?_take_of_lt hi, List.getElem?_eq_getElem]
    · rw [List.getElem?_eq_none (by rw [setAll_length]; omega), List.getElem?_eq_none (by rw [List.length_take]; omega)]
  rw [e3, List.take_append_drop]
/-- the callee gets all there is and gives it back -/
theorem callAll' {S : FS} {ws : List W} {μ : M} {Q : W → M → Prop} {xc : Exc → M → Prop} (hc : ∀ c ∈ μ, shutC μ.length c) (hw : ∀ j ∈ ws.flatMap refsW, j < μ.length)
    (mono : ∀ P P' : Res → M → Prop, (∀ r μ, P r μ → P' r μ) → S ws μ P → S ws μ P')
    (h : S ws μ fun r μ2 => μ.length ≤ μ2.length ∧ match r with
      | .ret w => Q w μ2
      | .exc e => xc e μ2) : callE S ws μ Q xc := by
  refine callAll hc hw (mono _ _ (fun r μ2 z => ⟨z.1, ?_⟩) h)
  rw [merge_all z.1]
  cases r with
  | ret w =>
    show Q (th (List.range μ.length) μ.length w) μ2
    rw [th_range]
    exact z.2
  | exc e => exact z.2
def F_l_shuffled : PG := fun ds q => match ds with
  | [.lst xs] => xs.length < 1000000 ∧ (∀ x ∈ xs, okD 59 x = true) ∧ ∀ ys, ys.Perm xs → q (.lst ys)
  | _ => False
abbrev S_l_shuffled : FS := SSr 1 F_l_shuffled
abbrev cf_l_shuffled : CF1 := cfSr 1 F_l_shuffled
theorem le_l_shuffled {ws : List W} {μ : M} {Q : W → M → Prop} {xc : Exc → M → Prop} (h : cf_l_shuffled ws μ Q xc) : callS S_l_shuffled ws μ Q xc := le_sr h
theorem len_l_shuffled {ws : List W} {μ : M} {P : Res → M → Prop} (h : S_l_shuffled ws μ P) : ws.length = 2 := len_sr h
/-- drawn groups -/
structure GOk (n : Nat) (gs : List (List Nat)) : Prop where
  ne : ∀ g ∈ gs, g ≠ []
  lt : ∀ g ∈ gs, ∀ i ∈ g, i < n
  nd : gs.flatten.Nodup
def S_l_drawn_groups : FS := fun ws μ P => ∃ (a b c : Int) (n : Nat), ws = [.r 0, .d (nat n)] ∧ μ = [.lst (src a b c)] ∧ n ≤ 16 ∧ ∀ gs, GOk n gs → ∀ a b c : Int, P (.ret (.r 1)) (.lst (src a b c) :: .lstW (refsM gs.length) :: rowsM gs)
@[simp] def cf_l_drawn_groups (ws : List W) (μ : M) (Q : W → M → Prop) (_xc : Exc → M → Prop) : Prop := match ws with
  | [.r 0, .d d] => ∃ (a b c : Int) (n : Nat), μ = [.lst (src a b c)] ∧ d = nat n ∧ n ≤ 16 ∧ ∀ gs, GOk n gs → ∀ a b c : Int, Q (.r 1) (.lst (src a b c) :: .lstW (refsM gs.length) :: rowsM gs)
  | _ => False
theorem le_l_drawn_groups {ws : List W} {μ : M} {Q : W → M → Prop} {xc : Exc → M → Prop} (h : cf_l_drawn_groups ws μ Q xc) : callE S_l_drawn_groups ws μ Q xc := by
  unfold cf_l_drawn_groups at h
  split at h
  · obtain ⟨a, b, c, n, rfl, rfl, hn, hq⟩ := h
    refine callAll' (fun x hx j hj => ?_) (by simp [refsW]) (fun P P' hp ⟨a, b, c, n, h1, h2, h3, h4⟩ => ⟨a, b, c, n, h1, h2, h3, fun gs hg a b c => hp _ _ (h4 gs hg a b c)⟩) ⟨a, b, c, n, rfl, rfl, hn, fun gs hg a b c => ⟨by simp, hq gs hg a b c⟩⟩
    simp at hx
    subst hx
    cases hj
  · exact h.elim
theorem len_l_drawn_groups {ws : List W} {μ : M} {P : Res → M → Prop} (h : S_l_drawn_groups ws μ P) : ws.length = 2 := by obtain ⟨_, _, _, _, rfl, _⟩ := h; rfl
def roomsR (n : Nat) (gs : List (List Nat)) : List Nat := (List.range n).map fun k => match gs.find? (fun g => g.contains k) with
  | some g => g.headD k
  | none => k
def F_l_whole : PF := fun ds q _ => ∃ (n : Nat) (gs : List (List Nat)), ds = [nat n, lstsN gs] ∧ n ≤ 16 ∧ GOk n gs ∧ q (tupsN (canonL (roomsR n gs)))
abbrev S_l_whole : FS := SPu 2 F_l_whole
abbrev cf_l_whole : CF1 := cfPu 2 F_l_whole
theorem le_l_whole {ws : List W} {μ : M} {Q : W → M → Prop} {xc : Exc → M → Prop} (h : cf_l_whole ws μ Q xc) : callS S_l_whole ws μ Q xc := le_pu h
theorem len_l_whole {ws : List W} {μ : M} {P : Res → M → Prop} (h : S_l_whole ws μ P) : ws.length = 2 := len_pu h
def F_alone : PF := fun ds q _ => ∃ n : Nat, ds = [nat n] ∧ (1 ≤ n ∧ n ≤ 16) ∧ q (divD n (canonF n id))
abbrev S_alone : FS := SPu 1 F_alone
abbrev cf_alone : CF1 := cfPu 1 F_alone
theorem le_alone {ws : List W} {μ : M} {Q : W → M → Prop} {xc : Exc → M → Prop} (h : cf_alone ws μ Q xc) : callS S_alone ws μ Q xc := le_pu h
theorem len_alone {ws : List W} {μ : M} {P : Res → M → Prop} (h : S_alone ws μ P) : ws.length = 1 := len_pu h
def F_together : PF := fun ds q _ => ∃ (n : Nat) (r : Nat → Nat) (a b : Nat), ds = [divD n (canonF n r), nat a, nat b] ∧ n ≤ 16 ∧ a < n ∧ b < n ∧ q (.bl (decide (r a = r b)))
abbrev S_together : FS := SPu 3 F_together
abbrev cf_together : CF1 := cfPu 3 F_together
theorem le_together {ws : List W} {μ : M} {Q : W → M → Prop} {xc : Exc → M → Prop} (h : cf_together ws μ Q xc) : callS S_together ws μ Q xc := le_pu h
theorem len_together {ws : List W} {μ : M} {P : Res → M → Prop} (h : S_together ws μ P) : ws.length = 3 := len_pu h
def F_l_together_right : PF := fun ds q _ => ∃ (n : Nat) (r : Nat → Nat), ds = [divD n (canonF n r), nat n, tupsN (canonF n r)] ∧ (1 ≤ n ∧ n ≤ 16) ∧ q (.bl true)
abbrev S_l_together_right : FS := SPu 3 F_l_together_right
abbrev cf_l_together_right : CF1 := cfPu 3 F_l_together_right
theorem le_l_together_right {ws : List W} {μ : M} {Q : W → M → Prop} {xc : Exc → M → Prop} (h : cf_l_together_right ws μ Q xc) : callS S_l_together_right ws μ Q xc := le_pu h
theorem len_l_together_right {ws : List W} {μ : M} {P : Res → M → Prop} (h : S_l_together_right ws μ P) : ws.length = 3 := len_pu h
def F_l_right : PG := fun ds q => ds = [] ∧ q (.bl true)
abbrev S_l_right : FS := SSr 0 F_l_right
abbrev cf_l_right : CF1 := cfSr 0 F_l_right
theorem le_l_right {ws : List W} {μ : M} {Q : W → M → Prop} {xc : Exc → M → Prop} (h : cf_l_right ws μ Q xc) : callS S_l_right ws μ Q xc := le_sr h
theorem len_l_right {ws : List W} {μ : M} {P : Res → M → Prop} (h : S_l_right ws μ P) : ws.length = 1 := len_sr h
def S_law (K : PySem.W.Frag) : FS := fun ws μ P => ∃ ns : List Int, ws = [.r 0] ∧ μ = [.scr ns (scrK K ns)] ∧ ns.length ≤ 63 ∧ P (.ret (.d (.bl true))) [.scr ns (scrK K ns)]
end DD
namespace DD
open PySem L2 RZ
def t_Division_kind (xc : Exc → M → Prop) : DTS :=
  (dRet (dC (.str "division")))
def t_Division_facts (xc : Exc → M → Prop) : DTS :=
  (dRet (dLet .tup (dCons (dFld FL "people" (dVar 0)) (dCons (dFld FL "groups" (dVar 0)) dNil))))
def t_Thing_eq (xc : Exc → M → Prop) (n : Nat) : DTS :=
  (dSeq (dIfS (dOr (dNot (dB (dIsi isB_Thing isO_Thing (dVar 1)))) (dB (dOp (fEqE TF n true) (dAppM cf_kind xc (dVar 0)) (dAppM cf_kind xc (dVar 1))))) (dRet (dC (.bl false))) dSkip)
  (dRet (dOp (fEqE TF n false) (dAppM cf_facts xc (dVar 0)) (dAppM cf_facts xc (dVar 1)))))
def t_l_source (xc : Exc → M → Prop) : DTS :=
  (dRet (dLstM (dCons (dFn (fI1 fun i => if i < 0 then -i else i) (dCons (dVar 0) dNil)) (dCons (dOp fMod (dVar 0) (dC (.int 2147483629))) (dCons (dC (.int 0)) dNil)))))
def t_l_draw (xc : Exc → M → Prop) : DTS :=
  (dSeq (dIfS (dB (dOp fGe (dIxA (dVar 0) (dC (.int 0))) (dOp fPow (dC (.int 10)) (dC (.int 18))))) (dSeq (dAsg (dOp fMod (dIxA (dVar 0) (dC (.int 0))) (dVar 1)) (gN 2))
  (dSeq (dAsg (dOp fDiv (dIxA (dVar 0) (dC (.int 0))) (dVar 1)) (dgIx (dVar 0) (dC (.int 0))))
  (dRet (dVar 2)))) dSkip)
  (dSeq (dAsg (dAddA (dIxA (dVar 0) (dC (.int 2))) (dC (.int 1))) (dgIx (dVar 0) (dC (.int 2))))
  (dSeq (dAsg (dOp fMod (dOp fMulA (dAddA (dAddA (dIxA (dVar 0) (dC (.int 1))) (dOp fMulA (dC (.int 7919)) (dIxA (dVar 0) (dC (.int 2))))) (dC (.int 1))) (dC (.int 48271))) (dC (.int 2147483647))) (gN 3))
  (dSeq (dAsg (dOp fMod (dOp fMulA (dVar 3) (dAddA (dOp fDiv (dVar 3) (dC (.int 1013))) (dC (.int 69621)))) (dC (.int 2147483587))) (gN 3))
  (dRet (dOp fMod (dOp fMod (dAddA (dOp fDiv (dVar 3) (dC (.int 7))) (dOp fMulA (dOp fMod (dVar 3) (dC (.int 7919))) (dC (.int 40692)))) (dC (.int 2147483399))) (dVar 1)))))))
def t_l_shuffled (xc : Exc → M → Prop) : DTS :=
  (dSeq (dPar 2 3 (dCons (dFnM seqIn (dCons (dVar 1) dNil)) (dCons (dLstM dNil) dNil)))
  (dSeq (dWhile (dB (dOp fNe (dVar 2) (dLet .lst dNil))) (dDrop (dAppA (dVar 3) (dMut (fun ds es q => match es with | [.int i] => mPop ds [.int i] q | _ => False) (dVar 2) (dCons (dApp cf_l_draw xc (dCons (dVar 0) (dCons (dLen (dVar 2)) dNil))) dNil)))))
  (dRet (dVar 3))))
def t_l_pick (xc : Exc → M → Prop) : DTS :=
  (dRet (dIxA (dVar 1) (dApp cf_l_draw xc (dCons (dVar 0) (dCons (dLen (dVar 1)) dNil)))))
def t_l_drawn_groups (xc : Exc → M → Prop) : DTS :=
  (dSeq (dAsg (dLstW dNil) (gN 2))
  (dSeq (dFor (iSeq (dApp cf_l_shuffled xc (dCons (dVar 0) (dCons (dLRng1 false (dVar 1)) dNil)))) (gN 3) (dSeq (dAsg (dApp cf_l_draw xc (dCons (dVar 0) (dCons (dC (.int 3)) dNil))) (gN 4))
  (dIfS (dAnd (dB (dOp fEq (dVar 4) (dC (.int 0)))) (dNil' true (dVar 2))) (dDrop (dAppA (dApp cf_l_pick xc (dCons (dVar 0) (dCons (dVar 2) dNil))) (dVar 3))) (dIfS (dB (dOp fEq (dVar 4) (dC (.int 1)))) (dDrop (dAppA (dVar 2) (dLstM (dCons (dVar 3) dNil)))) dSkip))))
  (dRet (dVar 2))))
def t_l_whole (xc : Exc → M → Prop) : DTS :=
  (dSeq (dAsg (dLet .lst dNil) (gN 2))
  (dSeq (dFor (iSeq (dVar 1)) (gN 3) (dAsg (dAddA (dVar 2) (dFn fList (dCons (dVar 3) dNil))) (gN 2)))
  (dSeq (dAsg (dLc false (iR1 (dCons (dVar 0) dNil)) (gN 5) (dB (dOp (fIn true) (dVar 5) (dVar 2))) (dLet .tup (dCons (dVar 5) dNil)) [5]) (gN 4))
  (dRet (dTupOf (dCons (dFn fSortT (dCons (dAddA (dLc false (iSeq (dVar 1)) (gN 3) dYes (dTupOf (dCons (dFn fSortI (dCons (dVar 3) dNil)) dNil)) [3]) (dVar 4)) dNil)) dNil))))))
def t_check_people (xc : Exc → M → Prop) : DTS :=
  (dIfS (dNot (dB (dCh (fun i j => decide (i ≤ j)) (fun i j => decide (i ≤ j)) (dC (.int 1)) (dVar 0) (dC (.int 16))))) dNo dSkip)
def t_check_person (xc : Exc → M → Prop) : DTS :=
  (dIfS (dNot (dB (dCh (fun i j => decide (i ≤ j)) (fun i j => decide (i < j)) (dC (.int 0)) (dVar 1) (dVar 0)))) dNo dSkip)
def t_sorted_groups (xc : Exc → M → Prop) : DTS :=
  (dRet (dTupOf (dCons (dFn fSortT (dCons (dLc false (iSeq (dVar 0)) (gN 1) dYes (dTupOf (dCons (dFn fSortI (dCons (dVar 1) dNil)) dNil)) [1]) dNil)) dNil)))
def t_Division_init (xc : Exc → M → Prop) : DTS :=
  (dSeq (dDrop (dApp cf_check_people xc (dCons (dVar 1) dNil)))
  (dSeq (dAsg (dLstM dNil) (gN 3))
  (dSeq (dFor (iSeq (dVar 2)) (gN 4) (dSeq (dIfS (dB (dOp fEq (dLen (dVar 4)) (dC (.int 0)))) dNo dSkip)
  (dFor (iSeq (dVar 4)) (gN 5) (dSeq (dDrop (dApp cf_check_person xc (dCons (dVar 1) (dCons (dVar 5) dNil))))
  (dSeq (dIfS (dB (dOp (fIn false) (dVar 5) (dVar 3))) dNo dSkip)
  (dDrop (dAppA (dVar 3) (dVar 5))))))))
  (dSeq (dAsg (dLc false (iR1 (dCons (dVar 1) dNil)) (gN 5) (dB (dOp (fIn true) (dVar 5) (dVar 3))) (dLet .tup (dCons (dVar 5) dNil)) [5]) (gN 6))
  (dSeq (dFldSet FL "people" (dVar 0) (dVar 1))
  (dFldSet FL "groups" (dVar 0) (dApp cf_sorted_groups xc (dCons (dAddA (dFn fList (dCons (dVar 2) dNil)) (dVar 6)) dNil))))))))
def t_alone (xc : Exc → M → Prop) : DTS :=
  (dRet (dApp cf_Division xc (dCons (dVar 0) (dCons (dLet .lst dNil) dNil))))
def t_together (xc : Exc → M → Prop) : DTS :=
  (dSeq (dDrop (dApp cf_check_person xc (dCons (dFld FL "people" (dVar 0)) (dCons (dVar 1) dNil))))
  (dSeq (dDrop (dApp cf_check_person xc (dCons (dFld FL "people" (dVar 0)) (dCons (dVar 2) dNil))))
  (dRet (dFn (fBl fun bs => bs.any id) (dCons (dLc false (iSeq (dFld FL "groups" (dVar 0))) (gN 3) dYes (dAndV (dOp (fIn false) (dVar 1) (dVar 3)) (dOp (fIn false) (dVar 2) (dVar 3))) [3]) dNil)))))
def t_l_together_right (xc : Exc → M → Prop) : DTS :=
  (dSeq (dFor (iR1 (dCons (dVar 1) dNil)) (gN 3) (dFor (iR1 (dCons (dVar 1) dNil)) (gN 4) (dSeq (dAsg (dOp fNe (dLc false (iSeq (dVar 2)) (gN 6) (dAnd (dB (dOp (fIn false) (dVar 3) (dVar 6))) (dB (dOp (fIn false) (dVar 4) (dVar 6)))) (dVar 6) [6]) (dLet .lst dNil)) (gN 5))
  (dIfS (dOr (dB (dOp fNe (dApp cf_together xc (dCons (dVar 0) (dCons (dVar 3) (dCons (dVar 4) dNil)))) (dVar 5))) (dNot (dB (dIsi isB_bool isO_bool (dApp cf_together xc (dCons (dVar 0) (dCons (dVar 3) (dCons (dVar 4) dNil)))))))) (dRet (dC (.bl false))) dSkip))))
  (dRet (dC (.bl true))))
def t_l_right (xc : Exc → M → Prop) : DTS :=
  (dSeq (dAsg (dAddA (dC (.int 1)) (dApp cf_l_draw xc (dCons (dVar 0) (dCons (dC (.int 16)) dNil)))) (gN 1))
  (dSeq (dAsg (dApp cf_l_drawn_groups xc (dCons (dVar 0) (dCons (dVar 1) dNil))) (gN 2))
  (dSeq (dAsg (dLend 2 (dApp cf_l_whole xc (dCons (dVar 1) (dCons (dVar 2) dNil)))) (gN 3))
  (dSeq (dAsg (dLend 2 (dFn fShow (dCons (dVar 2) dNil))) (gN 4))
  (dSeq (dAsg (dLend 2 (dApp cf_Division xc (dCons (dVar 1) (dCons (dVar 2) dNil)))) (gN 5))
  (dSeq (dIfS (dB (dOp (fEqE TF 12 true) (dLend 2 (dFn fShow (dCons (dVar 2) dNil))) (dVar 4))) (dRet (dC (.bl false))) dSkip)
  (dSeq (dFor (iSeq (dVar 2)) (gN 6) (dDrop (dAppA (dVar 6) (dC (.int 99)))))
  (dSeq (dDrop (dClrW (dVar 2)))
  (dSeq (dIfS (dOr (dB (dOp (fEqE TF 12 true) (dLet .tup (dCons (dFld FL "people" (dVar 5)) (dCons (dFld FL "groups" (dVar 5)) dNil))) (dLet .tup (dCons (dVar 1) (dCons (dVar 3) dNil))))) (dNot (dB (dIsi isB_tuple isO_tuple (dFld FL "groups" (dVar 5)))))) (dRet (dC (.bl false))) dSkip)
  (dSeq (dAsg (dLc false (iSeq (dApp cf_l_shuffled xc (dCons (dVar 0) (dCons (dFn fList (dCons (dVar 3) dNil)) dNil)))) (gN 6) dYes (dApp cf_l_shuffled xcNo (dCons (dVar 0) (dCons (dFn fList (dCons (dVar 6) dNil)) dNil))) [6]) (gN 7))
  (dSeq (dIfS (dOr (dB (dOp (fEqE TF 12 true) (dVar 5) (dApp cf_Division xc (dCons (dVar 1) (dCons (dTupOf (dCons (dLc false (iSeq (dVar 7)) (gN 6) dYes (dTupOf (dCons (dVar 6) dNil)) [6]) dNil)) dNil))))) (dNot (dB (dOp (fEqE TF 12 false) (dVar 5) (dApp cf_Division xc (dCons (dVar 1) (dCons (dVar 7) dNil))))))) (dRet (dC (.bl false))) dSkip)
  (dSeq (dIfS (dOr (dB (dOp (fInE TF 12 false) (dVar 5) (dLet .lst (dCons (dVar 3) (dCons (dLet .tup (dCons (dVar 1) (dCons (dVar 3) dNil))) (dCons (dC .non) dNil)))))) (dB (dOp (fEqE TF 12 false) (dVar 5) (dApp cf_Division xc (dCons (dAddA (dOp fMod (dVar 1) (dC (.int 16))) (dC (.int 1))) (dCons (dLet .lst dNil) dNil)))))) (dRet (dC (.bl false))) dSkip)
  (dSeq (dIfS (dOr (dB (dOp (fEqE TF 12 true) (dOp (fEqE TF 12 false) (dApp cf_alone xc (dCons (dVar 1) dNil)) (dVar 5)) (dOp (fEqE TF 12 false) (dLen (dVar 3)) (dVar 1)))) (dB (dOp (fEqE TF 12 true) (dFld FL "groups" (dApp cf_alone xc (dCons (dVar 1) dNil))) (dTupOf (dCons (dLc false (iR1 (dCons (dVar 1) dNil)) (gN 8) dYes (dLet .tup (dCons (dVar 8) dNil)) [8]) dNil))))) (dRet (dC (.bl false))) dSkip)
  (dRet (dApp cf_l_together_right xc (dCons (dVar 5) (dCons (dVar 1) (dCons (dVar 3) dNil))))))))))))))))))
def t_law (xc : Exc → M → Prop) (KK : PySem.W.Frag) : DTS :=
  (dSeq (dFor (iSeq (dSl false (dScrAdd KK (dVar 0) (dLet .lst (dCons (dC (.int 0)) dNil))) dNoPart (dPart (dC (.int 5))))) (gN 1) (dSeq (dAsg (dApp cf_l_source xc (dCons (dVar 1) dNil)) (gN 2))
  (dIfS (dNot (dB (dApp cf_l_right xc (dCons (dVar 2) dNil)))) (dRet (dC (.bl false))) dSkip)))
  (dRet (dC (.bl true))))
end DD
namespace DD
open PySem L2 RZ
section
variable {ws : List W} {μ : M} {P : Res → M → Prop} {Q : W → M → Prop} {xc : Exc → M → Prop}
theorem len1 {α : Type} {l : List α} (h : l.length = 1) : ∃ a, l = [a] := List.length_eq_one_iff.mp h
theorem len2 {α : Type} {l : List α} (h : l.length = 2) : ∃ a b, l = [a, b] := by
  match l, h with
  | [a, b], _ => exact ⟨a, b, rfl⟩
theorem len_facts {c : Nat} (h : S_facts c ws μ P) : ws.length = 1 := by obtain ⟨_, rfl, _⟩ := h; rfl
theorem len_kind {c : Nat} {s : Str} (h : S_kind c s ws μ P) : ws.length = 1 := by obtain ⟨_, rfl, _⟩ := h; rfl
theorem len_Division_kind (h : S_Division_kind ws μ P) : ws.length = 1 := len_kind h
theorem wp_Division_kind (h : S_Division_kind ws μ P) : t_Division_kind (xcOf μ.length P) (endsOf .d μ.length P) (ws.map some ++ List.replicate (1 - ws.length) none) μ := by
  obtain ⟨ds, rfl, rfl, hP⟩ := h
  simpa [t_Division_kind] using hP
theorem len_Division_facts (h : S_Division_facts ws μ P) : ws.length = 1 := len_facts h
theorem wp_Division_facts (h : S_Division_facts ws μ P) : t_Division_facts (xcOf μ.length P) (endsOf .d μ.length P) (ws.map some ++ List.replicate (1 - ws.length) none) μ := by
  obtain ⟨ds, rfl, rfl, hl, hP⟩ := h
  obtain ⟨a, c, rfl⟩ := len2 (l := ds) hl
  simpa [t_Division_facts, List.lookup] using hP
theorem len_Thing_eq {m : Nat} (h : SEq TF m ws μ P) : ws.length = 2 := by obtain ⟨_, _, _, _, rfl, _⟩ := h; rfl
theorem wp_Thing_eq {m : Nat} (h : SEq TF (m + 3) ws μ P) : t_Thing_eq (xcOf μ.length P) (m + 1) (endsOf .d μ.length P) (ws.map some ++ List.replicate (2 - ws.length) none) μ := by
  obtain ⟨c, fs, ds, e, rfl, rfl, o, o', hP⟩ := h
  simp only [okE, Bool.and_eq_true, beq_iff_eq] at o
  obtain ⟨⟨h1, h2⟩, h3⟩ := o
  cases e with
  | obj c' fs' ds' =>
    simp only [okE, Bool.and_eq_true, beq_iff_eq] at o'
    obtain ⟨⟨g1, g2⟩, g3⟩ := o'
    have kk := kind_inj h1 g1
    simp [t_Thing_eq, isB_Thing, isO_Thing, g1, h1, h2, g2, okE, deq, kk]
    by_cases hc : c = c'
    · subst hc
      simpa [h3, g3, deq] using hP
    · have hf : (c == c') = false := by simpa using hc
      simpa [hc, deq, hf] using hP
  | dic ks ds' => simp [okE] at o'
  | _ => simpa [t_Thing_eq, isB_Thing, deq] using hP
end
end DD
namespace DD
open PySem L2 RZ
section
variable {ws : List W} {μ : M} {P : Res → M → Prop} {Q : W → M → Prop} {xc : Exc → M → Prop}
theorem len_l_source (h : S_l_source ws μ P) : ws.length = 1 := by obtain ⟨_, rfl, _⟩ := h; rfl
theorem wp_l_source (h : S_l_source ws μ P) : t_l_source (xcOf μ.length P) (endsOf .l μ.length P) (ws.map some ++ List.replicate (1 - ws.length) none) μ := by
  obtain ⟨x, rfl, rfl, hP⟩ := h
  simpa [t_l_source, src] using hP _ _ _
theorem atI_nat {α : Type} {l : List α} {i : Int} {j : Nat} {a : α} (h : i = (j : Int)) (e : l[j]? = some a) : atI l i = some a := by
  have hj := (List.getElem?_eq_some_iff.mp e).1
  unfold atI ixN
  rw [if_pos (by omega), if_pos (by omega)]
  simp [h, e]
theorem wp_l_draw (h : S_l_draw ws μ P) : t_l_draw (xcOf μ.length P) (endsOf .d μ.length P) (ws.map some ++ List.replicate (4 - ws.length) none) μ := by
  obtain ⟨a, b, c, ds, rfl, hl, rfl, hF⟩ := h
  unfold F_l_draw at hF
  split at hF
  · rename_i n
    obtain ⟨⟨h0, h1⟩, hP⟩ := hF
    have key : ∀ x a b c : Int, P (.ret (.d (.int (x % n)))) [.lst (src a b c)] := fun x a b c => by
      obtain ⟨v, hv⟩ := Int.eq_ofNat_of_zero_le (Int.emod_nonneg x (show n ≠ 0 by omega))
      have := Int.emod_lt_of_pos x h0
      rw [hv]
      exact hP v (by omega) a b c
    have i0 : ixN 3 0 = some 0 := by decide
    have i1 : ixN 3 1 = some 1 := by decide
    have i2 : ixN 3 2 = some 2 := by decide
    have e0 : ∀ x y z : D, atI [x, y, z] 0 = some x := fun x y z => by simp [atI, i0]
    have e1 : ∀ x y z : D, atI [x, y, z] 1 = some y := fun x y z => by simp [atI, i1]
    have e2 : ∀ x y z : D, atI [x, y, z] 2 = some z := fun x y z => by simp [atI, i2]
    simp [t_l_draw, src, e0, e1, e2, i0, i1, i2, CPow, CMul, h0, h1]
    split
    · exact key _ _ _ _
    · exact ⟨.inl ⟨by omega, by omega⟩, key _ _ _ _⟩
  · exact hF.elim
theorem len_l_pick (h : S_l_pick ws μ P) : ws.length = 2 := by
  rcases h with h | ⟨_, _, _, _, _, rfl, _⟩
  · exact len_sr h
  · rfl
theorem wp_l_pick (h : S_l_pick ws μ P) : t_l_pick (xcOf μ.length P) (endsOf .i μ.length P) (ws.map some ++ List.replicate (2 - ws.length) none) μ := by
  rcases h with ⟨a, b, c, ds, rfl, hl, rfl, hF⟩ | ⟨a, b, c, us, rest, rfl, rfl, h0, h1, hP⟩
  · unfold F_l_pick at hF
    split at hF
    · rename_i ds
      obtain ⟨⟨h0, h1⟩, hP⟩ := hF
      simp [t_l_pick, src, F_l_draw]
      refine ⟨⟨h0, by omega⟩, fun v hv a' b' c' => ?_⟩
      have hj : v < ds.length := by omega
      simp [atI_nat rfl (List.getElem?_eq_getElem hj)]
      exact hP _ (List.getElem_mem hj) _ _ _
    · exact hF.elim
  · simp [t_l_pick, src, F_l_draw]
    refine ⟨⟨h0, by omega⟩, fun v hv a' b' c' => ?_⟩
    have hj : v < us.length := by omega
    simp [atI_nat rfl (List.getElem?_eq_getElem hj)]
    exact hP _ (List.getElem_mem hj) _ _ _
theorem at0 {α : Type} {a : α} {l : List α} : atI (a :: l) 0 = some a := atI_nat (j := 0) rfl rfl
theorem at1 {α : Type} {a b : α} {l : List α} : atI (a :: b :: l) 1 = some b := atI_nat (j := 1) rfl rfl
end
end DD
namespace DD
open PySem L2 RZ
theorem getD_set {l : List Nat} {i j v d : Nat} : (l.set i v).getD j d = if i = j ∧ i < l.length then v else l.getD j d := by
  simp only [List.getD_eq_getElem?_getD, List.getElem?_set]
  by_cases h : i = j
  · subst h
    by_cases h2 : i < l.length
    · simp [h2]
    · simp [h2]
  · simp [h]
def clsF (n : Nat) (r : Nat → Nat) (p : Nat) : List Nat := (List.range n).filter fun q => r q == r p
def isFirst (r : Nat → Nat) (p : Nat) : Bool := (List.range p).all fun q => r q != r p
theorem canonF_eq (n : Nat) (r : Nat → Nat) : canonF n r = (List.range n).filterMap fun p => if isFirst r p = true then some (clsF n r p) else none := rfl
theorem mem_cls {n : Nat} {r : Nat → Nat} {p q : Nat} : q ∈ clsF n r p ↔ q < n ∧ r q = r p := by simp [clsF]
theorem first_iff {r : Nat → Nat} {p : Nat} : isFirst r p = true ↔ ∀ q, q < p → r q ≠ r p := by simp [isFirst]
theorem fm_congr {α β : Type} {f g : α → Option β} : ∀ {l : List α}, (∀ a ∈ l, f a = g a) → l.filterMap f = l.filterMap g
  | [], _ => rfl
  | a :: l, h => by
    rw [List.filterMap_cons, List.filterMap_cons, h a (List.mem_cons_self ..), fm_congr fun b hb => h b (List.mem_cons_of_mem _ hb)]
theorem canonF_congr {n : Nat} {r s : Nat → Nat} (h : ∀ p q, p < n → q < n → (r p = r q ↔ s p = s q)) : canonF n r = canonF n s := by
  rw [canonF_eq, canonF_eq]
  refine fm_congr fun p hp => ?_
  have hp := List.mem_range.mp hp
  have e1 : isFirst r p = isFirst s p := by
    rw [Bool.eq_iff_iff, first_iff, first_iff]
    exact ⟨fun k q hq e => k q hq ((h q p (by omega) hp).mpr e), fun k q hq e => k q hq ((h q p (by omega) hp).mp e)⟩
  have e2 : clsF n r p = clsF n s p := by
    unfold clsF
    refine List.filter_congr fun q hq => ?_
    have hq := List.mem_range.mp hq
    have := h q p hq hp
    by_cases e : r q = r p
    · rw [e, this.mp e]; simp
    · have e2 : ¬ s q = s p := fun z => e (this.mpr z)
      rw [show (r q == r p) = false by simpa using e, show (s q == s p) = false by simpa using e2]
  rw [e1, e2]
theorem mem_canon {n : Nat} {r : Nat → Nat} {g : List Nat} : g ∈ canonF n r ↔ ∃ p, p < n ∧ isFirst r p = true ∧ g = clsF n r p := by
  rw [canonF_eq, List.mem_filterMap]
  constructor
  · rintro ⟨p, hp, h⟩
    split at h
    · cases h; exact ⟨p, List.mem_range.mp hp, by assumption, rfl⟩
    · cases h
  · rintro ⟨p, hp, h, rfl⟩
    exact ⟨p, List.mem_range.mpr hp, by simp [h]⟩
theorem first_ex {r : Nat → Nat} : ∀ x : Nat, ∃ p, p ≤ x ∧ r p = r x ∧ isFirst r p = true := by
  intro x
  induction x using Nat.strongRecOn with
  | ind x ih =>
    by_cases h : ∃ q, q < x ∧ r q = r x
    · obtain ⟨q, h1, h2⟩ := h
      obtain ⟨p, k1, k2, k3⟩ := ih q h1
      exact ⟨p, by omega, by omega, k3⟩
    · exact ⟨x, Nat.le_refl _, rfl, first_iff.mpr fun q hq e => h ⟨q, hq, e⟩⟩
theorem cls_cons {n : Nat} {r : Nat → Nat} {p : Nat} (hp : p < n) (hf : isFirst r p = true) : ∃ t, clsF n r p = p :: t := by
  obtain ⟨k, rfl⟩ : ∃ k, n = p + (k + 1) := ⟨n - p - 1, by omega⟩
  unfold clsF
  rw [List.range_add, List.filter_append]
  have e1 : (List.range p).filter (fun q => r q == r p) = [] := by
    rw [List.filter_eq_nil_iff]
    intro q hq
    simpa using first_iff.mp hf q (List.mem_range.mp hq)
  rw [e1, List.range_succ_eq_map]
  simp
theorem cls_sorted {n : Nat} {r : Nat → Nat} {p : Nat} : (clsF n r p).Pairwise (· < ·) := List.pairwise_lt_range.filter _
theorem sortN_perm (g : List Nat) : (sortN g).Perm g := List.mergeSort_perm g _
theorem sortN_sorted (g : List Nat) : (sortN g).Pairwise (· ≤ ·) := by
  have := List.pairwise_mergeSort (le := fun a b : Nat => decide (a ≤ b)) (fun a b c h1 h2 => by simp at *; omega) (fun a b => by simp; omega) g
  exact this.imp fun h => by simpa using h
theorem sortN_uniq {l g : List Nat} (p : l.Perm g) (h : l.Pairwise (· ≤ ·)) : l = sortN g :=
  perm_sorted (fun a b h1 h2 => by omega) (p.trans (sortN_perm g).symm) h (sortN_sorted g) fun a _ => Nat.le_refl a
theorem sortI_zI (g : List Nat) : sortI (zI g) = zI (sortN g) := by
  refine (sortI_uniq ?_ ?_).symm
  · exact (sortN_perm g).map _
  · unfold zI
    rw [List.pairwise_map]
    exact (sortN_sorted g).imp fun h => by simpa using h
theorem tints_zI (g : List Nat) : tints (zI g) = .tup (nats g) := by simp [tints, zI, nats]
theorem nodup_of_lt {l : List Nat} (h : l.Pairwise (· < ·)) : l.Nodup := h.imp fun h => by omega
section
variable {n : Nat} {gs : List (List Nat)} {r : Nat → Nat}
theorem flat_nd : ∀ {gs : List (List Nat)}, gs.flatten.Nodup → (∀ g ∈ gs, g.Nodup) ∧ gs.Pairwise fun a b => ∀ x ∈ a, x ∉ b
  | [], _ => ⟨fun _ h => absurd h List.not_mem_nil, List.Pairwise.nil⟩
  | g :: gs, h => by
    rw [List.flatten_cons, List.nodup_append] at h
    obtain ⟨h1, h2, h3⟩ := h
    obtain ⟨k1, k2⟩ := flat_nd h2
    refine ⟨fun g' hg => ?_, List.pairwise_cons.mpr ⟨fun g' hg x hx hx' => ?_, k2⟩⟩
    · rcases List.mem_cons.mp hg with rfl | hg
      · exact h1
      · exact k1 _ hg
    · exact h3 x hx x (List.mem_flatten.mpr ⟨g', hg, hx'⟩) rfl
theorem same_group : ∀ {gs : List (List Nat)}, gs.flatten.Nodup → ∀ {g g' : List Nat} {x : Nat}, g ∈ gs → g' ∈ gs → x ∈ g → x ∈ g' → g = g'
  | g0 :: gs, h, g, g', x, hg, hg', hx, hx' => by
    obtain ⟨k1, k2⟩ := flat_nd h
    obtain ⟨p1, p2⟩ := List.pairwise_cons.mp k2
    have h2 : gs.flatten.Nodup := by rw [List.flatten_cons, List.nodup_append] at h; exact h.2.1
    rcases List.mem_cons.mp hg with rfl | hg <;> rcases List.mem_cons.mp hg' with rfl | hg'
    · rfl
    · exact absurd hx' (p1 _ hg' x hx)
    · rename_i q1; exact absurd hx (p1 _ q1 x hx')
    · exact same_group h2 hg hg' hx hx'
theorem cls_group (F : Fits n gs r) {g : List Nat} (hg : g ∈ gs) {x p : Nat} (hx : x ∈ g) (hp : p < n) (e : r p = r x) : clsF n r p = sortN g := by
  have hxn := F.lt g hg x hx
  have key : ∀ y, y < n → (r y = r p ↔ y ∈ g) := fun y hy => by
    rw [e, F.eq y x hy hxn]
    constructor
    · rintro (rfl | ⟨g', h1, h2, h3⟩)
      · exact hx
      · rw [same_group F.nd hg h1 hx h3]; exact h2
    · exact fun h => .inr ⟨g, hg, h, hx⟩
  refine sortN_uniq ((List.perm_ext_iff_of_nodup (nodup_of_lt cls_sorted) ((flat_nd F.nd).1 g hg)).mpr fun y => ?_) (cls_sorted.imp fun h => by omega)
  rw [mem_cls]
  exact ⟨fun ⟨h1, h2⟩ => (key y h1).mp h2, fun h => ⟨F.lt g hg y h, (key y (F.lt g hg y h)).mpr h⟩⟩
theorem cls_single (F : Fits n gs r) {p : Nat} (hp : p < n) (h : p ∉ gs.flatten) : clsF n r p = [p] := by
  have key : ∀ y, y < n → (r y = r p ↔ y = p) := fun y hy => by
    rw [F.eq y p hy hp]
    constructor
    · rintro (rfl | ⟨g', h1, h2, h3⟩)
      · rfl
      · exact absurd (List.mem_flatten.mpr ⟨g', h1, h3⟩) h
    · exact .inl
  refine (perm_sorted (le := (· ≤ ·)) (fun a b h1 h2 => by omega) ((List.perm_ext_iff_of_nodup (nodup_of_lt cls_sorted) (by simp)).mpr fun y => ?_) (cls_sorted.imp fun h => by omega) (by simp) fun a _ => Nat.le_refl a)
  rw [mem_cls]
  exact ⟨fun ⟨h1, h2⟩ => by simp [(key y h1).mp h2], fun h => by simp at h; subst h; exact ⟨hp, rfl⟩⟩
def singles (n : Nat) (gs : List (List Nat)) : List Nat := (List.range n).filter fun p => !(gs.flatten.contains p)
theorem mem_singles {p : Nat} : p ∈ singles n gs ↔ p < n ∧ p ∉ gs.flatten := by simp [singles]
theorem heads_lt {n : Nat} {r : Nat → Nat} : (canonF n r).Pairwise fun a b => ∃ x t y u, a = x :: t ∧ b = y :: u ∧ x < y := by
  rw [canonF_eq, List.pairwise_filterMap]
  refine List.Pairwise.imp_of_mem (fun {p q} hp hq hpq => ?_) (List.pairwise_lt_range (n := n))
  intro a ha b hb
  split at ha
  · split at hb
    · cases ha
      cases hb
      rename_i h1 h2
      obtain ⟨t, e1⟩ := cls_cons (List.mem_range.mp hp) h1
      obtain ⟨u, e2⟩ := cls_cons (List.mem_range.mp hq) h2
      exact ⟨p, t, q, u, e1, e2, hpq⟩
    · cases hb
  · cases ha
theorem fits_perm (F : Fits n gs r) : (gs.map sortN ++ (singles n gs).map fun p => [p]).Perm (canonF n r) := by
  refine (List.perm_ext_iff_of_nodup ?_ ?_).mpr fun a => ?_
  · rw [List.nodup_append]
    refine ⟨?_, ?_, ?_⟩
    · refine List.pairwise_map.mpr (List.Pairwise.imp_of_mem (fun {a b} ha hb h => ?_) (flat_nd F.nd).2)
      intro e
      obtain ⟨x, hx⟩ := List.exists_mem_of_ne_nil _ (F.ne a ha)
      have h1 := (sortN_perm a).mem_iff.mpr hx
      rw [e] at h1
      exact h x hx ((sortN_perm b).mem_iff.mp h1)
    · refine List.pairwise_map.mpr ((List.nodup_range.filter _).imp fun h e => h (by simpa using e))
    · intro a ha b hb e
      subst e
      obtain ⟨g, hg, rfl⟩ := List.mem_map.mp ha
      obtain ⟨p, hp, e⟩ := List.mem_map.mp hb
      have : p ∈ sortN g := by rw [← e]; simp
      exact (mem_singles.mp hp).2 (List.mem_flatten.mpr ⟨g, hg, (sortN_perm g).mem_iff.mp this⟩)
  · refine heads_lt.imp ?_
    rintro a b ⟨x, t, y, u, rfl, rfl, h⟩ e
    simp at e
    omega
  · rw [List.mem_append, mem_canon]
    constructor
    · rintro (h | h)
      · obtain ⟨g, hg, rfl⟩ := List.mem_map.mp h
        obtain ⟨x, hx⟩ := List.exists_mem_of_ne_nil _ (F.ne g hg)
        obtain ⟨p, h1, h2, h3⟩ := first_ex (r := r) x
        have hp : p < n := by have := F.lt g hg x hx; omega
        exact ⟨p, hp, h3, (cls_group F hg hx hp h2).symm⟩
      · obtain ⟨p, hp, rfl⟩ := List.mem_map.mp h
        obtain ⟨h1, h2⟩ := mem_singles.mp hp
        refine ⟨p, h1, first_iff.mpr fun q hq e => ?_, (cls_single F h1 h2).symm⟩
        rcases (F.eq q p (by omega) h1).mp e with rfl | ⟨g, k1, _, k3⟩
        · omega
        · exact h2 (List.mem_flatten.mpr ⟨g, k1, k3⟩)
    · rintro ⟨p, hp, hf, rfl⟩
      by_cases h : p ∈ gs.flatten
      · obtain ⟨g, hg, hx⟩ := List.mem_flatten.mp h
        exact .inl (List.mem_map.mpr ⟨g, hg, (cls_group F hg hx hp rfl).symm⟩)
      · exact .inr (List.mem_map.mpr ⟨p, mem_singles.mpr ⟨hp, h⟩, (cls_single F hp h).symm⟩)
theorem canon_sorted : ((canonF n r).map zI).Pairwise fun a b => lexI b a = false := by
  refine List.pairwise_map.mpr (heads_lt.imp ?_)
  rintro a b ⟨x, t, y, u, rfl, rfl, h⟩
  have h1 : ¬ (y : Int) = x := by omega
  have h2 : ¬ (y : Int) < x := by omega
  simp [zI, lexI, h1, h2]
theorem fits_sort (F : Fits n gs r) : sortG ((gs.map fun g => zI (sortN g)) ++ ((singles n gs).map fun p => zI [p])) = (canonF n r).map zI := by
  refine (sortG_uniq ?_ canon_sorted).symm
  have := (fits_perm F).map zI
  rw [List.map_append, List.map_map, List.map_map] at this
  exact this.symm
end
end DD
namespace DD
open PySem L2 RZ
section
variable {ws : List W} {μ : M} {P : Res → M → Prop} {Q : W → M → Prop} {xc : Exc → M → Prop}
theorem wp_check_people (h : S_check_people ws μ P) : t_check_people (xcOf μ.length P) (endsOf .d μ.length P) (ws.map some ++ List.replicate (1 - ws.length) none) μ := by
  obtain ⟨ds, rfl, hl, rfl, hF⟩ := h
  unfold F_check_people at hF
  split at hF
  · obtain ⟨⟨h1, h2⟩, hP⟩ := hF
    simpa [t_check_people, h1, h2] using hP
  · exact hF.elim
theorem wp_check_person (h : S_check_person ws μ P) : t_check_person (xcOf μ.length P) (endsOf .d μ.length P) (ws.map some ++ List.replicate (2 - ws.length) none) μ := by
  obtain ⟨ds, rfl, hl, rfl, hF⟩ := h
  unfold F_check_person at hF
  split at hF
  · obtain ⟨⟨h1, h2⟩, hP⟩ := hF
    simpa [t_check_person, h1, h2] using hP
  · exact hF.elim
/-- what is told of a sequence of numbers -/
def decN (x : D) : List Int := match x with
  | .lst ds => (intsD ds).getD []
  | .tup ds => (intsD ds).getD []
  | _ => []
theorem intsD_nats (g : List Nat) : intsD (nats g) = some (zI g) := by
  have : nats g = (zI g).map D.int := by simp [nats, zI]
  rw [this, intsD_map]
theorem nats_zI (g : List Nat) : nats g = (zI g).map D.int := by simp [nats, zI]
theorem decN_seq {x : D} {g : List Nat} (h : SeqN x g) : decN x = zI g := by
  rcases h with rfl | rfl <;> simp [decN, intsD_nats]
theorem seqsN_map {β : Type} (f : D → β) (k : List Nat → β) (hk : ∀ x g, SeqN x g → f x = k g) : ∀ {xs : List D} {gs : List (List Nat)}, SeqsN xs gs → xs.map f = gs.map k
  | [], [], _ => rfl
  | x :: xs, g :: gs, h => by rw [List.map_cons, List.map_cons, hk x g h.1, seqsN_map f k hk h.2]
  | [], _ :: _, h => h.elim
  | _ :: _, [], h => h.elim
theorem seqsN_mem : ∀ {xs : List D} {gs : List (List Nat)}, SeqsN xs gs → ∀ x ∈ xs, ∃ g ∈ gs, SeqN x g
  | [], [], _, x, hx => by cases hx
  | x :: xs, g :: gs, h, y, hy => by
    rcases List.mem_cons.mp hy with rfl | hy
    · exact ⟨g, List.mem_cons_self .., h.1⟩
    · obtain ⟨g', h1, h2⟩ := seqsN_mem h.2 y hy
      exact ⟨g', List.mem_cons_of_mem _ h1, h2⟩
  | [], _ :: _, h, _, _ => h.elim
  | _ :: _, [], h, _, _ => h.elim
theorem seqsN_get : ∀ {xs : List D} {gs : List (List Nat)}, SeqsN xs gs → ∀ {i : Nat} {x : D}, xs[i]? = some x → ∃ g, gs[i]? = some g ∧ SeqN x g
  | x :: xs, g :: gs, h, 0, y, hy => by simp at hy; subst hy; exact ⟨g, rfl, h.1⟩
  | x :: xs, g :: gs, h, i + 1, y, hy => by simpa using seqsN_get h.2 (i := i) (by simpa using hy)
  | [], [], _, i, y, hy => by simp at hy
  | [], _ :: _, h, _, _, _ => h.elim
  | _ :: _, [], h, _, _, _ => h.elim
theorem seqsN_len : ∀ {xs : List D} {gs : List (List Nat)}, SeqsN xs gs → xs.length = gs.length
  | [], [], _ => rfl
  | x :: xs, g :: gs, h => by simp [seqsN_len h.2]
  | [], _ :: _, h => h.elim
  | _ :: _, [], h => h.elim
theorem seqsN_app : ∀ {xs ys : List D} {gs hs : List (List Nat)}, SeqsN xs gs → SeqsN ys hs → SeqsN (xs ++ ys) (gs ++ hs)
  | [], _, [], _, _, h => h
  | x :: xs, _, g :: gs, _, h, h' => ⟨h.1, seqsN_app h.2 h'⟩
  | [], _, _ :: _, _, h, _ => h.elim
  | _ :: _, _, [], _, h, _ => h.elim
theorem wp_sorted_groups (h : S_sorted_groups ws μ P) : t_sorted_groups (xcOf μ.length P) (endsOf .d μ.length P) (ws.map some ++ List.replicate (2 - ws.length) none) μ := by
  obtain ⟨ds, rfl, hl, rfl, xs, gs, rfl, hx, hne, hlen, hP⟩ := h
  have hxl := seqsN_len hx
  simp [t_sorted_groups]
  rw [dLc_eq]
  simp
  refine lc_fm (fun w => match w with
    | .d d => some (tints (sortI (decN d)))
    | _ => none) (fun _ => trivial) (by simp) (by simp; omega) (fun w hw acc K N hk => ?_) ?_
  · simp at hw
    obtain ⟨x, hx2, rfl⟩ := hw
    obtain ⟨g, hg, hs⟩ := seqsN_mem hx x hx2
    have e := decN_seq hs
    simp only [e] at hk
    rcases hs with rfl | rfl
    all_goals
      simp [fSortI]
      exact ⟨zI g, nats_zI g, by simpa [lints, tints] using hk⟩
  · have e : (List.filterMap (fun w => match w with
        | W.d d => some (tints (sortI (decN d)))
        | _ => none) (xs.map W.d)) = (gs.map fun g => zI (sortN g)).map tints := by
      rw [List.filterMap_map, List.map_map]
      have : (fun d => some (tints (sortI (decN d)))) = some ∘ fun d => tints (sortI (decN d)) := rfl
      show List.filterMap (fun d => some (tints (sortI (decN d)))) xs = _
      rw [this, List.filterMap_eq_map]
      exact seqsN_map _ _ (fun x g h => by simp [decN_seq h, sortI_zI]) hx
    simp only [e]
    simp [fSortT]
    refine ⟨gs.map fun g => zI (sortN g), by simp, fun g hg => ?_, by simpa using hP⟩
    obtain ⟨g0, h0, rfl⟩ := List.mem_map.mp hg
    intro e
    have := (sortN_perm g0).length_eq
    simp [zI] at e
    rw [e] at this
    exact hne g0 h0 (List.eq_nil_of_length_eq_zero this.symm)
theorem okD_nat {n i : Nat} : okD n (.int (i : Int)) = true := by cases n <;> rfl
theorem okDs_nats {n : Nat} (l : List Nat) : okDs n (nats l) = true := by
  rw [okDs_all]
  refine List.all_eq_true.mpr fun x hx => ?_
  obtain ⟨i, _, rfl⟩ := List.mem_map.mp hx
  exact okD_nat
theorem any_nats {l : List Nat} {i : Nat} : ((nats l).any fun d => deq d (.int (i : Int))) = l.contains i := by
  induction l with
  | nil => rfl
  | cons a l ih =>
    rw [nats_cons, List.any_cons, ih, List.contains_cons]
    congr 1
    show decide ((a : Int) = i) = _
    by_cases h : a = i
    · simp [h]
    · have : ¬ i = a := fun e => h e.symm
      simp [h, this]
theorem sortN_one (p : Nat) : sortN [p] = [p] := by
  have := sortN_perm [p]
  exact List.perm_singleton.mp this
theorem notin_before {gs : List (List Nat)} {g : List Nat} {i j p : Nat} (nd : gs.flatten.Nodup) (hg : gs[i]? = some g) (hp : g[j]? = some p) : p ∉ (gs.take i).flatten ++ g.take j := by
  have h1 := (List.getElem?_eq_some_iff.mp hg)
  have h2 := (List.getElem?_eq_some_iff.mp hp)
  obtain ⟨hi, rfl⟩ := h1
  obtain ⟨hj, rfl⟩ := h2
  have e1 : gs = gs.take i ++ gs[i] :: gs.drop (i + 1) := by rw [← List.drop_eq_getElem_cons hi, List.take_append_drop]
  have e2 : gs[i] = gs[i].take j ++ gs[i][j] :: gs[i].drop (j + 1) := by rw [← List.drop_eq_getElem_cons hj, List.take_append_drop]
  have e3 : gs.flatten = ((gs.take i).flatten ++ gs[i].take j) ++ (gs[i][j] :: (gs[i].drop (j + 1) ++ (gs.drop (i + 1)).flatten)) := by
    have := congrArg List.flatten e1
    rw [List.flatten_append, List.flatten_cons] at this
    rw [this]
    have := congrArg (fun l => (gs.take i).flatten ++ (l ++ (gs.drop (i + 1)).flatten)) e2
    rw [this]
    simp only [List.append_assoc, List.cons_append]
  rw [e3, List.nodup_append] at nd
  intro h
  exact nd.2.2 _ h _ (List.mem_cons_self ..) rfl
theorem flat_take {gs : List (List Nat)} {g : List Nat} {i : Nat} (hg : gs[i]? = some g) : (gs.take i).flatten ++ g = (gs.take (i + 1)).flatten := by
  rw [List.take_succ, hg]
  simp
theorem fits_small {n : Nat} {gs : List (List Nat)} {r : Nat → Nat} (F : Fits n gs r) : gs.flatten.length ≤ n ∧ gs.length ≤ n := by
  have fl : gs.flatten.length ≤ n := by
    have : gs.flatten.length ≤ (List.range n).length := by
      refine L2.nat_nodup_len gs.flatten (List.range n) F.nd fun x hx => ?_
      obtain ⟨g, hg, hx⟩ := List.mem_flatten.mp hx
      exact List.mem_range.mpr (F.lt g hg x hx)
    rw [List.length_range] at this
    omega
  refine ⟨fl, ?_⟩
  have : gs.length ≤ gs.flatten.length := by
    have hne := F.ne
    clear fl F
    induction gs with
    | nil => simp
    | cons g gs ih =>
      have h0 := hne g (List.mem_cons_self ..)
      have := ih fun g' hg' => hne g' (List.mem_cons_of_mem _ hg')
      have : 0 < g.length := List.length_pos_iff.mpr h0
      rw [List.flatten_cons, List.length_append, List.length_cons]
      omega
  omega
theorem rng_fm {n : Nat} {f : W → Option D} {k : Nat → D} {c : Nat → Bool} (h : ∀ i : Nat, i < n → f (.d (.int (i : Int))) = if c i = true then some (k i) else none) : (rng 0 n).filterMap f = ((List.range n).filter c).map k := by
  unfold rng
  rw [List.filterMap_map, ← List.filterMap_eq_map, ← List.filterMap_eq_filter, List.filterMap_filterMap]
  refine fm_congr fun i hi => ?_
  have := h i (List.mem_range.mp hi)
  simp only [Function.comp_apply, Int.zero_add]
  rw [this]
  by_cases hc : c i = true
  · simp [hc, Option.guard]
  · simp [hc, Option.guard]
theorem wp_Division_init (h : S_Division ws μ P) : t_Division_init (xcOf μ.length P) (endsOf .d μ.length P) (ws.map some ++ List.replicate (7 - ws.length) none) μ := by
  obtain ⟨ds, rfl, hl, rfl, n, x, gs, r, rfl, ⟨xs, hx, hs⟩, ⟨hn1, hn2⟩, F, hP⟩ := h
  have hlen := seqsN_len hs
  have h1n : (1 : Int) ≤ n := by omega
  have h2n : (n : Int) ≤ 16 := by omega
  obtain ⟨fl, gl⟩ := fits_small F
  rcases hx with rfl | rfl
  all_goals
    simp [-dSeq, t_Division_init]
    rw [dSeq]
    simp [-dSeq, F_check_people, h1n, h2n]
    rw [dSeq]
    simp [-dSeq]
    rw [dSeq, dFor_eq]
    simp [-dSeq]
    refine ⟨fun i ρ' μ' => (∃ a b c, ρ' = [some (.r 0), some (.d (nat n)), some (.d _), some (.r 1), a, b, c]) ∧ μ' = [.ins 10 [] [], .lst (nats (gs.take i).flatten)], ⟨⟨_, _, _, rfl⟩, by simp⟩, fun _ _ _ _ _ => trivial, fun i w ρ' μ' e h => ?_, fun ρ' μ' h => ?_⟩
    · obtain ⟨⟨a, b, c, rfl⟩, rfl⟩ := h
      simp at e
      obtain ⟨y, hy, rfl⟩ := e
      obtain ⟨g, hg, hsq⟩ := seqsN_get hs hy
      have hgm := List.mem_of_getElem? hg
      have hg0 := F.ne g hgm
      have glen : ¬ g.length = 0 := fun e => hg0 (List.eq_nil_of_length_eq_zero e)
      rcases hsq with rfl | rfl
      all_goals
        simp [-dSeq]
        rw [dSeq]
        simp [-dSeq, fEq, deq, hg0, okD_nat]
        rw [dFor_eq]
        simp [-dSeq]
        refine ⟨fun j ρ' μ' => (∃ b c, ρ' = [some (.r 0), some (.d (nat n)), some (.d _), some (.r 1), some (.d _), b, c]) ∧ μ' = [.ins 10 [] [], .lst (nats ((gs.take i).flatten ++ g.take j))], ⟨⟨_, _, rfl⟩, by simp⟩, fun _ _ _ _ _ => trivial, fun j w ρ' μ' e h => ?_, fun ρ' μ' h => ?_⟩
        · obtain ⟨⟨b, c, rfl⟩, rfl⟩ := h
          simp [nats_get] at e
          obtain ⟨p, hp, rfl⟩ := e
          have hpn := F.lt g hgm p (List.mem_of_getElem? hp)
          have hni := notin_before F.nd hg hp
          have hc : ((gs.take i).flatten ++ g.take j).contains p = false := by simpa using hni
          have ln : ((gs.take i).flatten ++ g.take j).length ≤ 1000000 := by
            have : ((gs.take i).flatten ++ g.take j).length ≤ gs.flatten.length := by
              have e1 := (List.take_append_drop i gs)
              have hi := (List.getElem?_eq_some_iff.mp hg).1
              have e2 : gs = gs.take i ++ g :: gs.drop (i + 1) := by
                have := List.drop_eq_getElem_cons hi
                rw [← (List.getElem?_eq_some_iff.mp hg).2, ← this, List.take_append_drop]
              have := congrArg (fun l => l.flatten.length) e2
              simp only [List.flatten_append, List.flatten_cons, List.length_append] at this
              rw [List.length_append, List.length_take]
              omega
            omega
          have h0 : (0 : Int) ≤ p := by omega
          simp [-dSeq]
          rw [dSeq]
          simp [-dSeq, F_check_person, hpn]
          rw [dSeq]
          simp only [List.length_append] at ln
          simp [-dSeq, -List.length_append, fIn, any_nats, okD_nat, okDs_nats, -nats_app, -List.any_append, hc]
          refine ⟨by simpa using hni, by rw [List.length_append]; omega, by rw [List.take_succ, hp]; rfl⟩
        · obtain ⟨⟨b, c, rfl⟩, rfl⟩ := h
          simp [flat_take hg]
    · obtain ⟨⟨a, b, c, rfl⟩, rfl⟩ := h
      have e0 : gs.take xs.length = gs := by rw [hlen]; exact List.take_length
      simp [-dSeq, e0]
      rw [dSeq]
      simp [-dSeq]
      rw [dLc_eq]
      simp [-dSeq]
      refine ⟨by omega, ?_⟩
      refine lc_fm (fun w => match w with
        | .d (.int p) => if gs.flatten.contains p.toNat then none else some (.tup [.int p])
        | _ => none) (fun _ => trivial) (by simp) (by simp [rng]; omega) (fun w hw acc K N hk => ?_) ?_
      · simp [rng] at hw
        obtain ⟨p, hp, rfl⟩ := hw
        simp [fIn, any_nats, okD_nat, okDs_nats] at hk ⊢
        by_cases h : ∃ l, l ∈ gs ∧ p ∈ l
        · rw [if_pos h] at hk
          rw [if_neg (fun z => by obtain ⟨l, h1, h2⟩ := h; exact z l h1 h2)]
          exact hk
        · rw [if_neg h] at hk
          rw [if_pos (fun l h1 h2 => h ⟨l, h1, h2⟩)]
          exact hk
      · rw [rng_fm (k := fun p => .tup (nats [p])) (c := fun p => !(gs.flatten.contains p)) (fun i hi => by
          by_cases hc : i ∈ gs.flatten <;> simp [hc, nats])]
        rw [if_neg Bool.false_ne_true]
        have ex : SeqsN (xs ++ (singles n gs).map fun p => .tup (nats [p])) (gs ++ (singles n gs).map fun p => [p]) := by
          refine seqsN_app hs ?_
          generalize singles n gs = l
          induction l with
          | nil => exact trivial
          | cons p l ih => exact ⟨.inr rfl, ih⟩
        have sl : (singles n gs).length ≤ n := by
          have := List.length_filter_le (fun p => !(gs.flatten.contains p)) (List.range n)
          rw [List.length_range] at this
          exact this
        have er : (sortG ((gs ++ (singles n gs).map fun p => [p]).map fun g => zI (sortN g))).map tints = (canonF n r).map fun g => .tup (nats g) := by
          rw [List.map_append, List.map_map]
          have : ((fun g => zI (sortN g)) ∘ fun p : Nat => [p]) = fun p => zI [p] := by funext p; simp [sortN_one]
          rw [this, fits_sort F, List.map_map]
          refine List.map_congr_left fun g _ => ?_
          exact tints_zI g
        have sd : (List.range n).filter (fun p => !(gs.flatten.contains p)) = singles n gs := rfl
        rw [sd]
        generalize singles n gs = sg at ex sl er
        rw [dSeq]
        simp [-dSeq, F_sorted_groups]
        refine ⟨by omega, _, ex, ?_, ?_, ?_⟩
        · intro g hg
          rcases List.mem_append.mp hg with hg | hg
          · exact F.ne g hg
          · obtain ⟨p, _, rfl⟩ := List.mem_map.mp hg
            simp
        · rw [List.length_append, List.length_map]; omega
        · rw [er]
          simpa [tupsN] using hP
end
end DD
namespace DD
open PySem L2 RZ
section
variable {ws : List W} {μ : M} {P : Res → M → Prop} {Q : W → M → Prop} {xc : Exc → M → Prop}
theorem erase_perm {α : Type} : ∀ {l : List α} {v : Nat} (h : v < l.length), (l[v] :: l.eraseIdx v).Perm l
  | a :: l, 0, _ => by simp
  | a :: l, v + 1, h => by
    simp only [List.getElem_cons_succ, List.eraseIdx_cons_succ]
    exact (List.Perm.swap ..).trans ((erase_perm (by simpa using h)).cons a)
theorem notin_take {l : List Nat} {i p : Nat} (nd : l.Nodup) (h : l[i]? = some p) : p ∉ l.take i := by
  obtain ⟨hi, rfl⟩ := List.getElem?_eq_some_iff.mp h
  have e1 : l = l.take i ++ l[i] :: l.drop (i + 1) := by rw [← List.drop_eq_getElem_cons hi, List.take_append_drop]
  rw [e1, List.nodup_append] at nd
  intro hm
  exact nd.2.2 _ hm _ (List.mem_cons_self ..) rfl
theorem wp_l_shuffled (h : S_l_shuffled ws μ P) : t_l_shuffled (xcOf μ.length P) (endsOf .d μ.length P) (ws.map some ++ List.replicate (4 - ws.length) none) μ := by
  obtain ⟨a, b, c, ds, rfl, hl, rfl, hF⟩ := h
  unfold F_l_shuffled at hF
  split at hF
  · rename_i xs
    obtain ⟨hlen, hok, hP⟩ := hF
    have oks : ∀ l : List D, (∀ x ∈ l, x ∈ xs) → okDs 59 l = true := fun l hl => by
      rw [okDs_all]
      exact List.all_eq_true.mpr fun x hx => hok x (hl x hx)
    simp [-dSeq, t_l_shuffled]
    rw [dSeq]
    simp [-dSeq, src]
    rw [dSeq]
    unfold dWhile
    refine ⟨fun k ρ' μ' => ρ' = [some (.r 0), some (.d (.lst xs)), some (.r 1), some (.r 2)] ∧ ∃ (a b c : Int) (l f : List D), μ' = [.lst (src a b c), .lst l, .lst f] ∧ (f ++ l).Perm xs ∧ k = l.length, ⟨xs.length, rfl, a, b, c, xs, [], rfl, by simp, rfl⟩, ?_⟩
    rintro k ρ' μ' ⟨rfl, a, b, c, l, f, rfl, hp, rfl⟩
    have hlm : ∀ x ∈ l, x ∈ xs := fun x hx => hp.mem_iff.mp (List.mem_append.mpr (.inr hx))
    have hll := hp.length_eq
    rw [List.length_append] at hll
    simp [-dSeq, fNe, okD, okDs, oks l hlm]
    cases l with
    | nil =>
      simp [deq, deqs]
      rw [List.append_nil] at hp
      exact hP f hp a b c
    | cons x l =>
      have hd : deqs (x :: l) [] = false := rfl
      simp [deq, hd, src, F_l_draw]
      simp at hll
      refine ⟨by omega, fun v hv a b c => ?_⟩
      have hvl : v < (x :: l).length := by simp; omega
      have e1 : seqIndex? (v : Int) (x :: l).length = some v := by
        unfold seqIndex?
        simp only [show ¬ (v : Int) < 0 by omega, if_false]
        rw [if_pos (by simp; omega)]
        simp
      unfold mPop
      simp only [e1, List.getElem?_eq_getElem hvl]
      refine ⟨⟨by omega, by omega⟩, by omega, _, ?_, _, _, _, _, _, ⟨⟨rfl, rfl, rfl⟩, rfl, rfl⟩, ?_, rfl⟩
      · rw [List.length_eraseIdx_of_lt hvl]
        simp
      · refine List.Perm.trans ?_ hp
        rw [List.append_assoc]
        refine List.Perm.append_left f ?_
        exact erase_perm hvl
  · exact hF.elim
theorem refsM_app (gs : List (List Nat)) (g : List Nat) : refsM gs.length ++ [W.r (gs.length + 2)] = refsM (gs ++ [g]).length := by
  simp [refsM, List.range_succ]
theorem rowsM_app (gs : List (List Nat)) (g : List Nat) : rowsM gs ++ [.lst (nats g)] = rowsM (gs ++ [g]) := by simp [rowsM]
theorem rowsM_len (gs : List (List Nat)) : (rowsM gs).length = gs.length := by simp [rowsM]
theorem rowsM_set (gs : List (List Nat)) (i : Nat) (g : List Nat) : (rowsM gs).set i (.lst (nats g)) = rowsM (gs.set i g) := by simp [rowsM, List.map_set]
theorem rowsM_get (gs : List (List Nat)) (i : Nat) : (rowsM gs)[i]? = (gs[i]?).map fun g => Cell.lst (nats g) := by simp [rowsM]
theorem refsM_len (k : Nat) : (refsM k).length = k := by simp [refsM]
/-- all the lists at once -/
theorem escs0_rows : ∀ (gs : List (List Nat)) (pre : M) (k : Nat), pre.length = k → escs0 (pre ++ rowsM gs) ((List.range gs.length).map fun i => .r (i + k)) = some (gs.map fun g => .lst (nats g), pre ++ gs.map fun g => .frz (.lst (nats g)))
  | [], pre, k, h => by simp [rowsM]
  | g :: gs, pre, k, h => by
    subst h
    have ih := escs0_rows gs (pre ++ [.frz (.lst (nats g))]) (pre.length + 1) (by simp)
    have e1 : (List.range (g :: gs).length).map (fun i => W.r (i + pre.length)) = .r pre.length :: (List.range gs.length).map fun i => W.r (i + (pre.length + 1)) := by
      rw [List.length_cons, List.range_succ_eq_map, List.map_cons, List.map_map]
      simp [Function.comp_def, Nat.add_assoc, Nat.add_comm 1]
    have e2 : (pre ++ rowsM (g :: gs)).set pre.length (.frz (.lst (nats g))) = (pre ++ [.frz (.lst (nats g))]) ++ rowsM gs := by simp [rowsM]
    rw [e1]
    unfold escs0
    have e3 : esc0 (pre ++ rowsM (g :: gs)) (.r pre.length) = some (.lst (nats g), (pre ++ [.frz (.lst (nats g))]) ++ rowsM gs) := by
      simp [rowsM]
    rw [e3]
    simp only [ih]
    simp
/-- the groups drawn so far -/
structure DGI (ps : List Nat) (i : Nat) (gs : List (List Nat)) : Prop where
  ne : ∀ g ∈ gs, g ≠ []
  nd : gs.flatten.Nodup
  mem : ∀ x ∈ gs.flatten, x ∈ ps.take i
  len : gs.length ≤ i
theorem dgi_skip {ps : List Nat} {i : Nat} {gs : List (List Nat)} (h : DGI ps i gs) : DGI ps (i + 1) gs :=
  ⟨h.ne, h.nd, fun x hx => by rw [List.take_succ]; exact List.mem_append.mpr (.inl (h.mem x hx)), by have := h.len; omega⟩
theorem dgi_new {ps : List Nat} {i p : Nat} {gs : List (List Nat)} (h : DGI ps i gs) (nd : ps.Nodup) (hp : ps[i]? = some p) : DGI ps (i + 1) (gs ++ [[p]]) := by
  have new : p ∉ gs.flatten := fun hm => notin_take nd hp (h.mem p hm)
  refine ⟨fun g hg => ?_, ?_, fun x hx => ?_, by have := h.len; simp; omega⟩
  · rcases List.mem_append.mp hg with hg | hg
    · exact h.ne g hg
    · simp at hg; subst hg; simp
  · rw [List.flatten_append, List.nodup_append]
    refine ⟨h.nd, by simp, fun x hx y hy e => ?_⟩
    simp at hy
    subst hy e
    exact new hx
  · rw [List.take_succ, hp]
    rw [List.flatten_append] at hx
    rcases List.mem_append.mp hx with hx | hx
    · exact List.mem_append.mpr (.inl (h.mem x hx))
    · simp at hx; subst hx; simp
theorem flat_set : ∀ {gs : List (List Nat)} {j : Nat} (h : j < gs.length) (p : Nat), ((gs.set j (gs[j] ++ [p])).flatten).Perm (gs.flatten ++ [p])
  | g :: gs, 0, _, p => by
    simp
    exact List.Perm.append_left g (List.perm_append_comm (l₁ := [p]) (l₂ := gs.flatten))
  | g :: gs, j + 1, h, p => by
    simp only [List.set_cons_succ, List.getElem_cons_succ, List.flatten_cons, List.append_assoc]
    exact List.Perm.append_left g (flat_set (by simpa using h) p)
theorem dgi_more {ps : List Nat} {i p j : Nat} {gs : List (List Nat)} (h : DGI ps i gs) (nd : ps.Nodup) (hp : ps[i]? = some p) (hj : j < gs.length) : DGI ps (i + 1) (gs.set j (gs[j] ++ [p])) := by
  have new : p ∉ gs.flatten := fun hm => notin_take nd hp (h.mem p hm)
  have pm := flat_set hj p
  refine ⟨fun g hg => ?_, ?_, fun x hx => ?_, by have := h.len; simp; omega⟩
  · rcases List.mem_or_eq_of_mem_set hg with hg | rfl
    · exact h.ne g hg
    · simp
  · refine pm.nodup_iff.mpr ?_
    rw [List.nodup_append]
    refine ⟨h.nd, by simp, fun x hx y hy e => ?_⟩
    simp at hy
    subst hy e
    exact new hx
  · have hx := pm.mem_iff.mp hx
    rw [List.take_succ, hp]
    rcases List.mem_append.mp hx with hx | hx
    · exact List.mem_append.mpr (.inl (h.mem x hx))
    · simp at hx; subst hx; simp
theorem refsM_inj {a b : Nat} : (refsM a = refsM b) ↔ a = b := ⟨fun h => by have := congrArg List.length h; simpa [refsM] using this, fun h => by rw [h]⟩
theorem rowsM_inj {a b : List (List Nat)} : (rowsM a = rowsM b) ↔ a = b := by
  constructor
  · intro h
    unfold rowsM at h
    refine (List.map_inj_right fun x y e => ?_).mp h
    simpa using e
  · exact fun h => by rw [h]
theorem wp_l_drawn_groups (h : S_l_drawn_groups ws μ P) : t_l_drawn_groups (xcOf μ.length P) (endsOf .i μ.length P) (ws.map some ++ List.replicate (5 - ws.length) none) μ := by
  obtain ⟨a, b, c, n, rfl, rfl, hn, hP⟩ := h
  simp [-dSeq, t_l_drawn_groups]
  rw [dSeq]
  simp [-dSeq, src]
  rw [dSeq, dFor_eq]
  simp [-dSeq, dLRng1, F_l_shuffled, rngD_nats]
  refine ⟨by omega, by omega, by simp [nats], fun ys hys a b c => ?_⟩
  obtain ⟨ps, rfl, hps⟩ := perm_map (f := nat) hys
  have pn : ∀ p ∈ ps, p < n := fun p hp => List.mem_range.mp (hps.mem_iff.mp hp)
  have pnd : ps.Nodup := hps.nodup_iff.mpr List.nodup_range
  have plen : ps.length = n := by have := hps.length_eq; simpa using this
  refine ⟨fun i ρ' μ' => (∃ x y, ρ' = [some (.r 0), some (.d (nat n)), some (.r 1), x, y]) ∧ ∃ (a b c : Int) (gs : List (List Nat)), μ' = .lst (src a b c) :: .lstW (refsM gs.length) :: rowsM gs ∧ DGI ps i gs, ⟨⟨_, _, rfl⟩, a, b, c, [], by simp [refsM, rowsM, src], by simp, by simp, by simp, by simp⟩, fun _ _ _ _ _ => trivial, fun i w ρ' μ' e h => ?_, fun ρ' μ' h => ?_⟩
  · obtain ⟨⟨x, y, rfl⟩, a, b, c, gs, rfl, hI⟩ := h
    simp at e
    obtain ⟨p, hp, rfl⟩ := e
    have hi := (List.getElem?_eq_some_iff.mp hp).1
    have hgl := hI.len
    simp [-dSeq]
    rw [dSeq]
    simp [-dSeq, src, F_l_draw]
    intro v hv a b c
    have skip : ∃ a_1 b_1 c_1 gs_1, ((a = a_1 ∧ b = b_1 ∧ c = c_1) ∧ refsM gs.length = refsM gs_1.length ∧ rowsM gs = rowsM gs_1) ∧ DGI ps (i + 1) gs_1 := ⟨a, b, c, gs, ⟨⟨rfl, rfl, rfl⟩, rfl, rfl⟩, dgi_skip hI⟩
    have hv3 : v = 0 ∨ v = 1 ∨ v = 2 := by omega
    rcases hv3 with rfl | rfl | rfl
    · simp [fEq, deq]
      by_cases hg : gs = []
      · subst hg
        simp [refsM]
        simpa [refsM] using skip
      · have hr : ¬ refsM gs.length = [] := fun e => hg (by have := congrArg List.length e; simpa [refsM] using this)
        rw [if_neg hr]
        refine ⟨a, b, c, refsM gs.length, rowsM gs, ⟨⟨rfl, rfl, rfl⟩, rfl, rfl⟩, fun x hx => ?_, ⟨by rw [refsM_len]; exact List.length_pos_iff.mpr hg, by rw [refsM_len]; omega⟩, fun u hu a b c => ?_⟩
        · intro j hj
          rcases List.mem_cons.mp hx with rfl | hx
          · simp only [refsC, refsM_flat] at hj
            obtain ⟨i, hi, rfl⟩ := List.mem_map.mp hj
            have := List.mem_range.mp hi
            rw [rowsM_len]
            omega
          · obtain ⟨g, _, rfl⟩ := List.mem_map.mp hx
            cases hj
        obtain ⟨j, hj, rfl⟩ := List.mem_map.mp hu
        have hj := List.mem_range.mp hj
        simp [rowsM_get, hj]
        have gl : gs[j].length ≤ i := by
          have h1 : gs.flatten.length ≤ (ps.take i).length := L2.nat_nodup_len _ _ hI.nd hI.mem
          rw [List.length_take] at h1
          have h2 : gs[j].length ≤ gs.flatten.length := by
            have : ∀ {l : List (List Nat)} {g : List Nat}, g ∈ l → g.length ≤ l.flatten.length := fun {l g} h => by
              induction l with
              | nil => cases h
              | cons x l ih =>
                rw [List.flatten_cons, List.length_append]
                rcases List.mem_cons.mp h with rfl | h
                · omega
                · have := ih h; omega
            exact this (List.getElem_mem hj)
          omega
        refine ⟨by omega, a, b, c, gs.set j (gs[j] ++ [p]), ⟨rfl, by simp, ?_⟩, dgi_more hI pnd hp hj⟩
        rw [rowsM_set]
    · simp [fEq, deq]
      exact ⟨by rw [refsM_len]; omega, a, b, c, gs ++ [[p]], ⟨⟨rfl, rfl, rfl⟩, by rw [rowsM_len]; exact refsM_app gs [p], rowsM_app gs [p]⟩, dgi_new hI pnd hp⟩
    · simp [fEq, deq]
      exact skip
  · obtain ⟨⟨x, y, rfl⟩, a, b, c, gs, rfl, hI⟩ := h
    simp
    exact hP gs ⟨hI.ne, fun g hg x hx => pn x (List.mem_of_mem_take (hI.mem x (List.mem_flatten.mpr ⟨g, hg, hx⟩))), hI.nd⟩ a b c
theorem gok_small {n : Nat} {gs : List (List Nat)} (F : GOk n gs) : gs.flatten.length ≤ n ∧ gs.length ≤ n ∧ ∀ g ∈ gs, g.length ≤ n := by
  have fl : gs.flatten.length ≤ n := by
    have : gs.flatten.length ≤ (List.range n).length := by
      refine L2.nat_nodup_len gs.flatten (List.range n) F.nd fun x hx => ?_
      obtain ⟨g, hg, hx⟩ := List.mem_flatten.mp hx
      exact List.mem_range.mpr (F.lt g hg x hx)
    rw [List.length_range] at this
    omega
  refine ⟨fl, ?_, fun g hg => ?_⟩
  · have : gs.length ≤ gs.flatten.length := by
      have hne := F.ne
      clear fl F
      induction gs with
      | nil => simp
      | cons g gs ih =>
        have h0 := hne g (List.mem_cons_self ..)
        have := ih fun g' hg' => hne g' (List.mem_cons_of_mem _ hg')
        have : 0 < g.length := List.length_pos_iff.mpr h0
        rw [List.flatten_cons, List.length_append, List.length_cons]
        omega
    omega
  · have : ∀ {l : List (List Nat)} {g : List Nat}, g ∈ l → g.length ≤ l.flatten.length := fun {l g} h => by
      induction l with
      | nil => cases h
      | cons x l ih =>
        rw [List.flatten_cons, List.length_append]
        rcases List.mem_cons.mp h with rfl | h
        · omega
        · have := ih h; omega
    have := this hg
    omega
def rm (gs : List (List Nat)) (k : Nat) : Nat := match gs.find? (fun g => g.contains k) with
  | some g => g.headD k
  | none => k
end
end DD
namespace DD
open PySem L2 RZ
theorem getD_lt {l : List Nat} {i : Nat} (h : i < l.length) : l.getD i 0 = l[i] := by simp [List.getD_eq_getElem?_getD, h]
theorem le_foldl_max {l : List Nat} : ∀ {x a : Nat}, (x ∈ l ∨ x ≤ a) → x ≤ l.foldl max a := by
  induction l with
  | nil => intro x a h; simpa using h
  | cons b l ih =>
    intro x a h
    rw [List.foldl_cons]
    refine ih ?_
    rcases h with h | h
    · rcases List.mem_cons.mp h with rfl | h
      · exact .inr (by omega)
      · exact .inl h
    · exact .inr (by omega)
section
variable {ws : List W} {μ : M} {P : Res → M → Prop} {Q : W → M → Prop} {xc : Exc → M → Prop}
theorem rm_in {gs : List (List Nat)} (nd : gs.flatten.Nodup) {g : List Nat} (hg : g ∈ gs) {k : Nat} (hk : k ∈ g) : rm gs k = g.headD k := by
  unfold rm
  cases e : gs.find? (fun g => g.contains k) with
  | none =>
    have := List.find?_eq_none.mp e g hg
    simp at this
    exact absurd hk this
  | some g' =>
    have h1 := List.find?_some e
    have h2 := List.mem_of_find?_eq_some e
    simp at h1
    rw [same_group nd h2 hg h1 hk]
theorem rm_out {gs : List (List Nat)} {k : Nat} (h : k ∉ gs.flatten) : rm gs k = k := by
  unfold rm
  rw [List.find?_eq_none.mpr fun g hg => by simp; exact fun z => h (List.mem_flatten.mpr ⟨g, hg, z⟩)]
theorem rm_next {gs : List (List Nat)} (nd : gs.flatten.Nodup) {g : List Nat} {i : Nat} (hg : gs[i]? = some g) (k : Nat) : rm (gs.take (i + 1)) k = if k ∈ g then g.headD k else rm (gs.take i) k := by
  have sub : ∀ j, (gs.take j).flatten.Nodup := fun j => by
    have := congrArg List.flatten (List.take_append_drop j gs)
    rw [List.flatten_append] at this
    rw [← this, List.nodup_append] at nd
    exact nd.1
  have hm : g ∈ gs.take (i + 1) := by rw [List.take_succ, hg]; simp
  by_cases h : k ∈ g
  · rw [if_pos h]; exact rm_in (sub _) hm h
  · rw [if_neg h]
    unfold rm
    rw [List.take_succ, hg, List.find?_append]
    have : List.find? (fun g => g.contains k) (some g).toList = none := by simp [h]
    rw [this, Option.or_none]
theorem roomsR_eq (n : Nat) (gs : List (List Nat)) : roomsR n gs = (List.range n).map (rm gs) := rfl
theorem rooms_len (n : Nat) (gs : List (List Nat)) : (roomsR n gs).length = n := by simp [roomsR_eq]
theorem rooms_get {n : Nat} {gs : List (List Nat)} {k : Nat} (h : k < n) : (roomsR n gs).getD k 0 = rm gs k := by
  rw [roomsR_eq, getD_lt (by simpa using h)]
  simp
theorem rooms_fits {n : Nat} {gs : List (List Nat)} (F : GOk n gs) : Fits n gs ((roomsR n gs).getD · 0) := by
  refine ⟨F.ne, F.lt, F.nd, fun p q hp hq => ?_⟩
  rw [rooms_get hp, rooms_get hq]
  have hh : ∀ g ∈ gs, ∀ k, g.headD k ∈ g := fun g hg k => by
    cases g with
    | nil => exact absurd rfl (F.ne _ hg)
    | cons a g => simp
  have hd : ∀ g ∈ gs, ∀ k k', g.headD k = g.headD k' := fun g hg k k' => by
    cases g with
    | nil => exact absurd rfl (F.ne _ hg)
    | cons a g => rfl
  by_cases h1 : p ∈ gs.flatten <;> by_cases h2 : q ∈ gs.flatten
  · obtain ⟨g, hg, hpg⟩ := List.mem_flatten.mp h1
    obtain ⟨g', hg', hqg⟩ := List.mem_flatten.mp h2
    rw [rm_in F.nd hg hpg, rm_in F.nd hg' hqg]
    constructor
    · intro e
      have := same_group F.nd hg hg' (hh g hg p) (by rw [e]; exact hh g' hg' q)
      subst this
      exact .inr ⟨g, hg, hpg, hqg⟩
    · rintro (rfl | ⟨k, hk, a, b⟩)
      · rw [same_group F.nd hg hg' hpg hqg]
      · rw [same_group F.nd hg hk hpg a, same_group F.nd hg' hk hqg b]
        exact hd k hk p q
  · obtain ⟨g, hg, hpg⟩ := List.mem_flatten.mp h1
    rw [rm_in F.nd hg hpg, rm_out h2]
    constructor
    · intro e
      exact absurd (List.mem_flatten.mpr ⟨g, hg, by rw [← e]; exact hh g hg p⟩) h2
    · rintro (rfl | ⟨k, hk, a, b⟩)
      · exact absurd h1 h2
      · exact absurd (List.mem_flatten.mpr ⟨k, hk, b⟩) h2
  · obtain ⟨g, hg, hqg⟩ := List.mem_flatten.mp h2
    rw [rm_in F.nd hg hqg, rm_out h1]
    constructor
    · intro e
      exact absurd (List.mem_flatten.mpr ⟨g, hg, by rw [e]; exact hh g hg q⟩) h1
    · rintro (rfl | ⟨k, hk, a, b⟩)
      · exact absurd h2 h1
      · exact absurd (List.mem_flatten.mpr ⟨k, hk, a⟩) h1
  · rw [rm_out h1, rm_out h2]
    constructor
    · exact .inl
    · rintro (rfl | ⟨k, hk, a, b⟩)
      · rfl
      · exact absurd (List.mem_flatten.mpr ⟨k, hk, a⟩) h1
/-- a list that holds a function's values -/
structure Hol (n : Nat) (f : Nat → Nat) (l : List Nat) : Prop where
  len : l.length = n
  at_ : ∀ k, k < n → l.getD k 0 = f k
theorem hol_set {n : Nat} {f g : Nat → Nat} {l : List Nat} (h : Hol n f l) {x v : Nat} (hx : x < n) (hg : ∀ k, g k = if k = x then v else f k) : Hol n g (l.set x v) := by
  refine ⟨by simp [h.len], fun k hk => ?_⟩
  rw [getD_set, hg k]
  by_cases e : x = k
  · rw [if_pos ⟨e, by rw [h.len]; exact hx⟩, if_pos e.symm]
  · rw [if_neg (fun z => e z.1), if_neg (fun z => e z.symm), h.at_ k hk]
theorem hol_eq {n : Nat} {f : Nat → Nat} {l : List Nat} (h : Hol n f l) : l = (List.range n).map f := by
  apply List.ext_getElem
  · simp [h.len]
  · intro i h1 h2
    have := h.at_ i (by rw [← h.len]; exact h1)
    rw [getD_lt h1] at this
    simp [this]
theorem cutL0 {α : Type} {l : List α} {i : Nat} (h : i ≤ l.length) : cutL l none (some (i : Int)) = l.take i := by
  unfold cutL HT.sIx
  have : ¬ ((i : Int) < 0) := by omega
  simp [this]
theorem atm1 {α : Type} {a : α} : atI [a] (-1) = some a := rfl
theorem atm2 {α : Type} {a b : α} : atI [a, b] (-1) = some b := rfl
theorem deq_nat {a b : Nat} : deq (nat a) (nat b) = decide (a = b) := by
  show decide ((a : Int) = b) = _
  by_cases h : a = b
  · simp [h]
  · simp [h]
theorem foldl_max_le {l : List Nat} {m : Nat} : ∀ {a : Nat}, a ≤ m → (∀ x ∈ l, x ≤ m) → l.foldl max a ≤ m := by
  induction l with
  | nil => intro a h _; exact h
  | cons b l ih =>
    intro a h hx
    rw [List.foldl_cons]
    have := hx b (List.mem_cons_self ..)
    exact ih (by omega) fun x h => hx x (List.mem_cons_of_mem _ h)
theorem maxL_zI {r : List Nat} (h : 0 < r.length) : maxL (zI r) = ((r.foldl max 0 : Nat) : Int) := by
  have hne : zI r ≠ [] := fun z => by simp [zI] at z; subst z; simp at h
  have hm := maxL_mem hne
  unfold zI at hm
  obtain ⟨x, hx, e⟩ := List.mem_map.mp hm
  have h1 : x ≤ r.foldl max 0 := le_foldl_max (.inl hx)
  have e : (x : Int) = maxL (zI r) := e
  have h2 : r.foldl max 0 ≤ x := by
    refine foldl_max_le (by omega) fun y hy => ?_
    have := maxL_ge (l := zI r) (x := (y : Int)) (List.mem_map.mpr ⟨y, hy, rfl⟩)
    omega
  omega
theorem fm_some {α : Type} {k : α → W} {f : W → Option D} {g : α → D} : ∀ {l : List α}, (∀ x ∈ l, f (k x) = some (g x)) → (l.map k).filterMap f = l.map g
  | [], _ => rfl
  | a :: l, h => by
    rw [List.map_cons, List.filterMap_cons, h a (List.mem_cons_self ..), List.map_cons, fm_some fun x hx => h x (List.mem_cons_of_mem _ hx)]
theorem wp_l_whole (h : S_l_whole ws μ P) : t_l_whole (xcOf μ.length P) (endsOf .d μ.length P) (ws.map some ++ List.replicate (6 - ws.length) none) μ := by
  obtain ⟨ds, rfl, hl, rfl, n, gs, rfl, hn, hG, hP⟩ := h
  have F := rooms_fits hG
  simp [-dSeq, t_l_whole]
  rw [dSeq]
  simp [-dSeq, lstsN]
  rw [dSeq, dFor_eq]
  simp [-dSeq]
  refine ⟨fun i ρ' μ' => (∃ a b c, ρ' = [some (.d (nat n)), some (.d _), some (.d (.lst (nats (gs.take i).flatten))), a, b, c]) ∧ μ' = [], ⟨⟨_, _, _, rfl⟩, rfl⟩, fun _ _ _ _ _ => trivial, fun i w ρ' μ' e h => ?_, fun ρ' μ' h => ?_⟩
  · obtain ⟨⟨a, b, c, rfl⟩, rfl⟩ := h
    simp at e
    obtain ⟨g, hg, rfl⟩ := e
    have hgm := List.mem_of_getElem? hg
    have ln : ((gs.take i).flatten ++ g).length ≤ 16777216 := by
      rw [flat_take hg]
      have e1 := congrArg (fun l => l.flatten.length) (List.take_append_drop (i + 1) gs)
      simp only [List.flatten_append, List.length_append] at e1
      have := (gok_small hG).1
      omega
    simp only [List.length_append] at ln
    simp [-List.length_flatten]
    exact ⟨ln, flat_take hg⟩
  · obtain ⟨⟨a, b, c, rfl⟩, rfl⟩ := h
    simp [-dSeq]
    rw [dSeq]
    simp [-dSeq]
    rw [dLc_eq]
    simp
    refine ⟨by omega, ?_⟩
    refine lc_fm (fun w => match w with
      | .d (.int p) => if gs.flatten.contains p.toNat then none else some (.tup [.int p])
      | _ => none) (fun _ => trivial) (by simp) (by simp [rng]; omega) (fun w hw acc K N hk => ?_) ?_
    · simp [rng] at hw
      obtain ⟨p, hp, rfl⟩ := hw
      simp [fIn, any_nats, okD_nat, okDs_nats] at hk ⊢
      by_cases h : ∃ l, l ∈ gs ∧ p ∈ l
      · rw [if_pos h] at hk
        rw [if_neg (fun z => by obtain ⟨l, h1, h2⟩ := h; exact z l h1 h2)]
        exact hk
      · rw [if_neg h] at hk
        rw [if_pos (fun l h1 h2 => h ⟨l, h1, h2⟩)]
        exact hk
    · rw [rng_fm (k := fun p => .tup (nats [p])) (c := fun p => !(gs.flatten.contains p)) (fun i hi => by
        by_cases hc : i ∈ gs.flatten <;> simp [hc, nats])]
      rw [if_neg Bool.false_ne_true]
      rw [dLc_eq]
      simp
      refine lc_fm (fun w => match w with
        | .d d => some (tints (sortI (decN d)))
        | _ => none) (fun _ => trivial) (by simp) (by simp; have := (gok_small hG).2.1; omega) (fun w hw acc K N hk => ?_) ?_
      · simp at hw
        obtain ⟨g, hg, rfl⟩ := hw
        simp only [decN_seq (.inl rfl : SeqN _ g)] at hk
        simp [fSortI]
        exact ⟨zI g, nats_zI g, by simpa [lints, tints] using hk⟩
      · rw [if_neg Bool.false_ne_true]
        have e : (List.filterMap (fun w => match w with
            | W.d d => some (tints (sortI (decN d)))
            | _ => none) (List.map (W.d ∘ fun g => D.lst (nats g)) gs)) = (gs.map fun g => zI (sortN g)).map tints := by
          rw [List.map_map]
          refine fm_some fun g _ => ?_
          have := decN_seq (.inl rfl : SeqN _ g)
          simp [this, sortI_zI]
        simp only [e]
        have k1 := (gok_small hG).2.1
        have k2 : (singles n gs).length ≤ n := by
          have := List.length_filter_le (fun p => !(gs.flatten.contains p)) (List.range n)
          rw [List.length_range] at this
          exact this
        have es : (List.filter (fun p => !decide (∃ l, l ∈ gs ∧ p ∈ l)) (List.range n)) = singles n gs := by
          unfold singles
          congr 1
          funext p
          simp
        rw [es]
        simp
        refine ⟨by omega, (gs.map fun g => zI (sortN g)) ++ (singles n gs).map fun p => zI [p], ?_, fun g hg => ?_, ?_⟩
        · simp only [List.map_append, List.map_map]
          have e1 : (tints ∘ fun p : Nat => zI [p]) = fun p => D.tup (nats [p]) := by funext p; exact tints_zI [p]
          rw [e1]
          rfl
        · rcases List.mem_append.mp hg with hg | hg
          · obtain ⟨g0, h0, rfl⟩ := List.mem_map.mp hg
            intro e
            have := (sortN_perm g0).length_eq
            simp [zI] at e
            rw [e] at this
            exact F.ne g0 h0 (List.eq_nil_of_length_eq_zero this.symm)
          · obtain ⟨p, _, rfl⟩ := List.mem_map.mp hg
            simp [zI]
        · have e2 : ((gs.map fun g => zI (sortN g)) ++ (singles n gs).map fun p => zI [p]) = _ := rfl
          rw [fits_sort F, List.map_map]
          have e1 : (tints ∘ zI) = fun g => D.tup (nats g) := by funext g; exact tints_zI g
          rw [e1]
          rw [canonL, rooms_len] at hP
          simpa [tupsN] using hP
mutual
theorem deq_self : ∀ (n : Nat) (d : D), okE TF n d = true → deq d d = true
  | _, .non, _ => by simp [deq]
  | _, .bl b, _ => by simp [deq]
  | _, .int i, _ => by simp [deq]
  | _, .str x, _ => by simp [deq]
  | n + 1, .tup ds, h => by simp only [okE] at h; simp only [deq]; exact deqs_self n ds h
  | n + 1, .lst ds, h => by simp only [okE] at h; simp only [deq]; exact deqs_self n ds h
  | n + 3, .obj c fs ds, h => by
    simp only [okE, Bool.and_eq_true] at h
    simp only [deq, beq_self_eq_true, Bool.true_and]
    exact deqs_self n ds h.2
  | 0, .tup ds, h => by simp [okE] at h
  | 0, .lst ds, h => by simp [okE] at h
  | 0, .obj c fs ds, h => by simp [okE] at h
  | 1, .obj c fs ds, h => by simp [okE] at h
  | 2, .obj c fs ds, h => by simp [okE] at h
  | n, .dic ks ds, h => by
    match n, h with
    | 0, h => simp [okE] at h
    | 1, h => simp [okE] at h
    | 2, h => simp [okE] at h
    | n + 3, h => simp [okE] at h
theorem deqs_self : ∀ (n : Nat) (ds : List D), okEs TF n ds = true → deqs ds ds = true
  | _, [], _ => by simp [deqs]
  | n, d :: ds, h => by
    simp only [okEs, Bool.and_eq_true] at h
    simp only [deqs, Bool.and_eq_true]
    exact ⟨deq_self n d h.1, deqs_self n ds h.2⟩
end
theorem ok_tups (j : Nat) (gs : List (List Nat)) : okE TF (j + 2) (tupsN gs) = true := by
  unfold tupsN
  simp only [okE, okEs_all, List.all_eq_true]
  intro d hd
  obtain ⟨g, _, rfl⟩ := List.mem_map.mp hd
  simp only [okE, okEs_all, List.all_eq_true]
  intro d hd
  obtain ⟨p, _, rfl⟩ := List.mem_map.mp hd
  unfold okE
  rfl
theorem ok_div (n : Nat) (gs : List (List Nat)) : okE TF 12 (divD n gs) = true := by
  simp [divD, okE, okEs, TF, ok_tups]
theorem deq_tups (gs : List (List Nat)) : deq (tupsN gs) (tupsN gs) = true := deq_self 12 _ (ok_tups 10 gs)
theorem deq_div (n : Nat) (gs : List (List Nat)) : deq (divD n gs) (divD n gs) = true := deq_self 12 _ (ok_div n gs)
section
variable {mu : Bool} {g : DTG} {tt : DTT} {te : DTE} {vs : List Nat} {ρ : R}
theorem lc_map {α : Type} {s : Src} (l : List α) (kk : α → W) (gg : α → D) (he : s.items = l.map kk) (hok : ∀ acc, s.ok (μ ++ [.lst acc])) (hc : closedB μ.length μ = true) (hz : l.length ≤ sizeLine)
    (hstep : ∀ x ∈ l, ∀ acc (K : D → M → Prop) (N : M → Prop), K (gg x) (μ ++ [.lst acc]) → g (kk x) (wipeR ρ vs) (μ ++ [.lst acc]) fun ρ2 μ2 => tt ρ2 μ2 fun c μ3 => lcE te K N ρ2 c μ3)
    (hQ : if mu then Q (.r μ.length) (μ ++ [.lst (l.map gg)]) else Q (.d (.lst (l.map gg))) μ) : lcB mu s g tt te vs ρ μ Q := by
  refine ⟨fun i acc μ' => μ' = μ ∧ acc = (l.take i).map gg, ⟨rfl, by simp⟩, fun i acc μ' _ h => by rw [h.1]; exact hok acc, fun i w acc μ' e h => ?_, fun acc μ' h => ?_⟩
  · obtain ⟨rfl, rfl⟩ := h
    rw [he, List.getElem?_map] at e
    cases hx : l[i]? with
    | none => rw [hx] at e; cases e
    | some x =>
      rw [hx] at e
      cases e
      have hi := (List.getElem?_eq_some_iff.mp hx).1
      refine ⟨?_, hstep x (List.mem_of_getElem? hx) _ (fun d' μ5 => closeL μ'.length ((l.take i).map gg) μ5 ∧ μ5.dropLast = μ' ∧ (l.take i).map gg ++ [d'] = (l.take (i + 1)).map gg) (fun μ3 => closeL μ'.length ((l.take i).map gg) μ3 ∧ μ3.dropLast = μ' ∧ (l.take i).map gg = (l.take (i + 1)).map gg) ?_⟩
      · rw [List.length_map, List.length_take]
        omega
      · rw [List.take_succ, hx]
        exact ⟨closeL_app.mpr ⟨rfl, rfl, hc⟩, by simp, by simp⟩
  · obtain ⟨rfl, rfl⟩ := h
    rw [he, List.length_map, List.take_length]
    exact hQ
theorem lc_srcE {s : Src} {pre : M} {a b c : Int} (good : Nat → D → Prop) (hc : closedB (pre.length + 1) pre = true) (hz : s.items.length ≤ sizeLine) (hok : ∀ μ, s.ok μ)
    (hstep : ∀ i w, s.items[i]? = some w → ∀ a b c acc (K : D → M → Prop) (N : M → Prop), (∀ d a' b' c', good i d → K d (pre ++ [.lst (src a' b' c'), .lst acc])) →
      g w (wipeR ρ vs) (pre ++ [.lst (src a b c), .lst acc]) fun ρ2 μ2 => tt ρ2 μ2 fun c μ3 => lcE te K N ρ2 c μ3)
    (hQ : ∀ ds a b c, ds.length = s.items.length → (∀ i d, ds[i]? = some d → good i d) → if mu then Q (.r (pre.length + 1)) (pre ++ [.lst (src a b c), .lst ds]) else Q (.d (.lst ds)) (pre ++ [.lst (src a b c)])) :
    lcB mu s g tt te vs ρ (pre ++ [.lst (src a b c)]) Q := by
  have ln : ∀ a b c : Int, (pre ++ [Cell.lst (src a b c)]).length = pre.length + 1 := fun a b c => by simp
  have sp : ∀ (a b c : Int) (acc : List D), pre ++ [Cell.lst (src a b c), .lst acc] = (pre ++ [.lst (src a b c)]) ++ [.lst acc] := fun a b c acc => by simp
  refine ⟨fun i acc μ' => (∃ a b c, μ' = pre ++ [.lst (src a b c)]) ∧ acc.length = i ∧ ∀ j d, acc[j]? = some d → good j d, ⟨⟨a, b, c, rfl⟩, rfl, fun j d h => by simp at h⟩, fun i acc μ' _ h => hok _, fun i w acc μ' e h => ?_, fun acc μ' h => ?_⟩
  · obtain ⟨⟨a, b, c, rfl⟩, rfl, hg⟩ := h
    have hi := (List.getElem?_eq_some_iff.mp e).1
    refine ⟨by omega, ?_⟩
    have := hstep _ w e a b c acc (fun d' μ5 => closeL (pre ++ [Cell.lst (src a b c)]).length acc μ5 ∧ (∃ a b c, μ5.dropLast = pre ++ [.lst (src a b c)]) ∧ (acc ++ [d']).length = acc.length + 1 ∧ ∀ j d, (acc ++ [d'])[j]? = some d → good j d)
      (fun μ3 => closeL (pre ++ [Cell.lst (src a b c)]).length acc μ3 ∧ (∃ a b c, μ3.dropLast = pre ++ [.lst (src a b c)]) ∧ acc.length = acc.length + 1 ∧ ∀ j d, acc[j]? = some d → good j d) fun d a' b' c' hd => ?_
    · rw [sp] at this
      exact this
    rw [sp]
    refine ⟨closeL_app.mpr ⟨by simp, rfl, by rw [ln]; unfold closedB at hc ⊢; rw [List.all_append, hc]; rfl⟩, ⟨a', b', c', by rw [List.dropLast_concat]⟩, by simp, fun j x hj => ?_⟩
    by_cases hlt : j < acc.length
    · rw [List.getElem?_append_left hlt] at hj
      exact hg j x hj
    · have : j = acc.length := by
        have := (List.getElem?_eq_some_iff.mp hj).1
        simp at this
        omega
      subst this
      simp at hj
      subst hj
      exact hd
  · obtain ⟨⟨a, b, c, rfl⟩, hl, hg⟩ := h
    have := hQ acc a b c hl hg
    rw [sp] at this
    rw [ln]
    exact this
end
theorem okD_tups (j : Nat) (gs : List (List Nat)) : okD (j + 2) (tupsN gs) = true := by
  unfold tupsN
  simp only [okD, okDs_all, List.all_eq_true]
  intro d hd
  obtain ⟨g, _, rfl⟩ := List.mem_map.mp hd
  simp only [okD]
  exact okDs_nats g
end
end DD
namespace DD
open PySem L2 RZ
section
variable {n : Nat} {r : Nat → Nat}
def firsts (r : Nat → Nat) (i : Nat) : List Nat := (List.range i).filter (isFirst r)
theorem mem_firsts {i p : Nat} : p ∈ firsts r i ↔ p < i ∧ isFirst r p = true := by simp [firsts]
theorem firsts_map (n : Nat) (r : Nat → Nat) : (firsts r n).map (clsF n r) = canonF n r := by
  rw [canonF_eq]
  unfold firsts
  generalize List.range n = l
  induction l with
  | nil => rfl
  | cons a l ih => by_cases h : isFirst r a = true <;> simp [h, ih]
theorem first_inj {p q : Nat} (hp : isFirst r p = true) (hq : isFirst r q = true) (e : r p = r q) : p = q := by
  rcases Nat.lt_trichotomy p q with h | h | h
  · exact absurd e (first_iff.mp hq p h)
  · exact h
  · exact absurd e.symm (first_iff.mp hp q h)
theorem fits_canon (n : Nat) (r : Nat → Nat) : Fits n (canonF n r) r := by
  refine ⟨fun g hg => ?_, fun g hg i hi => ?_, ?_, fun p q hp hq => ⟨fun e => ?_, fun h => ?_⟩⟩
  · obtain ⟨p, h1, h2, rfl⟩ := mem_canon.mp hg
    obtain ⟨t, e⟩ := cls_cons h1 h2
    rw [e]
    simp
  · obtain ⟨p, h1, h2, rfl⟩ := mem_canon.mp hg
    exact (mem_cls.mp hi).1
  · rw [← firsts_map]
    have nd : (firsts r n).Nodup := List.nodup_range.filter _
    have hf : ∀ p ∈ firsts r n, isFirst r p = true := fun p hp => (mem_firsts.mp hp).2
    generalize firsts r n = l at nd hf
    induction l with
    | nil => simp
    | cons a l ih =>
      obtain ⟨n1, n2⟩ := List.nodup_cons.mp nd
      rw [List.map_cons, List.flatten_cons, List.nodup_append]
      refine ⟨nodup_of_lt cls_sorted, ih n2 fun p hp => hf p (List.mem_cons_of_mem _ hp), fun x hx y hy e => ?_⟩
      subst e
      obtain ⟨g, hg, hx2⟩ := List.mem_flatten.mp hy
      obtain ⟨b, hb, rfl⟩ := List.mem_map.mp hg
      have e1 := (mem_cls.mp hx).2
      have e2 := (mem_cls.mp hx2).2
      have := first_inj (hf a (List.mem_cons_self ..)) (hf b (List.mem_cons_of_mem _ hb)) (e1.symm.trans e2)
      subst this
      exact n1 hb
  · obtain ⟨f, h1, h2, h3⟩ := first_ex (r := r) p
    exact .inr ⟨clsF n r f, mem_canon.mpr ⟨f, by omega, h3, rfl⟩, mem_cls.mpr ⟨hp, h2.symm⟩, mem_cls.mpr ⟨hq, by omega⟩⟩
  · rcases h with rfl | ⟨g, hg, h1, h2⟩
    · rfl
    · obtain ⟨f, _, _, rfl⟩ := mem_canon.mp hg
      have := (mem_cls.mp h1).2
      have := (mem_cls.mp h2).2
      omega
theorem canon_any {n : Nat} {r : Nat → Nat} {p q : Nat} (hp : p < n) (hq : q < n) : ((canonF n r).any fun g => g.contains p && g.contains q) = decide (r p = r q) := by
  rw [Bool.eq_iff_iff, decide_eq_true_iff, List.any_eq_true]
  constructor
  · rintro ⟨g, hg, h⟩
    simp at h
    exact ((fits_canon n r).eq p q hp hq).mpr (.inr ⟨g, hg, h.1, h.2⟩)
  · intro e
    obtain ⟨x, h1, h2, h3⟩ := first_ex (r := r) p
    exact ⟨clsF n r x, mem_canon.mpr ⟨x, by omega, h3, rfl⟩, by simp [mem_cls, hp, hq, h2, e]⟩
theorem bls_map : ∀ l : List Bool, bls (l.map D.bl) = some l
  | [] => rfl
  | b :: l => by simp [bls, bls_map l]
end
section
theorem deqs_natsE (l m : List Nat) : deqs (nats l) (nats m) = decide (l = m) := by
  induction l generalizing m with
  | nil => cases m <;> simp [nats, deqs]
  | cons x l ih =>
    cases m with
    | nil => simp [nats, deqs]
    | cons y m =>
      have := ih m
      simp only [nats_cons, deqs]
      rw [show deq (nat x) (nat y) = decide (x = y) from deq_nat, this]
      by_cases e1 : x = y <;> by_cases e2 : l = m <;> simp [e1, e2]
theorem deqs_map {α : Type} {f : α → D} (h : ∀ x y, deq (f x) (f y) = true ↔ x = y) : ∀ l m : List α, deqs (l.map f) (m.map f) = true ↔ l = m
  | [], [] => by simp [deqs]
  | [], y :: m => by simp [deqs]
  | x :: l, [] => by simp [deqs]
  | x :: l, y :: m => by
    simp only [List.map_cons, deqs, Bool.and_eq_true, h, deqs_map h l m, List.cons.injEq]
theorem deq_tupsE (G H : List (List Nat)) : deq (tupsN G) (tupsN H) = decide (G = H) := by
  rw [Bool.eq_iff_iff, decide_eq_true_iff]
  unfold tupsN
  rw [deq]
  exact deqs_map (fun x y => by rw [deq, deqs_natsE]; simp) G H
theorem perms_mem {T Gs : List (List Nat)} (hl : T.length = Gs.length) (h : ∀ (i : Nat) (g t : List Nat), Gs[i]? = some g → T[i]? = some t → t.Perm g) : (∀ t ∈ T, ∃ g ∈ Gs, t.Perm g) ∧ (∀ g ∈ Gs, ∃ t ∈ T, t.Perm g) := by
  constructor
  · intro t ht
    obtain ⟨i, hi, rfl⟩ := List.getElem_of_mem ht
    exact ⟨Gs[i]'(by omega), List.getElem_mem _, h i _ _ (List.getElem?_eq_getElem (by omega)) (List.getElem?_eq_getElem hi)⟩
  · intro g hg
    obtain ⟨i, hi, rfl⟩ := List.getElem_of_mem hg
    exact ⟨T[i]'(by omega), List.getElem_mem _, h i _ _ (List.getElem?_eq_getElem hi) (List.getElem?_eq_getElem (by omega))⟩
theorem perms_flat : ∀ {T Gs : List (List Nat)}, T.length = Gs.length → (∀ (i : Nat) (g t : List Nat), Gs[i]? = some g → T[i]? = some t → t.Perm g) → T.flatten.Perm Gs.flatten
  | [], [], _, _ => .refl _
  | t :: T, g :: Gs, hl, h => by
    rw [List.flatten_cons, List.flatten_cons]
    exact (h 0 g t rfl rfl).append (perms_flat (by simpa using hl) fun i g t h1 h2 => h (i + 1) g t (by simpa using h1) (by simpa using h2))
  | [], _ :: _, hl, _ => by simp at hl
  | _ :: _, [], hl, _ => by simp at hl
theorem fits_perms {n : Nat} {r : Nat → Nat} {G Gs T : List (List Nat)} (F : Fits n G r) (hG : Gs.Perm G) (hl : T.length = Gs.length) (h : ∀ (i : Nat) (g t : List Nat), Gs[i]? = some g → T[i]? = some t → t.Perm g) : Fits n T r := by
  obtain ⟨m1, m2⟩ := perms_mem hl h
  have a : ∀ t ∈ T, ∃ g ∈ G, t.Perm g := fun t ht => by
    obtain ⟨g, hg, p⟩ := m1 t ht
    exact ⟨g, hG.mem_iff.mp hg, p⟩
  have b : ∀ g ∈ G, ∃ t ∈ T, t.Perm g := fun g hg => m2 g (hG.mem_iff.mpr hg)
  refine ⟨fun t ht e => ?_, fun t ht i hi => ?_, ?_, fun p q hp hq => ?_⟩
  · obtain ⟨g, hg, z⟩ := a t ht
    subst e
    exact F.ne g hg (List.nil_perm.mp z)
  · obtain ⟨g, hg, z⟩ := a t ht
    exact F.lt g hg i (z.mem_iff.mp hi)
  · exact ((perms_flat hl h).trans hG.flatten).nodup_iff.mpr F.nd
  · rw [F.eq p q hp hq]
    constructor
    · rintro (h | ⟨g, hg, h1, h2⟩)
      · exact .inl h
      · obtain ⟨t, ht, z⟩ := b g hg
        exact .inr ⟨t, ht, z.mem_iff.mpr h1, z.mem_iff.mpr h2⟩
    · rintro (h | ⟨t, ht, h1, h2⟩)
      · exact .inl h
      · obtain ⟨g, hg, z⟩ := a t ht
        exact .inr ⟨g, hg, z.mem_iff.mp h1, z.mem_iff.mp h2⟩
theorem canon_id (n : Nat) : canonF n id = (List.range n).map fun k => [k] := by
  rw [canonF_eq, ← List.filterMap_eq_map]
  refine fm_congr fun p hp => ?_
  have hf : isFirst id p = true := first_iff.mpr fun q hq => by simp; omega
  rw [if_pos hf]
  congr 1
  apply List.Perm.eq_of_pairwise (le := fun a b : Nat => a < b) (fun a b _ _ h1 h2 => by omega)
  · exact cls_sorted
  · simp
  · refine (List.perm_ext_iff_of_nodup (nodup_of_lt cls_sorted) (by simp)).mpr fun q => ?_
    rw [mem_cls]
    have := List.mem_range.mp hp
    simp
    omega
theorem canon_alone {n : Nat} {r : Nat → Nat} : (canonF n id = canonF n r) ↔ (canonF n r).length = n := by
  constructor
  · intro e
    rw [← e, canon_id]
    simp
  · intro e
    refine canonF_congr fun p q hp hq => ?_
    have hl : (firsts r n).length = n := by
      have := congrArg List.length (firsts_map (n := n) (r := r))
      rw [List.length_map] at this
      omega
    have all : ∀ p, p < n → isFirst r p = true := fun p hp => by
      have : (List.range n).filter (isFirst r) = List.range n := by
        apply List.filter_eq_self.mpr
        intro a ha
        have h2 : ((List.range n).filter (isFirst r)).length = (List.range n).length := by
          rw [List.length_range]
          exact hl
        exact (List.length_filter_eq_length_iff.mp h2) a ha
      have hm : p ∈ (List.range n).filter (isFirst r) := by rw [this]; exact List.mem_range.mpr hp
      exact (List.mem_filter.mp hm).2
    constructor
    · intro z
      rw [show p = q from z]
    · intro z
      exact first_inj (all p hp) (all q hq) z
end
section
theorem textFrom_le {M : Nat} : ∀ (ts : List Str) (k : Nat) (acc : Str), (∀ t ∈ ts, t.length ≤ M) → (textFrom k acc ts).length ≤ acc.length + ts.length * (M + 2)
  | [], k, acc, _ => by unfold textFrom; simp
  | t :: ts, k, acc, h => by
    unfold textFrom
    have h1 := textFrom_le ts (k + 1) (acc ++ (if k > 0 then ", " else "" : String) ++ t) fun t ht => h t (List.mem_cons_of_mem _ ht)
    have h2 := h t (List.mem_cons_self ..)
    have h3 : (acc ++ ((if k > 0 then ", " else "" : String) : Str) ++ t).length ≤ acc.length + 2 + t.length := by
      rw [Str.length_append, Str.length_append]
      split
      · exact Nat.le_refl _
      · show acc.length + 0 + t.length ≤ _
        omega
    rw [List.length_cons, Nat.add_mul]
    omega
theorem listText_le {M : Nat} {ts : List Str} (h : ∀ t ∈ ts, t.length ≤ M) : (listText ts).length ≤ ts.length * (M + 2) + 2 := by
  have := textFrom_le ts 0 "[" h
  unfold listText
  rw [Str.length_append]
  have e1 : (("[" : String) : Str).length = 1 := rfl
  have e2 : (("]" : String) : Str).length = 1 := rfl
  omega
theorem shownAll_len : ∀ ps : List PyData, (PyData.shownAll ps).length = ps.length
  | [] => rfl
  | p :: ps => by simp [PyData.shownAll, shownAll_len ps]
theorem shownAll_mem : ∀ {ps : List PyData} {t : Str}, t ∈ PyData.shownAll ps → ∃ p ∈ ps, t = p.shown
  | p :: ps, t, h => by
    simp only [PyData.shownAll, List.mem_cons] at h
    rcases h with rfl | h
    · exact ⟨p, List.mem_cons_self .., rfl⟩
    · obtain ⟨q, h1, h2⟩ := shownAll_mem h
      exact ⟨q, List.mem_cons_of_mem _ h1, h2⟩
theorem shown_nat {i : Nat} (h : i < 100) : (PyData.shown (.int (i : Int))).length ≤ 2 := by
  have : ∀ i : Fin 100, (PyData.shown (.int ((i : Nat) : Int))).length ≤ 2 := by decide +kernel
  exact this ⟨i, h⟩
theorem showable_all : ∀ {ps : List PyData}, (∀ p ∈ ps, p.showable = true) → PyData.showableAll ps = true
  | [], _ => rfl
  | p :: ps, h => by simp [PyData.showableAll, h p (List.mem_cons_self ..), showable_all fun q hq => h q (List.mem_cons_of_mem _ hq)]
theorem noDict_all : ∀ {ps : List PyData}, (∀ p ∈ ps, p.hasDict = false) → PyData.hasDictAll ps = false
  | [], _ => rfl
  | p :: ps, h => by simp [PyData.hasDictAll, h p (List.mem_cons_self ..), noDict_all fun q hq => h q (List.mem_cons_of_mem _ hq)]
def toPN (g : List Nat) : PyData := .list (g.map fun i : Nat => .int (i : Int))
theorem toPs_lsts : ∀ gs : List (List Nat), toPs (gs.map fun g => D.lst (nats g)) = some (gs.map toPN)
  | [] => rfl
  | g :: gs => by simp [toPs, toP, toPs_nats, toPs_lsts gs, toPN]
/-- repr of lists of small numbers -/
theorem show_lsts {gs : List (List Nat)} {q : D → Prop} (h1 : gs.length ≤ 100) (h2 : ∀ g ∈ gs, g.length ≤ 100) (h3 : ∀ g ∈ gs, ∀ i ∈ g, i < 100) (hq : q (.str (PyData.list (gs.map toPN)).shown)) : fShow [.lst (gs.map fun g => D.lst (nats g))] q := by
  refine ⟨_, _, rfl, toPs_lsts gs, ?_, ?_, ?_, ?_, hq⟩
  · rw [okDs_all]
    refine List.all_eq_true.mpr fun x hx => ?_
    obtain ⟨g, _, rfl⟩ := List.mem_map.mp hx
    exact okDs_nats g
  · refine noDict_all fun p hp => ?_
    obtain ⟨g, _, rfl⟩ := List.mem_map.mp hp
    refine noDict_all fun p hp => ?_
    obtain ⟨i, _, rfl⟩ := List.mem_map.mp hp
    rfl
  · refine showable_all fun p hp => ?_
    obtain ⟨g, hg, rfl⟩ := List.mem_map.mp hp
    refine showable_all fun p hp => ?_
    obtain ⟨i, hi, rfl⟩ := List.mem_map.mp hp
    have := h3 g hg i hi
    have hb : ∀ i : Fin 100, (PyData.int ((i : Nat) : Int)).showable = true := by decide +kernel
    exact hb ⟨i, this⟩
  · have b1 : ∀ g ∈ gs, (toPN g).shown.length ≤ 402 := fun g hg => by
      have := listText_le (M := 2) (ts := PyData.shownAll (g.map fun i : Nat => .int (i : Int))) fun t ht => by
        obtain ⟨p, hp, rfl⟩ := shownAll_mem ht
        obtain ⟨i, hi, rfl⟩ := List.mem_map.mp hp
        exact shown_nat (h3 g hg i hi)
      rw [shownAll_len, List.length_map] at this
      have hl := h2 g hg
      show (listText _).length ≤ 402
      omega
    have := listText_le (M := 402) (ts := PyData.shownAll (gs.map toPN)) fun t ht => by
      obtain ⟨p, hp, rfl⟩ := shownAll_mem ht
      obtain ⟨g, hg, rfl⟩ := List.mem_map.mp hp
      exact b1 g hg
    rw [shownAll_len, List.length_map] at this
    show (listText _).length ≤ sizeLine
    rw [sizeLine_s]
    omega
end
section
variable {ws : List W} {μ : M} {P : Res → M → Prop} {Q : W → M → Prop} {xc : Exc → M → Prop}
theorem fits_id (n : Nat) : Fits n [] id := ⟨by simp, by simp, by simp, fun p q _ _ => by simp⟩
theorem wp_alone (h : S_alone ws μ P) : t_alone (xcOf μ.length P) (endsOf .d μ.length P) (ws.map some ++ List.replicate (1 - ws.length) none) μ := by
  obtain ⟨ds, rfl, hl, rfl, n, rfl, hn, hP⟩ := h
  simp [t_alone, F_Division]
  exact ⟨n, _, ⟨rfl, rfl⟩, [], ⟨[], .inl rfl, trivial⟩, hn, id, fits_id n, hP⟩
theorem wp_together (h : S_together ws μ P) : t_together (xcOf μ.length P) (endsOf .d μ.length P) (ws.map some ++ List.replicate (4 - ws.length) none) μ := by
  obtain ⟨ds, rfl, hl, rfl, n, r, a, b, rfl, hn, ha, hb, hP⟩ := h
  simp [-dSeq, t_together, divD]
  rw [dSeq]
  simp [-dSeq, F_check_person, ha]
  rw [dSeq]
  simp [-dSeq, F_check_person, hb]
  simp [dLc_eq, List.lookup, tupsN]
  have hf : ∀ g : List Nat, (nats g).all flatD = true := fun g => List.all_eq_true.mpr fun x hx => by
    obtain ⟨y, _, rfl⟩ := List.mem_map.mp hx
    rfl
  have cl : (canonF n r).length ≤ n := (fits_small (fits_canon n r)).2
  refine lc_map (canonF n r) (W.d ∘ fun g => D.tup (nats g)) (fun g => .bl (g.contains a && g.contains b)) rfl (fun _ => trivial) (by simp [closedB]) (by have : sizeLine = 16777216 := rfl; omega) (fun g hg acc K N hK => ?_) ?_
  · have fa : flatD (nat a) = true := rfl
    have fb : flatD (nat b) = true := rfl
    simp [fIn, any_nats, hf] at hK ⊢
    by_cases q : a ∈ g <;> simpa [q, fa, fb] using hK
  · rw [if_neg Bool.false_ne_true]
    have e := canon_any (r := r) ha hb
    have eb : bls ((canonF n r).map fun g => D.bl (g.contains a && g.contains b)) = some ((canonF n r).map fun g => g.contains a && g.contains b) := by
      have := bls_map ((canonF n r).map fun g => g.contains a && g.contains b)
      rwa [List.map_map] at this
    show fBl (fun bs => bs.any id) [.lst ((canonF n r).map fun g => D.bl (g.contains a && g.contains b))] fun z => P (Res.ret (W.d z)) []
    simp only [fBl, eb, List.any_map]
    have e2 : ((canonF n r).any (id ∘ fun g => g.contains a && g.contains b)) = decide (r a = r b) := e
    rw [e2]
    exact hP
theorem wp_l_together_right (h : S_l_together_right ws μ P) : t_l_together_right (xcOf μ.length P) (endsOf .d μ.length P) (ws.map some ++ List.replicate (7 - ws.length) none) μ := by
  obtain ⟨ds, rfl, hl, rfl, n, r, rfl, hn, hP⟩ := h
  have hf : ∀ g : List Nat, (nats g).all flatD = true := fun g => List.all_eq_true.mpr fun x hx => by
    obtain ⟨y, _, rfl⟩ := List.mem_map.mp hx
    rfl
  have cl : (canonF n r).length ≤ n := (fits_small (fits_canon n r)).2
  have rng_at : ∀ {m i : Nat} {w : W}, (rng 0 m)[i]? = some w → ∃ k : Nat, k < m ∧ w = .d (.int (k : Int)) := fun {m i w} h => by
    have := List.mem_of_getElem? h
    simp [rng] at this
    obtain ⟨k, h1, h2⟩ := this
    exact ⟨k, h1, h2.symm⟩
  simp [-dSeq, t_l_together_right]
  rw [dSeq, dFor_eq]
  simp [-dSeq]
  refine ⟨by omega, ?_⟩
  refine ⟨fun i ρ' μ' => (∃ a b c d, ρ' = [some (.d (divD n (canonF n r))), some (.d (nat n)), some (.d (tupsN (canonF n r))), a, b, c, d]) ∧ μ' = [], ⟨⟨_, _, _, _, rfl⟩, rfl⟩, fun _ _ _ _ _ => trivial, fun i w ρ' μ' e h => ?_, fun ρ' μ' h => ?_⟩
  · obtain ⟨⟨a, b, c, d, rfl⟩, rfl⟩ := h
    obtain ⟨k, hk, rfl⟩ := rng_at e
    simp [-dSeq]
    rw [dFor_eq]
    simp [-dSeq]
    refine ⟨by omega, ?_⟩
    refine ⟨fun i ρ' μ' => (∃ b c d, ρ' = [some (.d (divD n (canonF n r))), some (.d (nat n)), some (.d (tupsN (canonF n r))), some (.d (.int (k : Int))), b, c, d]) ∧ μ' = [], ⟨⟨_, _, _, rfl⟩, rfl⟩, fun _ _ _ _ _ => trivial, fun i w ρ' μ' e h => ?_, fun ρ' μ' h => ?_⟩
    · obtain ⟨⟨b, c, d, rfl⟩, rfl⟩ := h
      obtain ⟨j, hj, rfl⟩ := rng_at e
      simp [-dSeq]
      rw [dSeq]
      simp [-dSeq, dLc_eq, tupsN]
      refine lc_fm (fun w => match w with
        | .d (.tup ds) => if (decN (.tup ds)).contains (k : Int) && (decN (.tup ds)).contains (j : Int) then some (.tup ds) else none
        | _ => none) (fun _ => trivial) (by simp) (by simp; omega) (fun w hw acc K N hk => ?_) ?_
      · simp at hw
        obtain ⟨g, hg, rfl⟩ := hw
        have e := decN_seq (x := .tup (nats g)) (.inr rfl)
        have ec : ∀ j : Nat, (zI g).contains (j : Int) = g.contains j := fun j => by simp [zI]
        simp only [e, ec] at hk
        have fk : flatD (nat k) = true := rfl
        have fj : flatD (nat j) = true := rfl
        simp [fIn, any_nats, hf] at hk ⊢
        by_cases q : k ∈ g <;> by_cases q2 : j ∈ g <;> simpa [q, q2, fk, fj] using hk
      · rw [if_neg Bool.false_ne_true]
        have ec : ∀ (g : List Nat) (j : Nat), (decN (.tup (nats g))).contains (j : Int) = g.contains j := fun g j => by
          rw [decN_seq (x := .tup (nats g)) (.inr rfl)]
          simp [zI]
        have e1 : (List.filterMap (fun w => match w with
            | W.d (D.tup ds) => if (decN (D.tup ds)).contains (k : Int) && (decN (D.tup ds)).contains (j : Int) then some (D.tup ds) else none
            | _ => none) (List.map (W.d ∘ fun g => D.tup (nats g)) (canonF n r))) = ((canonF n r).filter fun g => g.contains k && g.contains j).map fun g => .tup (nats g) := by
          rw [List.filterMap_map, ← List.filterMap_eq_map, ← List.filterMap_eq_filter, List.filterMap_filterMap]
          refine fm_congr fun g _ => ?_
          simp only [Function.comp_apply, ec]
          by_cases hc : (g.contains k && g.contains j) = true
          · simp only [hc, if_true, Option.guard, Option.bind_some]
            rfl
          · simp only [hc, Bool.false_eq_true, if_false, Option.guard, Option.bind_none]
        simp only [e1]
        have e2 : (((canonF n r).filter fun g => g.contains k && g.contains j) = []) ↔ ¬ r k = r j := by
          have := canon_any (r := r) hk hj
          rw [List.filter_eq_nil_iff]
          rw [Bool.eq_iff_iff, List.any_eq_true, decide_eq_true_iff] at this
          constructor
          · intro h e
            obtain ⟨g, h1, h2⟩ := this.mpr e
            exact h g h1 h2
          · intro h g hg hc
            exact h (this.mp ⟨g, hg, hc⟩)
        have okl : okD 60 (.lst (((canonF n r).filter fun g => g.contains k && g.contains j).map fun g => D.tup (nats g))) = true := by
          simp only [okD, okDs_all, List.all_eq_true]
          intro d hd
          obtain ⟨g, _, rfl⟩ := List.mem_map.mp hd
          simp only [okD]
          exact okDs_nats g
        have dq : (!deq (.lst (((canonF n r).filter fun g => g.contains k && g.contains j).map fun g => D.tup (nats g))) (.lst [])) = decide (r k = r j) := by
          by_cases q : r k = r j
          · have : ¬ ((canonF n r).filter fun g => g.contains k && g.contains j) = [] := fun z => e2.mp z q
            cases hc : (canonF n r).filter fun g => g.contains k && g.contains j with
            | nil => exact absurd hc this
            | cons g gs => simp [deq, deqs, q]
          · rw [e2.mpr q]
            simp [deq, deqs, q]
        have okn : okD 60 (.lst []) = true := rfl
        refine ⟨okl, okn, n, r, k, j, rfl, hn.2, hk, hj, ?_⟩
        rw [dq]
        have oka : ∀ b : Bool, okD 60 (.bl b) = true := fun b => rfl
        refine ⟨oka _, oka _, ?_⟩
        have dd : (!deq (.bl (decide (r k = r j))) (.bl (decide (r k = r j)))) = false := by simp [deq]
        rw [dd]
        dsimp only
        rw [if_neg Bool.false_ne_true]
        refine ⟨n, r, k, j, rfl, hn.2, hk, hj, ?_⟩
        simp
    · obtain ⟨⟨b, c, d, rfl⟩, rfl⟩ := h
      simp
  · obtain ⟨⟨a, b, c, d, rfl⟩, rfl⟩ := h
    simpa using hP
end
section
variable {ws : List W} {μ : M} {P : Res → M → Prop} {Q : W → M → Prop} {xc : Exc → M → Prop}
/-- the groups, lent -/
def lentM (a b c : Int) (gs : List (List Nat)) : M := .lst (src a b c) :: .frz (lstsN gs) :: gs.map fun g => .frz (.lst (nats g))
def liveM (a b c : Int) (gs : List (List Nat)) : M := .lst (src a b c) :: .lstW (refsM gs.length) :: rowsM gs
theorem lend_rows {gs : List (List Nat)} {a b c : Int} {t : DTE} {ρ : R} (h2 : ρ[2]? = some (some (.r 1))) (ht : t (ρ.set 2 (some (.d (lstsN gs)))) (lentM a b c gs) fun z μ2 => μ2 = lentM a b c gs ∧ ∃ d', z = .d d' ∧ noL d' = true ∧ Q (.d d') (liveM a b c gs)) : dLend 2 t ρ (liveM a b c gs) Q := by
  refine ⟨.r 1, lstsN gs, lentM a b c gs, h2, ?_, ⟨⟨rfl, rfl⟩, trivial, ?_⟩, ht⟩
  · have e0 := escs0_rows gs [.lst (src a b c), .lstW (refsM gs.length)] 2 rfl
    have e1 : liveM a b c gs = [.lst (src a b c), .lstW (refsM gs.length)] ++ rowsM gs := rfl
    have e2 : escs0 (liveM a b c gs) (refsM gs.length) = some (gs.map fun g => .lst (nats g), [.lst (src a b c), .lstW (refsM gs.length)] ++ gs.map fun g => .frz (.lst (nats g))) := e1 ▸ e0
    have e3 : (liveM a b c gs)[1]? = some (.lstW (refsM gs.length)) := rfl
    simp [esc, e3, e2, lentM, lstsN]
  · clear ht
    unfold rowsM
    induction gs with
    | nil => trivial
    | cons g gs ih => exact ⟨trivial, ih⟩
theorem noL_nats (g : List Nat) : noLs (nats g) = true := by
  induction g with
  | nil => rfl
  | cons i g ih => rw [nats_cons, noLs, ih]; rfl
theorem noL_tups (gs : List (List Nat)) : noL (tupsN gs) = true := by
  unfold tupsN
  rw [noL]
  induction gs with
  | nil => rfl
  | cons g gs ih => rw [List.map_cons, noLs, ih, noL, noL_nats]; rfl
theorem noL_div (n : Nat) (gs : List (List Nat)) : noL (divD n gs) = true := by
  unfold divD
  rw [noL, noLs, noLs, noLs, noL_tups]
  rfl
theorem wp_l_right (h : S_l_right ws μ P) : t_l_right (xcOf μ.length P) (endsOf .d μ.length P) (ws.map some ++ List.replicate (9 - ws.length) none) μ := by
  obtain ⟨a, b, c, ds, rfl, hl, rfl, rfl, hP⟩ := h
  simp [-dSeq, t_l_right]
  rw [dSeq]
  simp [-dSeq, src, F_l_draw]
  intro v hv a b c
  obtain ⟨n, hn, en⟩ : ∃ n : Nat, (1 ≤ n ∧ n ≤ 16) ∧ (1 : Int) + v = n := ⟨1 + v, by omega, by omega⟩
  rw [en]
  rw [dSeq]
  simp [-dSeq]
  refine ⟨⟨a, b, c, rfl⟩, hn.2, fun gs hG a b c => ?_⟩
  obtain ⟨_, hgl, hgs⟩ := gok_small hG
  have lsq : ∀ gs : List (List Nat), SeqsN (gs.map fun g => D.lst (nats g)) gs := fun gs => by
    induction gs with
    | nil => trivial
    | cons g gs ih => exact ⟨.inl rfl, ih⟩
  have hlt : ∀ g ∈ gs, ∀ i ∈ g, i < 100 := fun g hg i hi => by have := hG.lt g hg i hi; omega
  have F0 := rooms_fits hG
  obtain ⟨r, hr⟩ : ∃ r : Nat → Nat, r = ((roomsR n gs).getD · 0) := ⟨_, rfl⟩
  rw [← hr] at F0
  have hcan : canonL (roomsR n gs) = canonF n r := by rw [canonL, rooms_len, hr]
  have eM : ∀ a b c : Int, (Cell.lst (src a b c) :: Cell.lstW (refsM gs.length) :: rowsM gs : M) = liveM a b c gs := fun _ _ _ => rfl
  rw [eM]
  have hgr : GrpsD (lstsN gs) gs := ⟨_, .inl rfl, lsq gs⟩
  rw [dSeq]
  simp [-dSeq]
  refine lend_rows rfl ?_
  simp [-dSeq, F_l_whole]
  refine ⟨n, gs, ⟨rfl, rfl⟩, hn.2, hG, noL_tups _, ?_⟩
  rw [hcan]
  rw [dSeq]
  simp [-dSeq]
  refine lend_rows rfl ?_
  simp [-dSeq]
  refine show_lsts (by omega) (fun g hg => by have := hgs g hg; omega) hlt ?_
  refine ⟨rfl, ?_⟩
  obtain ⟨S, hS⟩ : ∃ S, S = (PyData.list (gs.map toPN)).shown := ⟨_, rfl⟩
  rw [← hS]
  rw [dSeq]
  simp [-dSeq]
  refine lend_rows rfl ?_
  simp [-dSeq, F_Division]
  refine ⟨n, _, ⟨rfl, rfl⟩, gs, hgr, hn, r, F0, fun x hx => ?_, noL_div n _, ?_⟩
  · rcases List.mem_cons.mp hx with rfl | hx
    · rfl
    rcases List.mem_cons.mp hx with rfl | hx
    · rfl
    obtain ⟨g, _, rfl⟩ := List.mem_map.mp hx
    rfl
  have eD : D.obj 10 [Str.ofString "people", Str.ofString "groups"] [nat n, tupsN (canonF n r)] = divD n (canonF n r) := rfl
  rw [eD]
  obtain ⟨G, hGG⟩ : ∃ G, G = canonF n r := ⟨_, rfl⟩
  rw [← hGG]
  rw [dSeq]
  simp [-dSeq]
  refine lend_rows rfl ?_
  simp [-dSeq]
  refine show_lsts (by omega) (fun g hg => by have := hgs g hg; omega) hlt ?_
  refine ⟨rfl, ?_⟩
  rw [← hS]
  have oks : okE TF 12 (.str S) = true := rfl
  refine ⟨oks, oks, ?_⟩
  have dS : (!deq (.str S) (.str S)) = false := by simp [deq]
  simp [-dSeq, deq]
  rw [dSeq, dFor_eq]
  simp [-dSeq, liveM]
  refine ⟨fun i ρ' μ' => (∃ x, ρ' = [some (.r 0), some (.d (nat n)), some (.r 1), some (.d (tupsN G)), some (.d (.str S)), some (.d (divD n G)), x, none, none]) ∧ ∃ zs : List (List D), zs.length = gs.length ∧ (∀ z ∈ zs, z.length ≤ 100 + i) ∧ μ' = .lst (src a b c) :: .lstW (refsM gs.length) :: zs.map Cell.lst, ⟨⟨_, rfl⟩, gs.map nats, by simp, fun z hz => ?_, by simp [rowsM, Function.comp_def]⟩, fun i ρ' μ' hi h => ?_, fun i w ρ' μ' e h => ?_, fun ρ' μ' h => ?_⟩
  · obtain ⟨g, hg, rfl⟩ := List.mem_map.mp hz
    have := hgs g hg
    simp
    omega
  · obtain ⟨_, zs, _, _, rfl⟩ := h
    rfl
  · obtain ⟨⟨x, rfl⟩, zs, hz1, hz2, rfl⟩ := h
    have hi : i < gs.length := by
      have := (List.getElem?_eq_some_iff.mp e).1
      simpa [refsM] using this
    obtain rfl : w = .r (i + 2) := by
      simp [refsM, List.getElem?_range hi] at e
      exact e.symm
    have hiz : i < zs.length := by omega
    have hsz := hz2 _ (List.getElem_mem hiz)
    simp [List.getElem?_eq_getElem hiz]
    refine ⟨by omega, zs.set i (zs[i] ++ [.int 99]), by simp [hz1], fun z hz => ?_, by rw [List.map_set]⟩
    rcases List.mem_or_eq_of_mem_set hz with hz | rfl
    · have := hz2 z hz; omega
    · simp; omega
  · obtain ⟨⟨x, rfl⟩, zs, hz1, hz2, rfl⟩ := h
    simp [-dSeq]
    rw [dSeq]
    simp [-dSeq]
    obtain ⟨Z, hZ⟩ : ∃ Z : M, Z = .lstW [] :: zs.map Cell.lst := ⟨_, rfl⟩
    have hZc : ∀ x ∈ Z, ∀ k, closedC k x = true := fun x hx k => by
      rw [hZ] at hx
      rcases List.mem_cons.mp hx with rfl | hx
      · rfl
      · obtain ⟨z, _, rfl⟩ := List.mem_map.mp hx
        rfl
    have hZr : ∀ x ∈ Z, refsC x = [] := fun x hx => by
      rw [hZ] at hx
      rcases List.mem_cons.mp hx with rfl | hx
      · rfl
      · obtain ⟨z, _, rfl⟩ := List.mem_map.mp hx
        rfl
    rw [← hZ]
    clear hz1 hz2 hZ
    have okT := ok_tups 9 G
    have okT2 : okE TF 12 (.tup [nat n, tupsN G]) = true := by simp [okE, okEs, okT]
    have dT : deq (.tup [nat n, tupsN G]) (.tup [nat n, tupsN G]) = true := by simp [deq, deqs, deq_tups]
    rw [dSeq]
    simp [-dSeq, divD, List.lookup, okE, okEs, okT, deq, deqs, deq_tups, tupsN]
    have hE : okEs TF 10 (G.map fun g => D.tup (nats g)) = true := by simpa [tupsN, okE] using okT
    have hD : deqs (G.map fun g => D.tup (nats g)) (G.map fun g => D.tup (nats g)) = true := by simpa [tupsN, deq] using deq_tups G
    have eT : D.tup (G.map fun g => D.tup (nats g)) = tupsN G := rfl
    have eV : D.obj 10 [Str.ofString "people", Str.ofString "groups"] [nat n, tupsN G] = divD n G := rfl
    refine ⟨hE, ?_⟩
    rw [if_pos hD]
    simp only [eT, eV]
    have Gl : G.length ≤ 16 := by rw [hGG]; have := (fits_small (fits_canon n r)).2; omega
    have FG : Fits n G r := by rw [hGG]; exact fits_canon n r
    have gl : ∀ g ∈ G, g.length ≤ 16 := fun g hg => by
      rw [hGG] at hg
      obtain ⟨p, _, _, rfl⟩ := mem_canon.mp hg
      have := List.length_filter_le (fun q => r q == r p) (List.range n)
      rw [List.length_range] at this
      have e : (clsF n r p).length ≤ n := this
      omega
    rw [dSeq]
    simp [-dSeq, src, F_l_shuffled, dLc_eq, tupsN, seqIn]
    refine ⟨by omega, fun g hg => by simp only [okD]; exact okDs_nats g, fun ys hys a b c => ?_⟩
    obtain ⟨Gs, rfl, hGs⟩ := perm_map (f := fun g => D.tup (nats g)) hys
    have gsl : Gs.length ≤ 16 := by rw [hGs.length_eq]; exact Gl
    refine lc_src (rest := Z) (fun i d => ∃ g h, Gs[i]? = some g ∧ h.Perm g ∧ d = .lst (nats h)) (List.all_eq_true.mpr fun x hx => hZc x hx _) (by simp; omega) (fun _ _ _ _ => trivial) (fun i w e a b c acc K N hK => ?_) (fun ds a b c hl2 hg => ?_)
    · simp at e
      obtain ⟨g, hg, rfl⟩ := e
      have := gl g (hGs.mem_iff.mp (List.mem_of_getElem? hg))
      simp [src, F_l_shuffled]
      refine ⟨by omega, fun x hx => ?_, fun ys hys a b c => ?_⟩
      · obtain ⟨i, _, rfl⟩ := List.mem_map.mp hx
        rfl
      · obtain ⟨h, rfl, hh⟩ := perm_map (f := nat) hys
        exact hK _ a b c ⟨g, h, hg, hh, rfl⟩
    · have hT : ∃ T : List (List Nat), ds = T.map (fun g => D.lst (nats g)) ∧ T.length = Gs.length ∧ ∀ (i : Nat) (g t : List Nat), Gs[i]? = some g → T[i]? = some t → t.Perm g := by
        simp at hl2
        clear hys hGs gsl
        induction ds generalizing Gs with
        | nil => exact ⟨[], rfl, by simpa using hl2, fun i g t _ h2 => by simp at h2⟩
        | cons d ds ih =>
          cases Gs with
          | nil => simp at hl2
          | cons g Gs =>
            obtain ⟨g', h, e1, e2, rfl⟩ := hg 0 d rfl
            cases e1
            obtain ⟨T, rfl, e3, e4⟩ := ih Gs (fun i d hd => by simpa using hg (i + 1) d (by simpa using hd)) (by simpa using hl2)
            refine ⟨h :: T, rfl, by simp [e3], fun i g t h1 h2 => ?_⟩
            cases i with
            | zero => cases h1; cases h2; exact e2
            | succ i => exact e4 i g t (by simpa using h1) (by simpa using h2)
      obtain ⟨T, rfl, hT1, hT2⟩ := hT
      have FT := fits_perms FG hGs hT1 hT2
      clear hg hl2 hys
      rw [if_neg Bool.false_ne_true]
      have odiv : okE TF 12 (divD n G) = true := ok_div n G
      rw [dSeq]
      simp [-dSeq, dLc_eq]
      refine lc_map T (W.d ∘ fun g => D.lst (nats g)) (fun g => .tup (nats g)) (by simp) (fun _ => trivial) (List.all_eq_true.mpr fun x hx => ?_) (by rw [hT1]; simp; omega) (fun g hg acc K N hK => ?_) ?_
      · rcases List.mem_cons.mp hx with rfl | hx
        · rfl
        · exact hZc x hx _
      · simpa [lcE, wipeR, seqIn] using hK
      rw [if_neg Bool.false_ne_true]
      simp [-dSeq, F_Division]
      have eV2 : D.obj 10 [Str.ofString "people", Str.ofString "groups"] [nat n, tupsN (canonF n r)] = divD n G := by rw [hGG]; rfl
      have tsq : ∀ gs : List (List Nat), SeqsN (gs.map fun g => D.tup (nats g)) gs := fun gs => by
        induction gs with
        | nil => trivial
        | cons g gs ih => exact ⟨.inr rfl, ih⟩
      refine ⟨n, _, ⟨rfl, rfl⟩, T, ⟨_, .inr rfl, tsq T⟩, hn, r, FT, fun x hx => hZc x hx _, odiv, eV2 ▸ odiv, ?_⟩
      rw [eV2, if_pos (deq_div n G)]
      refine ⟨n, _, ⟨rfl, rfl⟩, T, ⟨_, .inl rfl, lsq T⟩, hn, r, FT, fun x hx => hZc x hx _, odiv, eV2 ▸ odiv, ?_⟩
      rw [eV2, if_pos (deq_div n G)]
      rw [dSeq]
      simp [-dSeq]
      have d1 : ∀ x : D, deq (.tup [x]) (divD n G) = false := fun x => rfl
      have d2 : ∀ xs : List D, deq (.tup xs) (divD n G) = false := fun x => rfl
      have d3 : deq .non (divD n G) = false := rfl
      refine ⟨odiv, ?_, ?_⟩
      · simp [okE, okEs]
        have h1 : okEs TF 11 (G.map fun g => D.tup (nats g)) = true := by simpa [tupsN, okE] using ok_tups 10 G
        exact ⟨h1, hE⟩
      rw [if_neg (by rw [d2, d2, d3]; simp)]
      obtain ⟨n', hn', en'⟩ : ∃ n' : Nat, (1 ≤ n' ∧ n' ≤ 16) ∧ (n : Int) % 16 + 1 = (n' : Int) := ⟨n % 16 + 1, by omega, by omega⟩
      have nne : n ≠ n' := by omega
      have e16 : D.int ((n : Int) % 16 + 1) = nat n' := by rw [en']
      rw [e16]
      refine ⟨n', _, [], id, rfl, ⟨[], .inl rfl, trivial⟩, hn', fits_id n', fun x hx => hZc x hx _, odiv, ok_div n' _, ?_⟩
      have dne : deq (divD n G) (divD n' (canonF n' id)) = false := by
        have : deq (nat n) (nat n') = false := by rw [deq_nat]; simpa using nne
        simp only [divD, deq, deqs, this]
        simp
        exact fun e => absurd e nne
      have eV3 : D.obj 10 [Str.ofString "people", Str.ofString "groups"] [nat n', tupsN (canonF n' id)] = divD n' (canonF n' id) := rfl
      rw [eV3, if_neg (by rw [dne]; simp)]
      rw [dSeq]
      simp [-dSeq, F_alone, dLc_eq]
      have hA : deq (divD n (canonF n id)) (divD n G) = decide (G.length = n) := by
        have e1 : deq (nat n) (nat n) = true := by rw [deq_nat]; simp
        have e2 : deq (tupsN (canonF n id)) (tupsN G) = decide (G.length = n) := by
          rw [deq_tupsE, hGG]
          exact decide_eq_decide.mpr canon_alone
        simp only [divD, deq, deqs, e1, e2]
        simp
      have hB : deq (.int (G.length : Int)) (nat n) = decide (G.length = n) := deq_nat
      refine ⟨hn, ok_div n _, odiv, rfl, rfl, rfl, rfl, ?_⟩
      rw [hA, hB, if_pos (by simp [deq])]
      refine ⟨hn, ?_⟩
      have okI : okE TF 12 (tupsN (canonF n id)) = true := ok_tups 10 _
      have dqI : deq (tupsN (canonF n id)) (tupsN (canonF n id)) = true := deq_tups _
      simp [divD, List.lookup]
      refine ⟨by omega, ?_⟩
      refine lc_map (List.range n) (fun k => W.d (nat k)) (fun k => .tup [nat k]) (by simp [rng]) (fun _ => trivial) (List.all_eq_true.mpr fun x hx => ?_) (by simp; omega) (fun k hk acc K N hK => ?_) ?_
      · rcases List.mem_cons.mp hx with rfl | hx
        · rfl
        · exact hZc x hx _
      · simpa [lcE, wipeR] using hK
      rw [if_neg Bool.false_ne_true]
      have e1 : D.tup ((List.range n).map fun k => .tup [nat k]) = tupsN (canonF n id) := by
        rw [canon_id]
        simp [tupsN, nats, Function.comp_def]
      simp [seqIn, e1, okI, dqI]
      exact ⟨n, r, by rw [hGG]; rfl, hn, hP a b c⟩
theorem len_law {K : PySem.W.Frag} (h : S_law K ws μ P) : ws.length = 1 := by obtain ⟨_, rfl, _⟩ := h; rfl
theorem wp_law {K : PySem.W.Frag} (h : S_law K ws μ P) : t_law (xcOf μ.length P) K (endsOf .d μ.length P) (ws.map some ++ List.replicate (3 - ws.length) none) μ := by
  obtain ⟨ns, rfl, rfl, hns, hP⟩ := h
  simp [-dSeq, t_law]
  rw [dSeq]
  simp [-dSeq]
  rw [dFor_eq]
  simp [-dSeq]
  refine ⟨by omega, ?_⟩
  refine ⟨fun _ ρ' μ' => (∃ u v, ρ' = [some (.r 0), u, v]) ∧ ∃ more, μ' = .scr ns (scrK K ns) :: more ∧ ∀ k, closedB k more = true, ⟨⟨_, _, rfl⟩, [], rfl, fun _ => rfl⟩, fun _ _ _ _ _ => trivial, fun i w ρ' μ' e h => ?_, fun ρ' μ' h => ?_⟩
  · obtain ⟨⟨u, v, rfl⟩, more, rfl, hcl⟩ := h
    obtain ⟨d, hd, rfl⟩ : ∃ d, d ∈ ns.map D.int ++ [.int 0] ∧ w = .d d := by
      have := List.mem_of_getElem? e
      simp only [List.mem_map] at this
      obtain ⟨d, hd, rfl⟩ := this
      exact ⟨d, List.mem_of_mem_drop (List.mem_of_mem_take hd), rfl⟩
    obtain ⟨z, rfl⟩ : ∃ z : Int, d = .int z := by
      simp at hd
      rcases hd with ⟨z, _, rfl⟩ | rfl <;> exact ⟨_, rfl⟩
    simp [-dSeq]
    rw [dSeq]
    simp [-dSeq, src, F_l_right]
    rintro a b c k x (hx | rfl)
    · exact List.all_eq_true.mp (hcl k) x hx
    · rfl
  · obtain ⟨⟨u, v, rfl⟩, more, rfl, hcl⟩ := h
    simpa using hP
end
end DD
namespace DD
open PySem L2
def top (i : Nat) : Stmt := PySem.Challenge.pw_glueroom_k01_divisions_made.main.body.getD i (.Pass ⟨0, 0, 0, 0⟩)
abbrev s_Division_kind : Stmt := (inClass (top 12) 1)
abbrev s_Division_facts : Stmt := (inClass (top 12) 2)
abbrev s_Thing_eq : Stmt := (inClass (top 8) 2)
abbrev s_l_source : Stmt := (top 16)
abbrev s_l_draw : Stmt := (top 17)
abbrev s_l_shuffled : Stmt := (top 19)
abbrev s_l_pick : Stmt := (top 18)
abbrev s_l_drawn_groups : Stmt := (top 20)
abbrev s_l_whole : Stmt := (top 21)
abbrev s_check_people : Stmt := (top 9)
abbrev s_check_person : Stmt := (top 10)
abbrev s_sorted_groups : Stmt := (top 11)
abbrev s_Division_init : Stmt := (inClass (top 12) 0)
abbrev s_alone : Stmt := (top 13)
abbrev s_together : Stmt := (top 14)
abbrev s_l_together_right : Stmt := (top 22)
abbrev s_l_right : Stmt := (top 23)
abbrev s_law : Stmt := (top 24)
end DD
namespace DD
open PySem L2 RZ
structure Tx (K : PySem.W.Frag) (mg : Str → Option Value) (cA : Nat → Addr) : Prop where
  b_abs : mg "abs" = none
  b_any : mg "any" = none
  b_bool : mg "bool" = none
  b_isinstance : mg "isinstance" = none
  b_len : mg "len" = none
  b_list : mg "list" = none
  b_range : mg "range" = none
  b_repr : mg "repr" = none
  b_sorted : mg "sorted" = none
  b_tuple : mg "tuple" = none
  c_MOST_PEOPLE : ∃ t, mg "MOST_PEOPLE" = some (.int 16 t)
  cf : CF K cA FL
  n_Thing : mg "Thing" = some (.ref (cA 0))
  is_Thing : IsOk K cA (.ref (cA 0)) isB_Thing isO_Thing
  is_bool : IsOk K cA (.type "bool") isB_bool isO_bool
  is_tuple : IsOk K cA (.type "tuple") isB_tuple isO_tuple
section
variable {P : Program} {w : World} {K : PySem.W.Frag} {mg : Str → Option Value} {base : Heap} {cA : Nat → Addr}
structure Eqx (P : Program) (w : World) (K : PySem.W.Frag) (mg : Str → Option Value) (base : Heap) (cA : Nat → Addr) : Prop where
  ex : ∃ (f : Addr) (fd : FuncData) (ps : List Str), EqT K cA TF f ∧ Binds K fd ps [] ∧ ∀ m, FnOk P w K mg base (L2.CX P w) (m + 3) f fd ps (spD cA (SEq TF (m + 3)))
theorem eqx_rc {X : Cx} {cA : Nat → Addr} (E : Eqx X.prog X.w X.K X.mg X.base cA) {n : Nat} (B : Bool) : RcN X cA TF n B := by
  obtain ⟨f, fd, ps, h1, h2, h3⟩ := E.ex
  exact rcN' h1 h2 (fun m _ => h3 m) B
theorem eqx_eb {X : Cx} {cA : Nat → Addr} (E : Eqx X.prog X.w X.K X.mg X.base cA) {n : Nat} : EqN X cA TF n := by
  obtain ⟨f, fd, ps, h1, h2, h3⟩ := E.ex
  exact eqN h1 h2 fun m _ => h3 m
theorem sc_Division_kind : FnScope ["self"] ["self"] (defScope s_Division_kind) := ⟨rfl, rfl, rfl, by decide +kernel, rfl, by decide +kernel, by decide +kernel⟩
theorem fo_Division_kind (T : Tx K mg cA) {fa : Addr} {fd : FuncData} (F : L2.Fun K "kind" "Division.kind" s_Division_kind fa fd) : FnOk P w K mg base (L2.CX P w) 1 fa fd ["self"] (spD cA (S_Division_kind)) := by
  refine fn_okD (k := 0) .d F sc_Division_kind (fun ws μ P h => len_Division_kind h) fun X b e1 e2 e3 e4 e5 e6 e7 calm hr hp hx ecA tk hX => ?_
  obtain ⟨cdv, A, outer, s, H, E, rfl⟩ := hX
  subst ecA
  exact ⟨t_Division_kind b.xc, (ds_last (ds_ret de_str)),
    fun ws μ Post hS hxc => by rw [hxc]; exact wp_Division_kind hS⟩
theorem sc_Division_facts : FnScope ["self"] ["self"] (defScope s_Division_facts) := ⟨rfl, rfl, rfl, by decide +kernel, rfl, by decide +kernel, by decide +kernel⟩
theorem fo_Division_facts (T : Tx K mg cA) {fa : Addr} {fd : FuncData} (F : L2.Fun K "facts" "Division.facts" s_Division_facts fa fd) : FnOk P w K mg base (L2.CX P w) 1 fa fd ["self"] (spD cA (S_Division_facts)) := by
  refine fn_okD (k := 0) .d F sc_Division_facts (fun ws μ P h => len_Division_facts h) fun X b e1 e2 e3 e4 e5 e6 e7 calm hr hp hx ecA tk hX => ?_
  obtain ⟨cdv, A, outer, s, H, E, rfl⟩ := hX
  subst ecA
  exact ⟨t_Division_facts b.xc, (ds_last (ds_ret (de_tup (da_cons (de_fld T.cf (de_var (pv 0))) (da_cons (de_fld T.cf (de_var (pv 0))) da_nil))))),
    fun ws μ Post hS hxc => by rw [hxc]; exact wp_Division_facts hS⟩
theorem sc_Thing_eq : FnScope ["self", "other"] ["self", "other"] (defScope s_Thing_eq) := ⟨rfl, rfl, rfl, by decide +kernel, rfl, by decide +kernel, by decide +kernel⟩
theorem eqx_ok (T : Tx K mg cA) {fa : Addr} {fd : FuncData} (HT : EqT K cA TF fa) (F : L2.Fun K "__eq__" "Thing.__eq__" s_Thing_eq fa fd) (hb : Binds K fd ["self", "other"] []) (e_Division_kind : Mec P w K mg base cA "kind" 10 1 S_Division_kind) (e_Division_facts : Mec P w K mg base cA "facts" 10 1 S_Division_facts) : Eqx P w K mg base cA := by
  refine ⟨fa, fd, ["self", "other"], HT, hb, fun m => ?_⟩
  induction m using Nat.strongRecOn with
  | ind m ih =>
    refine fn_okD (k := m + 2) .d F sc_Thing_eq (fun ws μ P h => len_Thing_eq h) fun X b e1 e2 e3 e4 e5 e6 e7 calm hr hp hx ecA tk hX => ?_
    obtain ⟨cdv, A, outer, s, H, E, rfl⟩ := hX
    subst ecA
    have rcm : ∀ B, RcN (fX P w K mg base ["self", "other"] "Thing.__eq__" (defScope s_Thing_eq) fa cdv A outer s H E) b.cA TF (m + 1) B := fun B => rcN' HT hb (fun j hj => ih j (by omega)) B
    exact ⟨t_Thing_eq b.xc (m + 1), (ds_cons (ds_if (DPW.dt (dw_or (dt_not (dt_val (de_isi T.is_Thing (pe_glob (v := .ref _) (by rfl) T.n_Thing rfl) (.own _) (by rfl) T.b_isinstance (de_var (pv 1))))) (dw_or1 (dt_neE (rcm true) (hr.mono (by omega)) (de_meF le_kind hx (MecT.ok (mect_cons e_Division_kind (by omega) mect_nil) hr) (de_var (pv 0))) (de_meF le_kind hx (MecT.ok (mect_cons e_Division_kind (by omega) mect_nil) hr) (de_var (pv 1))))))) (ds_last (ds_ret de_bl)) ds_nil)
      (ds_last (ds_ret (de_eqE (rcm false) (hr.mono (by omega)) (de_meF le_facts hx (MecT.ok (mect_cons e_Division_facts (by omega) mect_nil) hr) (de_var (pv 0))) (de_meF le_facts hx (MecT.ok (mect_cons e_Division_facts (by omega) mect_nil) hr) (de_var (pv 1))))))),
      fun ws μ Post hS hxc => by rw [hxc]; exact wp_Thing_eq hS⟩
theorem sc_l_source : FnScope ["_law_cell"] ["_law_cell"] (defScope s_l_source) := ⟨rfl, rfl, rfl, by decide +kernel, rfl, by decide +kernel, by decide +kernel⟩
theorem fo_l_source (T : Tx K mg cA) {fa : Addr} {fd : FuncData} (F : L2.Fun K "_law_source" "_law_source" s_l_source fa fd) : FnOk P w K mg base (L2.CX P w) 1 fa fd ["_law_cell"] (spD cA (S_l_source)) := by
  refine fn_okD (k := 0) .l F sc_l_source (fun ws μ P h => len_l_source h) fun X b e1 e2 e3 e4 e5 e6 e7 calm hr hp hx ecA tk hX => ?_
  obtain ⟨cdv, A, outer, s, H, E, rfl⟩ := hX
  subst ecA
  exact ⟨t_l_source b.xc, (ds_last (ds_ret (de_lstM (da_cons (de_abs T.b_abs (da_cons (de_var (pv 0)) da_nil) (by rfl)) (da_cons (de_mod (de_var (pv 0)) de_int) (da_cons de_int da_nil)))))),
    fun ws μ Post hS hxc => by rw [hxc]; exact wp_l_source hS⟩
theorem sc_l_draw : FnScope ["_law_source_here", "_law_many", "_law_found", "_law_number"] ["_law_source_here", "_law_many"] (defScope s_l_draw) := ⟨rfl, rfl, rfl, by decide +kernel, rfl, by decide +kernel, by decide +kernel⟩
theorem fo_l_draw (T : Tx K mg cA) {fa : Addr} {fd : FuncData} (F : L2.Fun K "_law_draw" "_law_draw" s_l_draw fa fd) : FnOk P w K mg base (L2.CX P w) 1 fa fd ["_law_source_here", "_law_many"] (spD cA (S_l_draw)) := by
  refine fn_okD (k := 0) .d F sc_l_draw (fun ws μ P h => len_l_draw h) fun X b e1 e2 e3 e4 e5 e6 e7 calm hr hp hx ecA tk hX => ?_
  obtain ⟨cdv, A, outer, s, H, E, rfl⟩ := hX
  subst ecA
  exact ⟨t_l_draw b.xc, (ds_cons (ds_if (dt_ge (de_ixA (de_var (pv 0)) de_int) (de_pow de_int de_int)) (ds_cons (ds_set (de_mod (de_ixA (de_var (pv 0)) de_int) (de_var (pv 1))) (fun p => ps_set (i := 2) sc_l_draw.nd rfl (Or.inl rfl) p))
      (ds_cons (ds_asg (de_fdiv (de_ixA (de_var (pv 0)) de_int) (de_var (pv 1))) (dg_ix (de_var (pv 0)) de_int))
      (ds_last (ds_ret (de_var (pv 2)))))) ds_nil)
      (ds_cons (ds_asg (de_addA (de_ixA (de_var (pv 0)) de_int) de_int) (dg_ix (de_var (pv 0)) de_int))
      (ds_cons (ds_set (de_mod (de_mulA (de_addA (de_addA (de_ixA (de_var (pv 0)) de_int) (de_mulA de_int (de_ixA (de_var (pv 0)) de_int))) de_int) de_int) de_int) (fun p => ps_set (i := 3) sc_l_draw.nd rfl (Or.inl rfl) p))
      (ds_cons (ds_set (de_mod (de_mulA (de_var (pv 3)) (de_addA (de_fdiv (de_var (pv 3)) de_int) de_int)) de_int) (fun p => ps_set (i := 3) sc_l_draw.nd rfl (Or.inl rfl) p))
      (ds_last (ds_ret (de_mod (de_mod (de_addA (de_fdiv (de_var (pv 3)) de_int) (de_mulA (de_mod (de_var (pv 3)) de_int) de_int)) de_int) (de_var (pv 1))))))))),
    fun ws μ Post hS hxc => by rw [hxc]; exact wp_l_draw hS⟩
theorem sc_l_shuffled : FnScope ["_law_source_here", "_law_items", "_law_left", "_law_found"] ["_law_source_here", "_law_items"] (defScope s_l_shuffled) := ⟨rfl, rfl, rfl, by decide +kernel, rfl, by decide +kernel, by decide +kernel⟩
theorem fo_l_shuffled (T : Tx K mg cA) {fa : Addr} {fd : FuncData} (F : L2.Fun K "_law_shuffled" "_law_shuffled" s_l_shuffled fa fd) (c_l_draw : Cal P w K mg base cA "_law_draw" 1 S_l_draw) : FnOk P w K mg base (L2.CX P w) 2 fa fd ["_law_source_here", "_law_items"] (spD cA (S_l_shuffled)) := by
  refine fn_okD (k := 1) .d F sc_l_shuffled (fun ws μ P h => len_l_shuffled h) fun X b e1 e2 e3 e4 e5 e6 e7 calm hr hp hx ecA tk hX => ?_
  obtain ⟨cdv, A, outer, s, H, E, rfl⟩ := hX
  subst ecA
  exact ⟨t_l_shuffled b.xc, (ds_cons (ds_par (da_cons (de_listM T.b_list (da_cons (de_var (pv 1)) da_nil) (by rfl)) (da_cons (de_lstM da_nil) da_nil)) (fun p => ps_par (i := 2) (j := 3) rfl sc_l_shuffled.nd rfl rfl (by decide) rfl rfl p rfl))
      (ds_cons (ds_while hp (dt_ne hr.units (de_var (pv 2)) (de_lst da_nil)) (ds_last (ds_expr (de_appA (de_var (pv 3)) (de_mut om_popAt (de_var (pv 2)) (da_cons (de_calF le_l_draw c_l_draw hr (by decide) hx (da_cons (de_var (pv 0)) (da_cons (de_lenA T.b_len (de_var (pv 2)) (by rfl)) da_nil)) (by rfl)) da_nil) (fun p q => pe_bm PySem.F.plainAttrs_list PySem.F.slot_list_pop PySem.F.type_list_pop mt_popAt p q)) (fun p q => pe_bm PySem.F.plainAttrs_list PySem.F.slot_list_append PySem.F.type_list_append mt_append p q)))))
      (ds_last (ds_ret (de_var (pv 3)))))),
    fun ws μ Post hS hxc => by rw [hxc]; exact wp_l_shuffled hS⟩
theorem sc_l_pick : FnScope ["_law_source_here", "_law_items"] ["_law_source_here", "_law_items"] (defScope s_l_pick) := ⟨rfl, rfl, rfl, by decide +kernel, rfl, by decide +kernel, by decide +kernel⟩
theorem fo_l_pick (T : Tx K mg cA) {fa : Addr} {fd : FuncData} (F : L2.Fun K "_law_pick" "_law_pick" s_l_pick fa fd) (c_l_draw : Cal P w K mg base cA "_law_draw" 1 S_l_draw) : FnOk P w K mg base (L2.CX P w) 2 fa fd ["_law_source_here", "_law_items"] (spD cA (S_l_pick)) := by
  refine fn_okD (k := 1) .i F sc_l_pick (fun ws μ P h => len_l_pick h) fun X b e1 e2 e3 e4 e5 e6 e7 calm hr hp hx ecA tk hX => ?_
  obtain ⟨cdv, A, outer, s, H, E, rfl⟩ := hX
  subst ecA
  exact ⟨t_l_pick b.xc, (ds_last (ds_ret (de_ixA (de_var (pv 1)) (de_calF le_l_draw c_l_draw hr (by decide) hx (da_cons (de_var (pv 0)) (da_cons (de_lenA T.b_len (de_var (pv 1)) (by rfl)) da_nil)) (by rfl))))),
    fun ws μ Post hS hxc => by rw [hxc]; exact wp_l_pick hS⟩
theorem sc_l_drawn_groups : FnScope ["_law_source_here", "_law_count", "_law_found", "_law_k", "_law_way"] ["_law_source_here", "_law_count"] (defScope s_l_drawn_groups) := ⟨rfl, rfl, rfl, by decide +kernel, rfl, by decide +kernel, by decide +kernel⟩
theorem fo_l_drawn_groups (T : Tx K mg cA) {fa : Addr} {fd : FuncData} (F : L2.Fun K "_law_drawn_groups" "_law_drawn_groups" s_l_drawn_groups fa fd) (c_l_shuffled : Cal P w K mg base cA "_law_shuffled" 2 S_l_shuffled) (c_l_draw : Cal P w K mg base cA "_law_draw" 1 S_l_draw) (c_l_pick : Cal P w K mg base cA "_law_pick" 2 S_l_pick) : FnOk P w K mg base (L2.CX P w) 3 fa fd ["_law_source_here", "_law_count"] (spD cA (S_l_drawn_groups)) := by
  refine fn_okD (k := 2) .i F sc_l_drawn_groups (fun ws μ P h => len_l_drawn_groups h) fun X b e1 e2 e3 e4 e5 e6 e7 calm hr hp hx ecA tk hX => ?_
  obtain ⟨cdv, A, outer, s, H, E, rfl⟩ := hX
  subst ecA
  exact ⟨t_l_drawn_groups b.xc, (ds_cons (ds_set (de_lstW da_nil) (fun p => ps_set (i := 2) sc_l_drawn_groups.nd rfl (Or.inl rfl) p))
      (ds_cons (ds_for hp rfl (di_seq (de_calF le_l_shuffled c_l_shuffled hr (by decide) hx (da_cons (de_var (pv 0)) (da_cons (de_lrng1 false rfl T.b_list T.b_range (de_var (pv 1)) (by rfl) (by rfl)) da_nil)) (by rfl))) (dg_name (pg_name (i := 3) sc_l_drawn_groups.nd rfl (Or.inl rfl))) (ds_cons (ds_set (de_calF le_l_draw c_l_draw hr (by decide) hx (da_cons (de_var (pv 0)) (da_cons de_int da_nil)) (by rfl)) (fun p => ps_set (i := 4) sc_l_drawn_groups.nd rfl (Or.inl rfl) p))
      (ds_last (ds_if (DPW.dt (dw_and (dt_eq hr.units (de_var (pv 4)) de_int) (dw_and1 (dt_nil true hr.units (de_var (pv 2)))))) (ds_last (ds_expr (de_appA (de_calE le_l_pick c_l_pick hr (by decide) hx (da_cons (de_var (pv 0)) (da_cons (de_var (pv 2)) da_nil)) (by rfl)) (de_var (pv 3)) (fun p q => pe_bm PySem.F.plainAttrs_list PySem.F.slot_list_append PySem.F.type_list_append mt_append p q)))) (ds_last (ds_if (dt_eq hr.units (de_var (pv 4)) de_int) (ds_last (ds_expr (de_appA (de_var (pv 2)) (de_lstM (da_cons (de_var (pv 3)) da_nil)) (fun p q => pe_bm PySem.F.plainAttrs_list PySem.F.slot_list_append PySem.F.type_list_append mt_append p q)))) ds_nil))))))
      (ds_last (ds_ret (de_var (pv 2)))))),
    fun ws μ Post hS hxc => by rw [hxc]; exact wp_l_drawn_groups hS⟩
theorem sc_l_whole : FnScope ["_law_count", "_law_groups_so", "_law_met", "_law_group", "_law_single", "_law_k"] ["_law_count", "_law_groups_so"] (defScope s_l_whole) := ⟨rfl, rfl, rfl, by decide +kernel, rfl, by decide +kernel, by decide +kernel⟩
theorem fo_l_whole (T : Tx K mg cA) {fa : Addr} {fd : FuncData} (F : L2.Fun K "_law_whole" "_law_whole" s_l_whole fa fd) : FnOk P w K mg base (L2.CX P w) 1 fa fd ["_law_count", "_law_groups_so"] (spD cA (S_l_whole)) := by
  refine fn_okD (k := 0) .d F sc_l_whole (fun ws μ P h => len_l_whole h) fun X b e1 e2 e3 e4 e5 e6 e7 calm hr hp hx ecA tk hX => ?_
  obtain ⟨cdv, A, outer, s, H, E, rfl⟩ := hX
  subst ecA
  exact ⟨t_l_whole b.xc, (ds_cons (ds_set (de_lst da_nil) (fun p => ps_set (i := 2) sc_l_whole.nd rfl (Or.inr rfl) p))
      (ds_cons (ds_for hp rfl (di_seq (de_var (pv 1))) (dg_name (pg_name (i := 3) sc_l_whole.nd rfl (Or.inl rfl))) (ds_last (ds_set (de_addA (de_var (pv 2)) (de_list T.b_list (da_cons (de_var (pv 3)) da_nil) (by rfl))) (fun p => ps_set (i := 2) sc_l_whole.nd rfl (Or.inr rfl) p))))
      (ds_cons (ds_setLc false rfl sc_l_whole.nd (i := 4) rfl rfl rfl (di_range1 (by rfl) T.b_range (da_cons (de_var (pv 0)) da_nil)) (own := [("_law_k", 5)]) (by show BlkOk ["_law_count", "_law_groups_so", "_law_met", "_law_group", "_law_single", "_law_k"] (defScope s_l_whole) _ _; exact ⟨rfl, by decide +kernel, by decide +kernel, by decide +kernel, by decide +kernel⟩) (fun _ ⟨_, _, _, _, _, e⟩ => by subst e; exact (dgo_name (pg_name (i := 5) sc_l_whole.nd rfl (Or.inl rfl)) (by decide))) (fun _ ⟨_, _, _, _, _, e⟩ => by subst e; exact (dts_one (dt_notIn (hu65 hr) (de_var (pv 5)) (de_var (pv 2)) (by rfl)))) (fun _ ⟨_, _, _, _, _, e⟩ => by subst e; exact (de_tup (da_cons (de_var (pv 5)) da_nil))))
      (ds_last (ds_ret (de_tupOf T.b_tuple (da_cons (de_sortT T.b_sorted (da_cons (de_addA (de_lc false rfl sc_l_whole.nd (di_seq (de_var (pv 1))) (own := [("_law_group", 3)]) (by show BlkOk ["_law_count", "_law_groups_so", "_law_met", "_law_group", "_law_single", "_law_k"] (defScope s_l_whole) _ _; exact ⟨rfl, by decide +kernel, by decide +kernel, by decide +kernel, by decide +kernel⟩) (fun _ ⟨_, _, _, _, _, e⟩ => by subst e; exact (dgo_name (pg_name (i := 3) sc_l_whole.nd rfl (Or.inl rfl)) (by decide))) (fun _ ⟨_, _, _, _, _, e⟩ => by subst e; exact dts_nil) (fun _ ⟨_, _, _, _, _, e⟩ => by subst e; exact (de_tupOf T.b_tuple (da_cons (de_sortI T.b_sorted (da_cons (de_var (pv 3)) da_nil) (by rfl)) da_nil) (by rfl)))) (de_var (pv 4))) da_nil) (by rfl)) da_nil) (by rfl))))))),
    fun ws μ Post hS hxc => by rw [hxc]; exact wp_l_whole hS⟩
theorem sc_check_people : FnScope ["people"] ["people"] (defScope s_check_people) := ⟨rfl, rfl, rfl, by decide +kernel, rfl, by decide +kernel, by decide +kernel⟩
theorem fo_check_people (T : Tx K mg cA) {fa : Addr} {fd : FuncData} (F : L2.Fun K "check_people" "check_people" s_check_people fa fd) : FnOk P w K mg base (L2.CX P w) 1 fa fd ["people"] (spD cA (S_check_people)) := by
  refine fn_okD (k := 0) .d F sc_check_people (fun ws μ P h => len_check_people h) fun X b e1 e2 e3 e4 e5 e6 e7 calm hr hp hx ecA tk hX => ?_
  obtain ⟨cdv, A, outer, s, H, E, rfl⟩ := hX
  subst ecA
  exact ⟨t_check_people b.xc, (ds_last (ds_if (dt_not (dt_chain op_le op_le de_int (de_var (pv 0)) (de_gi T.c_MOST_PEOPLE (by rfl)) (fun p q r => pt_chain op_le op_le p q r))) (ds_last ds_no) ds_nil)),
    fun ws μ Post hS hxc => by rw [hxc]; exact wp_check_people hS⟩
theorem sc_check_person : FnScope ["people", "person"] ["people", "person"] (defScope s_check_person) := ⟨rfl, rfl, rfl, by decide +kernel, rfl, by decide +kernel, by decide +kernel⟩
theorem fo_check_person (T : Tx K mg cA) {fa : Addr} {fd : FuncData} (F : L2.Fun K "check_person" "check_person" s_check_person fa fd) : FnOk P w K mg base (L2.CX P w) 1 fa fd ["people", "person"] (spD cA (S_check_person)) := by
  refine fn_okD (k := 0) .d F sc_check_person (fun ws μ P h => len_check_person h) fun X b e1 e2 e3 e4 e5 e6 e7 calm hr hp hx ecA tk hX => ?_
  obtain ⟨cdv, A, outer, s, H, E, rfl⟩ := hX
  subst ecA
  exact ⟨t_check_person b.xc, (ds_last (ds_if (dt_not (dt_chain op_le op_lt de_int (de_var (pv 1)) (de_var (pv 0)) (fun p q r => pt_chain op_le op_lt p q r))) (ds_last ds_no) ds_nil)),
    fun ws μ Post hS hxc => by rw [hxc]; exact wp_check_person hS⟩
theorem sc_sorted_groups : FnScope ["groups", "group"] ["groups"] (defScope s_sorted_groups) := ⟨rfl, rfl, rfl, by decide +kernel, rfl, by decide +kernel, by decide +kernel⟩
theorem fo_sorted_groups (T : Tx K mg cA) {fa : Addr} {fd : FuncData} (F : L2.Fun K "sorted_groups" "sorted_groups" s_sorted_groups fa fd) : FnOk P w K mg base (L2.CX P w) 1 fa fd ["groups"] (spD cA (S_sorted_groups)) := by
  refine fn_okD (k := 0) .d F sc_sorted_groups (fun ws μ P h => len_sorted_groups h) fun X b e1 e2 e3 e4 e5 e6 e7 calm hr hp hx ecA tk hX => ?_
  obtain ⟨cdv, A, outer, s, H, E, rfl⟩ := hX
  subst ecA
  exact ⟨t_sorted_groups b.xc, (ds_last (ds_ret (de_tupOf T.b_tuple (da_cons (de_sortT T.b_sorted (da_cons (de_lc false rfl sc_sorted_groups.nd (di_seq (de_var (pv 0))) (own := [("group", 1)]) (by show BlkOk ["groups", "group"] (defScope s_sorted_groups) _ _; exact ⟨rfl, by decide +kernel, by decide +kernel, by decide +kernel, by decide +kernel⟩) (fun _ ⟨_, _, _, _, _, e⟩ => by subst e; exact (dgo_name (pg_name (i := 1) sc_sorted_groups.nd rfl (Or.inl rfl)) (by decide))) (fun _ ⟨_, _, _, _, _, e⟩ => by subst e; exact dts_nil) (fun _ ⟨_, _, _, _, _, e⟩ => by subst e; exact (de_tupOf T.b_tuple (da_cons (de_sortI T.b_sorted (da_cons (de_var (pv 1)) da_nil) (by rfl)) da_nil) (by rfl)))) da_nil) (by rfl)) da_nil) (by rfl)))),
    fun ws μ Post hS hxc => by rw [hxc]; exact wp_sorted_groups hS⟩
theorem sc_Division_init : FnScope ["self", "people", "groups", "met", "group", "person", "single"] ["self", "people", "groups"] (defScope s_Division_init) := ⟨rfl, rfl, rfl, by decide +kernel, rfl, by decide +kernel, by decide +kernel⟩
theorem fo_Division_init (T : Tx K mg cA) {fa : Addr} {fd : FuncData} (F : L2.Fun K "__init__" "Division.__init__" s_Division_init fa fd) (c_check_people : Cal P w K mg base cA "check_people" 1 S_check_people) (c_check_person : Cal P w K mg base cA "check_person" 1 S_check_person) (c_sorted_groups : Cal P w K mg base cA "sorted_groups" 1 S_sorted_groups) : FnOk P w K mg base (L2.CX P w) 2 fa fd ["self", "people", "groups"] (spD cA (S_Division)) := by
  refine fn_okD (k := 1) .d F sc_Division_init (fun ws μ P h => len_Division_init h) fun X b e1 e2 e3 e4 e5 e6 e7 calm hr hp hx ecA tk hX => ?_
  obtain ⟨cdv, A, outer, s, H, E, rfl⟩ := hX
  subst ecA
  exact ⟨t_Division_init b.xc, (ds_cons (ds_expr (de_calF le_check_people c_check_people hr (by decide) hx (da_cons (de_var (pv 1)) da_nil) (by rfl)))
      (ds_cons (ds_set (de_lstM da_nil) (fun p => ps_set (i := 3) sc_Division_init.nd rfl (Or.inr rfl) p))
      (ds_cons (ds_for hp rfl (di_seq (de_var (pv 2))) (dg_name (pg_name (i := 4) sc_Division_init.nd rfl (Or.inl rfl))) (ds_cons (ds_if (dt_eq hr.units (de_lenA T.b_len (de_var (pv 4)) (by rfl)) de_int) (ds_last ds_no) ds_nil)
      (ds_last (ds_for hp rfl (di_seq (de_var (pv 4))) (dg_name (pg_name (i := 5) sc_Division_init.nd rfl (Or.inl rfl))) (ds_cons (ds_expr (de_calF le_check_person c_check_person hr (by decide) hx (da_cons (de_var (pv 1)) (da_cons (de_var (pv 5)) da_nil)) (by rfl)))
      (ds_cons (ds_if (dt_in (hu65 hr) (de_var (pv 5)) (de_var (pv 3)) (by rfl)) (ds_last ds_no) ds_nil)
      (ds_last (ds_expr (de_appA (de_var (pv 3)) (de_var (pv 5)) (fun p q => pe_bm PySem.F.plainAttrs_list PySem.F.slot_list_append PySem.F.type_list_append mt_append p q))))))))))
      (ds_cons (ds_setLc false rfl sc_Division_init.nd (i := 6) rfl rfl rfl (di_range1 (by rfl) T.b_range (da_cons (de_var (pv 1)) da_nil)) (own := [("person", 5)]) (by show BlkOk ["self", "people", "groups", "met", "group", "person", "single"] (defScope s_Division_init) _ _; exact ⟨rfl, by decide +kernel, by decide +kernel, by decide +kernel, by decide +kernel⟩) (fun _ ⟨_, _, _, _, _, e⟩ => by subst e; exact (dgo_name (pg_name (i := 5) sc_Division_init.nd rfl (Or.inl rfl)) (by decide))) (fun _ ⟨_, _, _, _, _, e⟩ => by subst e; exact (dts_one (dt_notIn (hu65 hr) (de_var (pv 5)) (de_var (pv 3)) (by rfl)))) (fun _ ⟨_, _, _, _, _, e⟩ => by subst e; exact (de_tup (da_cons (de_var (pv 5)) da_nil))))
      (ds_cons (ds_fld T.cf (de_var (pv 0)) (de_var (pv 1)))
      (ds_last (ds_fld T.cf (de_var (pv 0)) (de_calF le_sorted_groups c_sorted_groups hr (by decide) hx (da_cons (de_addA (de_list T.b_list (da_cons (de_var (pv 2)) da_nil) (by rfl)) (de_var (pv 6))) da_nil) (by rfl))))))))),
    fun ws μ Post hS hxc => by rw [hxc]; exact wp_Division_init hS⟩
theorem sc_alone : FnScope ["people"] ["people"] (defScope s_alone) := ⟨rfl, rfl, rfl, by decide +kernel, rfl, by decide +kernel, by decide +kernel⟩
theorem fo_alone (T : Tx K mg cA) {fa : Addr} {fd : FuncData} (F : L2.Fun K "alone" "alone" s_alone fa fd) (m_Division : Mkc P w K mg base cA "Division" 10 2 S_Division) : FnOk P w K mg base (L2.CX P w) 4 fa fd ["people"] (spD cA (S_alone)) := by
  refine fn_okD (k := 3) .d F sc_alone (fun ws μ P h => len_alone h) fun X b e1 e2 e3 e4 e5 e6 e7 calm hr hp hx ecA tk hX => ?_
  obtain ⟨cdv, A, outer, s, H, E, rfl⟩ := hX
  subst ecA
  exact ⟨t_alone b.xc, (ds_last (ds_ret (de_mkDF le_Division m_Division hr (by decide) hx (da_cons (de_var (pv 0)) (da_cons (de_lst da_nil) da_nil)) (by rfl)))),
    fun ws μ Post hS hxc => by rw [hxc]; exact wp_alone hS⟩
theorem sc_together : FnScope ["division", "one", "other", "group"] ["division", "one", "other"] (defScope s_together) := ⟨rfl, rfl, rfl, by decide +kernel, rfl, by decide +kernel, by decide +kernel⟩
theorem fo_together (T : Tx K mg cA) {fa : Addr} {fd : FuncData} (F : L2.Fun K "together" "together" s_together fa fd) (c_check_person : Cal P w K mg base cA "check_person" 1 S_check_person) : FnOk P w K mg base (L2.CX P w) 2 fa fd ["division", "one", "other"] (spD cA (S_together)) := by
  refine fn_okD (k := 1) .d F sc_together (fun ws μ P h => len_together h) fun X b e1 e2 e3 e4 e5 e6 e7 calm hr hp hx ecA tk hX => ?_
  obtain ⟨cdv, A, outer, s, H, E, rfl⟩ := hX
  subst ecA
  exact ⟨t_together b.xc, (ds_cons (ds_expr (de_calF le_check_person c_check_person hr (by decide) hx (da_cons (de_fld T.cf (de_var (pv 0))) (da_cons (de_var (pv 1)) da_nil)) (by rfl)))
      (ds_cons (ds_expr (de_calF le_check_person c_check_person hr (by decide) hx (da_cons (de_fld T.cf (de_var (pv 0))) (da_cons (de_var (pv 2)) da_nil)) (by rfl)))
      (ds_last (ds_ret (de_any rfl T.b_any (da_cons (de_lc false rfl sc_together.nd (di_seq (de_fld T.cf (de_var (pv 0)))) (own := [("group", 3)]) (by show BlkOk ["division", "one", "other", "group"] (defScope s_together) _ _; exact ⟨rfl, by decide +kernel, by decide +kernel, by decide +kernel, by decide +kernel⟩) (fun _ ⟨_, _, _, _, _, e⟩ => by subst e; exact (dgo_name (pg_name (i := 3) sc_together.nd rfl (Or.inl rfl)) (by decide))) (fun _ ⟨_, _, _, _, _, e⟩ => by subst e; exact dts_nil) (fun _ ⟨_, _, _, _, _, e⟩ => by subst e; exact (de_and (de_in (hu65 hr) (de_var (pv 1)) (de_var (pv 3)) (by rfl)) (de_one (de_in (hu65 hr) (de_var (pv 2)) (de_var (pv 3)) (by rfl)))))) da_nil) (by rfl)))))),
    fun ws μ Post hS hxc => by rw [hxc]; exact wp_together hS⟩
theorem sc_l_together_right : FnScope ["_law_made", "_law_count", "_law_whole_here", "_law_k", "_law_j", "_law_due", "_law_group"] ["_law_made", "_law_count", "_law_whole_here"] (defScope s_l_together_right) := ⟨rfl, rfl, rfl, by decide +kernel, rfl, by decide +kernel, by decide +kernel⟩
theorem fo_l_together_right (T : Tx K mg cA) {fa : Addr} {fd : FuncData} (F : L2.Fun K "_law_together_right" "_law_together_right" s_l_together_right fa fd) (c_together : Cal P w K mg base cA "together" 2 S_together) : FnOk P w K mg base (L2.CX P w) 3 fa fd ["_law_made", "_law_count", "_law_whole_here"] (spD cA (S_l_together_right)) := by
  refine fn_okD (k := 2) .d F sc_l_together_right (fun ws μ P h => len_l_together_right h) fun X b e1 e2 e3 e4 e5 e6 e7 calm hr hp hx ecA tk hX => ?_
  obtain ⟨cdv, A, outer, s, H, E, rfl⟩ := hX
  subst ecA
  exact ⟨t_l_together_right b.xc, (ds_cons (ds_for hp rfl (di_range1 (by rfl) T.b_range (da_cons (de_var (pv 1)) da_nil)) (dg_name (pg_name (i := 3) sc_l_together_right.nd rfl (Or.inr rfl))) (ds_last (ds_for hp rfl (di_range1 (by rfl) T.b_range (da_cons (de_var (pv 1)) da_nil)) (dg_name (pg_name (i := 4) sc_l_together_right.nd rfl (Or.inr rfl))) (ds_cons (ds_set (de_ne hr.units (de_lc false rfl sc_l_together_right.nd (di_seq (de_var (pv 2))) (own := [("_law_group", 6)]) (by show BlkOk ["_law_made", "_law_count", "_law_whole_here", "_law_k", "_law_j", "_law_due", "_law_group"] (defScope s_l_together_right) _ _; exact ⟨rfl, by decide +kernel, by decide +kernel, by decide +kernel, by decide +kernel⟩) (fun _ ⟨_, _, _, _, _, e⟩ => by subst e; exact (dgo_name (pg_name (i := 6) sc_l_together_right.nd rfl (Or.inl rfl)) (by decide))) (fun _ ⟨_, _, _, _, _, e⟩ => by subst e; exact (dts_one (DPW.dt (dw_and (dt_in (hu65 hr) (de_var (pv 3)) (de_var (pv 6)) (by rfl)) (dw_and1 (dt_in (hu65 hr) (de_var (pv 4)) (de_var (pv 6)) (by rfl))))))) (fun _ ⟨_, _, _, _, _, e⟩ => by subst e; exact (de_var (pv 6)))) (de_lst da_nil)) (fun p => ps_set (i := 5) sc_l_together_right.nd rfl (Or.inl rfl) p))
      (ds_last (ds_if (DPW.dt (dw_or (dt_ne hr.units (de_calF le_together c_together hr (by decide) hx (da_cons (de_var (pv 0)) (da_cons (de_var (pv 3)) (da_cons (de_var (pv 4)) da_nil))) (by rfl)) (de_var (pv 5))) (dw_or1 (dt_not (dt_val (de_isi T.is_bool (pe_bltn (v := .ty "bool") (u := .type "bool") (by rfl) T.b_bool rfl rfl) (.ty _) (by rfl) T.b_isinstance (de_calF le_together c_together hr (by decide) hx (da_cons (de_var (pv 0)) (da_cons (de_var (pv 3)) (da_cons (de_var (pv 4)) da_nil))) (by rfl)))))))) (ds_last (ds_ret de_bl)) ds_nil))))))
      (ds_last (ds_ret de_bl))),
    fun ws μ Post hS hxc => by rw [hxc]; exact wp_l_together_right hS⟩
theorem sc_l_right : FnScope ["_law_source_here", "_law_count", "_law_handed", "_law_whole_here", "_law_before", "_law_made", "_law_group", "_law_turned", "_law_k"] ["_law_source_here"] (defScope s_l_right) := ⟨rfl, rfl, rfl, by decide +kernel, rfl, by decide +kernel, by decide +kernel⟩
theorem fo_l_right (T : Tx K mg cA) {fa : Addr} {fd : FuncData} (F : L2.Fun K "_law_right" "_law_right" s_l_right fa fd) (c_l_draw : Cal P w K mg base cA "_law_draw" 1 S_l_draw) (c_l_drawn_groups : Cal P w K mg base cA "_law_drawn_groups" 3 S_l_drawn_groups) (c_l_whole : Cal P w K mg base cA "_law_whole" 1 S_l_whole) (c_l_shuffled : Cal P w K mg base cA "_law_shuffled" 2 S_l_shuffled) (c_alone : Cal P w K mg base cA "alone" 4 S_alone) (c_l_together_right : Cal P w K mg base cA "_law_together_right" 3 S_l_together_right) (m_Division : Mkc P w K mg base cA "Division" 10 2 S_Division) (EQ : Eqx P w K mg base cA) : FnG P w K mg base (L2.CX P w) 15 fa fd ["_law_source_here"] (spD cA (S_l_right)) := by
  refine fn_okG (k := 14) .d F sc_l_right (fun ws μ P h => len_l_right h) fun X b hg0 hr hp hx ecA tk hX => ?_
  obtain ⟨A, outer, s, H, E, rfl⟩ := hX
  subst ecA
  exact ⟨t_l_right b.xc, (ds_cons (ds_set (de_addA de_int (de_calF le_l_draw c_l_draw hr (by decide) hx (da_cons (de_var (pv 0)) (da_cons de_int da_nil)) (by rfl))) (fun p => ps_set (i := 1) sc_l_right.nd rfl (Or.inl rfl) p))
      (ds_cons (ds_set (de_calE le_l_drawn_groups c_l_drawn_groups hr (by decide) hx (da_cons (de_var (pv 0)) (da_cons (de_var (pv 1)) da_nil)) (by rfl)) (fun p => ps_set (i := 2) sc_l_right.nd rfl (Or.inl rfl) p))
      (ds_cons (ds_set (de_lend 2 (de_calF le_l_whole c_l_whole hr (by decide) hx (da_cons (de_var (pv 1)) (da_cons (de_var (pv 2)) da_nil)) (by rfl))) (fun p => ps_set (i := 3) sc_l_right.nd rfl (Or.inl rfl) p))
      (ds_cons (ds_set (de_lend 2 (de_repr hg0 hr T.b_repr (da_cons (de_var (pv 2)) da_nil) (by rfl))) (fun p => ps_set (i := 4) sc_l_right.nd rfl (Or.inl rfl) p))
      (ds_cons (ds_set (de_lend 2 (de_mkDF le_Division m_Division hr (by decide) hx (da_cons (de_var (pv 1)) (da_cons (de_var (pv 2)) da_nil)) (by rfl))) (fun p => ps_set (i := 5) sc_l_right.nd rfl (Or.inl rfl) p))
      (ds_cons (ds_if (dt_neE (eqx_rc (n := 12) EQ true) (hr.mono (by decide)) (de_lend 2 (de_repr hg0 hr T.b_repr (da_cons (de_var (pv 2)) da_nil) (by rfl))) (de_var (pv 4))) (ds_last (ds_ret de_bl)) ds_nil)
      (ds_cons (ds_for hp rfl (di_seq (de_var (pv 2))) (dg_name (pg_name (i := 6) sc_l_right.nd rfl (Or.inl rfl))) (ds_last (ds_expr (de_appA (de_var (pv 6)) de_int (fun p q => pe_bm PySem.F.plainAttrs_list PySem.F.slot_list_append PySem.F.type_list_append mt_append p q)))))
      (ds_cons (ds_expr (de_clrW (de_var (pv 2)) (fun p => pe_bm0 PySem.F.plainAttrs_list PySem.F.slot_list_clear PySem.F.type_list_clear mt_clear p)))
      (ds_cons (ds_if (DPW.dt (dw_or (dt_neE (eqx_rc (n := 12) EQ true) (hr.mono (by decide)) (de_tup (da_cons (de_fld T.cf (de_var (pv 5))) (da_cons (de_fld T.cf (de_var (pv 5))) da_nil))) (de_tup (da_cons (de_var (pv 1)) (da_cons (de_var (pv 3)) da_nil)))) (dw_or1 (dt_not (dt_val (de_isi T.is_tuple (pe_bltn (v := .ty "tuple") (u := .type "tuple") (by rfl) T.b_tuple rfl rfl) (.ty _) (by rfl) T.b_isinstance (de_fld T.cf (de_var (pv 5))))))))) (ds_last (ds_ret de_bl)) ds_nil)
      (ds_cons (ds_setLc false rfl sc_l_right.nd (i := 7) rfl rfl rfl (di_seq (de_calF le_l_shuffled c_l_shuffled hr (by decide) hx (da_cons (de_var (pv 0)) (da_cons (de_list T.b_list (da_cons (de_var (pv 3)) da_nil) (by rfl)) da_nil)) (by rfl))) (own := [("_law_group", 6)]) (by show BlkOk ["_law_source_here", "_law_count", "_law_handed", "_law_whole_here", "_law_before", "_law_made", "_law_group", "_law_turned", "_law_k"] (defScope s_l_right) _ _; exact ⟨rfl, by decide +kernel, by decide +kernel, by decide +kernel, by decide +kernel⟩) (fun _ ⟨_, _, _, _, _, e⟩ => by subst e; exact (dgo_name (pg_name (i := 6) sc_l_right.nd rfl (Or.inl rfl)) (by decide))) (fun _ ⟨_, _, _, _, _, e⟩ => by subst e; exact dts_nil) (fun _ ⟨_, _, _, _, _, e⟩ => by subst e; exact (de_calF le_l_shuffled c_l_shuffled hr (by decide) xok_q (da_cons (de_var (pv 0)) (da_cons (de_list T.b_list (da_cons (de_var (pv 6)) da_nil) (by rfl)) da_nil)) (by rfl))))
      (ds_cons (ds_if (DPW.dt (dw_or (dt_neE (eqx_rc (n := 12) EQ true) (hr.mono (by decide)) (de_var (pv 5)) (de_mkDF le_Division m_Division hr (by decide) hx (da_cons (de_var (pv 1)) (da_cons (de_tupOf T.b_tuple (da_cons (de_lc false rfl sc_l_right.nd (di_seq (de_var (pv 7))) (own := [("_law_group", 6)]) (by show BlkOk ["_law_source_here", "_law_count", "_law_handed", "_law_whole_here", "_law_before", "_law_made", "_law_group", "_law_turned", "_law_k"] (defScope s_l_right) _ _; exact ⟨rfl, by decide +kernel, by decide +kernel, by decide +kernel, by decide +kernel⟩) (fun _ ⟨_, _, _, _, _, e⟩ => by subst e; exact (dgo_name (pg_name (i := 6) sc_l_right.nd rfl (Or.inl rfl)) (by decide))) (fun _ ⟨_, _, _, _, _, e⟩ => by subst e; exact dts_nil) (fun _ ⟨_, _, _, _, _, e⟩ => by subst e; exact (de_tupOf T.b_tuple (da_cons (de_var (pv 6)) da_nil) (by rfl)))) da_nil) (by rfl)) da_nil)) (by rfl))) (dw_or1 (dt_not (dt_eqE (eqx_rc (n := 12) EQ false) (hr.mono (by decide)) (de_var (pv 5)) (de_mkDF le_Division m_Division hr (by decide) hx (da_cons (de_var (pv 1)) (da_cons (de_var (pv 7)) da_nil)) (by rfl))))))) (ds_last (ds_ret de_bl)) ds_nil)
      (ds_cons (ds_if (DPW.dt (dw_or (dt_inE (eqx_eb (n := 12) EQ) (hr.mono (by decide)) (de_var (pv 5)) (de_lst (da_cons (de_var (pv 3)) (da_cons (de_tup (da_cons (de_var (pv 1)) (da_cons (de_var (pv 3)) da_nil))) (da_cons de_non da_nil)))) (by rfl)) (dw_or1 (dt_eqE (eqx_rc (n := 12) EQ false) (hr.mono (by decide)) (de_var (pv 5)) (de_mkDF le_Division m_Division hr (by decide) hx (da_cons (de_addA (de_mod (de_var (pv 1)) de_int) de_int) (da_cons (de_lst da_nil) da_nil)) (by rfl)))))) (ds_last (ds_ret de_bl)) ds_nil)
      (ds_cons (ds_if (DPW.dt (dw_or (dt_neE (eqx_rc (n := 12) EQ true) (hr.mono (by decide)) (de_eqE (eqx_rc (n := 12) EQ false) (hr.mono (by decide)) (de_calF le_alone c_alone hr (by decide) hx (da_cons (de_var (pv 1)) da_nil) (by rfl)) (de_var (pv 5))) (de_eqE (eqx_rc (n := 12) EQ false) (hr.mono (by decide)) (de_lenA T.b_len (de_var (pv 3)) (by rfl)) (de_var (pv 1)))) (dw_or1 (dt_neE (eqx_rc (n := 12) EQ true) (hr.mono (by decide)) (de_fld T.cf (de_calF le_alone c_alone hr (by decide) hx (da_cons (de_var (pv 1)) da_nil) (by rfl))) (de_tupOf T.b_tuple (da_cons (de_lc false rfl sc_l_right.nd (di_range1 (by rfl) T.b_range (da_cons (de_var (pv 1)) da_nil)) (own := [("_law_k", 8)]) (by show BlkOk ["_law_source_here", "_law_count", "_law_handed", "_law_whole_here", "_law_before", "_law_made", "_law_group", "_law_turned", "_law_k"] (defScope s_l_right) _ _; exact ⟨rfl, by decide +kernel, by decide +kernel, by decide +kernel, by decide +kernel⟩) (fun _ ⟨_, _, _, _, _, e⟩ => by subst e; exact (dgo_name (pg_name (i := 8) sc_l_right.nd rfl (Or.inl rfl)) (by decide))) (fun _ ⟨_, _, _, _, _, e⟩ => by subst e; exact dts_nil) (fun _ ⟨_, _, _, _, _, e⟩ => by subst e; exact (de_tup (da_cons (de_var (pv 8)) da_nil)))) da_nil) (by rfl)))))) (ds_last (ds_ret de_bl)) ds_nil)
      (ds_last (ds_ret (de_calF le_l_together_right c_l_together_right hr (by decide) hx (da_cons (de_var (pv 5)) (da_cons (de_var (pv 1)) (da_cons (de_var (pv 3)) da_nil))) (by rfl))))))))))))))))),
    fun ws μ Post hS hxc => by rw [hxc]; exact wp_l_right hS⟩
theorem sc_law : FnScope ["_law_script", "_law_cell", "_law_source_here"] ["_law_script"] (defScope s_law) := ⟨rfl, rfl, rfl, by decide +kernel, rfl, by decide +kernel, by decide +kernel⟩
theorem fo_law (T : Tx K mg cA) {fa : Addr} {fd : FuncData} (F : L2.Fun K "law" "law" s_law fa fd) (c_l_source : Cal P w K mg base cA "_law_source" 1 S_l_source) (c_l_right : CalG P w K mg base cA "_law_right" 15 S_l_right) : FnG P w K mg base (L2.CX P w) 16 fa fd ["_law_script"] (spD cA (S_law K)) := by
  refine fn_okG (k := 15) .d F sc_law (fun ws μ P h => len_law h) fun X b hg0 hr hp hx ecA tk hX => ?_
  obtain ⟨A, outer, s, H, E, rfl⟩ := hX
  subst ecA
  exact ⟨t_law b.xc K, (ds_cons (ds_for hp rfl (di_seq (de_sl false (de_scrAdd (de_var (pv 0)) (de_lst (da_cons de_int da_nil))) do_none (do_some de_int))) (dg_name (pg_name (i := 1) sc_law.nd rfl (Or.inl rfl))) (ds_cons (ds_set (de_calF le_l_source c_l_source hr (by decide) hx (da_cons (de_var (pv 1)) da_nil) (by rfl)) (fun p => ps_set (i := 2) sc_law.nd rfl (Or.inl rfl) p))
      (ds_last (ds_if (dt_not (dt_val (de_calG hg0 (fun h => callE_of (le_l_right h)) c_l_right hr (by decide) hx (da_cons (de_var (pv 2)) da_nil) (by rfl)))) (ds_last (ds_ret de_bl)) ds_nil))))
      (ds_last (ds_ret de_bl))),
    fun ws μ Post hS hxc => by rw [hxc]; exact wp_law hS⟩
def cAk (C0 C10 : Addr) : Nat → Addr
  | 0 => C0
  | 10 => C10
  | _ => 0
theorem all_mk {l : PySem.W.OpenLaw} {w : World} {K : PySem.W.Frag} {h : Heap} {mg : Str → Option Value} {fa C0 C10 f_Division_kind f_Division_facts f_Thing_eq f_l_source f_l_draw f_l_shuffled f_l_pick f_l_drawn_groups f_l_whole f_check_people f_check_person f_sorted_groups f_Division_init f_alone f_together f_l_together_right f_l_right f_law : Addr} {t_MOST_PEOPLE : Tok} (X : K.In h) (G : h.Ns mainGlobals mg) (hfa : mg "law" = some (.ref fa))
    {od_Division_kind an_Division_kind od_Division_facts an_Division_facts od_Thing_eq an_Thing_eq od_l_source an_l_source od_l_draw an_l_draw od_l_shuffled an_l_shuffled od_l_pick an_l_pick od_l_drawn_groups an_l_drawn_groups od_l_whole an_l_whole od_check_people an_check_people od_check_person an_check_person od_sorted_groups an_sorted_groups od_Division_init an_Division_init od_alone an_alone od_together an_together od_l_together_right an_l_together_right od_l_right an_l_right od_law an_law : Option Addr} {sl_Division_kind sl_Division_facts sl_Thing_eq sl_l_source sl_l_draw sl_l_shuffled sl_l_pick sl_l_drawn_groups sl_l_whole sl_check_people sl_check_person sl_sorted_groups sl_Division_init sl_alone sl_together sl_l_together_right sl_l_right sl_law : Array (Option Value)} {oc_Division_kind kV_Division_kind dc_Division_kind pm_Division_kind cd_Division_kind ct_Division_kind oc_Division_facts kV_Division_facts dc_Division_facts pm_Division_facts cd_Division_facts ct_Division_facts oc_Thing_eq kV_Thing_eq dc_Thing_eq pm_Thing_eq cd_Thing_eq ct_Thing_eq oc_l_source kV_l_source dc_l_source pm_l_source cd_l_source ct_l_source oc_l_draw kV_l_draw dc_l_draw pm_l_draw cd_l_draw ct_l_draw oc_l_shuffled kV_l_shuffled dc_l_shuffled pm_l_shuffled cd_l_shuffled ct_l_shuffled oc_l_pick kV_l_pick dc_l_pick pm_l_pick cd_l_pick ct_l_pick oc_l_drawn_groups kV_l_drawn_groups dc_l_drawn_groups pm_l_drawn_groups cd_l_drawn_groups ct_l_drawn_groups oc_l_whole kV_l_whole dc_l_whole pm_l_whole cd_l_whole ct_l_whole oc_check_people kV_check_people dc_check_people pm_check_people cd_check_people ct_check_people oc_check_person kV_check_person dc_check_person pm_check_person cd_check_person ct_check_person oc_sorted_groups kV_sorted_groups dc_sorted_groups pm_sorted_groups cd_sorted_groups ct_sorted_groups oc_Division_init kV_Division_init dc_Division_init pm_Division_init cd_Division_init ct_Division_init oc_alone kV_alone dc_alone pm_alone cd_alone ct_alone oc_together kV_together dc_together pm_together cd_together ct_together oc_l_together_right kV_l_together_right dc_l_together_right pm_l_together_right cd_l_together_right ct_l_together_right oc_l_right kV_l_right dc_l_right pm_l_right cd_l_right ct_l_right oc_law kV_law dc_law pm_law cd_law ct_law : Value}
    (g0 : PySem.W.nsIn K mainGlobals "Thing" = some (some (.ref C0)))
    (g10 : PySem.W.nsIn K mainGlobals "Division" = some (some (.ref C10)))
    (pg10 : PySem.W.plainGet K C10 Str.empty = true)
    (hd10 : PySem.W.hasDictIn K C10 = true)
    (po10 : PySem.W.plainOver K C10 = true)
    (sa10 : PySem.W.findIn K (.ref C10) "__setattr__" = some (some (.builtin "object.__setattr__")))
    (mk10 : PySem.W.makesIn K C10 = true)
    (kc10 : PySem.W.keepIn K (.ref C10) = true)
    (na10_people : PySem.W.findIn K (.ref C10) "people" = some none)
    (na10_groups : PySem.W.findIn K (.ref C10) "groups" = some none)
    (ha10 : PySem.W.findIn K (.ref C10) "__class__" = some (some (.builtin "object.__class__")))
    (ob10 : PySem.W.mroIn K C10 (.type "object") = some true)
    (qe10 : PySem.W.findIn K (.ref C10) "__eq__" = some (some (.ref f_Thing_eq)))
    (qn10 : PySem.W.findIn K (.ref C10) "__ne__" = some (some (.builtin "object.__ne__")))
    (su10_NoneType : PySem.W.subIn K (.ref C10) (.type "NoneType") = some false)
    (su10_bool : PySem.W.subIn K (.ref C10) (.type "bool") = some false)
    (su10_int : PySem.W.subIn K (.ref C10) (.type "int") = some false)
    (su10_str : PySem.W.subIn K (.ref C10) (.type "str") = some false)
    (su10_list : PySem.W.subIn K (.ref C10) (.type "list") = some false)
    (su10_tuple : PySem.W.subIn K (.ref C10) (.type "tuple") = some false)
    (nf10_10 : PySem.W.notFirst K C10 (.ref C10) = true)
    (ko10_0 : PySem.W.kitOne K (.ref C10) (.ref C0) = some true)
    (hgn : PySem.W.specialIn K (.builtin "object.__class__") "__get__" = some (some (.builtin "getset_descriptor.__get__")))
    (tk : PySem.W.takesIn K (.builtin "object.__class__") = some true)
    (kt_NoneType : PySem.W.kitOne K (.type "NoneType") (.ref C0) = some false)
    (kt_bool : PySem.W.kitOne K (.type "bool") (.ref C0) = some false)
    (kt_int : PySem.W.kitOne K (.type "int") (.ref C0) = some false)
    (kt_str : PySem.W.kitOne K (.type "str") (.ref C0) = some false)
    (kt_list : PySem.W.kitOne K (.type "list") (.ref C0) = some false)
    (kt_tuple : PySem.W.kitOne K (.type "tuple") (.ref C0) = some false)
    (kt_dict : PySem.W.kitOne K (.type "dict") (.ref C0) = some false)
    (kt_self_bool : PySem.W.kitOne K (.type "bool") (.type "bool") = some true)
    (kt_self_tuple : PySem.W.kitOne K (.type "tuple") (.type "tuple") = some true)
    (nd : [C10].Nodup)
    (b_abs : PySem.W.nsIn K mainGlobals "abs" = some none)
    (b_any : PySem.W.nsIn K mainGlobals "any" = some none)
    (b_bool : PySem.W.nsIn K mainGlobals "bool" = some none)
    (b_isinstance : PySem.W.nsIn K mainGlobals "isinstance" = some none)
    (b_len : PySem.W.nsIn K mainGlobals "len" = some none)
    (b_list : PySem.W.nsIn K mainGlobals "list" = some none)
    (b_range : PySem.W.nsIn K mainGlobals "range" = some none)
    (b_repr : PySem.W.nsIn K mainGlobals "repr" = some none)
    (b_sorted : PySem.W.nsIn K mainGlobals "sorted" = some none)
    (b_tuple : PySem.W.nsIn K mainGlobals "tuple" = some none)
    (c_MOST_PEOPLE : PySem.W.nsIn K mainGlobals "MOST_PEOPLE" = some (some (.int 16 t_MOST_PEOPLE)))
    (fm10_facts : PySem.W.findIn K (.ref C10) "facts" = some (some (.ref f_Division_facts)))
    (fm10_kind : PySem.W.findIn K (.ref C10) "kind" = some (some (.ref f_Division_kind)))
    (in10 : PySem.W.findIn K (.ref C10) "__init__" = some (some (.ref f_Division_init)))
    (l_Division_kind : K.lookup f_Division_kind = some ⟨oc_Division_kind, od_Division_kind, .func (PySem.W.fnOf "kind" "Division.kind" (defArgs s_Division_kind) (defBody s_Division_kind) (defScope s_Division_kind) .none kV_Division_kind dc_Division_kind pm_Division_kind an_Division_kind cd_Division_kind ct_Division_kind), sl_Division_kind⟩)
    (c_Division_kind : PySem.W.codeIn K cd_Division_kind "Division.kind" = true)
    (k_Division_kind : PySem.W.keepIn K (.ref f_Division_kind) = true)
    (i_Division_kind : PySem.W.isFn K (.ref f_Division_kind) = true)
    (l_Division_facts : K.lookup f_Division_facts = some ⟨oc_Division_facts, od_Division_facts, .func (PySem.W.fnOf "facts" "Division.facts" (defArgs s_Division_facts) (defBody s_Division_facts) (defScope s_Division_facts) .none kV_Division_facts dc_Division_facts pm_Division_facts an_Division_facts cd_Division_facts ct_Division_facts), sl_Division_facts⟩)
    (c_Division_facts : PySem.W.codeIn K cd_Division_facts "Division.facts" = true)
    (k_Division_facts : PySem.W.keepIn K (.ref f_Division_facts) = true)
    (i_Division_facts : PySem.W.isFn K (.ref f_Division_facts) = true)
    (l_Thing_eq : K.lookup f_Thing_eq = some ⟨oc_Thing_eq, od_Thing_eq, .func (PySem.W.fnOf "__eq__" "Thing.__eq__" (defArgs s_Thing_eq) (defBody s_Thing_eq) (defScope s_Thing_eq) .none kV_Thing_eq dc_Thing_eq pm_Thing_eq an_Thing_eq cd_Thing_eq ct_Thing_eq), sl_Thing_eq⟩)
    (c_Thing_eq : PySem.W.codeIn K cd_Thing_eq "Thing.__eq__" = true)
    (k_Thing_eq : PySem.W.keepIn K (.ref f_Thing_eq) = true)
    (i_Thing_eq : PySem.W.isFn K (.ref f_Thing_eq) = true)
    (m_l_source : PySem.W.nsIn K mainGlobals "_law_source" = some (some (.ref f_l_source)))
    (l_l_source : K.lookup f_l_source = some ⟨oc_l_source, od_l_source, .func (PySem.W.fnOf "_law_source" "_law_source" (defArgs s_l_source) (defBody s_l_source) (defScope s_l_source) .none kV_l_source dc_l_source pm_l_source an_l_source cd_l_source ct_l_source), sl_l_source⟩)
    (c_l_source : PySem.W.codeIn K cd_l_source "_law_source" = true)
    (k_l_source : PySem.W.keepIn K (.ref f_l_source) = true)
    (m_l_draw : PySem.W.nsIn K mainGlobals "_law_draw" = some (some (.ref f_l_draw)))
    (l_l_draw : K.lookup f_l_draw = some ⟨oc_l_draw, od_l_draw, .func (PySem.W.fnOf "_law_draw" "_law_draw" (defArgs s_l_draw) (defBody s_l_draw) (defScope s_l_draw) .none kV_l_draw dc_l_draw pm_l_draw an_l_draw cd_l_draw ct_l_draw), sl_l_draw⟩)
    (c_l_draw : PySem.W.codeIn K cd_l_draw "_law_draw" = true)
    (k_l_draw : PySem.W.keepIn K (.ref f_l_draw) = true)
    (m_l_shuffled : PySem.W.nsIn K mainGlobals "_law_shuffled" = some (some (.ref f_l_shuffled)))
    (l_l_shuffled : K.lookup f_l_shuffled = some ⟨oc_l_shuffled, od_l_shuffled, .func (PySem.W.fnOf "_law_shuffled" "_law_shuffled" (defArgs s_l_shuffled) (defBody s_l_shuffled) (defScope s_l_shuffled) .none kV_l_shuffled dc_l_shuffled pm_l_shuffled an_l_shuffled cd_l_shuffled ct_l_shuffled), sl_l_shuffled⟩)
    (c_l_shuffled : PySem.W.codeIn K cd_l_shuffled "_law_shuffled" = true)
    (k_l_shuffled : PySem.W.keepIn K (.ref f_l_shuffled) = true)
    (m_l_pick : PySem.W.nsIn K mainGlobals "_law_pick" = some (some (.ref f_l_pick)))
    (l_l_pick : K.lookup f_l_pick = some ⟨oc_l_pick, od_l_pick, .func (PySem.W.fnOf "_law_pick" "_law_pick" (defArgs s_l_pick) (defBody s_l_pick) (defScope s_l_pick) .none kV_l_pick dc_l_pick pm_l_pick an_l_pick cd_l_pick ct_l_pick), sl_l_pick⟩)
    (c_l_pick : PySem.W.codeIn K cd_l_pick "_law_pick" = true)
    (k_l_pick : PySem.W.keepIn K (.ref f_l_pick) = true)
    (m_l_drawn_groups : PySem.W.nsIn K mainGlobals "_law_drawn_groups" = some (some (.ref f_l_drawn_groups)))
    (l_l_drawn_groups : K.lookup f_l_drawn_groups = some ⟨oc_l_drawn_groups, od_l_drawn_groups, .func (PySem.W.fnOf "_law_drawn_groups" "_law_drawn_groups" (defArgs s_l_drawn_groups) (defBody s_l_drawn_groups) (defScope s_l_drawn_groups) .none kV_l_drawn_groups dc_l_drawn_groups pm_l_drawn_groups an_l_drawn_groups cd_l_drawn_groups ct_l_drawn_groups), sl_l_drawn_groups⟩)
    (c_l_drawn_groups : PySem.W.codeIn K cd_l_drawn_groups "_law_drawn_groups" = true)
    (k_l_drawn_groups : PySem.W.keepIn K (.ref f_l_drawn_groups) = true)
    (m_l_whole : PySem.W.nsIn K mainGlobals "_law_whole" = some (some (.ref f_l_whole)))
    (l_l_whole : K.lookup f_l_whole = some ⟨oc_l_whole, od_l_whole, .func (PySem.W.fnOf "_law_whole" "_law_whole" (defArgs s_l_whole) (defBody s_l_whole) (defScope s_l_whole) .none kV_l_whole dc_l_whole pm_l_whole an_l_whole cd_l_whole ct_l_whole), sl_l_whole⟩)
    (c_l_whole : PySem.W.codeIn K cd_l_whole "_law_whole" = true)
    (k_l_whole : PySem.W.keepIn K (.ref f_l_whole) = true)
    (m_check_people : PySem.W.nsIn K mainGlobals "check_people" = some (some (.ref f_check_people)))
    (l_check_people : K.lookup f_check_people = some ⟨oc_check_people, od_check_people, .func (PySem.W.fnOf "check_people" "check_people" (defArgs s_check_people) (defBody s_check_people) (defScope s_check_people) .none kV_check_people dc_check_people pm_check_people an_check_people cd_check_people ct_check_people), sl_check_people⟩)
    (c_check_people : PySem.W.codeIn K cd_check_people "check_people" = true)
    (k_check_people : PySem.W.keepIn K (.ref f_check_people) = true)
    (m_check_person : PySem.W.nsIn K mainGlobals "check_person" = some (some (.ref f_check_person)))
    (l_check_person : K.lookup f_check_person = some ⟨oc_check_person, od_check_person, .func (PySem.W.fnOf "check_person" "check_person" (defArgs s_check_person) (defBody s_check_person) (defScope s_check_person) .none kV_check_person dc_check_person pm_check_person an_check_person cd_check_person ct_check_person), sl_check_person⟩)
    (c_check_person : PySem.W.codeIn K cd_check_person "check_person" = true)
    (k_check_person : PySem.W.keepIn K (.ref f_check_person) = true)
    (m_sorted_groups : PySem.W.nsIn K mainGlobals "sorted_groups" = some (some (.ref f_sorted_groups)))
    (l_sorted_groups : K.lookup f_sorted_groups = some ⟨oc_sorted_groups, od_sorted_groups, .func (PySem.W.fnOf "sorted_groups" "sorted_groups" (defArgs s_sorted_groups) (defBody s_sorted_groups) (defScope s_sorted_groups) .none kV_sorted_groups dc_sorted_groups pm_sorted_groups an_sorted_groups cd_sorted_groups ct_sorted_groups), sl_sorted_groups⟩)
    (c_sorted_groups : PySem.W.codeIn K cd_sorted_groups "sorted_groups" = true)
    (k_sorted_groups : PySem.W.keepIn K (.ref f_sorted_groups) = true)
    (l_Division_init : K.lookup f_Division_init = some ⟨oc_Division_init, od_Division_init, .func (PySem.W.fnOf "__init__" "Division.__init__" (defArgs s_Division_init) (defBody s_Division_init) (defScope s_Division_init) .none kV_Division_init dc_Division_init pm_Division_init an_Division_init cd_Division_init ct_Division_init), sl_Division_init⟩)
    (c_Division_init : PySem.W.codeIn K cd_Division_init "Division.__init__" = true)
    (k_Division_init : PySem.W.keepIn K (.ref f_Division_init) = true)
    (i_Division_init : PySem.W.isFn K (.ref f_Division_init) = true)
    (m_alone : PySem.W.nsIn K mainGlobals "alone" = some (some (.ref f_alone)))
    (l_alone : K.lookup f_alone = some ⟨oc_alone, od_alone, .func (PySem.W.fnOf "alone" "alone" (defArgs s_alone) (defBody s_alone) (defScope s_alone) .none kV_alone dc_alone pm_alone an_alone cd_alone ct_alone), sl_alone⟩)
    (c_alone : PySem.W.codeIn K cd_alone "alone" = true)
    (k_alone : PySem.W.keepIn K (.ref f_alone) = true)
    (m_together : PySem.W.nsIn K mainGlobals "together" = some (some (.ref f_together)))
    (l_together : K.lookup f_together = some ⟨oc_together, od_together, .func (PySem.W.fnOf "together" "together" (defArgs s_together) (defBody s_together) (defScope s_together) .none kV_together dc_together pm_together an_together cd_together ct_together), sl_together⟩)
    (c_together : PySem.W.codeIn K cd_together "together" = true)
    (k_together : PySem.W.keepIn K (.ref f_together) = true)
    (m_l_together_right : PySem.W.nsIn K mainGlobals "_law_together_right" = some (some (.ref f_l_together_right)))
    (l_l_together_right : K.lookup f_l_together_right = some ⟨oc_l_together_right, od_l_together_right, .func (PySem.W.fnOf "_law_together_right" "_law_together_right" (defArgs s_l_together_right) (defBody s_l_together_right) (defScope s_l_together_right) .none kV_l_together_right dc_l_together_right pm_l_together_right an_l_together_right cd_l_together_right ct_l_together_right), sl_l_together_right⟩)
    (c_l_together_right : PySem.W.codeIn K cd_l_together_right "_law_together_right" = true)
    (k_l_together_right : PySem.W.keepIn K (.ref f_l_together_right) = true)
    (m_l_right : PySem.W.nsIn K mainGlobals "_law_right" = some (some (.ref f_l_right)))
    (l_l_right : K.lookup f_l_right = some ⟨oc_l_right, od_l_right, .func (PySem.W.fnOf "_law_right" "_law_right" (defArgs s_l_right) (defBody s_l_right) (defScope s_l_right) .none kV_l_right dc_l_right pm_l_right an_l_right cd_l_right ct_l_right), sl_l_right⟩)
    (c_l_right : PySem.W.codeIn K cd_l_right "_law_right" = true)
    (k_l_right : PySem.W.keepIn K (.ref f_l_right) = true)
    (m_law : PySem.W.nsIn K mainGlobals "law" = some (some (.ref f_law)))
    (l_law : K.lookup f_law = some ⟨oc_law, od_law, .func (PySem.W.fnOf "law" "law" (defArgs s_law) (defBody s_law) (defScope s_law) .none kV_law dc_law pm_law an_law cd_law ct_law), sl_law⟩)
    (c_law : PySem.W.codeIn K cd_law "law" = true)
    (k_law : PySem.W.keepIn K (.ref f_law) = true) :
    ∃ fd : FuncData, (∀ (s : Shared) (v : Value), BindsTo s fd ⟨[v], []⟩ [("_law_script", v)]) ∧ ∀ base : Heap, K.In base → base.Ns mainGlobals mg → ∃ cA : Nat → Addr, FnG l.prog w K mg base (L2.CX l.prog w) 16 fa fd ["_law_script"] (spD cA (S_law K)) := by
  have e := hfa.symm.trans (PySem.W.mg_of X G m_law)
  cases e
  refine ⟨PySem.W.fnOf "law" "law" (defArgs s_law) (defBody s_law) (defScope s_law) .none kV_law dc_law pm_law an_law cd_law ct_law, fun s v => .of_eq rfl, fun base hKb hGb => ⟨cAk C0 C10, ?_⟩⟩

  have cl10 : Cls K C10 := ⟨pg10, hd10, po10, sa10⟩
  have T : Tx K mg (cAk C0 C10) := by
    constructor
    case b_abs => exact PySem.W.mg_none_of X G b_abs
    case b_any => exact PySem.W.mg_none_of X G b_any
    case b_bool => exact PySem.W.mg_none_of X G b_bool
    case b_isinstance => exact PySem.W.mg_none_of X G b_isinstance
    case b_len => exact PySem.W.mg_none_of X G b_len
    case b_list => exact PySem.W.mg_none_of X G b_list
    case b_range => exact PySem.W.mg_none_of X G b_range
    case b_repr => exact PySem.W.mg_none_of X G b_repr
    case b_sorted => exact PySem.W.mg_none_of X G b_sorted
    case b_tuple => exact PySem.W.mg_none_of X G b_tuple
    case c_MOST_PEOPLE => exact ⟨_, PySem.W.mg_of X G c_MOST_PEOPLE⟩
    case n_Thing => exact PySem.W.mg_of X G g0
    case cf =>
      refine ⟨fun c hc => ?_, fun c f hf => ?_⟩
      · unfold FL at hc
        split at hc <;> first | exact absurd rfl hc | (dsimp only [cAk]; assumption)
      · unfold FL at hf
        split at hf <;> first | (exfalso; exact List.not_mem_nil hf) | (simp only [List.mem_cons, List.not_mem_nil, or_false] at hf; rcases hf with rfl | rfl <;> dsimp only [cAk] <;> assumption) | (simp only [List.mem_cons, List.not_mem_nil, or_false] at hf; rcases hf with rfl <;> dsimp only [cAk] <;> assumption)
    case is_Thing =>
      refine ⟨fun s hs c hc => ?_, fun c d hd => ?_⟩
      · simp only [isB_Thing, Option.some.injEq] at hc
        subst hc
        simp only [List.mem_cons, List.not_mem_nil, or_false] at hs
        rcases hs with rfl | rfl | rfl | rfl | rfl | rfl | rfl <;> (dsimp only [cAk]; assumption)
      · simp only [isO_Thing, Option.map_eq_some_iff] at hd
        obtain ⟨fs, h1, rfl⟩ := hd
        obtain ⟨h2, _⟩ := TF_cases h1
        rcases h2 with rfl
        · exact ⟨⟨cl10, ha10, hgn, tk, ob10⟩, ko10_0⟩
    case is_bool =>
      refine ⟨fun s hs c hc => ?_, fun c d hd => by cases hd⟩
      simp only [List.mem_cons, List.not_mem_nil, or_false] at hs
      rcases hs with rfl | rfl | rfl | rfl | rfl | rfl | rfl <;> first | (simp [isB_bool] at hc; done) | (simp [isB_bool] at hc; subst hc; exact kt_self_bool)
    case is_tuple =>
      refine ⟨fun s hs c hc => ?_, fun c d hd => by cases hd⟩
      simp only [List.mem_cons, List.not_mem_nil, or_false] at hs
      rcases hs with rfl | rfl | rfl | rfl | rfl | rfl | rfl <;> first | (simp [isB_tuple] at hc; done) | (simp [isB_tuple] at hc; subst hc; exact kt_self_tuple)
  have HT : EqT K (cAk C0 C10) TF f_Thing_eq := by
    refine ⟨fun c fs hc => ?_, fun c fs c' fs' h1 h2 => ?_, fun c fs c' fs' h1 h2 he => ?_⟩
    · obtain ⟨h2, _⟩ := TF_cases hc
      rcases h2 with rfl
      · exact ⟨qe10, qn10, i_Thing_eq, ob10, fun T hT => by simp only [List.mem_cons, List.not_mem_nil, or_false] at hT; rcases hT with rfl | rfl | rfl | rfl | rfl | rfl <;> (dsimp only [cAk]; assumption)⟩
    · obtain ⟨h3, _⟩ := TF_cases h1
      obtain ⟨h4, _⟩ := TF_cases h2
      rcases h3 with rfl <;> rcases h4 with rfl <;> (dsimp only [cAk]; assumption)
    · obtain ⟨h3, _⟩ := TF_cases h1
      obtain ⟨h4, _⟩ := TF_cases h2
      rcases h3 with rfl <;> rcases h4 with rfl <;> first | rfl
  have F_Division_kind := fun_mk (st := s_Division_kind) l_Division_kind c_Division_kind k_Division_kind
  have b_Division_kind := F_Division_kind.binds (ps := ["self"]) fun _ _ _ _ _ _ us hl => match us, hl with | [_], _ => rfl
  have F_Division_facts := fun_mk (st := s_Division_facts) l_Division_facts c_Division_facts k_Division_facts
  have b_Division_facts := F_Division_facts.binds (ps := ["self"]) fun _ _ _ _ _ _ us hl => match us, hl with | [_], _ => rfl
  have F_Thing_eq := fun_mk (st := s_Thing_eq) l_Thing_eq c_Thing_eq k_Thing_eq
  have b_Thing_eq := F_Thing_eq.binds (ps := ["self", "other"]) fun _ _ _ _ _ _ us hl => match us, hl with | [_, _], _ => rfl
  have F_l_source := fun_mk (st := s_l_source) l_l_source c_l_source k_l_source
  have b_l_source := F_l_source.binds (ps := ["_law_cell"]) fun _ _ _ _ _ _ us hl => match us, hl with | [_], _ => rfl
  have F_l_draw := fun_mk (st := s_l_draw) l_l_draw c_l_draw k_l_draw
  have b_l_draw := F_l_draw.binds (ps := ["_law_source_here", "_law_many"]) fun _ _ _ _ _ _ us hl => match us, hl with | [_, _], _ => rfl
  have F_l_shuffled := fun_mk (st := s_l_shuffled) l_l_shuffled c_l_shuffled k_l_shuffled
  have b_l_shuffled := F_l_shuffled.binds (ps := ["_law_source_here", "_law_items"]) fun _ _ _ _ _ _ us hl => match us, hl with | [_, _], _ => rfl
  have F_l_pick := fun_mk (st := s_l_pick) l_l_pick c_l_pick k_l_pick
  have b_l_pick := F_l_pick.binds (ps := ["_law_source_here", "_law_items"]) fun _ _ _ _ _ _ us hl => match us, hl with | [_, _], _ => rfl
  have F_l_drawn_groups := fun_mk (st := s_l_drawn_groups) l_l_drawn_groups c_l_drawn_groups k_l_drawn_groups
  have b_l_drawn_groups := F_l_drawn_groups.binds (ps := ["_law_source_here", "_law_count"]) fun _ _ _ _ _ _ us hl => match us, hl with | [_, _], _ => rfl
  have F_l_whole := fun_mk (st := s_l_whole) l_l_whole c_l_whole k_l_whole
  have b_l_whole := F_l_whole.binds (ps := ["_law_count", "_law_groups_so"]) fun _ _ _ _ _ _ us hl => match us, hl with | [_, _], _ => rfl
  have F_check_people := fun_mk (st := s_check_people) l_check_people c_check_people k_check_people
  have b_check_people := F_check_people.binds (ps := ["people"]) fun _ _ _ _ _ _ us hl => match us, hl with | [_], _ => rfl
  have F_check_person := fun_mk (st := s_check_person) l_check_person c_check_person k_check_person
  have b_check_person := F_check_person.binds (ps := ["people", "person"]) fun _ _ _ _ _ _ us hl => match us, hl with | [_, _], _ => rfl
  have F_sorted_groups := fun_mk (st := s_sorted_groups) l_sorted_groups c_sorted_groups k_sorted_groups
  have b_sorted_groups := F_sorted_groups.binds (ps := ["groups"]) fun _ _ _ _ _ _ us hl => match us, hl with | [_], _ => rfl
  have F_Division_init := fun_mk (st := s_Division_init) l_Division_init c_Division_init k_Division_init
  have b_Division_init := F_Division_init.binds (ps := ["self", "people", "groups"]) fun _ _ _ _ _ _ us hl => match us, hl with | [_, _, _], _ => rfl
  have F_alone := fun_mk (st := s_alone) l_alone c_alone k_alone
  have b_alone := F_alone.binds (ps := ["people"]) fun _ _ _ _ _ _ us hl => match us, hl with | [_], _ => rfl
  have F_together := fun_mk (st := s_together) l_together c_together k_together
  have b_together := F_together.binds (ps := ["division", "one", "other"]) fun _ _ _ _ _ _ us hl => match us, hl with | [_, _, _], _ => rfl
  have F_l_together_right := fun_mk (st := s_l_together_right) l_l_together_right c_l_together_right k_l_together_right
  have b_l_together_right := F_l_together_right.binds (ps := ["_law_made", "_law_count", "_law_whole_here"]) fun _ _ _ _ _ _ us hl => match us, hl with | [_, _, _], _ => rfl
  have F_l_right := fun_mk (st := s_l_right) l_l_right c_l_right k_l_right
  have b_l_right := F_l_right.binds (ps := ["_law_source_here"]) fun _ _ _ _ _ _ us hl => match us, hl with | [_], _ => rfl
  have F_law := fun_mk (st := s_law) l_law c_law k_law
  have b_law := F_law.binds (ps := ["_law_script"]) fun _ _ _ _ _ _ us hl => match us, hl with | [_], _ => rfl
  have o_Division_kind := fo_Division_kind (P := l.prog) (w := w) (base := base) T F_Division_kind
  have e_Division_kind : Mec l.prog w K mg base (cAk C0 C10) "kind" 10 _ _ := ⟨cl10, _, _, _, ⟨fm10_kind, i_Division_kind, k_Division_kind⟩, o_Division_kind, b_Division_kind⟩
  have o_Division_facts := fo_Division_facts (P := l.prog) (w := w) (base := base) T F_Division_facts
  have e_Division_facts : Mec l.prog w K mg base (cAk C0 C10) "facts" 10 _ _ := ⟨cl10, _, _, _, ⟨fm10_facts, i_Division_facts, k_Division_facts⟩, o_Division_facts, b_Division_facts⟩
  have EQ : Eqx l.prog w K mg base (cAk C0 C10) := eqx_ok T HT F_Thing_eq b_Thing_eq e_Division_kind e_Division_facts
  have o_l_source := fo_l_source (P := l.prog) (w := w) (base := base) T F_l_source
  have d_l_source : Cal l.prog w K mg base (cAk C0 C10) "_law_source" _ _ := ⟨_, _, _, o_l_source, PySem.W.mg_of X G m_l_source, k_l_source, b_l_source⟩
  have o_l_draw := fo_l_draw (P := l.prog) (w := w) (base := base) T F_l_draw
  have d_l_draw : Cal l.prog w K mg base (cAk C0 C10) "_law_draw" _ _ := ⟨_, _, _, o_l_draw, PySem.W.mg_of X G m_l_draw, k_l_draw, b_l_draw⟩
  have o_l_shuffled := fo_l_shuffled (P := l.prog) (w := w) (base := base) T F_l_shuffled d_l_draw
  have d_l_shuffled : Cal l.prog w K mg base (cAk C0 C10) "_law_shuffled" _ _ := ⟨_, _, _, o_l_shuffled, PySem.W.mg_of X G m_l_shuffled, k_l_shuffled, b_l_shuffled⟩
  have o_l_pick := fo_l_pick (P := l.prog) (w := w) (base := base) T F_l_pick d_l_draw
  have d_l_pick : Cal l.prog w K mg base (cAk C0 C10) "_law_pick" _ _ := ⟨_, _, _, o_l_pick, PySem.W.mg_of X G m_l_pick, k_l_pick, b_l_pick⟩
  have o_l_drawn_groups := fo_l_drawn_groups (P := l.prog) (w := w) (base := base) T F_l_drawn_groups d_l_shuffled d_l_draw d_l_pick
  have d_l_drawn_groups : Cal l.prog w K mg base (cAk C0 C10) "_law_drawn_groups" _ _ := ⟨_, _, _, o_l_drawn_groups, PySem.W.mg_of X G m_l_drawn_groups, k_l_drawn_groups, b_l_drawn_groups⟩
  have o_l_whole := fo_l_whole (P := l.prog) (w := w) (base := base) T F_l_whole
  have d_l_whole : Cal l.prog w K mg base (cAk C0 C10) "_law_whole" _ _ := ⟨_, _, _, o_l_whole, PySem.W.mg_of X G m_l_whole, k_l_whole, b_l_whole⟩
  have o_check_people := fo_check_people (P := l.prog) (w := w) (base := base) T F_check_people
  have d_check_people : Cal l.prog w K mg base (cAk C0 C10) "check_people" _ _ := ⟨_, _, _, o_check_people, PySem.W.mg_of X G m_check_people, k_check_people, b_check_people⟩
  have o_check_person := fo_check_person (P := l.prog) (w := w) (base := base) T F_check_person
  have d_check_person : Cal l.prog w K mg base (cAk C0 C10) "check_person" _ _ := ⟨_, _, _, o_check_person, PySem.W.mg_of X G m_check_person, k_check_person, b_check_person⟩
  have o_sorted_groups := fo_sorted_groups (P := l.prog) (w := w) (base := base) T F_sorted_groups
  have d_sorted_groups : Cal l.prog w K mg base (cAk C0 C10) "sorted_groups" _ _ := ⟨_, _, _, o_sorted_groups, PySem.W.mg_of X G m_sorted_groups, k_sorted_groups, b_sorted_groups⟩
  have o_Division_init := fo_Division_init (P := l.prog) (w := w) (base := base) T F_Division_init d_check_people d_check_person d_sorted_groups
  have e_Division : Mkc l.prog w K mg base (cAk C0 C10) "Division" 10 _ _ := ⟨_, _, _, ⟨mk10, in10, i_Division_init, kc10⟩, o_Division_init, PySem.W.mg_of X G g10, b_Division_init⟩
  have o_alone := fo_alone (P := l.prog) (w := w) (base := base) T F_alone e_Division
  have d_alone : Cal l.prog w K mg base (cAk C0 C10) "alone" _ _ := ⟨_, _, _, o_alone, PySem.W.mg_of X G m_alone, k_alone, b_alone⟩
  have o_together := fo_together (P := l.prog) (w := w) (base := base) T F_together d_check_person
  have d_together : Cal l.prog w K mg base (cAk C0 C10) "together" _ _ := ⟨_, _, _, o_together, PySem.W.mg_of X G m_together, k_together, b_together⟩
  have o_l_together_right := fo_l_together_right (P := l.prog) (w := w) (base := base) T F_l_together_right d_together
  have d_l_together_right : Cal l.prog w K mg base (cAk C0 C10) "_law_together_right" _ _ := ⟨_, _, _, o_l_together_right, PySem.W.mg_of X G m_l_together_right, k_l_together_right, b_l_together_right⟩
  have o_l_right := fo_l_right (P := l.prog) (w := w) (base := base) T F_l_right d_l_draw d_l_drawn_groups d_l_whole d_l_shuffled d_alone d_l_together_right e_Division EQ
  have d_l_right : CalG l.prog w K mg base (cAk C0 C10) "_law_right" _ _ := ⟨_, _, _, o_l_right, PySem.W.mg_of X G m_l_right, k_l_right, b_l_right⟩
  have o_law := fo_law (P := l.prog) (w := w) (base := base) T F_law d_l_source d_l_right
  have d_law : CalG l.prog w K mg base (cAk C0 C10) "law" _ _ := ⟨_, _, _, o_law, PySem.W.mg_of X G m_law, k_law, b_law⟩
  exact o_law
end
end DD
namespace DD
open PySem L2
/-! heads by facts: what the run of the top must show is one Bool of what stands at few addresses -/
abbrev FaB := PySem.W.Frag → Bool
def obsB (fa : List FaB) (fn : List He.FnD) (K : PySem.W.Frag) : He.Al :=
  ((fa.all fun f => f K) && fn.all fun d => (He.Fa.code d.at_ d.qual).ok K, fn.map fun d => He.fnObs K d.at_)
def SaysB (fa : List FaB) (fn : List He.FnD) (K : PySem.W.Frag) : Prop := obsB fa fn K = He.valE fn
/-- what a function brings along -/
def subF (g : Addr → Option Obj) (a : Addr) : List Addr :=
  match g a with
  | some o => match o.data with
    | .func fd => He.refV fd.code ++ He.refV fd.kwdefaults
    | _ => []
  | none => []
def subG (g : Addr → Option Obj) (a : Addr) : List Addr :=
  match g a with
  | some o => match o.data with
    | .func fd => He.refV fd.code ++ He.refV fd.kwdefaults
    | .cls cd => cd.ns :: (match g cd.ns with
      | some q => match q.data with
        | .dict es _ => es.toList.flatMap fun e => (He.refV e.val).flatMap fun b => b :: subF g b
        | _ => []
      | none => [])
    | _ => []
  | none => []
/-- the addresses behind some global names -/
def asM (g : Addr → Option Obj) (names : List Str) : List Addr :=
  mainGlobals :: names.flatMap fun x => He.ga (He.frG g [mainGlobals]) x :: subG g (He.ga (He.frG g [mainGlobals]) x)
def obsBG (names : List Str) (fa : List FaB) (fn : List He.FnD) (g : Addr → Option Obj) : He.Al := obsB fa fn (He.frG g (asM g names))
def hookB (names : List Str) (fa : List FaB) (fn : List He.FnD) : PySem.W.Hook where
  α := He.Al
  obs s := obsBG names fa fn s.heap.get?
  val _ := He.valE fn
  says _ h := ∃ K : PySem.W.Frag, K.In h ∧ SaysB fa fn K
  of _ _ e := ⟨_, He.frG_in, e⟩
  keeps _ _ _ := fun ⟨K, k1, k2⟩ kk => ⟨K, k1.keeps kk, k2⟩
theorem obsBG_eq {names : List Str} {fa : List FaB} {fn : List He.FnD} {g : Addr → Option Obj} {s : Shared} (h : ∀ a, g a = s.heap.get? a) : obsBG names fa fn g = (hookB names fa fn).obs s := by
  have e : g = s.heap.get? := funext h
  rw [e]
  rfl
section
variable {fa : List FaB} {fn : List He.FnD} {K : PySem.W.Frag}
theorem SaysB.all (c : SaysB fa fn K) : ((fa.all fun f => f K) && fn.all fun d => (He.Fa.code d.at_ d.qual).ok K) = true := congrArg Prod.fst c
theorem SaysB.fact (c : SaysB fa fn K) (i : Nat) {f : FaB} (e : fa[i]? = some f) : f K = true :=
  List.all_eq_true.mp ((Bool.and_eq_true _ _ ▸ c.all).1) f (List.mem_of_getElem? e)
theorem SaysB.def_ (c : SaysB fa fn K) (i : Nat) {d : He.FnD} (e : fn[i]? = some d) : ∃ (oc : Value) (od : Option Addr) (osl : Array (Option Value)) (kV doc pm : Value) (an : Option Addr) (cdv ct : Value), K.lookup (He.fAd K d.at_) = some ⟨oc, od, .func (PySem.W.fnOf d.name d.qual d.params d.body d.scope .none kV doc pm an cdv ct), osl⟩ ∧ PySem.W.codeIn K cdv d.qual = true := by
  refine He.fn_ok ?_ (List.all_eq_true.mp ((Bool.and_eq_true _ _ ▸ c.all).2) d (List.mem_of_getElem? e))
  have h : fn.map (fun d => He.fnObs K d.at_) = fn.map He.FnD.val := congrArg Prod.snd c
  have h2 := congrArg (fun l => l[i]?) h
  simp only [List.getElem?_map, e, Option.map_some, Option.some.injEq] at h2
  exact h2
theorem and_ok {a b : Bool} (h : (a && b) = true) : a = true ∧ b = true := Bool.and_eq_true _ _ ▸ h
def isIntB (o : Option (Option Value)) (v : Int) : Bool :=
  match o with
  | some (some (.int j _)) => decide (j = v)
  | _ => false
theorem isIntB_ok {o : Option (Option Value)} {v : Int} (h : isIntB o v = true) : ∃ t, o = some (some (.int v t)) := by
  unfold isIntB at h
  split at h
  · exact ⟨_, by rw [of_decide_eq_true h]⟩
  · cases h
def isStrB (o : Option (Option Value)) (v : Str) : Bool :=
  match o with
  | some (some (.str j _)) => decide (j = v)
  | _ => false
theorem isStrB_ok {o : Option (Option Value)} {v : Str} (h : isStrB o v = true) : ∃ t, o = some (some (.str v t)) := by
  unfold isStrB at h
  split at h
  · exact ⟨_, by rw [of_decide_eq_true h]⟩
  · cases h
def kdA (K : PySem.W.Frag) (f : Addr) : Addr :=
  match K.lookup f with
  | some ⟨_, _, .func fd, _⟩ => match fd.kwdefaults with
    | .ref a => a
    | _ => 0
  | _ => 0
def kdB (K : PySem.W.Frag) (f : Addr) : Bool :=
  match K.lookup f with
  | some ⟨_, _, .func fd, _⟩ => match fd.kwdefaults with
    | .ref _ => true
    | _ => false
  | _ => false
theorem kd_ok {f : Addr} {oc : Value} {od : Option Addr} {sl : Array (Option Value)} {fd : FuncData} (l : K.lookup f = some ⟨oc, od, .func fd, sl⟩) (h : kdB K f = true) : fd.kwdefaults = .ref (kdA K f) := by
  unfold kdB at h
  unfold kdA
  rw [l] at h ⊢
  dsimp only at h ⊢
  cases e : fd.kwdefaults <;> rw [e] at h <;> first | rfl | cases h
/-- an own error's class -/
def exB (K : PySem.W.Frag) (C : Addr) : Bool :=
  match K.lookup C with
  | some ⟨cls, _, .cls cd, sl⟩ => decide (cls = .type "type") && (cd.hasDict && !cd.hasDel && match cd.mro with
    | .ref c :: bm => decide (c = C) && (PySem.HandSPX.refsVE bm && match sl.toList with
      | [_, _, _, _, x, _] => decide (x = some (.builtin "ValueError.__new__"))
      | _ => false)
    | _ => false)
  | _ => false
theorem exB_ok {C : Addr} (h : exB K C = true) : ∃ (nm q : Str) (N : Addr) (bs bm : List Value) (sn : List Str) (sub : List Value) (ab : Bool) (col : Option Bool) (dd : Option Addr) (a b c d e : Option Value), K.lookup C = some (excClassObj nm q C N bs bm true sn sub ab col dd a b c d e "ValueError.__new__") ∧ PySem.HandSPX.refsVE bm = true := by
  unfold exB at h
  split at h
  · rename_i cls dd cd sl e
    obtain ⟨h1, h2⟩ := and_ok h
    obtain ⟨h3, h4⟩ := and_ok h2
    split at h4
    · rename_i c bm em
      obtain ⟨h5, h6⟩ := and_ok h4
      obtain ⟨h7, h8⟩ := and_ok h6
      split at h8
      · rename_i a b c' d x k es
        have h1 := of_decide_eq_true h1
        have h5 := of_decide_eq_true h5
        have h8 := of_decide_eq_true h8
        subst h1 h5 h8
        obtain ⟨h3a, h3b⟩ := and_ok h3
        obtain ⟨nm, bs, mro, ns, qn, hd, sn, sub, ab, col, del⟩ := cd
        dsimp only at h3a h3b em
        have h3b : del = false := by cases del <;> first | rfl | cases h3b
        subst h3a h3b em
        obtain ⟨sl⟩ := sl
        dsimp only at es
        subst es
        exact ⟨nm, qn, ns, bs, bm, sn, sub, ab, col, dd, a, b, c', d, k, e, h7⟩
      · cases h8
    · cases h4
  · cases h
end
theorem walkE {l : PySem.W.OpenLaw} {q : Program} {loose : List Str} {XP : (Str → Option Value) → Heap → Prop} {YP : World → Heap → Prop} {d : DefRec} {n k : Nat} {x : Str} {CX : World → CXT} (sp : PySem.W.Frag → Sp) (hn : l.most = some n) (hn2 : n ≤ sizeLine) (hdf : d.params.defaults = []) (hr : Room k callerA)
    (F : ∀ (w : World) (mg : Str → Option Value) (fa : Addr) (h : Heap), YP w h → h.Ns mainGlobals mg → mg d.name = some (.ref fa) →
      ∃ (K : PySem.W.Frag) (fd : FuncData), K.In h ∧ (∀ (s : Shared) (u : Value), BindsTo s fd ⟨[u], []⟩ [(x, u)]) ∧ ∀ base : Heap, K.In base → base.Ns mainGlobals mg → FnOk l.prog w K mg base (CX w) k fa fd [x] (sp K))
    (S : ∀ (K : PySem.W.Frag) (H : Hp) (a : Addr) (ns : List Int), ns.length ≤ n → Only H → SqL K H a (ns.map V.int) → sp K [.ref a] H (fun v _ => v = .bl true) fun _ _ _ => False)
    (C : ∀ (w : World) (H : Hp) (s : Shared) (e : Value) (s' : Shared), CX w [] H s (fun _ _ _ => False) e s' → False) :
    PySem.W.WalkO q loose XP YP l.row.toRowW d [] (fun f vs => PySem.call f vs) :=
  Att.attach_call hn hdf fun w s0 s1 mg mb fa o pm cd doc a vs ns hg hY ho hd hc hm ha hi hl hgens => by
    obtain ⟨K, fd, hK, hb, hF⟩ := F w mg fa s1.heap hY hg.T.g hm
    exact law_call hK hg.T.g hg.T.b hg.T.builtins hg.T.nolimit hgens ha hi (Nat.le_trans hl hn2) hr hF hb (fun H hO hS => S K H a ns hl hO hS) (fun H e s' => C w H s1 e s')
end DD
namespace DD
open PySem L2
def fb0 (K : PySem.W.Frag) : Bool :=
  (He.eqO (PySem.W.nsIn K mainGlobals "Thing") (some (some (.ref (He.ga K "Thing"))))) &&
  ((He.eqO (PySem.W.nsIn K mainGlobals "Division") (some (some (.ref (He.ga K "Division"))))) &&
  ((PySem.W.plainGet K (He.ga K "Division") Str.empty) &&
  ((PySem.W.hasDictIn K (He.ga K "Division")) &&
  ((PySem.W.plainOver K (He.ga K "Division")) &&
  ((He.eqO (PySem.W.findIn K (.ref (He.ga K "Division")) "__setattr__") (some (some (.builtin "object.__setattr__")))) &&
  ((PySem.W.makesIn K (He.ga K "Division")) &&
  ((PySem.W.keepIn K (.ref (He.ga K "Division"))) &&
  ((He.eqO (PySem.W.findIn K (.ref (He.ga K "Division")) "people") (some none)) &&
  ((He.eqO (PySem.W.findIn K (.ref (He.ga K "Division")) "groups") (some none)) &&
  ((He.eqO (PySem.W.findIn K (.ref (He.ga K "Division")) "__class__") (some (some (.builtin "object.__class__")))) &&
  ((decide (PySem.W.mroIn K (He.ga K "Division") (.type "object") = some true)) &&
  ((He.eqO (PySem.W.findIn K (.ref (He.ga K "Division")) "__eq__") (some (some (.ref (He.ma K (He.ga K "Thing") "__eq__"))))) &&
  ((He.eqO (PySem.W.findIn K (.ref (He.ga K "Division")) "__ne__") (some (some (.builtin "object.__ne__")))) &&
  ((decide (PySem.W.subIn K (.ref (He.ga K "Division")) (.type "NoneType") = some false)) &&
  ((decide (PySem.W.subIn K (.ref (He.ga K "Division")) (.type "bool") = some false)) &&
  ((decide (PySem.W.subIn K (.ref (He.ga K "Division")) (.type "int") = some false)) &&
  ((decide (PySem.W.subIn K (.ref (He.ga K "Division")) (.type "str") = some false)) &&
  ((decide (PySem.W.subIn K (.ref (He.ga K "Division")) (.type "list") = some false)) &&
  ((decide (PySem.W.subIn K (.ref (He.ga K "Division")) (.type "tuple") = some false)) &&
  ((PySem.W.notFirst K (He.ga K "Division") (.ref (He.ga K "Division"))) &&
  ((decide (PySem.W.kitOne K (.ref (He.ga K "Division")) (.ref (He.ga K "Thing")) = some true)) &&
  ((He.eqO (PySem.W.specialIn K (.builtin "object.__class__") "__get__") (some (some (.builtin "getset_descriptor.__get__")))) &&
  ((decide (PySem.W.takesIn K (.builtin "object.__class__") = some true)) &&
  ((decide (PySem.W.kitOne K (.type "NoneType") (.ref (He.ga K "Thing")) = some false))))))))))))))))))))))))))
def fb1 (K : PySem.W.Frag) : Bool :=
  (decide (PySem.W.kitOne K (.type "bool") (.ref (He.ga K "Thing")) = some false)) &&
  ((decide (PySem.W.kitOne K (.type "int") (.ref (He.ga K "Thing")) = some false)) &&
  ((decide (PySem.W.kitOne K (.type "str") (.ref (He.ga K "Thing")) = some false)) &&
  ((decide (PySem.W.kitOne K (.type "list") (.ref (He.ga K "Thing")) = some false)) &&
  ((decide (PySem.W.kitOne K (.type "tuple") (.ref (He.ga K "Thing")) = some false)) &&
  ((decide (PySem.W.kitOne K (.type "dict") (.ref (He.ga K "Thing")) = some false)) &&
  ((decide (PySem.W.kitOne K (.type "bool") (.type "bool") = some true)) &&
  ((decide (PySem.W.kitOne K (.type "tuple") (.type "tuple") = some true)) &&
  ((decide ([(He.ga K "Division")].Nodup)) &&
  ((He.eqO (PySem.W.nsIn K mainGlobals "abs") (some none)) &&
  ((He.eqO (PySem.W.nsIn K mainGlobals "any") (some none)) &&
  ((He.eqO (PySem.W.nsIn K mainGlobals "bool") (some none)) &&
  ((He.eqO (PySem.W.nsIn K mainGlobals "isinstance") (some none)) &&
  ((He.eqO (PySem.W.nsIn K mainGlobals "len") (some none)) &&
  ((He.eqO (PySem.W.nsIn K mainGlobals "list") (some none)) &&
  ((He.eqO (PySem.W.nsIn K mainGlobals "range") (some none)) &&
  ((He.eqO (PySem.W.nsIn K mainGlobals "repr") (some none)) &&
  ((He.eqO (PySem.W.nsIn K mainGlobals "sorted") (some none)) &&
  ((He.eqO (PySem.W.nsIn K mainGlobals "tuple") (some none)) &&
  ((isIntB (PySem.W.nsIn K mainGlobals "MOST_PEOPLE") 16) &&
  ((He.eqO (PySem.W.findIn K (.ref (He.ga K "Division")) "facts") (some (some (.ref (He.ma K (He.ga K "Division") "facts"))))) &&
  ((He.eqO (PySem.W.findIn K (.ref (He.ga K "Division")) "kind") (some (some (.ref (He.ma K (He.ga K "Division") "kind"))))) &&
  ((He.eqO (PySem.W.findIn K (.ref (He.ga K "Division")) "__init__") (some (some (.ref (He.ma K (He.ga K "Division") "__init__"))))) &&
  ((PySem.W.keepIn K (.ref (He.ma K (He.ga K "Division") "kind"))) &&
  ((PySem.W.isFn K (.ref (He.ma K (He.ga K "Division") "kind")))))))))))))))))))))))))))
def fb2 (K : PySem.W.Frag) : Bool :=
  (PySem.W.keepIn K (.ref (He.ma K (He.ga K "Division") "facts"))) &&
  ((PySem.W.isFn K (.ref (He.ma K (He.ga K "Division") "facts"))) &&
  ((PySem.W.keepIn K (.ref (He.ma K (He.ga K "Thing") "__eq__"))) &&
  ((PySem.W.isFn K (.ref (He.ma K (He.ga K "Thing") "__eq__"))) &&
  ((He.eqO (PySem.W.nsIn K mainGlobals "_law_source") (some (some (.ref (He.ga K "_law_source"))))) &&
  ((PySem.W.keepIn K (.ref (He.ga K "_law_source"))) &&
  ((He.eqO (PySem.W.nsIn K mainGlobals "_law_draw") (some (some (.ref (He.ga K "_law_draw"))))) &&
  ((PySem.W.keepIn K (.ref (He.ga K "_law_draw"))) &&
  ((He.eqO (PySem.W.nsIn K mainGlobals "_law_shuffled") (some (some (.ref (He.ga K "_law_shuffled"))))) &&
  ((PySem.W.keepIn K (.ref (He.ga K "_law_shuffled"))) &&
  ((He.eqO (PySem.W.nsIn K mainGlobals "_law_pick") (some (some (.ref (He.ga K "_law_pick"))))) &&
  ((PySem.W.keepIn K (.ref (He.ga K "_law_pick"))) &&
  ((He.eqO (PySem.W.nsIn K mainGlobals "_law_drawn_groups") (some (some (.ref (He.ga K "_law_drawn_groups"))))) &&
  ((PySem.W.keepIn K (.ref (He.ga K "_law_drawn_groups"))) &&
  ((He.eqO (PySem.W.nsIn K mainGlobals "_law_whole") (some (some (.ref (He.ga K "_law_whole"))))) &&
  ((PySem.W.keepIn K (.ref (He.ga K "_law_whole"))) &&
  ((He.eqO (PySem.W.nsIn K mainGlobals "check_people") (some (some (.ref (He.ga K "check_people"))))) &&
  ((PySem.W.keepIn K (.ref (He.ga K "check_people"))) &&
  ((He.eqO (PySem.W.nsIn K mainGlobals "check_person") (some (some (.ref (He.ga K "check_person"))))) &&
  ((PySem.W.keepIn K (.ref (He.ga K "check_person"))) &&
  ((He.eqO (PySem.W.nsIn K mainGlobals "sorted_groups") (some (some (.ref (He.ga K "sorted_groups"))))) &&
  ((PySem.W.keepIn K (.ref (He.ga K "sorted_groups"))) &&
  ((PySem.W.keepIn K (.ref (He.ma K (He.ga K "Division") "__init__"))) &&
  ((PySem.W.isFn K (.ref (He.ma K (He.ga K "Division") "__init__"))) &&
  ((He.eqO (PySem.W.nsIn K mainGlobals "alone") (some (some (.ref (He.ga K "alone")))))))))))))))))))))))))))))
def fb3 (K : PySem.W.Frag) : Bool :=
  (PySem.W.keepIn K (.ref (He.ga K "alone"))) &&
  ((He.eqO (PySem.W.nsIn K mainGlobals "together") (some (some (.ref (He.ga K "together"))))) &&
  ((PySem.W.keepIn K (.ref (He.ga K "together"))) &&
  ((He.eqO (PySem.W.nsIn K mainGlobals "_law_together_right") (some (some (.ref (He.ga K "_law_together_right"))))) &&
  ((PySem.W.keepIn K (.ref (He.ga K "_law_together_right"))) &&
  ((He.eqO (PySem.W.nsIn K mainGlobals "_law_right") (some (some (.ref (He.ga K "_law_right"))))) &&
  ((PySem.W.keepIn K (.ref (He.ga K "_law_right"))) &&
  ((He.eqO (PySem.W.nsIn K mainGlobals "law") (some (some (.ref (He.ga K "law"))))) &&
  ((PySem.W.keepIn K (.ref (He.ga K "law")))))))))))
def fbs : List FaB := [fb0, fb1, fb2, fb3]
abbrev dn_Division_kind : He.FnD := ⟨("Division", some "kind"), "kind", "Division.kind", defArgs s_Division_kind, defBody s_Division_kind, defScope s_Division_kind⟩
abbrev dn_Division_facts : He.FnD := ⟨("Division", some "facts"), "facts", "Division.facts", defArgs s_Division_facts, defBody s_Division_facts, defScope s_Division_facts⟩
abbrev dn_Thing_eq : He.FnD := ⟨("Thing", some "__eq__"), "__eq__", "Thing.__eq__", defArgs s_Thing_eq, defBody s_Thing_eq, defScope s_Thing_eq⟩
abbrev dn_l_source : He.FnD := ⟨("_law_source", none), "_law_source", "_law_source", defArgs s_l_source, defBody s_l_source, defScope s_l_source⟩
abbrev dn_l_draw : He.FnD := ⟨("_law_draw", none), "_law_draw", "_law_draw", defArgs s_l_draw, defBody s_l_draw, defScope s_l_draw⟩
abbrev dn_l_shuffled : He.FnD := ⟨("_law_shuffled", none), "_law_shuffled", "_law_shuffled", defArgs s_l_shuffled, defBody s_l_shuffled, defScope s_l_shuffled⟩
abbrev dn_l_pick : He.FnD := ⟨("_law_pick", none), "_law_pick", "_law_pick", defArgs s_l_pick, defBody s_l_pick, defScope s_l_pick⟩
abbrev dn_l_drawn_groups : He.FnD := ⟨("_law_drawn_groups", none), "_law_drawn_groups", "_law_drawn_groups", defArgs s_l_drawn_groups, defBody s_l_drawn_groups, defScope s_l_drawn_groups⟩
abbrev dn_l_whole : He.FnD := ⟨("_law_whole", none), "_law_whole", "_law_whole", defArgs s_l_whole, defBody s_l_whole, defScope s_l_whole⟩
abbrev dn_check_people : He.FnD := ⟨("check_people", none), "check_people", "check_people", defArgs s_check_people, defBody s_check_people, defScope s_check_people⟩
abbrev dn_check_person : He.FnD := ⟨("check_person", none), "check_person", "check_person", defArgs s_check_person, defBody s_check_person, defScope s_check_person⟩
abbrev dn_sorted_groups : He.FnD := ⟨("sorted_groups", none), "sorted_groups", "sorted_groups", defArgs s_sorted_groups, defBody s_sorted_groups, defScope s_sorted_groups⟩
abbrev dn_Division_init : He.FnD := ⟨("Division", some "__init__"), "__init__", "Division.__init__", defArgs s_Division_init, defBody s_Division_init, defScope s_Division_init⟩
abbrev dn_alone : He.FnD := ⟨("alone", none), "alone", "alone", defArgs s_alone, defBody s_alone, defScope s_alone⟩
abbrev dn_together : He.FnD := ⟨("together", none), "together", "together", defArgs s_together, defBody s_together, defScope s_together⟩
abbrev dn_l_together_right : He.FnD := ⟨("_law_together_right", none), "_law_together_right", "_law_together_right", defArgs s_l_together_right, defBody s_l_together_right, defScope s_l_together_right⟩
abbrev dn_l_right : He.FnD := ⟨("_law_right", none), "_law_right", "_law_right", defArgs s_l_right, defBody s_l_right, defScope s_l_right⟩
abbrev dn_law : He.FnD := ⟨("law", none), "law", "law", defArgs s_law, defBody s_law, defScope s_law⟩
def fns : List He.FnD := dn_Division_kind :: dn_Division_facts :: dn_Thing_eq :: dn_l_source :: dn_l_draw :: dn_l_shuffled :: dn_l_pick :: dn_l_drawn_groups :: dn_l_whole :: dn_check_people :: dn_check_person :: dn_sorted_groups :: dn_Division_init :: dn_alone :: dn_together :: dn_l_together_right :: dn_l_right :: dn_law :: []
def nms : List Str := (("RoomError") : Str) :: (("BadCount") : Str) :: (("NoPerson") : Str) :: (("Twice") : Str) :: (("Thing") : Str) :: (("Division") : Str) :: (("_law_source") : Str) :: (("_law_draw") : Str) :: (("_law_shuffled") : Str) :: (("_law_pick") : Str) :: (("_law_drawn_groups") : Str) :: (("_law_whole") : Str) :: (("check_people") : Str) :: (("check_person") : Str) :: (("sorted_groups") : Str) :: (("alone") : Str) :: (("together") : Str) :: (("_law_together_right") : Str) :: (("_law_right") : Str) :: (("law") : Str) :: []
def loose0 : List Str := (("_wall") : Str) :: (("__name__") : Str) :: (("RoomError") : Str) :: (("BadCount") : Str) :: (("NoPerson") : Str) :: (("Twice") : Str) :: (("MOST_PEOPLE") : Str) :: (("Thing") : Str) :: (("check_people") : Str) :: (("check_person") : Str) :: (("sorted_groups") : Str) :: (("Division") : Str) :: (("alone") : Str) :: (("together") : Str) :: (("_law_source") : Str) :: (("_law_draw") : Str) :: (("_law_pick") : Str) :: (("_law_shuffled") : Str) :: (("_law_drawn_groups") : Str) :: (("_law_whole") : Str) :: (("_law_together_right") : Str) :: (("_law_right") : Str) :: []
def loose : List Str := loose0
abbrev RR : PySem.W.OpenRow := PySem.W.OpenLaw.row PySem.Challenge.rw_glueroom_k01_divisions_made
abbrev qR : Program := PySem.W.view RR.prog [24]
abbrev hkB : PySem.W.Hook := hookB nms fbs fns
def obR (s : PySem.W.SharedT) : He.Al := obsBG nms fbs fns (HandSHeadRun.getT s)
theorem obR_eq (s : PySem.W.SharedT) : obR s = hkB.obs s.abs := obsBG_eq (HandSHeadRun.getT_eq s)
theorem runR (w : World) : HandSHeadRun.RunEq RR qR hkB obR 8000 loose w := by
  intro os
  kernel_rfl
end DD
namespace DD
open PySem L2 PyProof.Rows
theorem walkEG {l : PySem.W.OpenLaw} {q : Program} {loose : List Str} {XP : (Str → Option Value) → Heap → Prop} {YP : World → Heap → Prop} {d : DefRec} {n k : Nat} {x : Str} {CX : World → CXT} (sp : PySem.W.Frag → Sp) (hn : l.most = some n) (hn2 : n ≤ sizeLine) (hdf : d.params.defaults = []) (hr : Room k callerA)
    (F : ∀ (w : World) (mg : Str → Option Value) (fa : Addr) (h : Heap), YP w h → h.Ns mainGlobals mg → mg d.name = some (.ref fa) →
      ∃ (K : PySem.W.Frag) (fd : FuncData), K.In h ∧ (∀ (s : Shared) (u : Value), BindsTo s fd ⟨[u], []⟩ [(x, u)]) ∧ ∀ base : Heap, K.In base → base.Ns mainGlobals mg → FnG l.prog w K mg base (CX w) k fa fd [x] (sp K))
    (S : ∀ (K : PySem.W.Frag) (H : Hp) (a : Addr) (ns : List Int), ns.length ≤ n → Only H → SqL K H a (ns.map V.int) → sp K [.ref a] H (fun v _ => v = .bl true) fun _ _ _ => False)
    (C : ∀ (w : World) (H : Hp) (s : Shared) (e : Value) (s' : Shared), CX w [] H s (fun _ _ _ => False) e s' → False) :
    PySem.W.WalkO q loose XP YP l.row.toRowW d [] (fun f vs => PySem.call f vs) :=
  Att.attach_call hn hdf fun w s0 s1 mg mb fa o pm cd doc a vs ns hg hY ho hd hc hm ha hi hl hgens => by
    obtain ⟨K, fd, hK, hb, hF⟩ := F w mg fa s1.heap hY hg.T.g hm
    exact law_callG (cs := []) (S := sp K) hK hg.T.g hg.T.b hg.T.builtins hg.T.nolimit hgens (fun _ z => (List.not_mem_nil z).elim) (fun _ z => (List.not_mem_nil z).elim) (fun _ z => (List.not_mem_nil z).elim) (.inl rfl) ha hi (Nat.le_trans hl hn2) hr
      (fun base h1 h2 _ => hF base h1 h2) hb (fun H _ ho hS => S K H a ns hl (fun b => (ho b).imp id fun z => z.resolve_left (by simp)) hS) (fun H e s' => C w H s1 e s')
end DD
namespace DD
open PySem L2
/-- the law's promise, wherever the classes stand -/
def spL (K : PySem.W.Frag) : Sp := fun vs H Q E => ∀ cA : Nat → Addr, spD cA (S_law K) vs H Q E
theorem fn_imp {P : Program} {w : World} {K : PySem.W.Frag} {mg : Str → Option Value} {base : Heap} {CX : CXT} {k : Nat} {f : Addr} {fd : FuncData} {ps : List Str} {sp sp' : Sp} (F : FnOk P w K mg base CX k f fd ps sp) (h : ∀ vs H Q E, sp' vs H Q E → sp vs H Q E) : FnOk P w K mg base CX k f fd ps sp' :=
  ⟨fun vs H Q E z => F.len vs H Q E (h _ _ _ _ z), fun A outer s H args us vs Q E hr e0 hb r z => F.run A outer s H args us vs Q E hr e0 hb r (h _ _ _ _ z)⟩
theorem sp_start {K : PySem.W.Frag} {H : Hp} {a : Addr} {ns : List Int} (hl : ns.length ≤ 63) (hO : Only H) (hS : SqL K H a (ns.map V.int)) : spL K [.ref a] H (fun v _ => v = .bl true) fun _ _ _ => False := by
  intro cA
  refine ⟨fun _ => none, H, [[a]], [.r 0], [.scr ns (scrK K ns)], fun r μ' => r = .ret (.d (.bl true)), ?_, .cons (.r (as := []) rfl) .nil, ⟨ns, rfl, rfl, hl, rfl⟩, fun r μ' G' m' H' hp l rm => ?_⟩
  · have one : ∀ {α : Type} {x c : α} {i : Nat}, ([x] : List α)[i]? = some c → i = 0 ∧ x = c := fun {α x c i} h => by
      match i, h with
      | 0, h => exact ⟨rfl, Option.some.inj h⟩
    refine ⟨fun _ _ h => (by cases h), Sub.refl H, fun _ _ h => (by cases h), rfl, fun i c as h h2 => ?_, fun i c as h h2 lv => ?_, fun i j c c' as as' x h h2 h3 h4 lv => ?_, fun i c as x h h2 lv => ?_⟩
    · obtain ⟨_, rfl⟩ := one h
      obtain ⟨_, rfl⟩ := one h2
      refine ⟨a, rfl, ?_⟩
      rcases hS with (h | ⟨o, h⟩) | h
      · rcases hO a with e | ⟨o, xs, e⟩
        · rw [e] at h; cases h
        · rw [e] at h; cases h
      · exact .inl (.inr ⟨o, h⟩)
      · exact .inr h
    · obtain ⟨_, rfl⟩ := one h
      cases lv
    · obtain ⟨_, rfl⟩ := one h
      cases lv
    · obtain ⟨_, rfl⟩ := one h
      cases lv
  · subst hp
    intro v q
    cases q with
    | d q => cases q; rfl
theorem factsR {l : PySem.W.OpenLaw} {w : World} {K : PySem.W.Frag} {h : Heap} {mg : Str → Option Value} {fa : Addr} (X : K.In h) (G : h.Ns mainGlobals mg) (hfa : mg "law" = some (.ref fa)) (c : SaysB fbs fns K) :
    ∃ fd : FuncData, (∀ (s : Shared) (v : Value), BindsTo s fd ⟨[v], []⟩ [("_law_script", v)]) ∧ ∀ base : Heap, K.In base → base.Ns mainGlobals mg → ∃ cA : Nat → Addr, FnG l.prog w K mg base (L2.CX l.prog w) 16 fa fd ["_law_script"] (spD cA (S_law K)) := by
  obtain ⟨oc_Division_kind, od_Division_kind, sl_Division_kind, kV_Division_kind, dc_Division_kind, pm_Division_kind, an_Division_kind, cd_Division_kind, ct_Division_kind, l_Division_kind, c_Division_kind⟩ := c.def_ 0 (d := dn_Division_kind) rfl
  obtain ⟨oc_Division_facts, od_Division_facts, sl_Division_facts, kV_Division_facts, dc_Division_facts, pm_Division_facts, an_Division_facts, cd_Division_facts, ct_Division_facts, l_Division_facts, c_Division_facts⟩ := c.def_ 1 (d := dn_Division_facts) rfl
  obtain ⟨oc_Thing_eq, od_Thing_eq, sl_Thing_eq, kV_Thing_eq, dc_Thing_eq, pm_Thing_eq, an_Thing_eq, cd_Thing_eq, ct_Thing_eq, l_Thing_eq, c_Thing_eq⟩ := c.def_ 2 (d := dn_Thing_eq) rfl
  obtain ⟨oc_l_source, od_l_source, sl_l_source, kV_l_source, dc_l_source, pm_l_source, an_l_source, cd_l_source, ct_l_source, l_l_source, c_l_source⟩ := c.def_ 3 (d := dn_l_source) rfl
  obtain ⟨oc_l_draw, od_l_draw, sl_l_draw, kV_l_draw, dc_l_draw, pm_l_draw, an_l_draw, cd_l_draw, ct_l_draw, l_l_draw, c_l_draw⟩ := c.def_ 4 (d := dn_l_draw) rfl
  obtain ⟨oc_l_shuffled, od_l_shuffled, sl_l_shuffled, kV_l_shuffled, dc_l_shuffled, pm_l_shuffled, an_l_shuffled, cd_l_shuffled, ct_l_shuffled, l_l_shuffled, c_l_shuffled⟩ := c.def_ 5 (d := dn_l_shuffled) rfl
  obtain ⟨oc_l_pick, od_l_pick, sl_l_pick, kV_l_pick, dc_l_pick, pm_l_pick, an_l_pick, cd_l_pick, ct_l_pick, l_l_pick, c_l_pick⟩ := c.def_ 6 (d := dn_l_pick) rfl
  obtain ⟨oc_l_drawn_groups, od_l_drawn_groups, sl_l_drawn_groups, kV_l_drawn_groups, dc_l_drawn_groups, pm_l_drawn_groups, an_l_drawn_groups, cd_l_drawn_groups, ct_l_drawn_groups, l_l_drawn_groups, c_l_drawn_groups⟩ := c.def_ 7 (d := dn_l_drawn_groups) rfl
  obtain ⟨oc_l_whole, od_l_whole, sl_l_whole, kV_l_whole, dc_l_whole, pm_l_whole, an_l_whole, cd_l_whole, ct_l_whole, l_l_whole, c_l_whole⟩ := c.def_ 8 (d := dn_l_whole) rfl
  obtain ⟨oc_check_people, od_check_people, sl_check_people, kV_check_people, dc_check_people, pm_check_people, an_check_people, cd_check_people, ct_check_people, l_check_people, c_check_people⟩ := c.def_ 9 (d := dn_check_people) rfl
  obtain ⟨oc_check_person, od_check_person, sl_check_person, kV_check_person, dc_check_person, pm_check_person, an_check_person, cd_check_person, ct_check_person, l_check_person, c_check_person⟩ := c.def_ 10 (d := dn_check_person) rfl
  obtain ⟨oc_sorted_groups, od_sorted_groups, sl_sorted_groups, kV_sorted_groups, dc_sorted_groups, pm_sorted_groups, an_sorted_groups, cd_sorted_groups, ct_sorted_groups, l_sorted_groups, c_sorted_groups⟩ := c.def_ 11 (d := dn_sorted_groups) rfl
  obtain ⟨oc_Division_init, od_Division_init, sl_Division_init, kV_Division_init, dc_Division_init, pm_Division_init, an_Division_init, cd_Division_init, ct_Division_init, l_Division_init, c_Division_init⟩ := c.def_ 12 (d := dn_Division_init) rfl
  obtain ⟨oc_alone, od_alone, sl_alone, kV_alone, dc_alone, pm_alone, an_alone, cd_alone, ct_alone, l_alone, c_alone⟩ := c.def_ 13 (d := dn_alone) rfl
  obtain ⟨oc_together, od_together, sl_together, kV_together, dc_together, pm_together, an_together, cd_together, ct_together, l_together, c_together⟩ := c.def_ 14 (d := dn_together) rfl
  obtain ⟨oc_l_together_right, od_l_together_right, sl_l_together_right, kV_l_together_right, dc_l_together_right, pm_l_together_right, an_l_together_right, cd_l_together_right, ct_l_together_right, l_l_together_right, c_l_together_right⟩ := c.def_ 15 (d := dn_l_together_right) rfl
  obtain ⟨oc_l_right, od_l_right, sl_l_right, kV_l_right, dc_l_right, pm_l_right, an_l_right, cd_l_right, ct_l_right, l_l_right, c_l_right⟩ := c.def_ 16 (d := dn_l_right) rfl
  obtain ⟨oc_law, od_law, sl_law, kV_law, dc_law, pm_law, an_law, cd_law, ct_law, l_law, c_law⟩ := c.def_ 17 (d := dn_law) rfl
  have q := c.fact 0 (f := fb0) rfl
  obtain ⟨z, q⟩ := and_ok q
  have g0 := He.eqO_ok z
  clear z
  obtain ⟨z, q⟩ := and_ok q
  have g10 := He.eqO_ok z
  clear z
  obtain ⟨z, q⟩ := and_ok q
  have pg10 := z
  clear z
  obtain ⟨z, q⟩ := and_ok q
  have hd10 := z
  clear z
  obtain ⟨z, q⟩ := and_ok q
  have po10 := z
  clear z
  obtain ⟨z, q⟩ := and_ok q
  have sa10 := He.eqO_ok z
  clear z
  obtain ⟨z, q⟩ := and_ok q
  have mk10 := z
  clear z
  obtain ⟨z, q⟩ := and_ok q
  have kc10 := z
  clear z
  obtain ⟨z, q⟩ := and_ok q
  have na10_people := He.eqO_ok z
  clear z
  obtain ⟨z, q⟩ := and_ok q
  have na10_groups := He.eqO_ok z
  clear z
  obtain ⟨z, q⟩ := and_ok q
  have ha10 := He.eqO_ok z
  clear z
  obtain ⟨z, q⟩ := and_ok q
  have ob10 := of_decide_eq_true z
  clear z
  obtain ⟨z, q⟩ := and_ok q
  have qe10 := He.eqO_ok z
  clear z
  obtain ⟨z, q⟩ := and_ok q
  have qn10 := He.eqO_ok z
  clear z
  obtain ⟨z, q⟩ := and_ok q
  have su10_NoneType := of_decide_eq_true z
  clear z
  obtain ⟨z, q⟩ := and_ok q
  have su10_bool := of_decide_eq_true z
  clear z
  obtain ⟨z, q⟩ := and_ok q
  have su10_int := of_decide_eq_true z
  clear z
  obtain ⟨z, q⟩ := and_ok q
  have su10_str := of_decide_eq_true z
  clear z
  obtain ⟨z, q⟩ := and_ok q
  have su10_list := of_decide_eq_true z
  clear z
  obtain ⟨z, q⟩ := and_ok q
  have su10_tuple := of_decide_eq_true z
  clear z
  obtain ⟨z, q⟩ := and_ok q
  have nf10_10 := z
  clear z
  obtain ⟨z, q⟩ := and_ok q
  have ko10_0 := of_decide_eq_true z
  clear z
  obtain ⟨z, q⟩ := and_ok q
  have hgn := He.eqO_ok z
  clear z
  obtain ⟨z, q⟩ := and_ok q
  have tk := of_decide_eq_true z
  clear z
  have z := q
  have kt_NoneType := of_decide_eq_true z
  clear z
  clear q
  have q := c.fact 1 (f := fb1) rfl
  obtain ⟨z, q⟩ := and_ok q
  have kt_bool := of_decide_eq_true z
  clear z
  obtain ⟨z, q⟩ := and_ok q
  have kt_int := of_decide_eq_true z
  clear z
  obtain ⟨z, q⟩ := and_ok q
  have kt_str := of_decide_eq_true z
  clear z
  obtain ⟨z, q⟩ := and_ok q
  have kt_list := of_decide_eq_true z
  clear z
  obtain ⟨z, q⟩ := and_ok q
  have kt_tuple := of_decide_eq_true z
  clear z
  obtain ⟨z, q⟩ := and_ok q
  have kt_dict := of_decide_eq_true z
  clear z
  obtain ⟨z, q⟩ := and_ok q
  have kt_self_bool := of_decide_eq_true z
  clear z
  obtain ⟨z, q⟩ := and_ok q
  have kt_self_tuple := of_decide_eq_true z
  clear z
  obtain ⟨z, q⟩ := and_ok q
  have nd := of_decide_eq_true z
  clear z
  obtain ⟨z, q⟩ := and_ok q
  have b_abs := He.eqO_ok z
  clear z
  obtain ⟨z, q⟩ := and_ok q
  have b_any := He.eqO_ok z
  clear z
  obtain ⟨z, q⟩ := and_ok q
  have b_bool := He.eqO_ok z
  clear z
  obtain ⟨z, q⟩ := and_ok q
  have b_isinstance := He.eqO_ok z
  clear z
  obtain ⟨z, q⟩ := and_ok q
  have b_len := He.eqO_ok z
  clear z
  obtain ⟨z, q⟩ := and_ok q
  have b_list := He.eqO_ok z
  clear z
  obtain ⟨z, q⟩ := and_ok q
  have b_range := He.eqO_ok z
  clear z
  obtain ⟨z, q⟩ := and_ok q
  have b_repr := He.eqO_ok z
  clear z
  obtain ⟨z, q⟩ := and_ok q
  have b_sorted := He.eqO_ok z
  clear z
  obtain ⟨z, q⟩ := and_ok q
  have b_tuple := He.eqO_ok z
  clear z
  obtain ⟨z, q⟩ := and_ok q
  obtain ⟨t_MOST_PEOPLE, c_MOST_PEOPLE⟩ := isIntB_ok z
  clear z
  obtain ⟨z, q⟩ := and_ok q
  have fm10_facts := He.eqO_ok z
  clear z
  obtain ⟨z, q⟩ := and_ok q
  have fm10_kind := He.eqO_ok z
  clear z
  obtain ⟨z, q⟩ := and_ok q
  have in10 := He.eqO_ok z
  clear z
  obtain ⟨z, q⟩ := and_ok q
  have k_Division_kind := z
  clear z
  have z := q
  have i_Division_kind := z
  clear z
  clear q
  have q := c.fact 2 (f := fb2) rfl
  obtain ⟨z, q⟩ := and_ok q
  have k_Division_facts := z
  clear z
  obtain ⟨z, q⟩ := and_ok q
  have i_Division_facts := z
  clear z
  obtain ⟨z, q⟩ := and_ok q
  have k_Thing_eq := z
  clear z
  obtain ⟨z, q⟩ := and_ok q
  have i_Thing_eq := z
  clear z
  obtain ⟨z, q⟩ := and_ok q
  have m_l_source := He.eqO_ok z
  clear z
  obtain ⟨z, q⟩ := and_ok q
  have k_l_source := z
  clear z
  obtain ⟨z, q⟩ := and_ok q
  have m_l_draw := He.eqO_ok z
  clear z
  obtain ⟨z, q⟩ := and_ok q
  have k_l_draw := z
  clear z
  obtain ⟨z, q⟩ := and_ok q
  have m_l_shuffled := He.eqO_ok z
  clear z
  obtain ⟨z, q⟩ := and_ok q
  have k_l_shuffled := z
  clear z
  obtain ⟨z, q⟩ := and_ok q
  have m_l_pick := He.eqO_ok z
  clear z
  obtain ⟨z, q⟩ := and_ok q
  have k_l_pick := z
  clear z
  obtain ⟨z, q⟩ := and_ok q
  have m_l_drawn_groups := He.eqO_ok z
  clear z
  obtain ⟨z, q⟩ := and_ok q
  have k_l_drawn_groups := z
  clear z
  obtain ⟨z, q⟩ := and_ok q
  have m_l_whole := He.eqO_ok z
  clear z
  obtain ⟨z, q⟩ := and_ok q
  have k_l_whole := z
  clear z
  obtain ⟨z, q⟩ := and_ok q
  have m_check_people := He.eqO_ok z
  clear z
  obtain ⟨z, q⟩ := and_ok q
  have k_check_people := z
  clear z
  obtain ⟨z, q⟩ := and_ok q
  have m_check_person := He.eqO_ok z
  clear z
  obtain ⟨z, q⟩ := and_ok q
  have k_check_person := z
  clear z
  obtain ⟨z, q⟩ := and_ok q
  have m_sorted_groups := He.eqO_ok z
  clear z
  obtain ⟨z, q⟩ := and_ok q
  have k_sorted_groups := z
  clear z
  obtain ⟨z, q⟩ := and_ok q
  have k_Division_init := z
  clear z
  obtain ⟨z, q⟩ := and_ok q
  have i_Division_init := z
  clear z
  have z := q
  have m_alone := He.eqO_ok z
  clear z
  clear q
  have q := c.fact 3 (f := fb3) rfl
  obtain ⟨z, q⟩ := and_ok q
  have k_alone := z
  clear z
  obtain ⟨z, q⟩ := and_ok q
  have m_together := He.eqO_ok z
  clear z
  obtain ⟨z, q⟩ := and_ok q
  have k_together := z
  clear z
  obtain ⟨z, q⟩ := and_ok q
  have m_l_together_right := He.eqO_ok z
  clear z
  obtain ⟨z, q⟩ := and_ok q
  have k_l_together_right := z
  clear z
  obtain ⟨z, q⟩ := and_ok q
  have m_l_right := He.eqO_ok z
  clear z
  obtain ⟨z, q⟩ := and_ok q
  have k_l_right := z
  clear z
  obtain ⟨z, q⟩ := and_ok q
  have m_law := He.eqO_ok z
  clear z
  have z := q
  have k_law := z
  clear z
  clear q
  exact all_mk (C0 := (He.ga K "Thing")) (C10 := (He.ga K "Division")) (f_Division_kind := (He.ma K (He.ga K "Division") "kind")) (f_Division_facts := (He.ma K (He.ga K "Division") "facts")) (f_Thing_eq := (He.ma K (He.ga K "Thing") "__eq__")) (f_l_source := (He.ga K "_law_source")) (f_l_draw := (He.ga K "_law_draw")) (f_l_shuffled := (He.ga K "_law_shuffled")) (f_l_pick := (He.ga K "_law_pick")) (f_l_drawn_groups := (He.ga K "_law_drawn_groups")) (f_l_whole := (He.ga K "_law_whole")) (f_check_people := (He.ga K "check_people")) (f_check_person := (He.ga K "check_person")) (f_sorted_groups := (He.ga K "sorted_groups")) (f_Division_init := (He.ma K (He.ga K "Division") "__init__")) (f_alone := (He.ga K "alone")) (f_together := (He.ga K "together")) (f_l_together_right := (He.ga K "_law_together_right")) (f_l_right := (He.ga K "_law_right")) (f_law := (He.ga K "law")) X G hfa g0 g10 pg10 hd10 po10 sa10 mk10 kc10 na10_people na10_groups ha10 ob10 qe10 qn10 su10_NoneType su10_bool su10_int su10_str su10_list su10_tuple nf10_10 ko10_0 hgn tk kt_NoneType kt_bool kt_int kt_str kt_list kt_tuple kt_dict kt_self_bool kt_self_tuple nd b_abs b_any b_bool b_isinstance b_len b_list b_range b_repr b_sorted b_tuple c_MOST_PEOPLE fm10_facts fm10_kind in10 l_Division_kind c_Division_kind k_Division_kind i_Division_kind l_Division_facts c_Division_facts k_Division_facts i_Division_facts l_Thing_eq c_Thing_eq k_Thing_eq i_Thing_eq m_l_source l_l_source c_l_source k_l_source m_l_draw l_l_draw c_l_draw k_l_draw m_l_shuffled l_l_shuffled c_l_shuffled k_l_shuffled m_l_pick l_l_pick c_l_pick k_l_pick m_l_drawn_groups l_l_drawn_groups c_l_drawn_groups k_l_drawn_groups m_l_whole l_l_whole c_l_whole k_l_whole m_check_people l_check_people c_check_people k_check_people m_check_person l_check_person c_check_person k_check_person m_sorted_groups l_sorted_groups c_sorted_groups k_sorted_groups l_Division_init c_Division_init k_Division_init i_Division_init m_alone l_alone c_alone k_alone m_together l_together c_together k_together m_l_together_right l_l_together_right c_l_together_right k_l_together_right m_l_right l_l_right c_l_right k_l_right m_law l_law c_law k_law
end DD

open PySem PySem.W PySem.Calls PyProof.Rows
theorem PySem.Challenge.cw_glueroom_k01_divisions_made_holds : PySem.Challenge.rw_glueroom_k01_divisions_made.Holds := by
  w_on; o_law
  refine HandSHeadRun.head_any (r := DD.RR) (q := DD.qR) (H := DD.hkB) (ob := DD.obR) (M := 8000) (loose := DD.loose) (d := HandSHeadRun.topDef DD.RR.prog 24) (kwd := []) DD.obR_eq
    (by kernel_rfl) (fun s => by kernel_rfl) DD.runR (by kernel_rfl) (by kernel_rfl) (by kernel_rfl) (by rfl) (by first | assumption | decide +kernel) (by decide +kernel) ⟨rfl, rfl, rfl, rfl, rfl, by decide +kernel⟩ ?hw ?hc
  case hw => w_witness2
  case hc =>
    refine DD.walkEG (l := PySem.Challenge.rw_glueroom_k01_divisions_made) (n := 63) (k := 16) (x := "_law_script") (CX := fun w => L2.CX (PySem.Challenge.rw_glueroom_k01_divisions_made).prog w) DD.spL rfl (by decide) (by kernel_rfl) ⟨rfl, by decide, by decide⟩ ?F (fun K H a ns hl hO hS => DD.sp_start hl hO hS) ?C
    case C =>
      intro w H s e s' z
      obtain ⟨_, _, _, cls, d, _, _, _, _, _, _, _, z⟩ := z
      exact z.elim
    case F =>
      intro w mg fa h Y G hm
      obtain ⟨K, KX, c⟩ := Y
      have hmg : mg ("law" : PySem.Str) = some (.ref fa) := by
        have e : (HandSHeadRun.topDef DD.RR.prog 24).name = ("law" : PySem.Str) := by kernel_rfl
        rw [← e]
        exact hm
      obtain ⟨fd, hb, hF⟩ := DD.factsR (l := PySem.Challenge.rw_glueroom_k01_divisions_made) (w := w) KX G hmg c
      refine ⟨K, fd, KX, hb, fun base h1 h2 => ?_⟩
      obtain ⟨cA, hcA⟩ := hF base h1 h2
      exact DD.FnG.weak hcA fun vs H Q E z => z cA
