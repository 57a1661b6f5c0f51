import PyProof.Rows.All
import Wide.All
import OpenK.AllK
import Wide.FinOn
import HandS.ForMost
import HandS.Wide
import HandS.Deep
import HandS.DictTup
import HandS.IsInst
import HandS.SortInts
import HandS.SortRule
import HandS.Zip
import HandS.TupAny
import HandS.Rev
import HandS.Conv
import HandS.Strs
import HandS.Flow
import HandS.Style
import HandS.Walk
import HandS.TupLe
import KE.DataFind
import HandS.ExcInit
import HandS.ExcField
import HandS.ExcIs
import HandS.WordsExc
import HandS.ExcOwn
import HandS.HotCalls
import HandS.Comp
import HandS.ExcCtx
import HandS.Lambda
import HandS.Nested
import HandS.EndTab
import HandS.EndOwn
import KE.KNestM
import HandS.More
import KE.KDictKeyed
import KE.KDictDisplayH
import PyProof.TupleOfSeq
import KE.DataCmp
import HandS.SetFor
import KE.DataMinMax
import HandS.NoneIn
import PyProof.P3Eq
import PySem.Challenge.RW_denseround_k13_first_round
set_option Elab.async false
set_option linter.all false
set_option autoImplicit false
set_option maxRecDepth 100000
set_option maxHeartbeats 8000000
namespace D3
open PySem L2

/-! ## data, and what bears it in a heap -/
/-- anything that stays with what it leans on -/
structure DExt where
  p : Addr → Hp → V → Prop
  mono : ∀ {C : Addr} {H H' : Hp} {v : V}, (∀ (b : Addr) (o : HO), H b = some o → H' b = some o) → p C H v → p C H' v
  rf : ∀ {C : Addr} {H : Hp} {v : V}, p C H v → ∃ a, v = .ref a
inductive Dt where
  | non
  | bl (b : Bool)
  | int (i : Int)
  | str (x : Str)
  | lst (xs : List Dt)
  | tup (xs : List Dt)
  | dki (ks : List Nat)
  | dkt (ks : List (Nat × Nat))
  | yard (n : Nat) (ts : List (Nat × Nat))
  | ext (φ : DExt)

/-- a tie, as data -/
def tieD (p : Nat × Nat) : Dt := .tup [.int p.1, .int p.2]
/-- the places that a place is tied to, in the order of the ties -/
def nearOf (ts : List (Nat × Nat)) (x : Nat) : List Nat := ts.filterMap fun p => if p.1 = x then some p.2 else if p.2 = x then some p.1 else none
def kiV (k : Nat) : Key × V := (Sum.inl (k : Int), V.bl true)
def ktV (p : Nat × Nat) : List Key × V := ([Sum.inl (p.1 : Int), Sum.inl (p.2 : Int)], V.bl true)
def yardFs (n : Nat) (kp nr : Addr) : List (Str × V) := [("size", V.int n), ("kept", V.ref kp), ("near", V.ref nr)]

mutual
inductive Rp (C : Addr) (H : Hp) : V → Dt → Prop
  | non : Rp C H .non .non
  | bl (b : Bool) : Rp C H (.bl b) (.bl b)
  | int (i : Int) : Rp C H (.int i) (.int i)
  | str (x : Str) : Rp C H (.str x) (.str x)
  | lst {a : Addr} {xs : List V} {ds : List Dt} : H a = some (.lst xs) → RpAll C H xs ds → Rp C H (.ref a) (.lst ds)
  | tup {a : Addr} {xs : List V} {ds : List Dt} : H a = some (.tup xs) → RpAll C H xs ds → Rp C H (.ref a) (.tup ds)
  | dki {a : Addr} {ks : List Nat} : H a = some (.dK (ks.map kiV)) → Rp C H (.ref a) (.dki ks)
  | dkt {a : Addr} {ks : List (Nat × Nat)} : H a = some (.dT (ks.map ktV)) → Rp C H (.ref a) (.dkt ks)
  | yard {y dx kp nr : Addr} {kx nx : List V} {n : Nat} {ts : List (Nat × Nat)} {kd nd : List Dt} : H y = some (.ins C dx (yardFs n kp nr)) → H kp = some (.lst kx) → H nr = some (.lst nx) →
      RpAll C H kx kd → RpAll C H nx nd → kd = ts.map tieD → nd = (List.range n).map (fun x => .dki (nearOf ts x)) → Rp C H (.ref y) (.yard n ts)
  | ext {v : V} {φ : DExt} : φ.p C H v → Rp C H v (.ext φ)
inductive RpAll (C : Addr) (H : Hp) : List V → List Dt → Prop
  | nil : RpAll C H [] []
  | cons {v : V} {vs : List V} {d : Dt} {ds : List Dt} : Rp C H v d → RpAll C H vs ds → RpAll C H (v :: vs) (d :: ds)
end

section
variable {C : Addr} {H H' : Hp}
mutual
theorem Rp.mono (s : Same H H') : ∀ {v : V} {d : Dt}, Rp C H v d → Rp C H' v d
  | _, _, .non => .non
  | _, _, .bl b => .bl b
  | _, _, .int i => .int i
  | _, _, .str x => .str x
  | _, _, .lst h r => .lst (s _ _ h) (RpAll.mono s r)
  | _, _, .tup h r => .tup (s _ _ h) (RpAll.mono s r)
  | _, _, .dki h => .dki (s _ _ h)
  | _, _, .dkt h => .dkt (s _ _ h)
  | _, _, .yard h1 h2 h3 r1 r2 e1 e2 => .yard (s _ _ h1) (s _ _ h2) (s _ _ h3) (RpAll.mono s r1) (RpAll.mono s r2) e1 e2
  | _, _, .ext (φ := φ) h => .ext (φ.mono s h)
theorem RpAll.mono (s : Same H H') : ∀ {vs : List V} {ds : List Dt}, RpAll C H vs ds → RpAll C H' vs ds
  | _, _, .nil => .nil
  | _, _, .cons h r => .cons (Rp.mono s h) (RpAll.mono s r)
end
theorem RpAll.length : ∀ {vs : List V} {ds : List Dt}, RpAll C H vs ds → vs.length = ds.length
  | _, _, .nil => rfl
  | _, _, .cons _ r => by rw [List.length_cons, List.length_cons, RpAll.length r]
theorem RpAll.get : ∀ {vs : List V} {ds : List Dt} {i : Nat} {d : Dt}, RpAll C H vs ds → ds[i]? = some d → ∃ v, vs[i]? = some v ∧ Rp C H v d
  | _, _, _, _, .nil, e => by simp at e
  | _, _, 0, _, .cons h _, e => by simp at e; subst e; exact ⟨_, rfl, h⟩
  | _, _, i + 1, d, .cons _ r, e => by
    obtain ⟨v, h1, h2⟩ := RpAll.get (i := i) (d := d) r (by simpa using e)
    exact ⟨v, by simpa using h1, h2⟩
theorem RpAll.getV : ∀ {vs : List V} {ds : List Dt} {i : Nat} {v : V}, RpAll C H vs ds → vs[i]? = some v → ∃ d, ds[i]? = some d ∧ Rp C H v d
  | _, _, _, _, .nil, e => by simp at e
  | _, _, 0, _, .cons h _, e => by simp at e; subst e; exact ⟨_, rfl, h⟩
  | _, _, i + 1, v, .cons _ r, e => by
    obtain ⟨d, h1, h2⟩ := RpAll.getV (i := i) (v := v) r (by simpa using e)
    exact ⟨d, by simpa using h1, h2⟩
theorem RpAll.append : ∀ {vs ws : List V} {ds es : List Dt}, RpAll C H vs ds → RpAll C H ws es → RpAll C H (vs ++ ws) (ds ++ es)
  | _, _, _, _, .nil, s => s
  | _, _, _, _, .cons h r, s => .cons h (RpAll.append r s)
theorem RpAll.take : ∀ {vs : List V} {ds : List Dt} (n : Nat), RpAll C H vs ds → RpAll C H (vs.take n) (ds.take n)
  | _, _, 0, _ => .nil
  | _, _, _ + 1, .nil => .nil
  | _, _, n + 1, .cons h r => .cons h (RpAll.take n r)
theorem RpAll.drop : ∀ {vs : List V} {ds : List Dt} (n : Nat), RpAll C H vs ds → RpAll C H (vs.drop n) (ds.drop n)
  | _, _, 0, r => r
  | _, _, _ + 1, .nil => .nil
  | _, _, n + 1, .cons _ r => RpAll.drop n r
theorem RpAll.reverse : ∀ {vs : List V} {ds : List Dt}, RpAll C H vs ds → RpAll C H vs.reverse ds.reverse
  | _, _, .nil => .nil
  | _, _, .cons h r => by
    rw [List.reverse_cons, List.reverse_cons]
    exact RpAll.append (RpAll.reverse r) (.cons h .nil)
theorem RpAll.set {v : V} {d : Dt} (h : Rp C H v d) : ∀ {vs : List V} {ds : List Dt} (i : Nat), RpAll C H vs ds → RpAll C H (vs.set i v) (ds.set i d)
  | _, _, _, .nil => .nil
  | _, _, 0, .cons _ r => .cons h r
  | _, _, i + 1, .cons q r => .cons q (RpAll.set h i r)
theorem RpAll.eraseIdx : ∀ {vs : List V} {ds : List Dt} (i : Nat), RpAll C H vs ds → RpAll C H (vs.eraseIdx i) (ds.eraseIdx i)
  | _, _, _, .nil => by simp; exact .nil
  | _, _, 0, .cons _ r => r
  | _, _, i + 1, .cons q r => .cons q (RpAll.eraseIdx i r)
theorem RpAll.ints : ∀ {vs : List V} {ns : List Int}, RpAll C H vs (ns.map Dt.int) → vs = ns.map V.int
  | _, [], h => by cases h; rfl
  | _, n :: ns, h => by
    cases h with
    | cons h r =>
      cases h
      rw [RpAll.ints r]; rfl
theorem RpAll.of_ints : ∀ (ns : List Int), RpAll C H (ns.map V.int) (ns.map Dt.int)
  | [] => .nil
  | n :: ns => .cons (.int n) (RpAll.of_ints ns)
theorem RpAll.strs : ∀ {vs : List V} {ns : List Str}, RpAll C H vs (ns.map Dt.str) → vs = ns.map V.str
  | _, [], h => by cases h; rfl
  | _, n :: ns, h => by
    cases h with
    | cons h r =>
      cases h
      rw [RpAll.strs r]; rfl
theorem RpAll.of_strs : ∀ (ns : List Str), RpAll C H (ns.map V.str) (ns.map Dt.str)
  | [] => .nil
  | n :: ns => .cons (.str n) (RpAll.of_strs ns)
theorem RpAll.bls : ∀ {vs : List V} {ns : List Bool}, RpAll C H vs (ns.map Dt.bl) → vs = ns.map V.bl
  | _, [], h => by cases h; rfl
  | _, n :: ns, h => by
    cases h with
    | cons h r =>
      cases h
      rw [RpAll.bls r]; rfl
end

/-! ## what may change outside of what is ours -/
structure Rsc where
  M : Addr → Prop
  R : Hp → Prop
  loc : ∀ H H' : Hp, (∀ b o, (M b ∨ ∃ xs, o = .tup xs) → H b = some o → H' b = some o) → R H → R H'
  A : Hp → Hp → Prop
/-- nothing -/
def ρ0 : Rsc := ⟨fun _ => False, fun _ => True, fun _ _ _ _ => trivial, fun _ _ => True⟩

structure Ok (ρ : Rsc) (S H : Hp) : Prop where
  sh : Same S H
  m : ∀ b, ρ.M b → S b = none
  t : ∀ b, ρ.M b → H b ≠ none
  r : ρ.R H
structure Ok0 (ρ : Rsc) (S H : Hp) : Prop where
  sh : Same S H
  m : ∀ b, ρ.M b → S b = none
  t : ∀ b, ρ.M b → H b ≠ none
theorem Ok.z {ρ : Rsc} {S H : Hp} (k : Ok ρ S H) : Ok0 ρ S H := ⟨k.sh, k.m, k.t⟩
instance {ρ : Rsc} {S H : Hp} : Coe (Ok ρ S H) (Ok0 ρ S H) := ⟨Ok.z⟩
/-- the stable part grew by new things, all that stood stands but the resource -/
structure Mv (ρ : Rsc) (S H S' H' : Hp) : Prop where
  ok : Ok ρ S' H'
  ss : Same S S'
  hh : ∀ b o, ¬ ρ.M b → H b = some o → H' b = some o
  fr : ∀ b, S b = none → H b ≠ none → S' b = none

section
variable {ρ : Rsc} {S H S1 H1 S2 H2 : Hp} {p : Addr} {o o' : HO}
theorem Ok.nm (k : Ok ρ S H) (h : H p = none) : ¬ ρ.M p := fun m => k.t p m h
theorem Ok0.nm (k : Ok0 ρ S H) (h : H p = none) : ¬ ρ.M p := fun m => k.t p m h
theorem Ok0.ns (k : Ok0 ρ S H) (h : H p = none) : S p = none := k.sh.free h
theorem Ok.ns (k : Ok ρ S H) (h : H p = none) : S p = none := k.sh.free h
theorem Mv.refl (k : Ok ρ S H) : Mv ρ S H S H := ⟨k, Same.refl S, fun _ _ _ h => h, fun _ h _ => h⟩
theorem Mv.there (k : Ok0 ρ S H) (a : Mv ρ S H S1 H1) {b : Addr} (h : H b ≠ none) : H1 b ≠ none := by
  by_cases m : ρ.M b
  · exact a.ok.t b m
  · cases q : H b with
    | none => exact absurd q h
    | some o => rw [a.hh b o m q]; simp
theorem Mv.back (k : Ok0 ρ S H) (a : Mv ρ S H S1 H1) {b : Addr} (h : H1 b = none) : H b = none := by
  cases q : H b with
  | none => rfl
  | some o => exact absurd h (a.there k (by rw [q]; simp))
theorem Mv.trans (k : Ok0 ρ S H) (a : Mv ρ S H S1 H1) (b : Mv ρ S1 H1 S2 H2) : Mv ρ S H S2 H2 :=
  ⟨b.ok, a.ss.trans b.ss, fun c o m h => b.hh c o m (a.hh c o m h), fun c h n => b.fr c (a.fr c h n) (a.there k n)⟩
theorem same_upd (s : Same S H) (h : S p = none) : Same S (upd H p o) := fun b u e => by
  rw [upd_ne (ne_of_none e h)]; exact s b u e
theorem same_upd2 (s : Same S H) : Same (upd S p o) (upd H p o) := fun b u e => by
  by_cases hb : b = p
  · subst hb; rw [upd_same] at e ⊢; exact e
  · rw [upd_ne hb] at e ⊢; exact s b u e
theorem same_new (h : S p = none) : Same S (upd S p o) := same_upd (Same.refl S) h
/-- a new thing, not (yet) in the stable part -/
theorem Mv.new (k : Ok ρ S H) (h : H p = none) (o : HO) : Mv ρ S H S (upd H p o) := by
  have np : ∀ b, ρ.M b → b ≠ p := fun b m e => by subst e; exact k.t b m h
  refine ⟨⟨same_upd k.sh (k.ns h), k.m, fun b m => by rw [upd_ne (np b m)]; exact k.t b m, ρ.loc H _ (fun b u m e => by rw [upd_ne (ne_of_none e h)]; exact e) k.r⟩, Same.refl S, fun b u _ e => by rw [upd_ne (ne_of_none e h)]; exact e, fun b e _ => e⟩
/-- a new thing in the stable part -/
theorem Mv.newS (k : Ok ρ S H) (h : H p = none) (o : HO) : Mv ρ S H (upd S p o) (upd H p o) := by
  have np : ∀ b, ρ.M b → b ≠ p := fun b m e => by subst e; exact k.t b m h
  refine ⟨⟨same_upd2 k.sh, fun b m => by rw [upd_ne (np b m)]; exact k.m b m, fun b m => by rw [upd_ne (np b m)]; exact k.t b m, ρ.loc H _ (fun b u m e => by rw [upd_ne (ne_of_none e h)]; exact e) k.r⟩, same_new (k.ns h), fun b u _ e => by rw [upd_ne (ne_of_none e h)]; exact e, fun b e n => ?_⟩
  have : b ≠ p := fun q => by subst q; exact n h
  rw [upd_ne this]; exact e
/-- what is ours becomes stable -/
theorem Mv.freeze (k : Ok0 ρ S H) (a : Mv ρ S H S1 H1) (h0 : H p = none) (hp : H1 p = some o) : Mv ρ S H (upd S1 p o) H1 := by
  have np : ∀ b, ρ.M b → b ≠ p := fun b m e => by subst e; exact k.t b m h0
  refine ⟨⟨fun b u e => ?_, fun b m => by rw [upd_ne (np b m)]; exact a.ok.m b m, a.ok.t, a.ok.r⟩, fun b u e => ?_, a.hh, fun b e n => ?_⟩
  · by_cases hb : b = p
    · subst hb; rw [upd_same] at e; rw [← e]; exact hp
    · rw [upd_ne hb] at e; exact a.ok.sh b u e
  · have : b ≠ p := fun q => by subst q; rw [k.ns h0] at e; cases e
    rw [upd_ne this]; exact a.ss b u e
  · have : b ≠ p := fun q => by subst q; exact n h0
    rw [upd_ne this]; exact a.fr b e n
theorem nt_lst {H : Hp} {p : Addr} {ys : List V} (h : H p = some (.lst ys)) : ∀ xs, H p ≠ some (.tup xs) := fun xs z => by rw [h] at z; cases z
/-- what is ours is changed -/
theorem Mv.mut (k : Ok0 ρ S H) (a : Mv ρ S H S1 H1) (h0 : H p = none) (hs : S1 p = none) (nt : ∀ xs, H1 p ≠ some (.tup xs)) : Mv ρ S H S1 (upd H1 p o) := by
  have np : ∀ b, ρ.M b → b ≠ p := fun b m e => by subst e; exact k.t b m h0
  exact ⟨⟨same_upd a.ok.sh hs, a.ok.m, fun b m => by rw [upd_ne (np b m)]; exact a.ok.t b m, ρ.loc H1 _ (fun b u m e => by
    have nb : b ≠ p := fun z => by
      rcases m with m | ⟨xs, rfl⟩
      · exact np b m z
      · exact nt xs (z ▸ e)
    rw [upd_ne nb]; exact e) a.ok.r⟩, a.ss, fun b u m e => by
    rw [upd_ne (ne_of_none e h0)]; exact a.hh b u m e, a.fr⟩
/-- a pure move is one under any resource -/
theorem Mv.lift (k : Ok ρ S H) (a : Mv ρ0 S H S1 H1) : Mv ρ S H S1 H1 := by
  refine ⟨⟨a.ok.sh, fun b m => a.fr b (k.m b m) (k.t b m), fun b m => ?_, ρ.loc H H1 (fun b o _ e => a.hh b o (fun z => z) e) k.r⟩, a.ss, fun b o _ e => a.hh b o (fun z => z) e, a.fr⟩
  cases q : H b with
  | none => exact absurd q (k.t b m)
  | some o => rw [a.hh b o (fun z => z) q]; simp
theorem Ok.pure (k : Ok ρ S H) : Ok ρ0 S H := ⟨k.sh, fun _ z => z.elim, fun _ z => z.elim, trivial⟩
end

/-! ## what a slot or an expression holds -/
/-- what else may be told of a new answer, kept by every move -/
structure SemP where
  p : Hp → Hp → Hp → V → Prop
  mv : ∀ {ρ : Rsc} {S0 Hs S H S1 H1 : Hp} {v : V}, Ok0 ρ S0 Hs → Mv ρ S0 Hs S H → p Hs S H v → Mv ρ S H S1 H1 → p Hs S1 H1 v
  pre : ∀ {Hs Hr S H : Hp} {v : V}, (∀ q, Hs q = none → Hr q = none) → p Hs S H v → p Hr S H v
/-- what is true of an own thing: its address, the thing, the stable part -/
structure CellP where
  q : Addr → HO → Hp → Prop
  mono : ∀ {p : Addr} {o : HO} {S S' : Hp}, Same S S' → q p o S → q p o S'
  nt : ∀ {p : Addr} {xs : List V} {S : Hp}, ¬ q p (.tup xs) S
def cellO (o : HO) (h : ∀ xs, o ≠ .tup xs) : CellP := ⟨fun _ o' _ => o' = o, fun _ h => h, fun z => h _ z.symm⟩
inductive Sl where
  | any
  | dat (d : Dt)
  | own (ds : List Dt)
  | cell (c : CellP)
  | raw (v : V)
  | bor (ds : List Dt)
  | bcell (P : SemP)
def Sl.isOwn : Sl → Prop
  | .own _ => True
  | .cell _ => True
  | _ => False

section
variable (C : Addr) (ρ : Rsc)
/-- Hs: the heap ahead, in which what is ours wasn't yet -/
def RvOk (Hs S H : Hp) (v : V) : Sl → Prop
  | .any => True
  | .dat d => Rp C S v d
  | .own ds => ∃ p xs, v = .ref p ∧ Hs p = none ∧ S p = none ∧ H p = some (.lst xs) ∧ RpAll C S xs ds
  | .cell c => ∃ p o, v = .ref p ∧ Hs p = none ∧ S p = none ∧ H p = some o ∧ c.q p o S
  | .raw u => v = u
  | .bor ds => ∃ p xs, v = .ref p ∧ ¬ ρ.M p ∧ H p = some (.lst xs) ∧ RpAll C S xs ds
  | .bcell P => P.p Hs S H v
def SlOk (Hs S H : Hp) (o : Option V) : Sl → Prop
  | .any => True
  | .bor _ => True
  | .bcell _ => True
  | s => ∃ v, o = some v ∧ RvOk C ρ Hs S H v s
structure Good (S0 H0 S H : Hp) (σ : L2.St) (sl : List Sl) : Prop where
  k1 : Ok0 ρ S0 H0 ∧ ρ.A S0 H0
  mv : Mv ρ S0 H0 S H
  len : σ.length = sl.length
  ok : ∀ (i : Nat) (s : Sl), sl[i]? = some s → SlOk C ρ H0 S H (σ[i]?.getD none) s
  ne : ∀ (i j : Nat) (s t : Sl) (p : Addr), i ≠ j → sl[i]? = some s → sl[j]? = some t → s.isOwn → t.isOwn → σ[i]? = some (some (.ref p)) → σ[j]? = some (some (.ref p)) → False
end

section
variable {C : Addr} {ρ : Rsc} {S0 H0 Hs S H S1 H1 S2 H2 : Hp} {v : V} {r : Sl}
theorem RvOk.mv (ks : Ok0 ρ S0 Hs) (a0 : Mv ρ S0 Hs S H) (h : RvOk C ρ Hs S H v r) (a : Mv ρ S H S1 H1) : RvOk C ρ Hs S1 H1 v r := by
  have keep : ∀ p o, Hs p = none → H p = some o → H1 p = some o := fun p o h0 e => a.hh p o (ks.nm h0) e
  cases r with
  | any => trivial
  | dat d => exact Rp.mono a.ss h
  | own ds =>
    obtain ⟨p, xs, e, h0, h1, h2, h3⟩ := h
    exact ⟨p, xs, e, h0, a.fr p h1 (by rw [h2]; simp), keep p _ h0 h2, h3.mono a.ss⟩
  | cell o =>
    obtain ⟨p, u, e, h0, h1, h2, h3⟩ := h
    exact ⟨p, u, e, h0, a.fr p h1 (by rw [h2]; simp), keep p _ h0 h2, o.mono a.ss h3⟩
  | raw u => exact h
  | bor ds =>
    obtain ⟨p, xs, e, m, h2, h3⟩ := h
    exact ⟨p, xs, e, m, a.hh p _ m h2, h3.mono a.ss⟩
  | bcell P => exact P.mv ks a0 h a
theorem RvOk.pre {Hr : Hp} (h : RvOk C ρ Hs S H v r) (b : ∀ p, Hs p = none → Hr p = none) : RvOk C ρ Hr S H v r := by
  cases r with
  | own ds => obtain ⟨p, xs, e, h0, h⟩ := h; exact ⟨p, xs, e, b p h0, h⟩
  | cell o => obtain ⟨p, o, e, h0, h⟩ := h; exact ⟨p, o, e, b p h0, h⟩
  | any => trivial
  | dat d => exact h
  | raw u => exact h
  | bor d => exact h
  | bcell P => exact P.pre b h
variable {σ : L2.St} {sl : List Sl}
theorem Good.k (g : Good C ρ S0 H0 S H σ sl) : Ok ρ S H := g.mv.ok
theorem Good.k0 (g : Good C ρ S0 H0 S H σ sl) : Ok0 ρ S0 H0 := g.k1.1
theorem Good.move (g : Good C ρ S0 H0 S H σ sl) (a : Mv ρ S H S1 H1) : Good C ρ S0 H0 S1 H1 σ sl := by
  refine ⟨g.k1, g.mv.trans g.k0 a, g.len, fun i s e => ?_, g.ne⟩
  have q := g.ok i s e
  cases s with
  | any => trivial
  | bor d => trivial
  | bcell d => trivial
  | dat d => obtain ⟨v, ev, h⟩ := q; exact ⟨v, ev, h.mv g.k0 g.mv a⟩
  | own d => obtain ⟨v, ev, h⟩ := q; exact ⟨v, ev, h.mv g.k0 g.mv a⟩
  | cell d => obtain ⟨v, ev, h⟩ := q; exact ⟨v, ev, h.mv g.k0 g.mv a⟩
  | raw d => obtain ⟨v, ev, h⟩ := q; exact ⟨v, ev, h.mv g.k0 g.mv a⟩
/-- the slot i in the state -/
theorem Good.at (g : Good C ρ S0 H0 S H σ sl) {i : Nat} {s : Sl} (e : sl[i]? = some s) (n1 : s ≠ .any) (n2 : ∀ d, s ≠ .bor d) (n3 : ∀ d, s ≠ .bcell d) : ∃ v, σ[i]? = some (some v) ∧ RvOk C ρ H0 S H v s := by
  have q := g.ok i s e
  have hi : i < σ.length := by rw [g.len]; exact (List.getElem?_eq_some_iff.mp e).1
  have key : ∀ v, σ[i]?.getD none = some v → σ[i]? = some (some v) := fun v h => by
    rw [List.getElem?_eq_getElem hi] at h ⊢
    simpa using h
  cases s with
  | any => exact absurd rfl n1
  | bor d => exact absurd rfl (n2 d)
  | bcell d => exact absurd rfl (n3 d)
  | dat d => obtain ⟨v, ev, h⟩ := q; exact ⟨v, key v ev, h⟩
  | own d => obtain ⟨v, ev, h⟩ := q; exact ⟨v, key v ev, h⟩
  | cell d => obtain ⟨v, ev, h⟩ := q; exact ⟨v, key v ev, h⟩
  | raw d => obtain ⟨v, ev, h⟩ := q; exact ⟨v, key v ev, h⟩
theorem SlOk.of {o : Option V} (e : o = some v) (h : RvOk C ρ Hs S H v r) : SlOk C ρ Hs S H o r := by
  cases r with
  | any => trivial
  | bor d => trivial
  | bcell d => trivial
  | dat d => exact ⟨v, e, h⟩
  | own d => exact ⟨v, e, h⟩
  | cell d => exact ⟨v, e, h⟩
  | raw d => exact ⟨v, e, h⟩
/-- a name is stored -/
theorem Good.set {i : Nat} (g : Good C ρ S0 H0 S H σ sl) (a : Mv ρ S H S1 H1) (h : RvOk C ρ H S1 H1 v r) : Good C ρ S0 H0 S1 H1 (σ.set i (some v)) (sl.set i r) := by
  have g1 := g.move a
  refine ⟨g.k1, g1.mv, by simp [g.len], fun j s e => ?_, fun j k s t p hjk e1 e2 o1 o2 e3 e4 => ?_⟩
  · by_cases hj : j = i
    · subst hj
      have hi : j < sl.length := by simpa using (List.getElem?_eq_some_iff.mp e).1
      rw [List.getElem?_set_self hi] at e
      cases e
      rw [List.getElem?_set_self (by rw [g.len]; exact hi)]
      exact SlOk.of rfl (h.pre fun p => g.mv.back g.k0)
    · rw [List.getElem?_set_ne (Ne.symm hj)] at e ⊢
      exact g1.ok j s e
  · have fresh : r.isOwn → ∀ p, v = .ref p → H p = none := fun o p e => by
      cases r with
      | own ds => obtain ⟨q, xs, e', h0, _⟩ := h; rw [e] at e'; cases e'; exact h0
      | cell ds => obtain ⟨q, _, e', h0, _⟩ := h; rw [e] at e'; cases e'; exact h0
      | any => exact o.elim
      | dat d => exact o.elim
      | raw d => exact o.elim
      | bor d => exact o.elim
      | bcell d => exact o.elim
    have old : ∀ (k : Nat) (t : Sl), sl[k]? = some t → t.isOwn → σ[k]? = some (some (.ref p)) → H p ≠ none := fun k t e o eσ => by
      have q := g.ok k t e
      rw [eσ] at q
      cases t with
      | own ds => obtain ⟨_, ev, q, xs, e', _, _, h2, _⟩ := q; cases ev; cases e'; rw [h2]; simp
      | cell ds => obtain ⟨_, ev, q, _, e', _, _, h2, _⟩ := q; cases ev; cases e'; rw [h2]; simp
      | any => exact o.elim
      | dat d => exact o.elim
      | raw d => exact o.elim
      | bor d => exact o.elim
      | bcell d => exact o.elim
    have hi1 : j < sl.length := by simpa using (List.getElem?_eq_some_iff.mp e1).1
    have hi2 : k < sl.length := by simpa using (List.getElem?_eq_some_iff.mp e2).1
    by_cases hj : j = i
    · subst hj
      rw [List.getElem?_set_self hi1] at e1
      rw [List.getElem?_set_self (by rw [g.len]; exact hi1)] at e3
      rw [List.getElem?_set_ne hjk] at e2 e4
      cases e1; cases e3
      exact old k t e2 o2 e4 (fresh o1 p rfl)
    · rw [List.getElem?_set_ne (Ne.symm hj)] at e1 e3
      by_cases hk : k = i
      · subst hk
        rw [List.getElem?_set_self hi2] at e2
        rw [List.getElem?_set_self (by rw [g.len]; exact hi2)] at e4
        cases e2; cases e4
        exact old j s e1 o1 e3 (fresh o2 p rfl)
      · rw [List.getElem?_set_ne (Ne.symm hk)] at e2 e4
        exact g.ne j k s t p hjk e1 e2 o1 o2 e3 e4
/-- the slot's own thing is changed -/
theorem Good.mutAt {i : Nat} {p : Addr} {s : Sl} (g : Good C ρ S0 H0 S H σ sl) (e : sl[i]? = some s) (os : s.isOwn) (eσ : σ[i]? = some (some (.ref p))) (o : HO) (r : Sl) (or : r.isOwn) (h : RvOk C ρ H0 S (upd H p o) (.ref p) r) :
    Good C ρ S0 H0 S (upd H p o) σ (sl.set i r) := by
  have hp : H0 p = none ∧ S p = none ∧ ∀ xs, H p ≠ some (.tup xs) := by
    have q := g.ok i s e
    rw [eσ] at q
    cases s with
    | own ds => obtain ⟨_, ev, q, xs, e', h0, h1, h2, _⟩ := q; cases ev; cases e'; exact ⟨h0, h1, fun ys z => by rw [h2] at z; cases z⟩
    | cell ds => obtain ⟨_, ev, q, u, e', h0, h1, h2, h3⟩ := q; cases ev; cases e'; exact ⟨h0, h1, fun ys z => by rw [h2] at z; cases z; exact ds.nt h3⟩
    | any => exact os.elim
    | dat d => exact os.elim
    | raw d => exact os.elim
    | bor d => exact os.elim
    | bcell d => exact os.elim
  have hi : i < sl.length := (List.getElem?_eq_some_iff.mp e).1
  refine ⟨g.k1, g.mv.mut g.k0 hp.1 hp.2.1 hp.2.2, by simp [g.len], fun j t ej => ?_, fun j k s' t' q hjk e1 e2 o1 o2 e3 e4 => ?_⟩
  · by_cases hj : j = i
    · subst hj
      rw [List.getElem?_set_self hi] at ej
      cases ej
      exact SlOk.of (v := .ref p) (by rw [eσ]; rfl) h
    · rw [List.getElem?_set_ne (Ne.symm hj)] at ej
      have q := g.ok j t ej
      have keep : ∀ a xs, σ[j]?.getD none = some (.ref a) → t.isOwn → H a = some xs → upd H p o a = some xs := fun a xs ev ot ha => by
        have : a ≠ p := fun z => by
          subst z
          refine g.ne i j s t a (Ne.symm hj) e ej os ot eσ ?_
          have hj' : j < σ.length := by rw [g.len]; exact (List.getElem?_eq_some_iff.mp ej).1
          rw [List.getElem?_eq_getElem hj'] at ev ⊢
          simpa using ev
        rw [upd_ne this]; exact ha
      cases t with
      | any => trivial
      | bor d => trivial
      | bcell d => trivial
      | dat d => exact q
      | raw d => exact q
      | own ds =>
        obtain ⟨v, ev, a, xs, e1, h0, h1, h2, h3⟩ := q
        subst e1
        exact ⟨_, ev, a, xs, rfl, h0, h1, keep a _ ev trivial h2, h3⟩
      | cell ds =>
        obtain ⟨v, ev, a, u, e1, h0, h1, h2, h3⟩ := q
        subst e1
        exact ⟨_, ev, a, u, rfl, h0, h1, keep a _ ev trivial h2, h3⟩
  · have orig : ∀ (m : Nat) (u : Sl), (sl.set i r)[m]? = some u → u.isOwn → ∃ u', sl[m]? = some u' ∧ u'.isOwn := fun m u em ou => by
      by_cases hm : m = i
      · subst hm; exact ⟨s, e, os⟩
      · rw [List.getElem?_set_ne (Ne.symm hm)] at em; exact ⟨u, em, ou⟩
    obtain ⟨u1, a1, b1⟩ := orig j s' e1 o1
    obtain ⟨u2, a2, b2⟩ := orig k t' e2 o2
    exact g.ne j k u1 u2 q hjk a1 a2 b1 b2 e3 e4
/-- slots are forgotten -/
def slLe (a b : Sl) : Prop := b = .any ∨ b = a
theorem Good.weaken {sl' : List Sl} (g : Good C ρ S0 H0 S H σ sl) (hl : sl'.length = sl.length) (h : ∀ (i : Nat) (s : Sl), sl'[i]? = some s → s = .any ∨ sl[i]? = some s) : Good C ρ S0 H0 S H σ sl' := by
  refine ⟨g.k1, g.mv, g.len.trans hl.symm, fun i s e => ?_, fun i j s t p hij e1 e2 o1 o2 e3 e4 => ?_⟩
  · rcases h i s e with rfl | q
    · trivial
    · exact g.ok i s q
  · rcases h i s e1 with rfl | q1
    · exact o1.elim
    · rcases h j t e2 with rfl | q2
      · exact o2.elim
      · exact g.ne i j s t p hij q1 q2 o1 o2 e3 e4
/-- an own list of a slot becomes data -/
theorem Good.freezeAt {i : Nat} {ds : List Dt} (g : Good C ρ S0 H0 S H σ sl) (e : sl[i]? = some (.own ds)) : ∃ S', Good C ρ S0 H0 S' H σ (sl.set i (.dat (.lst ds))) ∧ Same S S' := by
  obtain ⟨v, ev, p, xs, rfl, h0, h1, h2, h3⟩ := g.at e (by intro h; cases h) (by intro d h; cases h) (by intro d h; cases h)
  have hi : i < sl.length := (List.getElem?_eq_some_iff.mp e).1
  have a := g.mv.freeze g.k0 h0 h2
  have ss : Same S (upd S p (.lst xs)) := same_new h1
  refine ⟨upd S p (.lst xs), ⟨g.k1, a, by simp [g.len], fun j t ej => ?_, fun j k s' t' q hjk e1 e2 o1 o2 e3 e4 => ?_⟩, ss⟩
  · by_cases hj : j = i
    · subst hj
      rw [List.getElem?_set_self hi] at ej
      cases ej
      exact ⟨.ref p, by rw [ev]; rfl, .lst upd_same (h3.mono ss)⟩
    · rw [List.getElem?_set_ne (Ne.symm hj)] at ej
      have q := g.ok j t ej
      have ne : ∀ b, σ[j]?.getD none = some (.ref b) → t.isOwn → b ≠ p := fun b ev' ot z => by
        refine g.ne i j _ t p (Ne.symm hj) e ej trivial ot ev ?_
        rw [z] at ev'
        have hj' : j < σ.length := by rw [g.len]; exact (List.getElem?_eq_some_iff.mp ej).1
        rw [List.getElem?_eq_getElem hj'] at ev' ⊢
        simpa using ev'
      cases t with
      | any => trivial
      | bor d => trivial
      | bcell d => trivial
      | dat d => obtain ⟨v, ev', h⟩ := q; exact ⟨v, ev', Rp.mono ss h⟩
      | raw d => exact q
      | own ds' =>
        obtain ⟨v, ev', b, ys, e1, g0, g1, g2, g3⟩ := q
        subst e1
        exact ⟨_, ev', b, ys, rfl, g0, by rw [upd_ne (ne b ev' trivial)]; exact g1, g2, g3.mono ss⟩
      | cell ds' =>
        obtain ⟨v, ev', b, u, e1, g0, g1, g2, g3⟩ := q
        subst e1
        exact ⟨_, ev', b, u, rfl, g0, by rw [upd_ne (ne b ev' trivial)]; exact g1, g2, ds'.mono ss g3⟩
  · have orig : ∀ (m : Nat) (u : Sl), (sl.set i (.dat (.lst ds)))[m]? = some u → u.isOwn → sl[m]? = some u := fun m u em ou => by
      by_cases hm : m = i
      · subst hm
        rw [List.getElem?_set_self hi] at em
        cases em; exact ou.elim
      · rw [List.getElem?_set_ne (Ne.symm hm)] at em; exact em
    exact g.ne j k s' t' q hjk (orig j s' e1 o1) (orig k t' e2 o2) o1 o2 e3 e4
end
end D3
namespace D3
open PySem L2

/-! ## judgements over data -/
section
variable (C : Addr) (ρ : Rsc)
def RvsOk (Hs S H : Hp) : List V → List Sl → Prop
  | [], [] => True
  | v :: vs, r :: rs => RvOk C ρ Hs S H v r ∧ RvsOk Hs S H vs rs
  | _, _ => False
/-- te's value in slots sl: any r that it may be has K r -/
def WX (te : TE) (sl : List Sl) (K : Sl → Prop) : Prop := ∀ S0 H0 S H σ, Good C ρ S0 H0 S H σ sl → ∀ Q : VK, (∀ r S' H' v, K r → Mv ρ S H S' H' → RvOk C ρ H S' H' v r → Q v H') → te σ H Q
def WT (tt : TT) (sl : List Sl) (K : Bool → Prop) : Prop := ∀ S0 H0 S H σ, Good C ρ S0 H0 S H σ sl → ∀ Q : Bool → Hp → Prop, (∀ b S' H', K b → Mv ρ S H S' H' → Q b H') → tt σ H Q
def WA (ta : TA) (sl : List Sl) (K : List Sl → Prop) : Prop := ∀ S0 H0 S H σ, Good C ρ S0 H0 S H σ sl → ∀ Q : List V → Hp → Prop, (∀ rs S' H' vs, K rs → Mv ρ S H S' H' → RvsOk C ρ H S' H' vs rs → Q vs H') → ta σ H Q
/-- an operation on two values, on values -/
def OD (r : R2) (r1 r2 : Sl) (K : Sl → Prop) : Prop := ∀ Hs S H x y, (∀ p, H p = none → Hs p = none) → Ok ρ S H → RvOk C ρ Hs S H x r1 → RvOk C ρ Hs S H y r2 → ∀ Q : VK, (∀ q S' H' v, K q → Mv ρ S H S' H' → RvOk C ρ H S' H' v q → Q v H') → r x y H Q
def CD (r : List V → Hp → VK → Prop) (rs : List Sl) (K : Sl → Prop) : Prop := ∀ Hs S H vs, (∀ p, H p = none → Hs p = none) → Ok ρ S H → RvsOk C ρ Hs S H vs rs → ∀ Q : VK, (∀ q S' H' v, K q → Mv ρ S H S' H' → RvOk C ρ H S' H' v q → Q v H') → r vs H Q
abbrev XD (te : TE) (sl : List Sl) (r : Sl) : Prop := WX C ρ te sl (fun x => x = r)
abbrev TD (tt : TT) (sl : List Sl) (b : Bool) : Prop := WT C ρ tt sl (fun x => x = b)
abbrev AD (ta : TA) (sl : List Sl) (rs : List Sl) : Prop := WA C ρ ta sl (fun x => x = rs)
/-- what a statement leaves -/
def SD (t : TS) (sl : List Sl) (nx : List Sl → Prop) (rt : Sl → Prop) (bk ct : List Sl → Prop) : Prop := ∀ S0 H0 S H σ, Good C ρ S0 H0 S H σ sl → ∀ D : Ends,
  (∀ sl' S' H' σ', nx sl' → Same S S' → Good C ρ S0 H0 S' H' σ' sl' → D.nx σ' H') → (∀ r S' H' v, rt r → Mv ρ S0 H0 S' H' → RvOk C ρ H0 S' H' v r → D.rt v H') →
  (∀ sl' S' H' σ', bk sl' → Same S S' → Good C ρ S0 H0 S' H' σ' sl' → D.bk σ' H') → (∀ sl' S' H' σ', ct sl' → Same S S' → Good C ρ S0 H0 S' H' σ' sl' → D.ct σ' H') → t D σ H
end

section
variable {C : Addr} {ρ : Rsc} {S0 H0 Hs S H S1 H1 S2 H2 : Hp} {v x y : V} {r r1 r2 r3 : Sl} {sl : List Sl} {σ : L2.St} {te ta tb : TE} {K K' : Sl → Prop}
theorem RvsOk.mv (ks : Ok0 ρ S0 Hs) (a0 : Mv ρ S0 Hs S H) (a : Mv ρ S H S1 H1) : ∀ {vs : List V} {rs : List Sl}, RvsOk C ρ Hs S H vs rs → RvsOk C ρ Hs S1 H1 vs rs
  | [], [], _ => trivial
  | _ :: _, _ :: _, h => ⟨h.1.mv ks a0 a, RvsOk.mv ks a0 a h.2⟩
  | [], _ :: _, h => h.elim
  | _ :: _, [], h => h.elim
theorem RvsOk.pre {Hr : Hp} (b : ∀ p, Hs p = none → Hr p = none) : ∀ {vs : List V} {rs : List Sl}, RvsOk C ρ Hs S H vs rs → RvsOk C ρ Hr S H vs rs
  | [], [], _ => trivial
  | _ :: _, _ :: _, h => ⟨h.1.pre b, RvsOk.pre b h.2⟩
  | [], _ :: _, h => h.elim
  | _ :: _, [], h => h.elim
theorem RvsOk.all : ∀ {vs : List V} {ds : List Dt}, RvsOk C ρ Hs S H vs (ds.map Sl.dat) → RpAll C S vs ds
  | [], [], _ => .nil
  | _ :: _, _ :: _, h => .cons h.1 (RvsOk.all h.2)
  | [], _ :: _, h => h.elim
  | _ :: _, [], h => h.elim
theorem RvsOk.of_all : ∀ {vs : List V} {ds : List Dt}, RpAll C S vs ds → RvsOk C ρ Hs S H vs (ds.map Sl.dat)
  | _, _, .nil => trivial
  | _, _, .cons h r => ⟨h, RvsOk.of_all r⟩
theorem WX.imp (h : WX C ρ te sl K) (k : ∀ r, K r → K' r) : WX C ρ te sl K' := fun S0 H0 S H σ g Q q => h S0 H0 S H σ g Q fun r S' H' v kr => q r S' H' v (k r kr)
theorem WT.imp {tt : TT} {K K' : Bool → Prop} (h : WT C ρ tt sl K) (k : ∀ r, K r → K' r) : WT C ρ tt sl K' := fun S0 H0 S H σ g Q q => h S0 H0 S H σ g Q fun r S' H' kr => q r S' H' (k r kr)
theorem WA.imp {ta : TA} {K K' : List Sl → Prop} (h : WA C ρ ta sl K) (k : ∀ r, K r → K' r) : WA C ρ ta sl K' := fun S0 H0 S H σ g Q q => h S0 H0 S H σ g Q fun r S' H' v kr => q r S' H' v (k r kr)
theorem XD.w (h : XD C ρ te sl r) (k : K r) : WX C ρ te sl K := h.imp fun _ e => by rw [e]; exact k
theorem XD.to (h : XD C ρ te sl r) (e : r = r1) : XD C ρ te sl r1 := e ▸ h
theorem TD.w {tt : TT} {b : Bool} {K : Bool → Prop} (h : TD C ρ tt sl b) (k : K b) : WT C ρ tt sl K := h.imp fun _ e => by rw [e]; exact k
theorem TD.to {tt : TT} {b b' : Bool} (h : TD C ρ tt sl b) (e : b = b') : TD C ρ tt sl b' := e ▸ h
theorem AD.w {tt : TA} {b : List Sl} {K : List Sl → Prop} (h : AD C ρ tt sl b) (k : K b) : WA C ρ tt sl K := h.imp fun _ e => by rw [e]; exact k

/-! ### names, constants -/
/-- what the reading of a slot gives -/
def Sl.rd : Sl → Sl
  | .own ds => .bor ds
  | .cell _ => .any
  | s => s
theorem xvv {i : Nat} {s : Sl} (e : sl[i]? = some s) (n1 : s ≠ .any) (n2 : ∀ d, s ≠ .bor d) (n3 : ∀ d, s ≠ .bcell d) : XD C ρ (tVar i) sl s.rd := fun S0 H0 S H σ g Q q => by
  obtain ⟨v, ev, h⟩ := g.at e n1 n2 n3
  refine ⟨v, ev, q _ S H v rfl (Mv.refl g.k) ?_⟩
  cases s with
  | any => exact absurd rfl n1
  | bor d => exact absurd rfl (n2 d)
  | bcell d => exact absurd rfl (n3 d)
  | dat d => exact h
  | raw d => exact h
  | own ds =>
    obtain ⟨p, xs, e1, h0, h1, h2, h3⟩ := h
    exact ⟨p, xs, e1, g.k0.nm h0, h2, h3⟩
  | cell o => trivial
def Sl.rok : Sl → Bool
  | .any => false
  | .bor _ => false
  | .bcell _ => false
  | _ => true
def okAt (sl : List Sl) (i : Nat) : Bool := match sl[i]? with
  | some s => s.rok
  | none => false
def rdAt (sl : List Sl) (i : Nat) : Sl := match sl[i]? with
  | some s => s.rd
  | none => .any
theorem xv {i : Nat} (h : okAt sl i = true := by rfl) : XD C ρ (tVar i) sl (rdAt sl i) := by
  unfold okAt at h
  unfold rdAt
  cases e : sl[i]? with
  | none => rw [e] at h; cases h
  | some s =>
    rw [e] at h
    exact xvv e (by intro z; subst z; cases h) (by intro d z; subst z; cases h) (by intro d z; subst z; cases h)
def V.dt : V → Option Dt
  | .non => some .non
  | .bl b => some (.bl b)
  | .int i => some (.int i)
  | .str x => some (.str x)
  | _ => none
theorem xc {v : V} {d : Dt} (e : V.dt v = some d) : XD C ρ (tC v) sl (.dat d) := fun S0 H0 S H σ g Q q => by
  refine q _ S H v rfl (Mv.refl g.k) ?_
  cases v <;> simp [V.dt] at e <;> subst e
  · exact .non
  · exact .bl _
  · exact .int _
  · exact .str _
theorem xraw {v : V} : XD C ρ (tC v) sl (.raw v) := fun S0 H0 S H σ g Q q => q _ S H v rfl (Mv.refl g.k) rfl

/-! ### operators -/
theorem wx_op {r : R2} (h : WX C ρ ta sl fun r1 => WX C ρ tb sl fun r2 => OD C ρ r r1 r2 K) : WX C ρ (tOp r ta tb) sl K := fun S0 H0 S H σ g Q q => by
  refine h S0 H0 S H σ g _ fun r1 S1 H1 x h2 a1 ok1 => ?_
  refine h2 S0 H0 S1 H1 σ (g.move a1) _ fun r2 S2 H2 y h3 a2 ok2 => ?_
  have a12 := a1.trans g.k a2
  refine h3 H S2 H2 x y (fun p => a12.back g.k) a2.ok (ok1.mv g.k a1 a2) (ok2.pre fun p => a1.back g.k) Q fun r3 S3 H3 v k3 a3 ok3 => ?_
  exact q r3 S3 H3 v k3 (a12.trans g.k a3) (ok3.pre fun p => a12.back g.k)
theorem xop {r : R2} (h1 : XD C ρ ta sl r1) (h2 : XD C ρ tb sl r2) (h : OD C ρ r r1 r2 K) : WX C ρ (tOp r ta tb) sl K := wx_op (h1.imp fun _ e => by subst e; exact h2.imp fun _ e => by subst e; exact h)
theorem wx_un {r : V → Hp → VK → Prop} (h : WX C ρ ta sl fun r1 => ∃ i, r1 = .dat (.int i) ∧ K (.dat (.int (-i)))) : WX C ρ (tUn (rU fun i => .int (-i)) ta) sl K := fun S0 H0 S H σ g Q q => by
  refine h S0 H0 S H σ g _ fun r1 S1 H1 x ⟨i, e, k⟩ a1 ok1 => ?_
  subst e
  cases ok1
  exact ⟨i, rfl, q _ S1 H1 _ k a1 (.int _)⟩
theorem xneg {i : Int} (h : XD C ρ ta sl (.dat (.int i))) : XD C ρ (tUn (rU fun i => .int (-i)) ta) sl (.dat (.int (-i))) := wx_un (r := fun _ _ _ => True) (h.imp fun _ e => ⟨i, e, rfl⟩)

/-- a list's items: all in the stable part -/
def Sl.ls : Sl → Option (List Dt)
  | .dat (.lst ds) => some ds
  | .own ds => some ds
  | .bor ds => some ds
  | _ => none
theorem RvOk.lsD {ds : List Dt} (k : Ok ρ S H) (h : RvOk C ρ Hs S H v r) (e : r.ls = some ds) : ∃ p xs, v = .ref p ∧ H p = some (.lst xs) ∧ RpAll C S xs ds := by
  cases r with
  | any => cases e
  | raw u => cases e
  | cell o => cases e
  | bcell o => cases e
  | own es => cases e; obtain ⟨p, xs, e1, _, _, h2, h3⟩ := h; exact ⟨p, xs, e1, h2, h3⟩
  | bor es => cases e; obtain ⟨p, xs, e1, _, h2, h3⟩ := h; exact ⟨p, xs, e1, h2, h3⟩
  | dat d =>
    cases d <;> simp [Sl.ls] at e
    subst e
    cases h with
    | lst h1 h2 => exact ⟨_, _, rfl, k.sh _ _ h1, h2⟩
theorem RvOk.tupD {ds : List Dt} (k : Ok ρ S H) (h : RvOk C ρ Hs S H v (.dat (.tup ds))) : ∃ p xs, v = .ref p ∧ S p = some (.tup xs) ∧ H p = some (.tup xs) ∧ RpAll C S xs ds := by
  cases h with
  | tup h1 h2 => exact ⟨_, _, rfl, h1, k.sh _ _ h1, h2⟩
/-- all of it, at the heap as it is -/
def Sl.hd : Sl → Option Dt
  | .dat d => some d
  | .own ds => some (.lst ds)
  | .bor ds => some (.lst ds)
  | _ => none
theorem RvOk.hdD {d : Dt} (k : Ok ρ S H) (h : RvOk C ρ Hs S H v r) (e : r.hd = some d) : Rp C H v d := by
  cases r with
  | any => cases e
  | raw u => cases e
  | cell o => cases e
  | bcell o => cases e
  | own es => cases e; obtain ⟨p, xs, e1, _, _, h2, h3⟩ := h; subst e1; exact .lst h2 (h3.mono k.sh)
  | bor es => cases e; obtain ⟨p, xs, e1, _, h2, h3⟩ := h; subst e1; exact .lst h2 (h3.mono k.sh)
  | dat d => cases e; exact Rp.mono k.sh h

/-- the end of an operation whose answer is plain -/
theorem fin_dat {Q : VK} {d : Dt} {v : V} (k : Ok ρ S H) (q : ∀ q S' H' v, K q → Mv ρ S H S' H' → RvOk C ρ H S' H' v q → Q v H') (kd : K (.dat d)) (h : Rp C S v d) : Q v H := q _ S H v kd (Mv.refl k) h
/-- a new list that is ours -/
theorem fin_new {Q : VK} {ds : List Dt} {xs : List V} (k : Ok ρ S H) (q : ∀ q S' H' v, K q → Mv ρ S H S' H' → RvOk C ρ H S' H' v q → Q v H') (kd : K (.own ds)) (h : RpAll C S xs ds) : ∀ p, H p = none → Q (.ref p) (upd H p (.lst xs)) := fun p hp =>
  q _ S _ _ kd (Mv.new k hp _) ⟨p, xs, rfl, hp, k.ns hp, upd_same, h⟩
/-- a new tuple -/
theorem fin_tup {Q : VK} {ds : List Dt} {xs : List V} (k : Ok ρ S H) (q : ∀ q S' H' v, K q → Mv ρ S H S' H' → RvOk C ρ H S' H' v q → Q v H') (kd : K (.dat (.tup ds))) (h : RpAll C S xs ds) : ∀ p, H p = none → Q (.ref p) (upd H p (.tup xs)) := fun p hp =>
  q _ _ _ _ kd (Mv.newS k hp _) (.tup upd_same (h.mono (same_new (k.ns hp))))

def rStr2 : R2 := fun x y H Q => ∃ i j, x = .str i ∧ y = .str j ∧ i.length + j.length ≤ sizeLine ∧ Q (.str (i ++ j)) H
def rPlus (K : PySem.W.Frag) : R2 := fun x y H Q => rI0 (fun i j => .int (i + j)) x y H Q ∨ (rCat x y H Q ∨ (rStr2 x y H Q ∨ rCatA K x y H Q))
theorem op_plus {X : Cx} : OpR X (binaryOp .Add) (rPlus X.K) := op_add.or (op_cat.or (OpR.or (r := rStr2) op_add_str op_catA))
def plusR : Sl → Sl → Option Sl
  | .dat (.int i), .dat (.int j) => some (.dat (.int (i + j)))
  | .dat (.str x), .dat (.str y) => some (.dat (.str (x ++ y)))
  | .dat (.tup xs), .dat (.tup ys) => some (.dat (.tup (xs ++ ys)))
  | a, b => match a.ls, b.ls with
    | some xs, some ys => some (.own (xs ++ ys))
    | _, _ => none
def plusC : Sl → Sl → Prop
  | .dat (.int _), .dat (.int _) => True
  | .dat (.str x), .dat (.str y) => x.length + y.length ≤ sizeLine
  | .dat (.tup xs), .dat (.tup ys) => xs.length + ys.length ≤ sizeLine
  | a, b => match a.ls, b.ls with
    | some xs, some ys => xs.length + ys.length ≤ sizeLine
    | _, _ => False
theorem od_plus_int {F : PySem.W.Frag} {i j : Int} (k : K (.dat (.int (i + j)))) : OD C ρ (rPlus F) (.dat (.int i)) (.dat (.int j)) K := fun Hs S H x y _ ok h1 h2 Q q => by
  cases h1; cases h2
  exact .inl ⟨i, j, rfl, rfl, fin_dat ok q k (.int _)⟩
theorem od_plus_str {F : PySem.W.Frag} {i j : Str} (hl : i.length + j.length ≤ sizeLine) (k : K (.dat (.str (i ++ j)))) : OD C ρ (rPlus F) (.dat (.str i)) (.dat (.str j)) K := fun Hs S H x y _ ok h1 h2 Q q => by
  cases h1; cases h2
  exact .inr (.inr (.inl ⟨i, j, rfl, rfl, hl, fin_dat ok q k (.str _)⟩))
theorem od_plus_lst {F : PySem.W.Frag} {xs ys : List Dt} (e1 : r1.ls = some xs) (e2 : r2.ls = some ys) (hl : xs.length + ys.length ≤ sizeLine) (k : K (.own (xs ++ ys))) : OD C ρ (rPlus F) r1 r2 K := fun Hs S H x y _ ok h1 h2 Q q => by
  obtain ⟨a, us, rfl, ha, ra⟩ := h1.lsD ok e1
  obtain ⟨b, ws, rfl, hb, rb⟩ := h2.lsD ok e2
  exact .inr (.inl ⟨a, b, us, ws, rfl, rfl, ha, hb, by rw [ra.length, rb.length]; exact hl, fin_new ok q k (ra.append rb)⟩)
theorem od_plus_tup {F : PySem.W.Frag} {xs ys : List Dt} (hl : xs.length + ys.length ≤ sizeLine) (k : K (.dat (.tup (xs ++ ys)))) : OD C ρ (rPlus F) (.dat (.tup xs)) (.dat (.tup ys)) K := fun Hs S H x y _ ok h1 h2 Q q => by
  obtain ⟨a, us, rfl, sa, ha, ra⟩ := h1.tupD ok
  obtain ⟨b, ws, rfl, sb, hb, rb⟩ := h2.tupD ok
  refine .inr (.inr (.inr ⟨a, b, us, ws, rfl, rfl, .inl (.inl ha), .inl (.inl hb), by rw [ra.length, rb.length]; exact hl, fun e => ?_, fun _ e => ?_, fun _ _ => fin_tup ok q k (ra.append rb)⟩))
  · subst e
    have : xs = [] := by cases ra; rfl
    subst this
    exact fin_dat ok q k (.tup sb rb)
  · subst e
    have : ys = [] := by cases rb; rfl
    subst this
    rw [List.append_nil] at k
    exact fin_dat ok q k (.tup sa ra)
theorem od_plus {F : PySem.W.Frag} (e : plusR r1 r2 = some r) (c : plusC r1 r2) (k : K r) : OD C ρ (rPlus F) r1 r2 K := by
  unfold plusR plusC at *
  split at e
  · cases e; exact od_plus_int k
  · cases e; exact od_plus_str c k
  · cases e; exact od_plus_tup c k
  · rename_i a1 a2 a3
    split at e
    · rename_i xs ys e1 e2
      cases e
      refine od_plus_lst e1 e2 ?_ k
      split at c
      · rename_i e; simp at *
      · simp [Sl.ls] at e1
      · simp [Sl.ls] at e1
      · split at c
        · rename_i e3 e4; rw [e1] at e3; rw [e2] at e4; cases e3; cases e4; exact c
        · exact c.elim
    · cases e
end
end D3
namespace D3
open PySem L2

/-! ## == of data -/
def isNonD : Dt → Bool
  | .non => true
  | _ => false
mutual
def toPy : Dt → PyData
  | .non => .none
  | .bl b => .bool b
  | .int i => .int i
  | .str x => .str x
  | .lst xs => .list (toPys xs)
  | .tup xs => .tuple (toPys xs)
  | .dki _ => .none
  | .dkt _ => .none
  | .yard _ _ => .none
  | .ext _ => .none
def toPys : List Dt → List PyData
  | [] => []
  | x :: xs => toPy x :: toPys xs
end
mutual
/-- no dict, no yard in it; texts that are texts; n levels at most -/
def plD : Nat → Dt → Bool
  | _, .non => true
  | _, .bl _ => true
  | _, .int _ => true
  | _, .str x => PyData.strOk x
  | n + 1, .lst xs => plDs n xs
  | n + 1, .tup xs => plDs n xs
  | 0, .lst _ => false
  | 0, .tup _ => false
  | _, .dki _ => false
  | _, .dkt _ => false
  | _, .yard _ _ => false
  | _, .ext _ => false
def plDs : Nat → List Dt → Bool
  | _, [] => true
  | n, x :: xs => plD n x && plDs n xs
end
theorem toPys_map : ∀ xs : List Dt, toPys xs = xs.map toPy
  | [] => rfl
  | x :: xs => by rw [toPys, toPys_map xs]; rfl
theorem plDs_all {n : Nat} : ∀ {xs : List Dt}, plDs n xs = true ↔ ∀ x ∈ xs, plD n x = true
  | [] => by simp [plDs]
  | x :: xs => by rw [plDs, Bool.and_eq_true, plDs_all]; simp
mutual
theorem plD_depth : ∀ {n : Nat} {d : Dt}, plD n d = true → (toPy d).canLay0 = true ∧ (toPy d).depth ≤ n
  | _, .non, _ => ⟨rfl, by simp [toPy, PyData.depth]⟩
  | _, .bl _, _ => ⟨rfl, by simp [toPy, PyData.depth]⟩
  | _, .int _, _ => ⟨rfl, by simp [toPy, PyData.depth]⟩
  | _, .str x, h => ⟨by simpa [toPy, PyData.canLay0, plD] using h, by simp [toPy, PyData.depth]⟩
  | n + 1, .lst xs, h => by
    have := plDs_depth (n := n) (xs := xs) (by simpa [plD] using h)
    exact ⟨by simpa [toPy, PyData.canLay0] using this.1, by simp [toPy, PyData.depth]; exact this.2⟩
  | n + 1, .tup xs, h => by
    have := plDs_depth (n := n) (xs := xs) (by simpa [plD] using h)
    exact ⟨by simpa [toPy, PyData.canLay0] using this.1, by simp [toPy, PyData.depth]; exact this.2⟩
  | 0, .lst _, h => by simp [plD] at h
  | 0, .tup _, h => by simp [plD] at h
  | _, .dki _, h => by simp [plD] at h
  | _, .dkt _, h => by simp [plD] at h
  | _, .yard _ _, h => by simp [plD] at h
  | _, .ext _, h => by simp [plD] at h
theorem plDs_depth : ∀ {n : Nat} {xs : List Dt}, plDs n xs = true → PyData.canLayAll0 (toPys xs) = true ∧ PyData.depthAll (toPys xs) ≤ n
  | _, [], _ => ⟨rfl, by simp [toPys, PyData.depthAll]⟩
  | n, x :: xs, h => by
    rw [plDs, Bool.and_eq_true] at h
    have h1 := plD_depth h.1
    have h2 := plDs_depth h.2
    refine ⟨by simp [toPys, PyData.canLayAll0, h1.1, h2.1], ?_⟩
    simp only [toPys, PyData.depthAll]
    exact Nat.max_le.mpr ⟨h1.2, h2.2⟩
end
theorem plD_shaped {d : Dt} (h : plD 64 d = true) : SeqAt.shaped (toPy d) = true := by
  have := plD_depth h
  unfold SeqAt.shaped
  simp [this.1, this.2]
mutual
theorem plD_mono : ∀ {n m : Nat} {d : Dt}, n ≤ m → plD n d = true → plD m d = true
  | _, _, .non, _, _ => by simp [plD]
  | _, _, .bl _, _, _ => by simp [plD]
  | _, _, .int _, _, _ => by simp [plD]
  | n, m, .str x, _, h => by simpa [plD] using h
  | n + 1, m + 1, .lst xs, k, h => by
    rw [plD] at h ⊢
    exact plDs_mono (by omega) h
  | n + 1, m + 1, .tup xs, k, h => by
    rw [plD] at h ⊢
    exact plDs_mono (by omega) h
  | 0, _, .lst _, _, h => by simp [plD] at h
  | 0, _, .tup _, _, h => by simp [plD] at h
  | n + 1, 0, .lst _, k, _ => by omega
  | n + 1, 0, .tup _, k, _ => by omega
  | _, _, .dki _, _, h => by simp [plD] at h
  | _, _, .dkt _, _, h => by simp [plD] at h
  | _, _, .yard _ _, _, h => by simp [plD] at h
  | _, _, .ext _, _, h => by simp [plD] at h
theorem plDs_mono : ∀ {n m : Nat} {xs : List Dt}, n ≤ m → plDs n xs = true → plDs m xs = true
  | _, _, [], _, _ => by simp [plDs]
  | n, m, x :: xs, k, h => by
    rw [plDs, Bool.and_eq_true] at h ⊢
    exact ⟨plD_mono k h.1, plDs_mono k h.2⟩
end
mutual
theorem Rp.dp {F : PySem.W.Frag} {C : Addr} {H : Hp} : ∀ {n : Nat} {v : V} {d : Dt}, plD n d = true → Rp C H v d → Dp F H v (toPy d)
  | _, _, .non, _, h => by cases h; exact .non
  | _, _, .bl _, _, h => by cases h; exact .bl _
  | _, _, .int _, _, h => by cases h; exact .int _
  | _, _, .str _, _, h => by cases h; exact .str _
  | n + 1, _, .lst xs, k, h => by
    cases h with
    | lst h1 h2 => exact .lst (.inl (.inl h1)) (RpAll.dp (n := n) (by simpa [plD] using k) h2)
  | n + 1, _, .tup xs, k, h => by
    cases h with
    | tup h1 h2 => exact .tup (.inl (.inl h1)) (RpAll.dp (n := n) (by simpa [plD] using k) h2)
  | 0, _, .lst _, k, _ => by simp [plD] at k
  | 0, _, .tup _, k, _ => by simp [plD] at k
  | _, _, .dki _, h, _ => by simp [plD] at h
  | _, _, .dkt _, h, _ => by simp [plD] at h
  | _, _, .yard _ _, h, _ => by simp [plD] at h
  | _, _, .ext _, h, _ => by simp [plD] at h
theorem RpAll.dp {F : PySem.W.Frag} {C : Addr} {H : Hp} : ∀ {n : Nat} {vs : List V} {ds : List Dt}, plDs n ds = true → RpAll C H vs ds → DpAll F H vs (toPys ds)
  | _, _, [], _, h => by cases h; exact .nil
  | n, _, d :: ds, k, h => by
    rw [plDs, Bool.and_eq_true] at k
    cases h with
    | cons h1 h2 => exact .cons (Rp.dp k.1 h1) (RpAll.dp k.2 h2)
end
def eqD (a b : Dt) : Bool := PyData.eqv (toPy a) (toPy b)
@[simp] theorem eqD_int (i j : Int) : eqD (.int i) (.int j) = decide (i = j) := by simp only [eqD, toPy, PyData.eqv, Bool.beq_eq_decide_eq]
@[simp] theorem eqD_bl (i j : Bool) : eqD (.bl i) (.bl j) = decide (i = j) := by simp only [eqD, toPy, PyData.eqv, Bool.beq_eq_decide_eq]
@[simp] theorem eqD_str (i j : Str) : eqD (.str i) (.str j) = decide (i = j) := by simp only [eqD, toPy, PyData.eqv, Bool.beq_eq_decide_eq]
@[simp] theorem eqD_non : eqD .non .non = true := by simp [eqD, toPy, PyData.eqv]
theorem eqD_lst (xs ys : List Dt) : eqD (.lst xs) (.lst ys) = PyData.eqvAll (toPys xs) (toPys ys) := by simp [eqD, toPy, PyData.eqv]
theorem eqD_tup (xs ys : List Dt) : eqD (.tup xs) (.tup ys) = PyData.eqvAll (toPys xs) (toPys ys) := by simp [eqD, toPy, PyData.eqv]
/-- lists of encoded things, where == of the codes is equality -/
theorem eqvAll_map {α : Type} [DecidableEq α] (f : α → Dt) (h : ∀ a b, eqD (f a) (f b) = decide (a = b)) : ∀ xs ys : List α, PyData.eqvAll (toPys (xs.map f)) (toPys (ys.map f)) = decide (xs = ys)
  | [], [] => by simp [toPys, PyData.eqvAll]
  | [], y :: ys => by simp [toPys, PyData.eqvAll]
  | x :: xs, [] => by simp [toPys, PyData.eqvAll]
  | x :: xs, y :: ys => by
    have e : PyData.eqv (toPy (f x)) (toPy (f y)) = decide (x = y) := h x y
    simp only [List.map_cons, toPys, PyData.eqvAll, e, eqvAll_map f h xs ys]
    by_cases h1 : x = y <;> by_cases h2 : xs = ys <;> simp [h1, h2]
theorem eqD_lst_map {α : Type} [DecidableEq α] (f : α → Dt) (h : ∀ a b, eqD (f a) (f b) = decide (a = b)) (xs ys : List α) : eqD (.lst (xs.map f)) (.lst (ys.map f)) = decide (xs = ys) := by rw [eqD_lst, eqvAll_map f h]
theorem eqD_tup_map {α : Type} [DecidableEq α] (f : α → Dt) (h : ∀ a b, eqD (f a) (f b) = decide (a = b)) (xs ys : List α) : eqD (.tup (xs.map f)) (.tup (ys.map f)) = decide (xs = ys) := by rw [eqD_tup, eqvAll_map f h]
@[simp] theorem eqD_tieD (p q : Nat × Nat) : eqD (tieD p) (tieD q) = decide (p = q) := by
  obtain ⟨a, b⟩ := p
  obtain ⟨c, d⟩ := q
  simp only [tieD, eqD_tup, toPys, PyData.eqvAll, toPy, PyData.eqv]
  by_cases h1 : a = c <;> by_cases h2 : b = d <;> simp [h1, h2, Prod.ext_iff] <;> omega
def natD (k : Nat) : Dt := .int (k : Int)
@[simp] theorem eqD_natD (a b : Nat) : eqD (natD a) (natD b) = decide (a = b) := by
  simp only [natD, eqD_int]
  by_cases h : a = b <;> simp [h] <;> omega
@[simp] theorem plD_int (n : Nat) (i : Int) : plD n (.int i) = true := by simp [plD]
@[simp] theorem plD_bl (n : Nat) (i : Bool) : plD n (.bl i) = true := by simp [plD]
@[simp] theorem plD_non (n : Nat) : plD n .non = true := by simp [plD]
@[simp] theorem plD_natD (n : Nat) (i : Nat) : plD n (natD i) = true := by simp [natD]
theorem plD_tieD (n : Nat) (p : Nat × Nat) : plD (n + 1) (tieD p) = true := by simp [tieD, plD, plDs]
theorem plD_lst_map {α : Type} {n : Nat} {f : α → Dt} {xs : List α} (h : ∀ a ∈ xs, plD n (f a) = true) : plD (n + 1) (.lst (xs.map f)) = true := by
  rw [plD, plDs_all]
  intro x hx
  obtain ⟨a, ha, rfl⟩ := List.mem_map.mp hx
  exact h a ha
theorem plD_tup_map {α : Type} {n : Nat} {f : α → Dt} {xs : List α} (h : ∀ a ∈ xs, plD n (f a) = true) : plD (n + 1) (.tup (xs.map f)) = true := by
  rw [plD, plDs_all]
  intro x hx
  obtain ⟨a, ha, rfl⟩ := List.mem_map.mp hx
  exact h a ha
def memD (d : Dt) (ds : List Dt) : Bool := ds.any fun z => eqD z d
theorem memD_map {α : Type} [DecidableEq α] (f : α → Dt) (h : ∀ a b, eqD (f a) (f b) = decide (a = b)) (x : α) (ys : List α) : memD (f x) (ys.map f) = decide (x ∈ ys) := by
  unfold memD
  rw [List.any_map]
  induction ys with
  | nil => simp
  | cons y ys ih =>
    rw [List.any_cons, ih]
    simp only [Function.comp, h, List.mem_cons]
    by_cases h1 : y = x
    · subst h1; simp
    · have h2 : ¬ x = y := fun e => h1 e.symm
      simp [h1, h2]
theorem any_toPys (d : Dt) (ds : List Dt) : (toPys ds).any (fun z => PyData.eqv z (toPy d)) = memD d ds := by
  rw [toPys_map, List.any_map]; rfl

section
variable {C : Addr} {ρ : Rsc} {S0 H0 Hs S H S1 H1 S2 H2 : Hp} {v x y : V} {r r1 r2 r3 : Sl} {sl : List Sl} {σ : L2.St} {te ta tb : TE} {K K' : Sl → Prop} {F : PySem.W.Frag}
/-! ### ==, != -/
def rEqA (F : PySem.W.Frag) : R2 := fun x y H Q => rEq x y H Q ∨ rEqD F x y H Q
def rNeA (F : PySem.W.Frag) : R2 := fun x y H Q => rNe x y H Q ∨ rNeD F x y H Q
theorem op_eqA {X : Cx} (hu : X.A.units + 64 < cLine) : OpR X (compareOp .Eq) (rEqA X.K) := op_eq.or (op_eqD hu)
theorem op_neA {X : Cx} (hu : X.A.units + 64 < cLine) : OpR X (compareOp .NotEq) (rNeA X.K) := op_ne.or (op_neD hu)
theorem od_eq {d1 d2 : Dt} (e1 : r1.hd = some d1) (e2 : r2.hd = some d2) (p1 : plD 64 d1 = true) (p2 : plD 64 d2 = true) (k : K (.dat (.bl (eqD d1 d2)))) : OD C ρ (rEqA F) r1 r2 K := fun Hs S H x y _ ok h1 h2 Q q => by
  have a := h1.hdD ok e1
  have b := h2.hdD ok e2
  exact .inr ⟨toPy d1, toPy d2, Rp.dp p1 a, Rp.dp p2 b, plD_shaped p1, plD_shaped p2, fin_dat ok q k (.bl _)⟩
theorem od_ne {d1 d2 : Dt} (e1 : r1.hd = some d1) (e2 : r2.hd = some d2) (p1 : plD 64 d1 = true) (p2 : plD 64 d2 = true) (k : K (.dat (.bl (!eqD d1 d2)))) : OD C ρ (rNeA F) r1 r2 K := fun Hs S H x y _ ok h1 h2 Q q => by
  have a := h1.hdD ok e1
  have b := h2.hdD ok e2
  exact .inr ⟨toPy d1, toPy d2, Rp.dp p1 a, Rp.dp p2 b, plD_shaped p1, plD_shaped p2, fin_dat ok q k (.bl _)⟩
/-- texts, whatever they are -/
theorem od_eq_str {a b : Str} (k : K (.dat (.bl (decide (a = b))))) : OD C ρ (rEqA F) (.dat (.str a)) (.dat (.str b)) K := fun Hs S H x y _ ok h1 h2 Q q => by
  cases h1; cases h2
  refine .inl ⟨rfl, ?_⟩
  have e : decide (V.str a = V.str b) = decide (a = b) := by by_cases h : a = b <;> simp [h]
  rw [e]
  exact fin_dat ok q k (.bl _)
theorem od_ne_str {a b : Str} (k : K (.dat (.bl (!decide (a = b))))) : OD C ρ (rNeA F) (.dat (.str a)) (.dat (.str b)) K := fun Hs S H x y _ ok h1 h2 Q q => by
  cases h1; cases h2
  refine .inl ⟨rfl, ?_⟩
  have e : decide (V.str a = V.str b) = decide (a = b) := by by_cases h : a = b <;> simp [h]
  rw [e]
  exact fin_dat ok q k (.bl _)
/-! ### ints -/
theorem od_sub {i j : Int} (k : K (.dat (.int (i - j)))) : OD C ρ (rI0 fun i j => .int (i - j)) (.dat (.int i)) (.dat (.int j)) K := fun Hs S H x y _ ok h1 h2 Q q => by
  cases h1; cases h2
  exact ⟨i, j, rfl, rfl, fin_dat ok q k (.int _)⟩
def rTimes : R2 := fun x y H Q => rI CMul (fun i j => .int (i * j)) x y H Q ∨ rRep x y H Q
theorem op_times {X : Cx} : OpR X (binaryOp .Mult) rTimes := op_mul.or op_rep
theorem od_mul {i j : Int} (hc : CMul i j) (k : K (.dat (.int (i * j)))) : OD C ρ rTimes (.dat (.int i)) (.dat (.int j)) K := fun Hs S H x y _ ok h1 h2 Q q => by
  cases h1; cases h2
  exact .inl ⟨i, j, rfl, rfl, hc, fin_dat ok q k (.int _)⟩
theorem RpAll.rep {H : Hp} {xs : List V} {ds : List Dt} (h : RpAll C H xs ds) : ∀ n : Nat, RpAll C H (List.replicate n xs).flatten (List.replicate n ds).flatten
  | 0 => .nil
  | n + 1 => by
    rw [List.replicate_succ, List.replicate_succ, List.flatten_cons, List.flatten_cons]
    exact h.append (RpAll.rep h n)
theorem od_rep {ds : List Dt} {j : Int} (e1 : r1.ls = some ds) (h0 : 0 ≤ j) (hj : ds.length * j.toNat ≤ 1000000) (h1 : j ≤ 1000000) (k : K (.own (List.replicate j.toNat ds).flatten)) : OD C ρ rTimes r1 (.dat (.int j)) K := fun Hs S H x y _ ok h1 h2 Q q => by
  obtain ⟨a, us, rfl, ha, ra⟩ := h1.lsD ok e1
  cases h2
  refine .inr ⟨a, j, us, rfl, rfl, ha, by omega, by omega, ?_, fin_new ok q k (RpAll.rep ra _)⟩
  rw [ra.length, sizeLine_eq]; omega
theorem od_fdiv {i j : Int} (h0 : 0 < j) (h1 : j < 1073741824) (k : K (.dat (.int (i / j)))) : OD C ρ (rI CDivW fun i j => .int (i / j)) (.dat (.int i)) (.dat (.int j)) K := fun Hs S H x y _ ok h1 h2 Q q => by
  cases h1; cases h2
  exact ⟨i, j, rfl, rfl, wide_div (b := 30) h0 (by have : (2:Nat)^30 = 1073741824 := by decide
                                                   omega) (by decide) (by decide), fin_dat ok q k (.int _)⟩
theorem od_mod {i j : Int} (h0 : 0 < j) (k : K (.dat (.int (i % j)))) : OD C ρ (rI (fun _ j => 0 < j) fun i j => .int (i % j)) (.dat (.int i)) (.dat (.int j)) K := fun Hs S H x y _ ok h1 h2 Q q => by
  cases h1; cases h2
  exact ⟨i, j, rfl, rfl, h0, fin_dat ok q k (.int _)⟩
theorem od_pow {i j : Int} (h0 : CPow i j) (k : K (.dat (.int (i ^ j.toNat)))) : OD C ρ (rI CPow fun i j => .int (i ^ j.toNat)) (.dat (.int i)) (.dat (.int j)) K := fun Hs S H x y _ ok h1 h2 Q q => by
  cases h1; cases h2
  exact ⟨i, j, rfl, rfl, h0, fin_dat ok q k (.int _)⟩
theorem od_cmp {g : Int → Int → Bool} {i j : Int} (k : K (.dat (.bl (g i j)))) : OD C ρ (rI0 fun i j => .bl (g i j)) (.dat (.int i)) (.dat (.int j)) K := fun Hs S H x y _ ok h1 h2 Q q => by
  cases h1; cases h2
  exact ⟨i, j, rfl, rfl, fin_dat ok q k (.bl _)⟩
/-! ### is -/
theorem od_isN {d : Dt} (k : K (.dat (.bl (isNonD d)))) : OD C ρ (fun x y H Q => y = .non ∧ Q (.bl (decide (x = .non))) H) (.dat d) (.dat .non) K := fun Hs S H x y _ ok h1 h2 Q q => by
  cases h2
  refine ⟨rfl, ?_⟩
  have e : decide (x = V.non) = isNonD d := by
    cases h1 with
    | ext h => obtain ⟨a, rfl⟩ := DExt.rf _ h; rfl
    | _ => rfl
  rw [e]
  exact fin_dat ok q k (.bl _)
theorem od_notN {d : Dt} (k : K (.dat (.bl (!isNonD d)))) : OD C ρ (fun x y H Q => y = .non ∧ Q (.bl (!decide (x = .non))) H) (.dat d) (.dat .non) K := fun Hs S H x y _ ok h1 h2 Q q => by
  cases h2
  refine ⟨rfl, ?_⟩
  have e : decide (x = V.non) = isNonD d := by
    cases h1 with
    | ext h => obtain ⟨a, rfl⟩ := DExt.rf _ h; rfl
    | _ => rfl
  rw [e]
  exact fin_dat ok q k (.bl _)
end
end D3
namespace D3
open PySem L2 PyProof.Rows

/-! ## further rules of the machine, by values -/
section
variable {X : Cx}
def rIxK : R2 := fun x y H Q => ∃ a v, x = .ref a ∧ DGet H a y (some v) ∧ Q v H
theorem ix_dict (hu : X.A.units + 1 < cLine) : IxR X rIxK := by
  intro value slice pins s σ H x y v u Q I rx ry h hs
  obtain ⟨a, w, ex, g, q⟩ := h
  subst ex
  obtain rfl : v = Value.ref a := rx
  have hT := dict_typeIs I g
  unfold subscriptTail
  refine wpAny_bind ?_
  rw [getitemInPython_of_ne hT.not_modules]
  refine wpAny_bind (wpAny_specialOf hT PySem.F.slot_dict_getitem.lookup ?_)
  have fin : wpAny (model X.prog X.w) X.A (subscripted slice false (.ref a) u) (fun r s₃ => wpAny (model X.prog X.w) X.A (letTemporaryGo value (.ref a) r >>= fun _ => pure r) (EP X pins σ Q) X.xe s₃) X.xe s := by
    rw [hs]
    exact wpAny_operating (wpAny_mono (d_getItem hu I g ry fun w' s3 I3 rw' => (⟨w, H, I3, rw', q⟩ : EP X pins σ Q w' s3)) (fun r s₃ h₃ => wpAny_bind (wpAny_letTemporaryGo (wpAny_pure h₃))) fun _ _ x => x)
  first
    | exact wpAny_pure (wpAny_bind fin)
    | exact wpAny_bind (wpAny_pure (wpAny_bind fin))
    | exact wpAny_bind fin
/-- a[b], whatever a is -/
def rIxA (F : PySem.W.Frag) : R2 := fun x y H Q => rIx F x y H Q ∨ rIxK x y H Q
theorem ix_any (hu : X.A.units + 1 < cLine) : IxR X (rIxA X.K) := ix_seq.or (ix_dict hu)
def rDIn : R2 := fun y x H Q => ∃ a o, x = .ref a ∧ DGet H a y o ∧ Q (.bl o.isSome) H
def rDNotIn : R2 := fun y x H Q => ∃ a o, x = .ref a ∧ DGet H a y o ∧ Q (.bl (!o.isSome)) H
theorem op_din (hu : X.A.units + 1 < cLine) : OpR X (compareOp .In) rDIn := by
  intro pins s σ H x y v u Q I rx ry h
  obtain ⟨a, o, ex, g, q⟩ := h
  subst ex
  obtain rfl : u = Value.ref a := ry
  exact d_in hu I g rx fun s3 I3 => ⟨.bl o.isSome, H, I3, rfl, q⟩
theorem op_dnotin (hu : X.A.units + 1 < cLine) : OpR X (compareOp .NotIn) rDNotIn := by
  intro pins s σ H x y v u Q I rx ry h
  obtain ⟨a, o, ex, g, q⟩ := h
  subst ex
  obtain rfl : u = Value.ref a := ry
  exact d_notIn hu I g rx fun s3 I3 => ⟨.bl (!o.isSome), H, I3, rfl, q⟩
def rSIn2 : R2 := fun x y H Q => ∃ (c : Nat) (z : Str), x = .str ⟨#[c]⟩ ∧ y = .str z ∧ Q (.bl (decide (c ∈ z.cps.toList))) H
def rSNotIn2 : R2 := fun x y H Q => ∃ (c : Nat) (z : Str), x = .str ⟨#[c]⟩ ∧ y = .str z ∧ Q (.bl (!decide (c ∈ z.cps.toList))) H
/-- x in y, whatever y is -/
def rInA (F : PySem.W.Frag) : R2 := fun x y H Q => rDIn x y H Q ∨ (rIn F false x y H Q ∨ (rInD F x y H Q ∨ rSIn2 x y H Q))
def rNotInA (F : PySem.W.Frag) : R2 := fun x y H Q => rDNotIn x y H Q ∨ (rIn F true x y H Q ∨ (rNotInD F x y H Q ∨ rSNotIn2 x y H Q))
theorem op_inA {k : Nat} (hr : Room k X.A) : OpR X (compareOp .In) (rInA X.K) := (op_din (by have := hr.un; omega)).or (op_in_seq.or ((op_inD (by have := hr.un; omega)).or (fun pins s σ H x y v u Q I rx ry q => op_in_sign pins s σ H x y v u Q I rx ry q)))
theorem op_notInA {k : Nat} (hr : Room k X.A) : OpR X (compareOp .NotIn) (rNotInA X.K) := (op_dnotin (by have := hr.un; omega)).or (op_notIn_seq.or ((op_notInD (by have := hr.un; omega)).or (fun pins s σ H x y v u Q I rx ry q => op_notIn_sign pins s σ H x y v u Q I rx ry q)))
end

section
variable {C : Addr} {ρ : Rsc} {S0 H0 Hs S H S1 H1 S2 H2 : Hp} {v x y : V} {r r1 r2 r3 : Sl} {sl : List Sl} {σ : L2.St} {te ta tb : TE} {K K' : Sl → Prop} {F : PySem.W.Frag}
/-! ### subscripts -/
theorem atI_rp {H : Hp} {xs : List V} {ds : List Dt} {i : Int} {d : Dt} (h : RpAll C H xs ds) (e : atI ds i = some d) : ∃ v, atI xs i = some v ∧ Rp C H v d := by
  unfold atI at e ⊢
  rw [h.length]
  cases q : ixN ds.length i with
  | none => rw [q] at e; cases e
  | some j =>
    rw [q] at e
    obtain ⟨v, h1, h2⟩ := h.get (show ds[j]? = some d from e)
    exact ⟨v, h1, h2⟩
theorem od_ix_l {ds : List Dt} {i : Int} {d : Dt} (e1 : r1.ls = some ds) (e : atI ds i = some d) (k : K (.dat d)) : OD C ρ (rIxA F) r1 (.dat (.int i)) K := fun Hs S H x y _ ok h1 h2 Q q => by
  obtain ⟨a, us, rfl, ha, ra⟩ := h1.lsD ok e1
  cases h2
  obtain ⟨v, h3, h4⟩ := atI_rp ra e
  exact .inl (.inl ⟨a, us, i, v, rfl, rfl, SqL.of ha, h3, fin_dat ok q k h4⟩)
theorem od_ix_t {ds : List Dt} {i : Int} {d : Dt} (e : atI ds i = some d) (k : K (.dat d)) : OD C ρ (rIxA F) (.dat (.tup ds)) (.dat (.int i)) K := fun Hs S H x y _ ok h1 h2 Q q => by
  obtain ⟨a, us, rfl, sa, ha, ra⟩ := h1.tupD ok
  cases h2
  obtain ⟨v, h3, h4⟩ := atI_rp ra e
  exact .inl (.inr (.inl ⟨a, us, i, v, rfl, rfl, SqT.of ha, h3, fin_dat ok q k h4⟩))
theorem od_ix_s {z : Str} {i : Int} {c : Nat} (hz : z.length ≤ sizeLine) (e : atI z.cps.toList i = some c) (k : K (.dat (.str ⟨#[c]⟩))) : OD C ρ (rIxA F) (.dat (.str z)) (.dat (.int i)) K := fun Hs S H x y _ ok h1 h2 Q q => by
  cases h1; cases h2
  exact .inl (.inr (.inr ⟨z, i, c, rfl, rfl, hz, e, fin_dat ok q k (.str _)⟩))
/-- an item of a list or tuple -/
def Sl.sq : Sl → Option (List Dt)
  | .dat (.lst ds) => some ds
  | .dat (.tup ds) => some ds
  | .own ds => some ds
  | .bor ds => some ds
  | _ => none
theorem od_ix {ds : List Dt} {i : Int} {d : Dt} (e1 : r1.sq = some ds) (e : atI ds i = some d) (k : K (.dat d)) : OD C ρ (rIxA F) r1 (.dat (.int i)) K := by
  cases r1 with
  | any => cases e1
  | raw u => cases e1
  | cell o => cases e1
  | bcell o => cases e1
  | own es => cases e1; exact od_ix_l rfl e k
  | bor es => cases e1; exact od_ix_l rfl e k
  | dat d' =>
    cases d' <;> simp [Sl.sq] at e1
    · subst e1; exact od_ix_l rfl e k
    · subst e1; exact od_ix_t e k
/-- the item at a place that is in it -/
theorem atI_of {α : Type} {ds : List α} {i : Int} {j : Nat} {d : α} (e : i = (j : Int)) (h : ds[j]? = some d) : atI ds i = some d := by subst e; exact atI_nat h
theorem atI_neg {α : Type} {ds : List α} {j : Nat} {d : α} {i : Int} (e : i = (j : Int) - ds.length) (h : ds[j]? = some d) : atI ds i = some d := by
  have hj : j < ds.length := (List.getElem?_eq_some_iff.mp h).1
  unfold atI ixN
  rw [if_neg (by omega), if_pos (by omega)]
  show ds[(i + ds.length).toNat]? = some d
  have : (i + ds.length).toNat = j := by omega
  rw [this]; exact h
/-! ### in -/
theorem inV_flat {n : Nat} : ∀ {v x : V} {d e : Dt}, Rp C H v d → Rp C H x e → plD 0 d = true → plD 0 e = true → flatV v = true ∧ eqV v x = eqD d e
  | _, _, _, _, h1, h2, p1, p2 => by
    cases h1 <;> simp [plD] at p1 <;> cases h2 <;> simp [plD] at p2 <;> simp [flatV, eqV, eqD, toPy, PyData.eqv, Bool.beq_eq_decide_eq]
theorem flat_all {us : List V} {ds : List Dt} {x : V} {d : Dt} (r : RpAll C S us ds) (h1 : Rp C S x d) (p1 : plD 0 d = true) : plDs 0 ds = true → us.all flatV = true ∧ inV x us = memD d ds := by
  induction r using RpAll.rec (motive_1 := fun _ _ _ => True) with
  | nil => exact fun _ => ⟨rfl, rfl⟩
  | cons a b _ ih =>
    intro p
    rw [plDs, Bool.and_eq_true] at p
    have f := inV_flat (n := 0) a h1 p.1 p1
    have g := ih p.2
    refine ⟨by rw [List.all_cons, f.1, g.1]; rfl, ?_⟩
    unfold inV memD at g ⊢
    rw [List.any_cons, List.any_cons, f.2, g.2]
  | _ => trivial
theorem RvOk.sqD {ds : List Dt} (k : Ok ρ S H) (h : RvOk C ρ Hs S H v r) (e : r.sq = some ds) : ∃ p xs, v = .ref p ∧ (SqL F H p xs ∨ SqT F H p xs) ∧ RpAll C S xs ds := by
  cases r with
  | any => cases e
  | raw u => cases e
  | cell o => cases e
  | bcell o => cases e
  | own es =>
    cases e
    obtain ⟨a, us, rfl, ha, ra⟩ := h.lsD k (show (Sl.own ds).ls = some ds from rfl)
    exact ⟨a, us, rfl, .inl (SqL.of ha), ra⟩
  | bor es =>
    cases e
    obtain ⟨a, us, rfl, ha, ra⟩ := h.lsD k (show (Sl.bor ds).ls = some ds from rfl)
    exact ⟨a, us, rfl, .inl (SqL.of ha), ra⟩
  | dat d' =>
    cases d' <;> simp [Sl.sq] at e
    · subst e
      obtain ⟨a, us, rfl, ha, ra⟩ := h.lsD k rfl
      exact ⟨a, us, rfl, .inl (SqL.of ha), ra⟩
    · subst e
      obtain ⟨a, us, rfl, sa, ha, ra⟩ := h.tupD k
      exact ⟨a, us, rfl, .inr (SqT.of ha), ra⟩
theorem od_in_flat {ds : List Dt} {d : Dt} (e1 : r2.sq = some ds) (e2 : r1 = .dat d) (p1 : plD 0 d = true) (p2 : plDs 0 ds = true) (k : K (.dat (.bl (memD d ds)))) : OD C ρ (rInA F) r1 r2 K := fun Hs S H x y _ ok h1 h2 Q q => by
  subst e2
  have h1' : Rp C S x d := h1
  have fx : flatV x = true := (inV_flat (n := 0) h1' h1' p1 p1).1
  obtain ⟨a, us, rfl, sq, ra⟩ := h2.sqD (F := F) ok e1
  have m := flat_all ra h1' p1 p2
  refine .inr (.inl ⟨a, us, rfl, sq, fx, m.1, ?_⟩)
  rw [if_neg (by decide), m.2]
  exact fin_dat ok q k (.bl _)
theorem od_notin_flat {ds : List Dt} {d : Dt} (e1 : r2.sq = some ds) (e2 : r1 = .dat d) (p1 : plD 0 d = true) (p2 : plDs 0 ds = true) (k : K (.dat (.bl (!memD d ds)))) : OD C ρ (rNotInA F) r1 r2 K := fun Hs S H x y _ ok h1 h2 Q q => by
  subst e2
  have h1' : Rp C S x d := h1
  have fx : flatV x = true := (inV_flat (n := 0) h1' h1' p1 p1).1
  obtain ⟨a, us, rfl, sq, ra⟩ := h2.sqD (F := F) ok e1
  have m := flat_all ra h1' p1 p2
  refine .inr (.inl ⟨a, us, rfl, sq, fx, m.1, ?_⟩)
  rw [if_pos rfl, m.2]
  exact fin_dat ok q k (.bl _)
/-- in a list of data of any depth -/
theorem od_in {ds : List Dt} {d : Dt} (e1 : r1.hd = some d) (e2 : r2.hd = some (.lst ds)) (p1 : plD 64 d = true) (p2 : plD 64 (.lst ds) = true) (k : K (.dat (.bl (memD d ds)))) : OD C ρ (rInA F) r1 r2 K := fun Hs S H x y _ ok h1 h2 Q q => by
  have a := h1.hdD ok e1
  have b := h2.hdD ok e2
  refine .inr (.inr (.inl ⟨toPy d, toPys ds, Rp.dp p1 a, Rp.dp p2 b, plD_shaped p1, plD_shaped p2, ?_⟩))
  rw [any_toPys]
  exact fin_dat ok q k (.bl _)
theorem od_notin {ds : List Dt} {d : Dt} (e1 : r1.hd = some d) (e2 : r2.hd = some (.lst ds)) (p1 : plD 64 d = true) (p2 : plD 64 (.lst ds) = true) (k : K (.dat (.bl (!memD d ds)))) : OD C ρ (rNotInA F) r1 r2 K := fun Hs S H x y _ ok h1 h2 Q q => by
  have a := h1.hdD ok e1
  have b := h2.hdD ok e2
  refine .inr (.inr (.inl ⟨toPy d, toPys ds, Rp.dp p1 a, Rp.dp p2 b, plD_shaped p1, plD_shaped p2, ?_⟩))
  rw [any_toPys]
  exact fin_dat ok q k (.bl _)
/-! in a dict -/
theorem valV_const {α κ : Type} [DecidableEq α] [DecidableEq κ] (f : α → κ) (hf : ∀ a b, f a = f b → a = b) (w : V) (k : α) : ∀ ks : List α, valV (ks.map fun a => (f a, w)) (f k) = if k ∈ ks then some w else none
  | [] => rfl
  | a :: ks => by
    have ih := valV_const f hf w k ks
    unfold valV at ih ⊢
    rw [List.map_cons, List.find?_cons]
    by_cases h : a = k
    · subst h
      have e : decide ((f a, w).1 = f a) = true := decide_eq_true rfl
      rw [e]; simp
    · have e : decide ((f a, w).1 = f k) = false := decide_eq_false fun q => h (hf _ _ q)
      rw [e]
      show Option.map (fun x : κ × V => x.2) (List.find? (fun kv => decide (kv.1 = f k)) (ks.map fun a => (f a, w))) = _
      rw [ih]
      have h2 : (k ∈ a :: ks) ↔ k ∈ ks := ⟨fun m => (List.mem_cons.mp m).elim (fun e => absurd e.symm h) id, List.mem_cons_of_mem _⟩
      by_cases h3 : k ∈ ks
      · rw [if_pos h3, if_pos (h2.mpr h3)]
      · rw [if_neg h3, if_neg fun m => h3 (h2.mp m)]
theorem valV_ki (ks : List Nat) (k : Nat) : valV (ks.map kiV) (Sum.inl (k : Int)) = if k ∈ ks then some (V.bl true) else none :=
  valV_const (fun k : Nat => (Sum.inl (k : Int) : Key)) (fun a b e => by have := Sum.inl.inj e; omega) (V.bl true) k ks
theorem valV_kt (ks : List (Nat × Nat)) (p : Nat × Nat) : valV (ks.map ktV) [Sum.inl (p.1 : Int), Sum.inl (p.2 : Int)] = if p ∈ ks then some (V.bl true) else none := by
  have h := valV_const (fun p : Nat × Nat => ([Sum.inl (p.1 : Int), Sum.inl (p.2 : Int)] : List Key)) (fun a b e => by
    injection e with e1 e2
    injection e2 with e2 _
    have h1 := Sum.inl.inj e1
    have h2 := Sum.inl.inj e2
    exact Prod.ext (by omega) (by omega)) (V.bl true) p ks
  by_cases m : p ∈ ks
  · rw [if_pos m] at h ⊢; exact h
  · rw [if_neg m] at h ⊢; exact h
theorem od_in_dki {ks : List Nat} {k : Nat} {i : Int} (e : i = (k : Int)) (kk : K (.dat (.bl (decide (k ∈ ks))))) : OD C ρ (rInA F) (.dat (.int i)) (.dat (.dki ks)) K := fun Hs S H x y _ ok h1 h2 Q q => by
  subst e
  cases h1
  cases h2 with
  | dki h =>
    refine .inl ⟨_, _, rfl, DGet.k (k := Sum.inl (k : Int)) (ok.sh _ _ h), ?_⟩
    rw [valV_ki]
    have : (if k ∈ ks then some (V.bl true) else none).isSome = decide (k ∈ ks) := by by_cases h : k ∈ ks <;> simp [h]
    rw [this]
    exact fin_dat ok q kk (.bl _)
theorem od_notin_dki {ks : List Nat} {k : Nat} {i : Int} (e : i = (k : Int)) (kk : K (.dat (.bl (!decide (k ∈ ks))))) : OD C ρ (rNotInA F) (.dat (.int i)) (.dat (.dki ks)) K := fun Hs S H x y _ ok h1 h2 Q q => by
  subst e
  cases h1
  cases h2 with
  | dki h =>
    refine .inl ⟨_, _, rfl, DGet.k (k := Sum.inl (k : Int)) (ok.sh _ _ h), ?_⟩
    rw [valV_ki]
    have : (if k ∈ ks then some (V.bl true) else none).isSome = decide (k ∈ ks) := by by_cases h : k ∈ ks <;> simp [h]
    rw [this]
    exact fin_dat ok q kk (.bl _)
theorem Rp.pair {H : Hp} {v : V} {a b : Nat} (h : Rp C H v (tieD (a, b))) : ∃ p, v = .ref p ∧ H p = some (.tup (([Sum.inl (a : Int), Sum.inl (b : Int)] : List Key).map kV)) := by
  unfold tieD at h
  cases h with
  | tup h1 h2 =>
    cases h2 with
    | cons a1 a2 =>
      cases a2 with
      | cons b1 b2 =>
        cases b2; cases a1; cases b1
        exact ⟨_, rfl, h1⟩
theorem od_in_dkt {ks : List (Nat × Nat)} {p : Nat × Nat} {d : Dt} (e : d = tieD p) (kk : K (.dat (.bl (decide (p ∈ ks))))) : OD C ρ (rInA F) (.dat d) (.dat (.dkt ks)) K := fun Hs S H x y _ ok h1 h2 Q q => by
  subst e
  obtain ⟨t, rfl, ht⟩ := Rp.pair (a := p.1) (b := p.2) h1
  cases h2 with
  | dkt h =>
    refine .inl ⟨_, _, rfl, DGet.t (k := [Sum.inl (p.1 : Int), Sum.inl (p.2 : Int)]) (ok.sh _ _ h) (ok.sh _ _ ht), ?_⟩
    rw [valV_kt]
    have : (if p ∈ ks then some (V.bl true) else none).isSome = decide (p ∈ ks) := by by_cases h : p ∈ ks <;> simp [h]
    rw [this]
    exact fin_dat ok q kk (.bl _)
theorem od_notin_dkt {ks : List (Nat × Nat)} {p : Nat × Nat} {d : Dt} (e : d = tieD p) (kk : K (.dat (.bl (!decide (p ∈ ks))))) : OD C ρ (rNotInA F) (.dat d) (.dat (.dkt ks)) K := fun Hs S H x y _ ok h1 h2 Q q => by
  subst e
  obtain ⟨t, rfl, ht⟩ := Rp.pair (a := p.1) (b := p.2) h1
  cases h2 with
  | dkt h =>
    refine .inl ⟨_, _, rfl, DGet.t (k := [Sum.inl (p.1 : Int), Sum.inl (p.2 : Int)]) (ok.sh _ _ h) (ok.sh _ _ ht), ?_⟩
    rw [valV_kt]
    have : (if p ∈ ks then some (V.bl true) else none).isSome = decide (p ∈ ks) := by by_cases h : p ∈ ks <;> simp [h]
    rw [this]
    exact fin_dat ok q kk (.bl _)
/-! ### slices -/
def cutD {α : Type} (xs : List α) (lo hi : Option Int) : List α := (xs.drop (HT.sIx xs.length 0 lo)).take (HT.sIx xs.length xs.length hi - HT.sIx xs.length 0 lo)
theorem cut_rp {H : Hp} {xs : List V} {ds : List Dt} (h : RpAll C H xs ds) (lo hi : Option Int) : RpAll C H (cutV xs lo hi) (cutD ds lo hi) := by
  unfold cutV cutD
  rw [h.length]
  exact (h.drop _).take _
end
end D3
namespace D3
open PySem L2 PyProof.Rows

/-! ## arguments, displays, calls -/
def fz : Sl → Sl
  | .own ds => .dat (.lst ds)
  | r => r
section
variable {C : Addr} {ρ : Rsc} {S0 H0 Hs S H S1 H1 S2 H2 : Hp} {v x y : V} {r r1 r2 r3 : Sl} {sl : List Sl} {σ : L2.St} {te ta tb : TE} {t : TA} {K K' : Sl → Prop} {F : PySem.W.Frag}
/-- what is new becomes stable -/
theorem RvOk.fzD (k : Ok ρ S H) (a : Mv ρ S H S1 H1) (h : RvOk C ρ H S1 H1 v r) : ∃ S2, Mv ρ S H S2 H1 ∧ Same S1 S2 ∧ RvOk C ρ H S2 H1 v (fz r) := by
  cases r with
  | own ds =>
    obtain ⟨p, xs, rfl, h0, h1, h2, h3⟩ := h
    exact ⟨upd S1 p (.lst xs), a.freeze k h0 h2, same_new h1, .lst upd_same (h3.mono (same_new h1))⟩
  | any => exact ⟨S1, a, Same.refl _, h⟩
  | dat d => exact ⟨S1, a, Same.refl _, h⟩
  | raw u => exact ⟨S1, a, Same.refl _, h⟩
  | cell o => exact ⟨S1, a, Same.refl _, h⟩
  | bor d => exact ⟨S1, a, Same.refl _, h⟩
  | bcell d => exact ⟨S1, a, Same.refl _, h⟩
theorem wx_fz (h : WX C ρ te sl fun r => K (fz r)) : WX C ρ te sl K := fun S0 H0 S H σ g Q q => by
  refine h S0 H0 S H σ g Q fun r S' H' v k a ok => ?_
  obtain ⟨S2, a2, _, ok2⟩ := ok.fzD g.k a
  exact q _ S2 H' v k a2 ok2
theorem wa_nil {K : List Sl → Prop} (k : K []) : WA C ρ tNil sl K := fun S0 H0 S H σ g Q q => q [] S H [] k (Mv.refl g.k) trivial
theorem wa_cons {K : List Sl → Prop} (h : WX C ρ ta sl fun r => WA C ρ t sl fun rs => K (fz r :: rs)) : WA C ρ (tCons ta t) sl K := fun S0 H0 S H σ g Q q => by
  refine h S0 H0 S H σ g _ fun r S1 H1 v h2 a1 ok1 => ?_
  obtain ⟨S2, a2, _, ok2⟩ := ok1.fzD g.k a1
  refine h2 S0 H0 S2 H1 σ (g.move a2) _ fun rs S3 H3 vs k3 a3 ok3 => ?_
  exact q _ S3 H3 _ k3 (a2.trans g.k a3) ⟨ok2.mv g.k a2 a3, ok3.pre fun p => a2.back g.k⟩
theorem an : AD C ρ tNil sl [] := wa_nil rfl
theorem ac {rs : List Sl} (h : XD C ρ ta sl r) (h2 : AD C ρ t sl rs) : AD C ρ (tCons ta t) sl (fz r :: rs) := wa_cons (h.imp fun _ e => by subst e; exact h2.imp fun _ e => by rw [e])
/-- all of them data -/
def datsOf : List Sl → Option (List Dt)
  | [] => some []
  | .dat d :: rs => (datsOf rs).map (d :: ·)
  | _ :: _ => none
theorem datsOf_eq : ∀ {rs : List Sl} {ds : List Dt}, datsOf rs = some ds → rs = ds.map Sl.dat
  | [], ds, e => by cases e; rfl
  | .dat d :: rs, ds, e => by
    unfold datsOf at e
    cases q : datsOf rs with
    | none => rw [q] at e; cases e
    | some es => rw [q] at e; cases e; rw [datsOf_eq q]; rfl
  | .any :: _, _, e => by cases e
  | .own _ :: _, _, e => by cases e
  | .cell _ :: _, _, e => by cases e
  | .raw _ :: _, _, e => by cases e
  | .bor _ :: _, _, e => by cases e
  | .bcell _ :: _, _, e => by cases e
theorem RvsOk.dats {vs : List V} {rs : List Sl} {ds : List Dt} (h : RvsOk C ρ Hs S H vs rs) (e : datsOf rs = some ds) : RpAll C S vs ds := by
  rw [datsOf_eq e] at h
  exact h.all
theorem wx_tup (h : WA C ρ t sl fun rs => ∃ ds, datsOf rs = some ds ∧ ds.length ≤ 100000 ∧ K (.dat (.tup ds))) : WX C ρ (tTup t) sl K := fun S0 H0 S H σ g Q q => by
  refine h S0 H0 S H σ g _ fun rs S1 H1 vs ⟨ds, e, hl, k⟩ a1 ok1 => ?_
  have ra := ok1.dats e
  refine ⟨by rw [ra.length, sizeLine_eq]; omega, fun p hp => ?_⟩
  exact fin_tup a1.ok (fun r S' H' v kr a ok => q r S' H' v kr (a1.trans g.k a) (ok.pre fun p => a1.back g.k)) k ra p hp
theorem wx_lst (h : WA C ρ t sl fun rs => ∃ ds, datsOf rs = some ds ∧ ds.length ≤ 100000 ∧ K (.own ds)) : WX C ρ (tLst t) sl K := fun S0 H0 S H σ g Q q => by
  refine h S0 H0 S H σ g _ fun rs S1 H1 vs ⟨ds, e, hl, k⟩ a1 ok1 => ?_
  have ra := ok1.dats e
  refine ⟨by rw [ra.length, sizeLine_eq]; omega, fun p hp => ?_⟩
  exact fin_new a1.ok (fun r S' H' v kr a ok => q r S' H' v kr (a1.trans g.k a) (ok.pre fun p => a1.back g.k)) k ra p hp
theorem xtup {rs : List Sl} {ds : List Dt} (h : AD C ρ t sl rs) (e : datsOf rs = some ds) (hl : ds.length ≤ 100000) : XD C ρ (tTup t) sl (.dat (.tup ds)) := wx_tup (h.w ⟨ds, e, hl, rfl⟩)
theorem xlst {rs : List Sl} {ds : List Dt} (h : AD C ρ t sl rs) (e : datsOf rs = some ds) (hl : ds.length ≤ 100000) : XD C ρ (tLst t) sl (.own ds) := wx_lst (h.w ⟨ds, e, hl, rfl⟩)
/-! ### built-in functions -/
theorem wx_cb {r : List V → Hp → VK → Prop} (h : WA C ρ t sl fun rs => CD C ρ r rs K) : WX C ρ (tCB r t) sl K := fun S0 H0 S H σ g Q q => by
  refine h S0 H0 S H σ g _ fun rs S1 H1 vs h1 a1 ok1 => ?_
  exact h1 H S1 H1 vs (fun p => a1.back g.k) a1.ok ok1 Q fun r S' H' v kr a ok => q r S' H' v kr (a1.trans g.k a) (ok.pre fun p => a1.back g.k)
theorem xcb {r : List V → Hp → VK → Prop} {rs : List Sl} (h : AD C ρ t sl rs) (h2 : CD C ρ r rs K) : WX C ρ (tCB r t) sl K := wx_cb (h.w h2)
def rLenA (F : PySem.W.Frag) : List V → Hp → VK → Prop := fun xs H Q => (∃ x n, xs = [x] ∧ LenV F x H n ∧ Q (.int n) H) ∨ (∃ a kvs, xs = [V.ref a] ∧ H a = some (.dK kvs) ∧ Q (.int kvs.length) H)
theorem call_lenA {X : Cx} : CallR X (.builtin "len") (rLenA X.K) := call_len.or call_lenD
theorem CD1 {r : List V → Hp → VK → Prop} {r1 : Sl} (h : ∀ Hs S H v, (∀ p, H p = none → Hs p = none) → Ok ρ S H → RvOk C ρ Hs S H v r1 → ∀ Q : VK, (∀ q S' H' v, K q → Mv ρ S H S' H' → RvOk C ρ H S' H' v q → Q v H') → r [v] H Q) : CD C ρ r [r1] K := fun Hs S H vs b ok rv Q q => by
  match vs, rv with
  | [v], rv => exact h Hs S H v b ok rv.1 Q q
theorem cd_len {ds : List Dt} (e : r1.sq = some ds) (k : K (.dat (.int (ds.length : Int)))) : CD C ρ (rLenA F) [r1] K := CD1 fun Hs S H v b ok rv Q q => by
  obtain ⟨a, us, rfl, sq, ra⟩ := rv.sqD (F := F) ok e
  refine .inl ⟨_, us.length, rfl, ?_, by rw [ra.length]; exact fin_dat ok q k (.int _)⟩
  rcases sq with h | h
  · exact .inl ⟨us, h, rfl⟩
  · exact .inr ⟨us, h, rfl⟩
theorem cd_len_dki {ks : List Nat} (k : K (.dat (.int (ks.length : Int)))) : CD C ρ (rLenA F) [.dat (.dki ks)] K := CD1 fun Hs S H v b ok rv Q q => by
  cases rv with
  | dki h => exact .inr ⟨_, _, rfl, ok.sh _ _ h, by rw [List.length_map]; exact fin_dat ok q k (.int _)⟩
theorem cd_len_str {z : Str} (hz : z.length ≤ sizeLine) (k : K (.dat (.int (z.length : Int)))) : CD C ρ (rLenA F) [.dat (.str z)] K := CD1 fun Hs S H v b ok rv Q q => by
  cases rv
  exact .inl ⟨_, _, rfl, ⟨hz, rfl⟩, fin_dat ok q k (.int _)⟩
def rListA (F : PySem.W.Frag) : List V → Hp → VK → Prop := fun xs H Q => ∃ p ys, xs = [.ref p] ∧ (SqL F H p ys ∨ SqT F H p ys) ∧ ∀ l, H l = none → Q (.ref l) (upd H l (.lst ys))
theorem call_listA {X : Cx} : CallR X (.type "list") (rListA X.K) := call_list_of
theorem cd_list {ds : List Dt} (e : r1.sq = some ds) (k : K (.own ds)) : CD C ρ (rListA F) [r1] K := CD1 fun Hs S H v b ok rv Q q => by
  obtain ⟨a, us, rfl, sq, ra⟩ := rv.sqD (F := F) ok e
  exact ⟨a, us, rfl, sq, fin_new ok q k ra⟩
def rTupleA (F : PySem.W.Frag) : List V → Hp → VK → Prop := fun xs H Q => ∃ p ys, xs = [.ref p] ∧ ((SqL F H p ys ∧ ∀ l, H l = none → Q (.ref l) (upd H l (.tup ys))) ∨ (SqT F H p ys ∧ Q (.ref p) H))
theorem call_tupleA {X : Cx} : CallR X (.type "tuple") (rTupleA X.K) := call_tuple_of
theorem cd_tuple {ds : List Dt} (e : r1.ls = some ds) (k : K (.dat (.tup ds))) : CD C ρ (rTupleA F) [r1] K := CD1 fun Hs S H v b ok rv Q q => by
  obtain ⟨a, us, rfl, ha, ra⟩ := rv.lsD ok e
  exact ⟨a, us, rfl, .inl ⟨SqL.of ha, fin_tup ok q k ra⟩⟩
def rAbs : List V → Hp → VK → Prop := fun xs H Q => ∃ i, xs = [.int i] ∧ Q (.int (if i < 0 then -i else i)) H
theorem call_absA {X : Cx} : CallR X (.builtin "abs") rAbs := call_abs
theorem cd_abs {i : Int} (k : K (.dat (.int (if i < 0 then -i else i)))) : CD C ρ rAbs [.dat (.int i)] K := CD1 fun Hs S H v b ok rv Q q => by
  cases rv; exact ⟨_, rfl, fin_dat ok q k (.int _)⟩
def rInt1 : List V → Hp → VK → Prop := fun xs H Q => (∃ i, xs = [.int i] ∧ Q (.int i) H) ∨ ∃ k, xs = [.bl k] ∧ Q (.int (if k then 1 else 0)) H
theorem call_intA {X : Cx} : CallR X (.type "int") rInt1 := call_int1
theorem cd_int_bl {b : Bool} (k : K (.dat (.int (if b then 1 else 0)))) : CD C ρ rInt1 [.dat (.bl b)] K := CD1 fun Hs S H v _ ok rv Q q => by
  cases rv; exact .inr ⟨_, rfl, fin_dat ok q k (.int _)⟩
theorem CD2 {r : List V → Hp → VK → Prop} {r1 r2 : Sl} (h : ∀ Hs S H v w, (∀ p, H p = none → Hs p = none) → Ok ρ S H → RvOk C ρ Hs S H v r1 → RvOk C ρ Hs S H w r2 → ∀ Q : VK, (∀ q S' H' v, K q → Mv ρ S H S' H' → RvOk C ρ H S' H' v q → Q v H') → r [v, w] H Q) : CD C ρ r [r1, r2] K := fun Hs S H vs b ok rv Q q => by
  match vs, rv with
  | [v, w], rv => exact h Hs S H v w b ok rv.1 rv.2.1 Q q
def rMax2 (F : PySem.W.Frag) : List V → Hp → VK → Prop := fun xs H Q => (∃ i j, xs = [.int i, .int j] ∧ Q (.int (if j > i then j else i)) H) ∨ rMax F xs H Q
def rMin2 (F : PySem.W.Frag) : List V → Hp → VK → Prop := fun xs H Q => (∃ i j, xs = [.int i, .int j] ∧ Q (.int (if j < i then j else i)) H) ∨ rMin F xs H Q
theorem call_maxA {X : Cx} (hc : X.calm = true) : CallR X (.builtin "max") (rMax2 X.K) := (call_max2 hc).or (cr_max hc)
theorem call_minA {X : Cx} (hc : X.calm = true) : CallR X (.builtin "min") (rMin2 X.K) := (call_min2 hc).or (cr_min hc)
theorem cd_max2 {i j : Int} (k : K (.dat (.int (max i j)))) : CD C ρ (rMax2 F) [.dat (.int i), .dat (.int j)] K := CD2 fun Hs S H v w _ ok h1 h2 Q q => by
  cases h1; cases h2
  refine .inl ⟨i, j, rfl, ?_⟩
  have e : (if j > i then j else i) = max i j := by split <;> omega
  rw [e]; exact fin_dat ok q k (.int _)
theorem cd_min2 {i j : Int} (k : K (.dat (.int (min i j)))) : CD C ρ (rMin2 F) [.dat (.int i), .dat (.int j)] K := CD2 fun Hs S H v w _ ok h1 h2 Q q => by
  cases h1; cases h2
  refine .inl ⟨i, j, rfl, ?_⟩
  have e : (if j < i then j else i) = min i j := by split <;> omega
  rw [e]; exact fin_dat ok q k (.int _)
theorem cd_sum {ns : List Int} (e : r1.ls = some (ns.map Dt.int)) (k : K (.dat (.int ns.sum))) : CD C ρ (rSum F) [r1] K := CD1 fun Hs S H v b ok rv Q q => by
  obtain ⟨a, us, rfl, ha, ra⟩ := rv.lsD ok e
  have := ra.ints
  subst this
  exact ⟨a, ns, rfl, SqL.of ha, fin_dat ok q k (.int _)⟩
theorem cd_all {bs : List Bool} (e : r1.ls = some (bs.map Dt.bl)) (k : K (.dat (.bl (bs.all id)))) : CD C ρ (rAll F) [r1] K := CD1 fun Hs S H v b ok rv Q q => by
  obtain ⟨a, us, rfl, ha, ra⟩ := rv.lsD ok e
  have := ra.bls
  subst this
  exact ⟨a, bs, rfl, SqL.of ha, fin_dat ok q k (.bl _)⟩
/-! ### fields of a yard -/
theorem wx_size (c : Cls F C) (n : NoAttr F C "size") (h : WX C ρ ta sl fun r => ∃ m ts, r = .dat (.yard m ts) ∧ K (.dat (.int (m : Int)))) : WX C ρ (tFld F ta "size") sl K := fun S0 H0 S H σ g Q q => by
  refine h S0 H0 S H σ g _ fun r S1 H1 x ⟨m, ts, e, k⟩ a1 ok1 => ?_
  subst e
  cases ok1 with
  | yard h1 h2 h3 r1 r2 e1 e2 =>
    exact ⟨_, C, _, _, _, rfl, a1.ok.sh _ _ h1, c, n, (by unfold yardFs; simp [List.lookup]), q _ S1 H1 _ k a1 (.int _)⟩
theorem wx_kept (c : Cls F C) (n : NoAttr F C "kept") (h : WX C ρ ta sl fun r => ∃ m ts, r = .dat (.yard m ts) ∧ K (.dat (.lst (ts.map tieD)))) : WX C ρ (tFld F ta "kept") sl K := fun S0 H0 S H σ g Q q => by
  refine h S0 H0 S H σ g _ fun r S1 H1 x ⟨m, ts, e, k⟩ a1 ok1 => ?_
  subst e
  cases ok1 with
  | yard h1 h2 h3 r1 r2 e1 e2 =>
    exact ⟨_, C, _, _, _, rfl, a1.ok.sh _ _ h1, c, n, (by unfold yardFs; rfl), q _ S1 H1 _ k a1 (.lst h2 (e1 ▸ r1))⟩
def nearD (m : Nat) (ts : List (Nat × Nat)) : List Dt := (List.range m).map (fun x => .dki (nearOf ts x))
theorem wx_near (c : Cls F C) (n : NoAttr F C "near") (h : WX C ρ ta sl fun r => ∃ m ts, r = .dat (.yard m ts) ∧ K (.dat (.lst (nearD m ts)))) : WX C ρ (tFld F ta "near") sl K := fun S0 H0 S H σ g Q q => by
  refine h S0 H0 S H σ g _ fun r S1 H1 x ⟨m, ts, e, k⟩ a1 ok1 => ?_
  subst e
  cases ok1 with
  | yard h1 h2 h3 r1 r2 e1 e2 =>
    exact ⟨_, C, _, _, _, rfl, a1.ok.sh _ _ h1, c, n, (by unfold yardFs; rfl), q _ S1 H1 _ k a1 (.lst h3 (by rw [show nearD m ts = _ from e2.symm]; exact r2))⟩
theorem xsize {m : Nat} {ts : List (Nat × Nat)} (c : Cls F C) (n : NoAttr F C "size") (h : XD C ρ ta sl (.dat (.yard m ts))) : XD C ρ (tFld F ta "size") sl (.dat (.int (m : Int))) := wx_size c n (h.w ⟨m, ts, rfl, rfl⟩)
theorem xkept {m : Nat} {ts : List (Nat × Nat)} (c : Cls F C) (n : NoAttr F C "kept") (h : XD C ρ ta sl (.dat (.yard m ts))) : XD C ρ (tFld F ta "kept") sl (.dat (.lst (ts.map tieD))) := wx_kept c n (h.w ⟨m, ts, rfl, rfl⟩)
theorem xnear {m : Nat} {ts : List (Nat × Nat)} (c : Cls F C) (n : NoAttr F C "near") (h : XD C ρ ta sl (.dat (.yard m ts))) : XD C ρ (tFld F ta "near") sl (.dat (.lst (nearD m ts))) := wx_near c n (h.w ⟨m, ts, rfl, rfl⟩)

/-! ### truth -/
theorem wx_and (h : WX C ρ ta sl fun r => ∃ b, r = .dat (.bl b) ∧ if b = true then WX C ρ tb sl K else K (.dat (.bl false))) : WX C ρ (tAndV ta tb) sl K := fun S0 H0 S H σ g Q q => by
  refine h S0 H0 S H σ g _ fun r S1 H1 x ⟨b, e, k⟩ a1 ok1 => ?_
  subst e
  cases ok1
  refine ⟨b, rfl, ?_⟩
  cases b with
  | true =>
    rw [if_pos rfl] at k ⊢
    exact k S0 H0 S1 H1 σ (g.move a1) Q fun r S' H' v kr a ok => q r S' H' v kr (a1.trans g.k a) (ok.pre fun p => a1.back g.k)
  | false =>
    rw [if_neg (by decide)] at k ⊢
    exact q _ S1 H1 _ k a1 (.bl _)
theorem wx_or (h : WX C ρ ta sl fun r => ∃ b, r = .dat (.bl b) ∧ if b = true then K (.dat (.bl true)) else WX C ρ tb sl K) : WX C ρ (tOrV ta tb) sl K := fun S0 H0 S H σ g Q q => by
  refine h S0 H0 S H σ g _ fun r S1 H1 x ⟨b, e, k⟩ a1 ok1 => ?_
  subst e
  cases ok1
  refine ⟨b, rfl, ?_⟩
  cases b with
  | true =>
    rw [if_pos rfl] at k ⊢
    exact q _ S1 H1 _ k a1 (.bl _)
  | false =>
    rw [if_neg (by decide)] at k ⊢
    exact k S0 H0 S1 H1 σ (g.move a1) Q fun r S' H' v kr a ok => q r S' H' v kr (a1.trans g.k a) (ok.pre fun p => a1.back g.k)
theorem wx_not (h : WX C ρ ta sl fun r => ∃ b, r = .dat (.bl b) ∧ K (.dat (.bl (!b)))) : WX C ρ (tNotV ta) sl K := fun S0 H0 S H σ g Q q => by
  refine h S0 H0 S H σ g _ fun r S1 H1 x ⟨b, e, k⟩ a1 ok1 => ?_
  subst e
  cases ok1
  exact ⟨b, rfl, q _ S1 H1 _ k a1 (.bl _)⟩
theorem xand {a b : Bool} (h1 : XD C ρ ta sl (.dat (.bl a))) (h2 : a = true → XD C ρ tb sl (.dat (.bl b))) : XD C ρ (tAndV ta tb) sl (.dat (.bl (a && b))) := wx_and (h1.w ⟨a, rfl, by
  cases a with
  | true => rw [if_pos rfl]; exact h2 rfl
  | false => rw [if_neg (by decide)]; rfl⟩)
theorem xor' {a b : Bool} (h1 : XD C ρ ta sl (.dat (.bl a))) (h2 : a = false → XD C ρ tb sl (.dat (.bl b))) : XD C ρ (tOrV ta tb) sl (.dat (.bl (a || b))) := wx_or (h1.w ⟨a, rfl, by
  cases a with
  | true => rw [if_pos rfl]; rfl
  | false => rw [if_neg (by decide)]; exact h2 rfl⟩)
theorem xnot {a : Bool} (h1 : XD C ρ ta sl (.dat (.bl a))) : XD C ρ (tNotV ta) sl (.dat (.bl (!a))) := wx_not (h1.w ⟨a, rfl, rfl⟩)
variable {tt tu : TT} {KB : Bool → Prop}
theorem wx_if (h : WT C ρ tt sl fun b => if b = true then WX C ρ ta sl K else WX C ρ tb sl K) : WX C ρ (tIf tt ta tb) sl K := fun S0 H0 S H σ g Q q => by
  refine h S0 H0 S H σ g _ fun b S1 H1 k a1 => ?_
  cases b with
  | true =>
    rw [if_pos rfl] at k ⊢
    exact k S0 H0 S1 H1 σ (g.move a1) Q fun r S' H' v kr a ok => q r S' H' v kr (a1.trans g.k a) (ok.pre fun p => a1.back g.k)
  | false =>
    rw [if_neg (by decide)] at k ⊢
    exact k S0 H0 S1 H1 σ (g.move a1) Q fun r S' H' v kr a ok => q r S' H' v kr (a1.trans g.k a) (ok.pre fun p => a1.back g.k)
theorem xif {b : Bool} (h : TD C ρ tt sl b) (h1 : b = true → WX C ρ ta sl K) (h2 : b = false → WX C ρ tb sl K) : WX C ρ (tIf tt ta tb) sl K := wx_if (h.w (by
  cases b with
  | true => rw [if_pos rfl]; exact h1 rfl
  | false => rw [if_neg (by decide)]; exact h2 rfl))
theorem wt_test (h : WX C ρ te sl fun r => ∃ b, r = .dat (.bl b) ∧ KB b) : WT C ρ (tTest te) sl KB := fun S0 H0 S H σ g Q q => by
  refine h S0 H0 S H σ g _ fun r S1 H1 x ⟨b, e, k⟩ a1 ok1 => ?_
  subst e
  cases ok1
  exact ⟨b, rfl, q b S1 H1 k a1⟩
theorem wt_B (h : WX C ρ te sl fun r => ∃ b, r = .dat (.bl b) ∧ KB b) : WT C ρ (tB te) sl KB := fun S0 H0 S H σ g Q q => by
  refine h S0 H0 S H σ g _ fun r S1 H1 x ⟨b, e, k⟩ a1 ok1 => ?_
  subst e
  cases ok1
  exact ⟨b, rfl, q b S1 H1 k a1⟩
theorem tdt {b : Bool} (h : XD C ρ te sl (.dat (.bl b))) : TD C ρ (tTest te) sl b := wt_test (h.w ⟨b, rfl, rfl⟩)
theorem tdb {b : Bool} (h : XD C ρ te sl (.dat (.bl b))) : TD C ρ (tB te) sl b := wt_B (h.w ⟨b, rfl, rfl⟩)
theorem wt_not (h : WT C ρ tt sl fun b => KB (!b)) : WT C ρ (tNot tt) sl KB := fun S0 H0 S H σ g Q q => h S0 H0 S H σ g _ fun b S1 H1 k a1 => q _ S1 H1 k a1
theorem tdn {b : Bool} (h : TD C ρ tt sl b) : TD C ρ (tNot tt) sl (!b) := wt_not (h.w rfl)
theorem wt_and (h : WT C ρ tt sl fun b => if b = true then WT C ρ tu sl KB else KB false) : WT C ρ (tAnd tt tu) sl KB := fun S0 H0 S H σ g Q q => by
  refine h S0 H0 S H σ g _ fun b S1 H1 k a1 => ?_
  cases b with
  | true =>
    rw [if_pos rfl] at k ⊢
    exact k S0 H0 S1 H1 σ (g.move a1) Q fun r S' H' kr a => q r S' H' kr (a1.trans g.k a)
  | false =>
    rw [if_neg (by decide)] at k ⊢
    exact q _ S1 H1 k a1
theorem wt_or (h : WT C ρ tt sl fun b => if b = true then KB true else WT C ρ tu sl KB) : WT C ρ (tOr tt tu) sl KB := fun S0 H0 S H σ g Q q => by
  refine h S0 H0 S H σ g _ fun b S1 H1 k a1 => ?_
  cases b with
  | true =>
    rw [if_pos rfl] at k ⊢
    exact q _ S1 H1 k a1
  | false =>
    rw [if_neg (by decide)] at k ⊢
    exact k S0 H0 S1 H1 σ (g.move a1) Q fun r S' H' kr a => q r S' H' kr (a1.trans g.k a)
theorem tda {a b : Bool} (h1 : TD C ρ tt sl a) (h2 : a = true → TD C ρ tu sl b) : TD C ρ (tAnd tt tu) sl (a && b) := wt_and (h1.w (by
  cases a with
  | true => rw [if_pos rfl]; exact h2 rfl
  | false => rw [if_neg (by decide)]; rfl))
theorem tdo {a b : Bool} (h1 : TD C ρ tt sl a) (h2 : a = false → TD C ρ tu sl b) : TD C ρ (tOr tt tu) sl (a || b) := wt_or (h1.w (by
  cases a with
  | true => rw [if_pos rfl]; rfl
  | false => rw [if_neg (by decide)]; exact h2 rfl))
/-- two comparisons in a row of ints -/
theorem xchain {g1 g2 : Int → Int → Bool} {tc : TE} {i j l : Int} (h1 : XD C ρ ta sl (.dat (.int i))) (h2 : XD C ρ tb sl (.dat (.int j))) (h3 : XD C ρ tc sl (.dat (.int l))) :
    XD C ρ (tChain (rI0 fun i j => .bl (g1 i j)) (rI0 fun i j => .bl (g2 i j)) ta tb tc) sl (.dat (.bl (g1 i j && g2 j l))) := fun S0 H0 S H σ g Q q => by
  refine h1 S0 H0 S H σ g _ fun r1 S1 H1 x e1 a1 ok1 => ?_
  subst e1; cases ok1
  refine h2 S0 H0 S1 H1 σ (g.move a1) _ fun r2 S2 H2 y e2 a2 ok2 => ?_
  subst e2; cases ok2
  have a12 := a1.trans g.k a2
  refine ⟨i, j, rfl, rfl, g1 i j, rfl, ?_⟩
  cases hb : g1 i j with
  | true =>
    rw [if_pos rfl]
    refine h3 S0 H0 S2 H2 σ (g.move a12) _ fun r3 S3 H3 z e3 a3 ok3 => ?_
    subst e3; cases ok3
    exact ⟨j, l, rfl, rfl, q (.dat (.bl (g2 j l))) S3 H3 _ (by rw [hb, Bool.true_and]) (a12.trans g.k a3) (.bl _)⟩
  | false =>
    rw [if_neg (by decide)]
    exact q (.dat (.bl false)) S2 H2 _ (by rw [hb, Bool.false_and]) a12 (.bl _)
end

/-! ## calls of defs -/
section
variable (C : Addr)
/-- a def that changes nothing: what it asks of the data and gives (F ds K: on ds it may end, and what it gives has K) -/
def spD (F : List Dt → (Sl → Prop) → Prop) : Sp := fun vs H Q _ => ∃ S ds K, Ok ρ0 S H ∧ RpAll C S vs ds ∧ F ds K ∧ ∀ r S' H' v, K r → Mv ρ0 S H S' H' → RvOk C ρ0 H S' H' v r → Q v H'
end
theorem RvOk.rho {C : Addr} {ρ ρ' : Rsc} {Hs S H : Hp} {v : V} {r : Sl} (h : RvOk C ρ Hs S H v r) (m : ∀ b, ρ'.M b → ρ.M b) : RvOk C ρ' Hs S H v r := by
  cases r with
  | any => trivial
  | dat d => exact h
  | own d => exact h
  | cell d => exact h
  | raw d => exact h
  | bor d => obtain ⟨p, xs, e, n, q⟩ := h; exact ⟨p, xs, e, fun z => n (m _ z), q⟩
  | bcell P => exact h
/-- nothing borrowed leaves a def -/
def Sl.plain : Sl → Prop
  | .bor _ => False
  | _ => True
section
variable {C : Addr} {ρ : Rsc} {sl : List Sl} {ta : TE} {t : TA} {K : Sl → Prop} {E : XK} {Fn : List Dt → (Sl → Prop) → Prop}
theorem lift_rv {Hs S H : Hp} {v : V} {r : Sl} (p : r.plain) (h : RvOk C ρ0 Hs S H v r) : RvOk C ρ Hs S H v r := by
  cases r with
  | any => trivial
  | dat d => exact h
  | own d => exact h
  | cell d => exact h
  | raw d => exact h
  | bor d => exact p.elim
  | bcell P => exact h
theorem wx_call (h : WA C ρ t sl fun rs => ∃ ds, datsOf rs = some ds ∧ Fn ds (fun r => r.plain ∧ K r)) : WX C ρ (tCall (spD C Fn) [] E t) sl K := fun S0 H0 S H σ g Q q => by
  refine h S0 H0 S H σ g _ fun rs S1 H1 vs ⟨ds, e, f⟩ a1 ok1 => ?_
  rw [List.append_nil]
  refine ⟨S1, ds, _, a1.ok.pure, ok1.dats e, f, fun r S2 H2 v kr a2 ok2 => ?_⟩
  exact q r S2 H2 v kr.2 (a1.trans g.k (a2.lift a1.ok)) ((lift_rv kr.1 ok2).pre fun p => a1.back g.k)
theorem xcall {rs : List Sl} {ds : List Dt} (h : AD C ρ t sl rs) (e : datsOf rs = some ds) (f : Fn ds (fun r => r.plain ∧ K r)) : WX C ρ (tCall (spD C Fn) [] E t) sl K := wx_call (h.w ⟨ds, e, f⟩)
/-- a method of a yard -/
theorem wx_meth {m : Str} (hm : m ≠ "size" ∧ m ≠ "kept" ∧ m ≠ "near") (h : WX C ρ ta sl fun r => ∃ n ts, r = .dat (.yard n ts) ∧ WA C ρ t sl fun rs => ∃ ds, datsOf rs = some ds ∧ Fn (.yard n ts :: ds) (fun r => r.plain ∧ K r)) :
    WX C ρ (tMeth C m (spD C Fn) [] E ta t) sl K := fun S0 H0 S H σ g Q q => by
  refine h S0 H0 S H σ g _ fun r S1 H1 x ⟨n, ts, er, h2⟩ a1 ok1 => ?_
  subst er
  have ok1' := ok1
  cases ok1 with
  | yard h1 h2' h3 r1 r2 e1 e2 =>
    refine ⟨_, _, _, rfl, a1.ok.sh _ _ h1, ?_, ?_⟩
    · unfold yardFs
      have b1 : (m == ("size" : Str)) = false := by simpa using hm.1
      have b2 : (m == ("kept" : Str)) = false := by simpa using hm.2.1
      have b3 : (m == ("near" : Str)) = false := by simpa using hm.2.2
      simp [List.lookup, b1, b2, b3]
    · refine h2 S0 H0 S1 H1 σ (g.move a1) _ fun rs S3 H3 vs ⟨ds, e, f⟩ a3 ok3 => ?_
      have a13 := a1.trans g.k a3
      refine ⟨S3, _, _, a3.ok.pure, .cons (ok1'.mv g.k a1 a3) (by rw [List.append_nil]; exact ok3.dats e), f, fun r S2 H2 v kr a2 ok2 => ?_⟩
      exact q r S2 H2 v kr.2 (a13.trans g.k (a2.lift a3.ok)) ((lift_rv kr.1 ok2).pre fun p => a13.back g.k)
theorem xmeth {m : Str} {n : Nat} {ts : List (Nat × Nat)} {rs : List Sl} {ds : List Dt} (hm : m ≠ "size" ∧ m ≠ "kept" ∧ m ≠ "near") (h : XD C ρ ta sl (.dat (.yard n ts))) (h2 : AD C ρ t sl rs) (e : datsOf rs = some ds) (f : Fn (.yard n ts :: ds) (fun r => r.plain ∧ K r)) :
    WX C ρ (tMeth C m (spD C Fn) [] E ta t) sl K := wx_meth hm (h.w ⟨n, ts, rfl, h2.w ⟨ds, e, f⟩⟩)
end
end D3
namespace D3
open PySem L2 PyProof.Rows

/-! ## targets -/
section
variable (C : Addr) (ρ : Rsc)
/-- r is stored by the target g, which writes the slots ks alone -/
def GD (g : TG) (ks : List Nat) (r : Sl) (sl : List Sl) (K : List Sl → Prop) : Prop := ∀ S0 H0 Sb Hb S H σ v, Good C ρ S0 H0 Sb Hb σ sl → Mv ρ Sb Hb S H → RvOk C ρ Hb S H v r → ∀ Q : L2.St → Hp → Prop,
  (∀ sl' S' H' σ', K sl' → Mv ρ Sb Hb S' H' → Good C ρ S0 H0 S' H' σ' sl' → σ'.length = σ.length → (∀ j, j ∉ ks → σ'[j]? = σ[j]?) → Q σ' H') → g v σ H Q
end
section
variable {C : Addr} {ρ : Rsc} {S0 H0 Hs S H S1 H1 S2 H2 : Hp} {v x y : V} {r r1 r2 r3 : Sl} {sl : List Sl} {σ : L2.St} {te ta tb : TE} {t : TA} {K K' : Sl → Prop} {F : PySem.W.Frag}
theorem gd_name {i : Nat} {K : List Sl → Prop} (k : K (sl.set i r)) : GD C ρ (gName i) [i] r sl K := fun S0 H0 Sb Hb S H σ v g a ok Q q =>
  q _ S H _ k a (g.set a ok) (by simp) fun j hj => by rw [List.getElem?_set_ne]; intro e; exact hj (by simp [e])
/-- .. as data, though it is new -/
theorem gd_nameF {i : Nat} {K : List Sl → Prop} (k : K (sl.set i (fz r))) : GD C ρ (gName i) [i] r sl K := fun S0 H0 Sb Hb S H σ v g a ok Q q => by
  obtain ⟨S2, a2, _, ok2⟩ := ok.fzD g.k a
  exact q _ S2 H _ k a2 (g.set a2 ok2) (by simp) fun j hj => by rw [List.getElem?_set_ne]; intro e; exact hj (by simp [e])
theorem gd_fz {g : TG} {ks : List Nat} {K : List Sl → Prop} (h : GD C ρ g ks (fz r) sl K) : GD C ρ g ks r sl K := fun S0 H0 Sb Hb S H σ v g' a ok Q q => by
  obtain ⟨S2, a2, _, ok2⟩ := ok.fzD g'.k a
  exact h S0 H0 Sb Hb S2 H σ v g' a2 ok2 Q q
theorem gd_imp {g : TG} {ks : List Nat} {K K' : List Sl → Prop} (h : GD C ρ g ks r sl K) (k : ∀ s, K s → K' s) : GD C ρ g ks r sl K' := fun S0 H0 Sb Hb S H σ v g' a ok Q q => h S0 H0 Sb Hb S H σ v g' a ok Q fun sl' S' H' σ' kk => q sl' S' H' σ' (k _ kk)
/-- one, other = .. -/
theorem gd_tup2 {i j : Nat} {d e : Dt} {K : List Sl → Prop} (k : K ((sl.set i (.dat d)).set j (.dat e))) : GD C ρ (gTup F 2 (gCons (gName i) (gCons (gName j) gNil))) [i, j] (.dat (.tup [d, e])) sl K := fun S0 H0 Sb Hb S H σ v g a ok Q q => by
  obtain ⟨p, xs, rfl, sp, hp, ra⟩ := ok.tupD a.ok
  cases ra with
  | cons h1 r1 =>
    cases r1 with
    | cons h2 r2 =>
      cases r2
      refine ⟨_, _, rfl, SqT.of hp, rfl, _, _, rfl, _, _, rfl, rfl, ?_⟩
      have g1 := g.set (i := i) a (r := .dat d) h1
      have g2 := g1.set (i := j) (Mv.refl g1.k) (r := .dat e) h2
      refine q _ S H _ k a g2 (by simp) fun m hm => ?_
      rw [List.getElem?_set_ne, List.getElem?_set_ne]
      · intro e; exact hm (by simp [e])
      · intro e; exact hm (by simp [e])
theorem gd_tup3 {i j l : Nat} {d e f : Dt} {K : List Sl → Prop} (k : K (((sl.set i (.dat d)).set j (.dat e)).set l (.dat f))) : GD C ρ (gTup F 3 (gCons (gName i) (gCons (gName j) (gCons (gName l) gNil)))) [i, j, l] (.dat (.tup [d, e, f])) sl K := fun S0 H0 Sb Hb S H σ v g a ok Q q => by
  obtain ⟨p, xs, rfl, sp, hp, ra⟩ := ok.tupD a.ok
  cases ra with
  | cons h1 r1 =>
    cases r1 with
    | cons h2 r2 =>
      cases r2 with
      | cons h3 r3 =>
        cases r3
        refine ⟨_, _, rfl, SqT.of hp, rfl, _, _, rfl, _, _, rfl, _, _, rfl, rfl, ?_⟩
        have g1 := g.set (i := i) a (r := .dat d) h1
        have g2 := g1.set (i := j) (Mv.refl g1.k) (r := .dat e) h2
        have g3 := g2.set (i := l) (Mv.refl g2.k) (r := .dat f) h3
        refine q _ S H _ k a g3 (by simp) fun m hm => ?_
        rw [List.getElem?_set_ne, List.getElem?_set_ne, List.getElem?_set_ne]
        · intro e; exact hm (by simp [e])
        · intro e; exact hm (by simp [e])
        · intro e; exact hm (by simp [e])

/-! ## statements -/
variable {nx bk ct : List Sl → Prop} {rt : Sl → Prop} {tu tv : TS}
theorem sd_imp {nx' bk' ct' : List Sl → Prop} {rt' : Sl → Prop} {t : TS} (h : SD C ρ t sl nx' rt' bk' ct') (h1 : ∀ s, nx' s → nx s) (h2 : ∀ s, rt' s → rt s) (h3 : ∀ s, bk' s → bk s) (h4 : ∀ s, ct' s → ct s) : SD C ρ t sl nx rt bk ct :=
  fun S0 H0 S H σ g D a b c d => h S0 H0 S H σ g D (fun s _ _ _ k => a s _ _ _ (h1 s k)) (fun s _ _ _ k => b s _ _ _ (h2 s k)) (fun s _ _ _ k => c s _ _ _ (h3 s k)) (fun s _ _ _ k => d s _ _ _ (h4 s k))
theorem sd_next (k : nx sl) : SD C ρ tNext sl nx rt bk ct := fun S0 H0 S H σ g D a _ _ _ => a sl S H σ k (Same.refl S) g
theorem sd_brk (k : bk sl) : SD C ρ tBreak sl nx rt bk ct := fun S0 H0 S H σ g D _ _ b _ => b sl S H σ k (Same.refl S) g
theorem sd_cont (k : ct sl) : SD C ρ tCont sl nx rt bk ct := fun S0 H0 S H σ g D _ _ _ c => c sl S H σ k (Same.refl S) g
/-- from a state that came later -/
theorem sd_from {t : TS} {D : Ends} (h : SD C ρ t sl nx rt bk ct) (g : Good C ρ S0 H0 S H σ sl) (ss : Same S1 S)
    (a : ∀ sl' S' H' σ', nx sl' → Same S1 S' → Good C ρ S0 H0 S' H' σ' sl' → D.nx σ' H') (b : ∀ r S' H' v, rt r → Mv ρ S0 H0 S' H' → RvOk C ρ H0 S' H' v r → D.rt v H')
    (c : ∀ sl' S' H' σ', bk sl' → Same S1 S' → Good C ρ S0 H0 S' H' σ' sl' → D.bk σ' H') (d : ∀ sl' S' H' σ', ct sl' → Same S1 S' → Good C ρ S0 H0 S' H' σ' sl' → D.ct σ' H') : t D σ H :=
  h S0 H0 S H σ g D (fun s S' H' σ' k q => a s S' H' σ' k (ss.trans q)) b (fun s S' H' σ' k q => c s S' H' σ' k (ss.trans q)) (fun s S' H' σ' k q => d s S' H' σ' k (ss.trans q))
theorem sd_seq (h : SD C ρ tu sl (fun s => SD C ρ tv s nx rt bk ct) rt bk ct) : SD C ρ (tSeq tu tv) sl nx rt bk ct := fun S0 H0 S H σ g D a b c d =>
  h S0 H0 S H σ g { D with nx := tv D } (fun s S' H' σ' k ss g' => sd_from (D := D) (t := tv) k g' ss a b c d) b c d
/-- what holds between two statements -/
theorem sd_cut (J : List Sl → Prop) (h : SD C ρ tu sl J rt bk ct) (k : ∀ s, J s → SD C ρ tv s nx rt bk ct) : SD C ρ (tSeq tu tv) sl nx rt bk ct := sd_seq (sd_imp h k (fun _ z => z) (fun _ z => z) fun _ z => z)
theorem sd_asg {g : TG} {ks : List Nat} (h : WX C ρ te sl fun r => GD C ρ g ks r sl nx) : SD C ρ (tAsg te g) sl nx rt bk ct := fun S0 H0 S H σ g' D a _ _ _ => by
  refine h S0 H0 S H σ g' _ fun r S1 H1 v k a1 ok1 => ?_
  exact k S0 H0 S H S1 H1 σ v g' a1 ok1 _ fun sl' S' H' σ' kk m gg _ _ => a sl' S' H' σ' kk m.ss gg
/-- name = e, whatever e gives -/
theorem sd_set {i : Nat} (h : WX C ρ te sl fun r => nx (sl.set i r)) : SD C ρ (tAsg te (gName i)) sl nx rt bk ct := sd_asg (h.imp fun r k => gd_name k)
theorem sd_setF {i : Nat} (h : WX C ρ te sl fun r => nx (sl.set i (fz r))) : SD C ρ (tAsg te (gName i)) sl nx rt bk ct := sd_asg (h.imp fun r k => gd_nameF k)
/-- name = e, and what comes behind -/
theorem sq_set {i : Nat} (h : WX C ρ te sl fun r => SD C ρ tv (sl.set i r) nx rt bk ct) : SD C ρ (tSeq (tAsg te (gName i)) tv) sl nx rt bk ct := sd_seq (sd_set h)
theorem sq_setF {i : Nat} (h : WX C ρ te sl fun r => SD C ρ tv (sl.set i (fz r)) nx rt bk ct) : SD C ρ (tSeq (tAsg te (gName i)) tv) sl nx rt bk ct := sd_seq (sd_setF h)
theorem sq_asg {g : TG} {ks : List Nat} (h : WX C ρ te sl fun r => GD C ρ g ks r sl fun s => SD C ρ tv s nx rt bk ct) : SD C ρ (tSeq (tAsg te g) tv) sl nx rt bk ct := sd_seq (sd_asg h)
theorem sd_drop (h : WX C ρ te sl fun _ => nx sl) : SD C ρ (tDrop te) sl nx rt bk ct := fun S0 H0 S H σ g D a _ _ _ => h S0 H0 S H σ g _ fun r S1 H1 v k a1 _ => a sl S1 H1 σ k a1.ss (g.move a1)
theorem sd_ret (h : WX C ρ te sl fun r => rt r) : SD C ρ (tRet te) sl nx rt bk ct := fun S0 H0 S H σ g D _ b _ _ => h S0 H0 S H σ g _ fun r S1 H1 v k a1 ok => b r S1 H1 v k (g.mv.trans g.k0 a1) (ok.pre fun p => g.mv.back g.k0)
theorem sd_retF (h : WX C ρ te sl fun r => rt (fz r)) : SD C ρ (tRet te) sl nx rt bk ct := sd_ret (wx_fz h)
theorem sd_retN (k : rt (.dat .non)) : SD C ρ tRetN sl nx rt bk ct := fun S0 H0 S H σ g D _ b _ _ => b _ S H _ k g.mv .non
/-- an own list is given back -/
theorem sd_retOwn {i : Nat} {ds : List Dt} (e : sl[i]? = some (.own ds)) (k : rt (.own ds)) : SD C ρ (tRet (tVar i)) sl nx rt bk ct := fun S0 H0 S H σ g D _ b _ _ => by
  obtain ⟨v, ev, h⟩ := g.at e (by intro h; cases h) (by intro d h; cases h) (by intro d h; cases h)
  exact ⟨v, ev, b _ S H v k g.mv h⟩
theorem sd_if {tt : TT} (h : WT C ρ tt sl fun b => if b = true then SD C ρ tu sl nx rt bk ct else SD C ρ tv sl nx rt bk ct) : SD C ρ (tIfS tt tu tv) sl nx rt bk ct := fun S0 H0 S H σ g D a b c d => by
  refine h S0 H0 S H σ g _ fun w S1 H1 k a1 => ?_
  cases w with
  | true => rw [if_pos rfl] at k ⊢; exact sd_from k (g.move a1) a1.ss a b c d
  | false => rw [if_neg (by decide)] at k ⊢; exact sd_from k (g.move a1) a1.ss a b c d
theorem sif {tt : TT} {w : Bool} (h : TD C ρ tt sl w) (h1 : w = true → SD C ρ tu sl nx rt bk ct) (h2 : w = false → SD C ρ tv sl nx rt bk ct) : SD C ρ (tIfS tt tu tv) sl nx rt bk ct := sd_if (h.w (by
  cases w with
  | true => rw [if_pos rfl]; exact h1 rfl
  | false => rw [if_neg (by decide)]; exact h2 rfl))
/-- if .. : return / rest -/
theorem sq_ifW {tt : TT} {ts : TS} (h : WT C ρ tt sl fun w => if w = true then SD C ρ (tSeq tu ts) sl nx rt bk ct else SD C ρ (tSeq tv ts) sl nx rt bk ct) : SD C ρ (tSeq (tIfS tt tu tv) ts) sl nx rt bk ct := fun S0 H0 S H σ g D a b c d => by
  refine h S0 H0 S H σ g _ fun w' S1 H1 k a1 => ?_
  cases w' with
  | true => rw [if_pos rfl] at k ⊢; exact sd_from (D := D) (t := tSeq tu ts) k (g.move a1) a1.ss a b c d
  | false => rw [if_neg (by decide)] at k ⊢; exact sd_from (D := D) (t := tSeq tv ts) k (g.move a1) a1.ss a b c d
theorem sq_if {tt : TT} {w : Bool} {ts : TS} (h : TD C ρ tt sl w) (h1 : w = true → SD C ρ (tSeq tu ts) sl nx rt bk ct) (h2 : w = false → SD C ρ (tSeq tv ts) sl nx rt bk ct) : SD C ρ (tSeq (tIfS tt tu tv) ts) sl nx rt bk ct := sq_ifW (h.w (by
  cases w with
  | true => rw [if_pos rfl]; exact h1 rfl
  | false => rw [if_neg (by decide)]; exact h2 rfl))
theorem sq_next (h : SD C ρ tv sl nx rt bk ct) : SD C ρ (tSeq tNext tv) sl nx rt bk ct := sd_seq (sd_next h)
theorem sq_ret {te : TE} (h : WX C ρ te sl fun r => rt r) : SD C ρ (tSeq (tRet te) tv) sl nx rt bk ct := sd_seq (sd_ret h)
theorem sd_weak {t : TS} {sl' : List Sl} (hl : sl'.length = sl.length) (w : ∀ (i : Nat) (s : Sl), sl'[i]? = some s → s = .any ∨ sl[i]? = some s) (h : SD C ρ t sl' nx rt bk ct) : SD C ρ t sl nx rt bk ct := fun S0 H0 S H σ g => h S0 H0 S H σ (g.weaken hl w)
/-- an own list becomes data -/
theorem sd_freeze {t : TS} {i : Nat} {ds : List Dt} (e : sl[i]? = some (.own ds)) (h : SD C ρ t (sl.set i (.dat (.lst ds))) nx rt bk ct) : SD C ρ t sl nx rt bk ct := fun S0 H0 S H σ g D a b c d => by
  obtain ⟨S', g', ss⟩ := g.freezeAt e
  exact sd_from h g' ss a b c d
/-! ### while -/
theorem sd_while {tc : TT} {tb : TS} (Iv : Nat → List Sl → Prop) (m0 : Nat) (h0 : Iv m0 sl)
    (hs : ∀ m sl', Iv m sl' → WT C ρ tc sl' fun b => if b = true then SD C ρ tb sl' (fun s => ∃ m', m' < m ∧ Iv m' s) rt nx (fun s => ∃ m', m' < m ∧ Iv m' s) else nx sl') : SD C ρ (tWhile tc tb) sl nx rt bk ct := fun S0 H0 S H σ g D a b c d => by
  refine ⟨fun m σ' H' => ∃ S' sl', Iv m sl' ∧ Same S S' ∧ Good C ρ S0 H0 S' H' σ' sl', ⟨m0, S, sl, h0, Same.refl S, g⟩, ?_⟩
  rintro m σ1 H1 ⟨S1, sl1, i1, ss1, g1⟩
  refine hs m sl1 i1 S0 H0 S1 H1 σ1 g1 _ fun w S2 H2 k a2 => ?_
  have g2 := g1.move a2
  have ss2 := ss1.trans a2.ss
  cases w with
  | true =>
    rw [if_pos rfl] at k ⊢
    have fin : ∀ s S' H' σ', (∃ m', m' < m ∧ Iv m' s) → Same S S' → Good C ρ S0 H0 S' H' σ' s → ∃ m', m' < m ∧ ∃ S' sl', Iv m' sl' ∧ Same S S' ∧ Good C ρ S0 H0 S' H' σ' sl' := fun s S' H' σ' ⟨m', hm, i⟩ q g' => ⟨m', hm, S', s, i, q, g'⟩
    exact ⟨fun σ' H' => ∃ m', m' < m ∧ ∃ S' sl', Iv m' sl' ∧ Same S S' ∧ Good C ρ S0 H0 S' H' σ' sl', fun _ _ z => z, sd_from k g2 ss2 fin b a fin⟩
  | false =>
    rw [if_neg (by decide)] at k ⊢
    exact a sl1 S2 H2 σ1 k ss2 g2
/-! ### for -/
/-- a list, new or in the stable part -/
def Sl.lsF : Sl → Option (List Dt)
  | .dat (.lst ds) => some ds
  | .own ds => some ds
  | _ => none
theorem lsF_fz {r : Sl} {ds : List Dt} (e : r.lsF = some ds) : fz r = .dat (.lst ds) := by
  cases r with
  | dat d => cases d <;> simp [Sl.lsF] at e; subst e; rfl
  | own es => cases e; rfl
  | any => cases e
  | cell o => cases e
  | raw o => cases e
  | bor o => cases e
  | bcell o => cases e
theorem sd_forL {tl : TE} {g : TG} {ks : List Nat} {tb : TS} (h : WX C ρ tl sl fun r => ∃ items, r.lsF = some items ∧ ∃ Iv : Nat → List Sl → Prop, Iv 0 sl ∧
      (∀ i d sl', items[i]? = some d → Iv i sl' → GD C ρ g ks (.dat d) sl' fun s => SD C ρ tb s (Iv (i + 1)) rt nx (Iv (i + 1))) ∧ (∀ sl', Iv items.length sl' → nx sl')) :
    SD C ρ (tFor (iList F tl) g tb) sl nx rt bk ct := fun S0 H0 S H σ gd D a b c d => by
  refine h S0 H0 S H σ gd _ fun r S1 H1 v ⟨items, er, Iv, h0, hs, hd⟩ a1 ok1 => ?_
  obtain ⟨S2, a2, _, ok2⟩ := ok1.fzD gd.k a1
  rw [lsF_fz er] at ok2
  obtain ⟨p, xs, rfl, hp, ra⟩ := ok2.lsD a2.ok rfl
  have sp : S2 p = some (.lst xs) := by
    cases ok2 with
    | lst q1 q2 => have := a2.ok.sh _ _ q1; rw [hp] at this; cases this; exact q1
  refine ⟨p, rfl, ⟨xs, SqL.of hp⟩, ?_⟩
  refine for_list (K := F) (a := p) (xs := xs) (fun i σ' H' => ∃ S' sl', Iv i sl' ∧ Good C ρ S0 H0 S' H' σ' sl' ∧ Same S2 S') ⟨S2, sl, h0, gd.move a2, Same.refl _⟩ (fun i σ' H' _ ⟨S', sl', _, g', ss⟩ => SqL.of (g'.k.sh _ _ (ss _ _ sp))) ?_ ?_
  · rintro i x σ3 H3 hx ⟨S3, sl3, i3, g3, ss⟩
    obtain ⟨dd, ed, rd⟩ := ra.getV hx
    refine hs i dd sl3 ed i3 S0 H0 S3 H3 S3 H3 σ3 x g3 (Mv.refl g3.k) (Rp.mono ss rd) _ fun sl4 S4 H4 σ4 k4 m4 g4 _ _ => ?_
    have ss4 : Same S2 S4 := ss.trans m4.ss
    exact sd_from k4 g4 ss4 (fun s S' H' σ' k q g' => ⟨S', s, k, g', q⟩) b (fun s S' H' σ' k q g' => a s S' H' σ' k (a2.ss.trans q) g') (fun s S' H' σ' k q g' => ⟨S', s, k, g', q⟩)
  · rintro σ3 H3 ⟨S3, sl3, i3, g3, ss⟩
    rw [ra.length] at i3
    exact a sl3 S3 H3 σ3 (hd sl3 i3) (a2.ss.trans ss) g3
/-- over a tuple -/
theorem sd_forT {tl : TE} {g : TG} {ks : List Nat} {tb : TS} (h : WX C ρ tl sl fun r => ∃ items, r = .dat (.tup items) ∧ ∃ Iv : Nat → List Sl → Prop, Iv 0 sl ∧
      (∀ i d sl', items[i]? = some d → Iv i sl' → GD C ρ g ks (.dat d) sl' fun s => SD C ρ tb s (Iv (i + 1)) rt nx (Iv (i + 1))) ∧ (∀ sl', Iv items.length sl' → nx sl')) :
    SD C ρ (tFor (iTup F tl) g tb) sl nx rt bk ct := fun S0 H0 S H σ gd D a b c d => by
  refine h S0 H0 S H σ gd _ fun r S1 H1 v ⟨items, er, Iv, h0, hs, hd⟩ a1 ok1 => ?_
  subst er
  obtain ⟨p, xs, rfl, sp, hp, ra⟩ := ok1.tupD a1.ok
  refine ⟨p, rfl, ⟨xs, SqT.of hp⟩, ?_⟩
  refine for_tup (K := F) (a := p) (xs := xs) (fun i σ' H' => ∃ S' sl', Iv i sl' ∧ Good C ρ S0 H0 S' H' σ' sl' ∧ Same S1 S') ⟨S1, sl, h0, gd.move a1, Same.refl _⟩ (fun i σ' H' _ ⟨S', sl', _, g', ss⟩ => SqT.of (g'.k.sh _ _ (ss _ _ sp))) ?_ ?_
  · rintro i x σ3 H3 hx ⟨S3, sl3, i3, g3, ss⟩
    obtain ⟨dd, ed, rd⟩ := ra.getV hx
    refine hs i dd sl3 ed i3 S0 H0 S3 H3 S3 H3 σ3 x g3 (Mv.refl g3.k) (Rp.mono ss rd) _ fun sl4 S4 H4 σ4 k4 m4 g4 _ _ => ?_
    exact sd_from k4 g4 (ss.trans m4.ss) (fun s S' H' σ' k q g' => ⟨S', s, k, g', q⟩) b (fun s S' H' σ' k q g' => a s S' H' σ' k (a1.ss.trans q) g') (fun s S' H' σ' k q g' => ⟨S', s, k, g', q⟩)
  · rintro σ3 H3 ⟨S3, sl3, i3, g3, ss⟩
    rw [ra.length] at i3
    exact a sl3 S3 H3 σ3 (hd sl3 i3) (a1.ss.trans ss) g3
/-- over lo, lo + 1, .. -/
theorem sd_rng {lo : Int} {n : Nat} {g : TG} {ks : List Nat} {tb : TS} {D : Ends} (gd : Good C ρ S0 H0 S H σ sl) (ss0 : Same S1 S)
    (a : ∀ sl' S' H' σ', nx sl' → Same S1 S' → Good C ρ S0 H0 S' H' σ' sl' → D.nx σ' H') (b : ∀ r S' H' v, rt r → Mv ρ S0 H0 S' H' → RvOk C ρ H0 S' H' v r → D.rt v H')
    (Iv : Nat → List Sl → Prop) (h0 : Iv 0 sl) (hs : ∀ i sl', i < n → Iv i sl' → GD C ρ g ks (.dat (.int (lo + i))) sl' fun s => SD C ρ tb s (Iv (i + 1)) rt nx (Iv (i + 1))) (hd : ∀ sl', Iv n sl' → nx sl') :
    ∃ W : Nat → Nat → L2.St → Hp → Prop, (∃ m, W 0 m σ H) ∧ ∀ i m σ H, W i m σ H →
      ((Itr lo n).stop i H ∧ D.nx σ H) ∨ ((Itr lo n).go i H ∧ ∃ N : L2.St → Hp → Prop, (∀ σ' H', N σ' H' → ∃ m', m' < m ∧ W (i + 1) m' σ' H') ∧ ∀ x H', (Itr lo n).yld i H x H' → g x σ H' fun σ2 H2 => tb { D with nx := N, ct := N, bk := D.nx } σ2 H2) := by
  refine for_range (fun i σ' H' => ∃ S' sl', Iv i sl' ∧ Good C ρ S0 H0 S' H' σ' sl' ∧ Same S1 S') ⟨S, sl, h0, gd, ss0⟩ ?_ ?_
  · rintro i σ3 H3 hi ⟨S3, sl3, i3, g3, ss⟩
    refine hs i sl3 hi i3 S0 H0 S3 H3 S3 H3 σ3 _ g3 (Mv.refl g3.k) (.int _) _ fun sl4 S4 H4 σ4 k4 m4 g4 _ _ => ?_
    exact sd_from k4 g4 (ss.trans m4.ss) (fun s S' H' σ' k q g' => ⟨S', s, k, g', q⟩) b (fun s S' H' σ' k q g' => a s S' H' σ' k q g') (fun s S' H' σ' k q g' => ⟨S', s, k, g', q⟩)
  · rintro σ3 H3 ⟨S3, sl3, i3, g3, ss⟩
    exact a sl3 S3 H3 σ3 (hd sl3 i3) ss g3
theorem sd_forR1 {g : TG} {ks : List Nat} {tb : TS} (h : WX C ρ ta sl fun r => ∃ n : Int, r = .dat (.int n) ∧ n ≤ 100000000 ∧ -100000000 ≤ n ∧ ∃ Iv : Nat → List Sl → Prop, Iv 0 sl ∧
      (∀ i sl', i < n.toNat → Iv i sl' → GD C ρ g ks (.dat (.int (i : Int))) sl' fun s => SD C ρ tb s (Iv (i + 1)) rt nx (Iv (i + 1))) ∧ (∀ sl', Iv n.toNat sl' → nx sl')) :
    SD C ρ (tFor (iRng1 (tCons ta tNil)) g tb) sl nx rt bk ct := fun S0 H0 S H σ gd D a b c d => by
  refine h S0 H0 S H σ gd _ fun r S1 H1 v ⟨n, er, hn, hn', Iv, h0, hs, hd⟩ a1 ok1 => ?_
  subst er; cases ok1
  refine ⟨n, rfl, by omega, by omega, ?_⟩
  exact sd_rng (gd.move a1) a1.ss a b Iv h0 (fun i sl' hi hv => by rw [Int.zero_add]; exact hs i sl' hi hv) hd
theorem sd_forR2 {g : TG} {ks : List Nat} {tb : TS} (h : WX C ρ ta sl fun r => ∃ lo : Int, r = .dat (.int lo) ∧ WX C ρ te sl fun r2 => ∃ hi : Int, r2 = .dat (.int hi) ∧ (lo ≤ 100000000 ∧ -100000000 ≤ lo ∧ hi ≤ 100000000 ∧ -100000000 ≤ hi) ∧ ∃ Iv : Nat → List Sl → Prop, Iv 0 sl ∧
      (∀ i sl', i < (hi - lo).toNat → Iv i sl' → GD C ρ g ks (.dat (.int (lo + i))) sl' fun s => SD C ρ tb s (Iv (i + 1)) rt nx (Iv (i + 1))) ∧ (∀ sl', Iv (hi - lo).toNat sl' → nx sl')) :
    SD C ρ (tFor (iRng2 (tCons ta (tCons te tNil))) g tb) sl nx rt bk ct := fun S0 H0 S H σ gd D a b c d => by
  refine h S0 H0 S H σ gd _ fun r S1 H1 v ⟨lo, er, h2⟩ a1 ok1 => ?_
  subst er; cases ok1
  refine h2 S0 H0 S1 H1 σ (gd.move a1) _ fun r2 S2 H2 v2 ⟨hi, er2, hb, Iv, h0, hs, hd⟩ a2 ok2 => ?_
  subst er2; cases ok2
  refine ⟨lo, hi, rfl, ⟨by omega, by omega, by omega, by omega⟩, ?_⟩
  exact sd_rng (gd.move (a1.trans gd.k a2)) (a1.ss.trans a2.ss) a b Iv h0 hs hd
end
end D3
namespace D3
open PySem L2 PyProof.Rows

/-! ## list comprehensions -/
def slW (sl : List Sl) : List Nat → List Sl
  | [] => sl
  | v :: vs => (slW sl vs).set v .any
theorem wipe_get (σ : L2.St) (j : Nat) : ∀ vs : List Nat, (wipe σ vs)[j]? = if j ∈ vs then (if j < σ.length then some none else none) else σ[j]?
  | [] => by simp [wipe]
  | v :: vs => by
    unfold wipe
    by_cases h : v = j
    · subst h
      rw [if_pos (List.mem_cons_self)]
      by_cases hl : v < σ.length
      · rw [if_pos hl, List.getElem?_set_self (by rw [wipe_length]; exact hl)]
      · rw [if_neg hl, List.getElem?_eq_none]
        rw [List.length_set, wipe_length]; omega
    · rw [List.getElem?_set_ne h, wipe_get σ j vs]
      by_cases h2 : j ∈ vs
      · rw [if_pos h2, if_pos (List.mem_cons_of_mem _ h2)]
      · rw [if_neg h2, if_neg]
        intro m
        rcases List.mem_cons.mp m with e | m
        · exact h e.symm
        · exact h2 m
theorem wipe_ext {σ σ' : L2.St} {vs ks : List Nat} (hl : σ'.length = (wipe σ vs).length) (hk : ∀ j ∈ ks, j ∈ vs) (h : ∀ j, j ∉ ks → σ'[j]? = (wipe σ vs)[j]?) : wipe σ' vs = wipe σ vs := by
  apply List.ext_getElem?
  intro j
  rw [wipe_get, wipe_get]
  by_cases m : j ∈ vs
  · rw [if_pos m, if_pos m, hl, wipe_length]
  · rw [if_neg m, if_neg m, h j fun z => m (hk j z), wipe_get, if_neg m]
section
variable {C : Addr} {ρ : Rsc} {S0 H0 Hs S H S1 H1 S2 H2 : Hp} {v x y : V} {r r1 r2 r3 : Sl} {sl : List Sl} {σ : L2.St} {te ta tb : TE} {t : TA} {K K' : Sl → Prop} {F : PySem.W.Frag}
theorem Good.setAny (g : Good C ρ S0 H0 S H σ sl) (i : Nat) (o : Option V) : Good C ρ S0 H0 S H (σ.set i o) (sl.set i .any) := by
  have any : ∀ (j : Nat) (s : Sl), (sl.set i .any)[j]? = some s → s.isOwn → j ≠ i ∧ sl[j]? = some s := fun j s e o => by
    by_cases hj : j = i
    · subst hj
      have hi : j < sl.length := by simpa using (List.getElem?_eq_some_iff.mp e).1
      rw [List.getElem?_set_self hi] at e
      cases e; exact o.elim
    · rw [List.getElem?_set_ne (Ne.symm hj)] at e; exact ⟨hj, e⟩
  refine ⟨g.k1, g.mv, by simp [g.len], fun j s e => ?_, fun j k s t p hjk e1 e2 o1 o2 e3 e4 => ?_⟩
  · by_cases hj : j = i
    · subst hj
      have hi : j < sl.length := by simpa using (List.getElem?_eq_some_iff.mp e).1
      rw [List.getElem?_set_self hi] at e
      cases e; trivial
    · rw [List.getElem?_set_ne (Ne.symm hj)] at e ⊢
      exact g.ok j s e
  · obtain ⟨n1, f1⟩ := any j s e1 o1
    obtain ⟨n2, f2⟩ := any k t e2 o2
    rw [List.getElem?_set_ne (Ne.symm n1)] at e3
    rw [List.getElem?_set_ne (Ne.symm n2)] at e4
    exact g.ne j k s t p hjk f1 f2 o1 o2 e3 e4
theorem Good.wipe (g : Good C ρ S0 H0 S H σ sl) : ∀ vs : List Nat, Good C ρ S0 H0 S H (wipe σ vs) (slW sl vs)
  | [] => g
  | v :: vs => (Good.wipe g vs).setAny v none
/-- as data, whatever it was -/
def Sl.dz (r : Sl) : Option Dt := match r with
  | .dat d => some d
  | .own ds => some (.lst ds)
  | _ => none
theorem dz_fz {r : Sl} {d : Dt} (e : r.dz = some d) : fz r = .dat d := by
  cases r with
  | dat d' => cases e; rfl
  | own es => cases e; rfl
  | any => cases e
  | cell o => cases e
  | raw o => cases e
  | bor o => cases e
  | bcell o => cases e
/-- the state of the list that is made at D, behind some turns -/
def LcP (C : Addr) (ρ : Rsc) (S2 H1 : Hp) (D : Addr) (Iv : Nat → List Dt → Prop) (i : Nat) (H : Hp) : Prop := ∃ S' xs acc, Iv i acc ∧ Mv ρ S2 H1 S' H ∧ S' D = none ∧ H D = some (.lst xs) ∧ RpAll C S' xs acc
theorem lc_turn {g : TG} {tt : TT} {te : TE} {vs ks : List Nat} {D : Addr} {Iv : Nat → List Dt → Prop} {i : Nat} {d : Dt} (gd : Good C ρ S0 H0 S2 H1 σ sl) (hD : H1 D = none) (hk : ∀ j ∈ ks, j ∈ vs) (hx : ∀ S', Same S2 S' → Rp C S' x d)
    (hs : ∀ acc, Iv i acc → GD C ρ g ks (.dat d) (slW sl vs) fun s => WT C ρ tt s fun b => if b = true then WX C ρ te s fun r => ∃ d', r.dz = some d' ∧ acc.length < 1000000 ∧ Iv (i + 1) (acc ++ [d']) else Iv (i + 1) acc)
    (hp : LcP C ρ S2 H1 D Iv i H) : g x (wipe σ vs) H fun σ2 H2 => wipe σ2 vs = wipe σ vs ∧ tt σ2 H2 fun b H3 =>
      if b = true then te σ2 H3 fun y H4 => ∃ acc, H4 D = some (.lst acc) ∧ acc.length < sizeLine ∧ LcP C ρ S2 H1 D Iv (i + 1) (upd H4 D (.lst (acc ++ [y]))) else LcP C ρ S2 H1 D Iv (i + 1) H3 := by
  obtain ⟨S3, xs, acc, iv, mv, sD, hDs, ra⟩ := hp
  have k2 := gd.k
  have g3 := (gd.move mv).wipe vs
  have nM : ¬ ρ.M D := k2.nm hD
  refine hs acc iv S0 H0 S3 H S3 H (wipe σ vs) x g3 (Mv.refl g3.k) (hx S3 mv.ss) _ fun sl4 S4 H4 σ4 k4 m4 g4 hl hj => ?_
  refine ⟨wipe_ext hl hk hj, ?_⟩
  have m24 := mv.trans k2 m4
  have sD4 : S4 D = none := m4.fr D sD (by rw [hDs]; simp)
  have hD4 : H4 D = some (.lst xs) := m4.hh D _ nM hDs
  refine k4 S0 H0 S4 H4 σ4 g4 _ fun b S5 H5 k5 m5 => ?_
  have m25 := m24.trans k2 m5
  have sD5 : S5 D = none := m5.fr D sD4 (by rw [hD4]; simp)
  have hD5 : H5 D = some (.lst xs) := m5.hh D _ nM hD4
  have ra5 : RpAll C S5 xs acc := ra.mono (m4.ss.trans m5.ss)
  cases b with
  | true =>
    rw [if_pos rfl] at k5 ⊢
    refine k5 S0 H0 S5 H5 σ4 (g4.move m5) _ fun r S6 H6 y ⟨d', ed, hz, iv'⟩ m6 ok6 => ?_
    obtain ⟨S7, m7, ss7, ok7⟩ := ok6.fzD m5.ok m6
    rw [dz_fz ed] at ok7
    have m27 := m25.trans k2 m7
    have sD7 : S7 D = none := m7.fr D sD5 (by rw [hD5]; simp)
    have hD7 : H6 D = some (.lst xs) := m7.hh D _ nM hD5
    refine ⟨xs, hD7, by rw [ra.length, sizeLine_eq]; omega, S7, xs ++ [y], acc ++ [d'], iv', m27.mut k2 hD sD7 (nt_lst hD7), sD7, upd_same, ?_⟩
    exact (ra5.mono m7.ss).append (.cons ok7 .nil)
  | false =>
    rw [if_neg (by decide)] at k5 ⊢
    exact ⟨S5, xs, acc, k5, m25, sD5, hD5, ra5⟩
theorem lc_end {D : Addr} {Iv : Nat → List Dt → Prop} {n : Nat} {Q : VK} (k : Ok ρ S H) (a2 : Mv ρ S H S2 H1) (hD : H1 D = none) (q : ∀ r S' H' v, K r → Mv ρ S H S' H' → RvOk C ρ H S' H' v r → Q v H') (hd : ∀ acc, Iv n acc → K (.own acc)) (Hn : Hp) (hp : LcP C ρ S2 H1 D Iv n Hn) : Q (.ref D) Hn := by
  obtain ⟨S3, xs, acc, iv, mv, sD, hDs, ra⟩ := hp
  exact q _ S3 Hn _ (hd acc iv) (a2.trans k mv) ⟨D, xs, rfl, a2.back k hD, sD, hDs, ra⟩
theorem lc_start {D : Addr} {Iv : Nat → List Dt → Prop} (k2 : Ok ρ S2 H1) (hD : H1 D = none) (h0 : Iv 0 []) : LcP C ρ S2 H1 D Iv 0 (upd H1 D (.lst [])) := ⟨S2, [], [], h0, Mv.new k2 hD _, k2.ns hD, upd_same, .nil⟩
theorem wx_lcL {tl : TE} {g : TG} {tt : TT} {te : TE} {vs ks : List Nat} (hk : ∀ j ∈ ks, j ∈ vs) (h : WX C ρ tl sl fun r => ∃ items, r.lsF = some items ∧ ∃ Iv : Nat → List Dt → Prop, Iv 0 [] ∧
      (∀ i d acc, items[i]? = some d → Iv i acc → GD C ρ g ks (.dat d) (slW sl vs) fun s => WT C ρ tt s fun b => if b = true then WX C ρ te s fun r => ∃ d', r.dz = some d' ∧ acc.length < 1000000 ∧ Iv (i + 1) (acc ++ [d']) else Iv (i + 1) acc) ∧
      (∀ acc, Iv items.length acc → K (.own acc))) : WX C ρ (tLc (iList F tl) g tt te vs) sl K := fun S0 H0 S H σ gd Q q => by
  refine h S0 H0 S H σ gd _ fun r S1 H1 v ⟨items, er, Iv, h0, hs, hd⟩ a1 ok1 => ?_
  obtain ⟨S2, a2, _, ok2⟩ := ok1.fzD gd.k a1
  rw [lsF_fz er] at ok2
  obtain ⟨p, xs, rfl, hp, ra⟩ := ok2.lsD a2.ok rfl
  have sp : S2 p = some (.lst xs) := by
    cases ok2 with
    | lst q1 q2 => have := a2.ok.sh _ _ q1; rw [hp] at this; cases this; exact q1
  refine ⟨p, rfl, ⟨xs, SqL.of hp⟩, fun D hD => ?_⟩
  refine lc_list (K := F) (a := p) (xs := xs) (LcP C ρ S2 H1 D Iv) (lc_start a2.ok hD h0) (fun i H' _ ⟨S', _, _, _, m, _⟩ => SqL.of (m.ok.sh _ _ (m.ss _ _ sp))) ?_ (fun H' hp' => lc_end gd.k a2 hD q (by rw [ra.length]; exact hd) H' hp')
  intro i x H3 hx hp3
  obtain ⟨d, ed, rd⟩ := ra.getV hx
  exact lc_turn (gd.move a2) hD hk (fun S' ss => Rp.mono ss rd) (fun acc iv => hs i d acc ed iv) hp3
theorem wx_lcT {tl : TE} {g : TG} {tt : TT} {te : TE} {vs ks : List Nat} (hk : ∀ j ∈ ks, j ∈ vs) (h : WX C ρ tl sl fun r => ∃ items, r = .dat (.tup items) ∧ ∃ Iv : Nat → List Dt → Prop, Iv 0 [] ∧
      (∀ i d acc, items[i]? = some d → Iv i acc → GD C ρ g ks (.dat d) (slW sl vs) fun s => WT C ρ tt s fun b => if b = true then WX C ρ te s fun r => ∃ d', r.dz = some d' ∧ acc.length < 1000000 ∧ Iv (i + 1) (acc ++ [d']) else Iv (i + 1) acc) ∧
      (∀ acc, Iv items.length acc → K (.own acc))) : WX C ρ (tLc (iTup F tl) g tt te vs) sl K := fun S0 H0 S H σ gd Q q => by
  refine h S0 H0 S H σ gd _ fun r S1 H1 v ⟨items, er, Iv, h0, hs, hd⟩ a1 ok1 => ?_
  subst er
  obtain ⟨p, xs, rfl, sp, hp, ra⟩ := ok1.tupD a1.ok
  refine ⟨p, rfl, ⟨xs, SqT.of hp⟩, fun D hD => ?_⟩
  refine lc_tup (K := F) (a := p) (xs := xs) (LcP C ρ S1 H1 D Iv) (lc_start a1.ok hD h0) (fun i H' _ ⟨S', _, _, _, m, _⟩ => SqT.of (m.ok.sh _ _ (m.ss _ _ sp))) ?_ (fun H' hp' => lc_end gd.k a1 hD q (by rw [ra.length]; exact hd) H' hp')
  intro i x H3 hx hp3
  obtain ⟨d, ed, rd⟩ := ra.getV hx
  exact lc_turn (gd.move a1) hD hk (fun S' ss => Rp.mono ss rd) (fun acc iv => hs i d acc ed iv) hp3
theorem wx_lcR1 {g : TG} {tt : TT} {te : TE} {vs ks : List Nat} (hk : ∀ j ∈ ks, j ∈ vs) (h : WX C ρ ta sl fun r => ∃ n : Int, r = .dat (.int n) ∧ n ≤ 100000000 ∧ -100000000 ≤ n ∧ ∃ Iv : Nat → List Dt → Prop, Iv 0 [] ∧
      (∀ i acc, i < n.toNat → Iv i acc → GD C ρ g ks (.dat (.int (i : Int))) (slW sl vs) fun s => WT C ρ tt s fun b => if b = true then WX C ρ te s fun r => ∃ d', r.dz = some d' ∧ acc.length < 1000000 ∧ Iv (i + 1) (acc ++ [d']) else Iv (i + 1) acc) ∧
      (∀ acc, Iv n.toNat acc → K (.own acc))) : WX C ρ (tLc (iRng1 (tCons ta tNil)) g tt te vs) sl K := fun S0 H0 S H σ gd Q q => by
  refine h S0 H0 S H σ gd _ fun r S1 H1 v ⟨n, er, hn, hn', Iv, h0, hs, hd⟩ a1 ok1 => ?_
  subst er; cases ok1
  refine ⟨n, rfl, by omega, by omega, fun D hD => ?_⟩
  refine lc_range (LcP C ρ S1 H1 D Iv) (lc_start a1.ok hD h0) ?_ (fun H' hp' => lc_end gd.k a1 hD q hd H' hp')
  intro i H3 hi hp3
  rw [Int.zero_add]
  exact lc_turn (gd.move a1) hD hk (fun S' ss => .int _) (fun acc iv => hs i acc hi iv) hp3
theorem wx_lcR2 {g : TG} {tt : TT} {te : TE} {tb : TE} {vs ks : List Nat} (hk : ∀ j ∈ ks, j ∈ vs) (h : WX C ρ ta sl fun r => ∃ lo : Int, r = .dat (.int lo) ∧ WX C ρ tb sl fun r2 => ∃ hi : Int, r2 = .dat (.int hi) ∧ (lo ≤ 100000000 ∧ -100000000 ≤ lo ∧ hi ≤ 100000000 ∧ -100000000 ≤ hi) ∧ ∃ Iv : Nat → List Dt → Prop, Iv 0 [] ∧
      (∀ i acc, i < (hi - lo).toNat → Iv i acc → GD C ρ g ks (.dat (.int (lo + i))) (slW sl vs) fun s => WT C ρ tt s fun b => if b = true then WX C ρ te s fun r => ∃ d', r.dz = some d' ∧ acc.length < 1000000 ∧ Iv (i + 1) (acc ++ [d']) else Iv (i + 1) acc) ∧
      (∀ acc, Iv (hi - lo).toNat acc → K (.own acc))) : WX C ρ (tLc (iRng2 (tCons ta (tCons tb tNil))) g tt te vs) sl K := fun S0 H0 S H σ gd Q q => by
  refine h S0 H0 S H σ gd _ fun r S1 H1 v ⟨lo, er, h2⟩ a1 ok1 => ?_
  subst er; cases ok1
  refine h2 S0 H0 S1 H1 σ (gd.move a1) _ fun r2 S2 H2 v2 ⟨hi, er2, hb, Iv, h0, hs, hd⟩ a2 ok2 => ?_
  subst er2; cases ok2
  have a12 := a1.trans gd.k a2
  refine ⟨lo, hi, rfl, ⟨by omega, by omega, by omega, by omega⟩, fun D hD => ?_⟩
  refine lc_range (LcP C ρ S2 H2 D Iv) (lc_start a12.ok hD h0) ?_ (fun H' hp' => lc_end gd.k a12 hD q hd H' hp')
  intro i H3 hi hp3
  exact lc_turn (gd.move a12) hD hk (fun S' ss => .int _) (fun acc iv => hs i acc hi iv) hp3
theorem wt_yes {KB : Bool → Prop} (k : KB true) : WT C ρ tYes sl KB := fun S0 H0 S H σ g Q q => q true S H k (Mv.refl g.k)
theorem tdy : TD C ρ tYes sl true := wt_yes rfl
/-! the plain ones: items xs, each coded by f; kept by b; made by e -/
variable {α : Type}
def LcD {α : Type} (xs : List α) (b : α → Bool) (e : α → Dt) (i : Nat) (acc : List Dt) : Prop := acc = ((xs.take i).filter b).map e
theorem LcD.len {xs : List α} {b : α → Bool} {e : α → Dt} {i : Nat} {acc : List Dt} (h : LcD xs b e i acc) : acc.length ≤ xs.length := by
  rw [h, List.length_map]
  exact Nat.le_trans (List.length_filter_le _ _) (by rw [List.length_take]; omega)
theorem take_succ {xs : List α} {i : Nat} {x : α} (h : xs[i]? = some x) : xs.take (i + 1) = xs.take i ++ [x] := by
  rw [List.take_add_one, h]; rfl
theorem LcD.yes {xs : List α} {b : α → Bool} {e : α → Dt} {i : Nat} {acc : List Dt} {x : α} (h : LcD xs b e i acc) (hx : xs[i]? = some x) (hb : b x = true) : LcD xs b e (i + 1) (acc ++ [e x]) := by
  unfold LcD at h ⊢
  rw [take_succ hx, List.filter_append, List.map_append, h]
  simp [hb]
theorem LcD.no {xs : List α} {b : α → Bool} {e : α → Dt} {i : Nat} {acc : List Dt} {x : α} (h : LcD xs b e i acc) (hx : xs[i]? = some x) (hb : b x = false) : LcD xs b e (i + 1) acc := by
  unfold LcD at h ⊢
  rw [take_succ hx, List.filter_append, List.map_append, h]
  simp [hb]
theorem LcD.all {xs : List α} {b : α → Bool} {e : α → Dt} {acc : List Dt} (h : LcD xs b e xs.length acc) : acc = (xs.filter b).map e := by
  unfold LcD at h
  rw [List.take_length] at h; exact h
/-- one turn of a plain one -/
theorem lcd_turn {g : TG} {ks : List Nat} {s0 : List Sl} {tt : TT} {te : TE} {xs : List α} {b : α → Bool} {e : α → Dt} {d : Dt} {i : Nat} {x : α} (hx : xs[i]? = some x) (hz : xs.length < 1000000)
    (hs : GD C ρ g ks (.dat d) s0 fun s => TD C ρ tt s (b x) ∧ (b x = true → WX C ρ te s fun r => r.dz = some (e x))) (acc : List Dt) (iv : LcD xs b e i acc) :
    GD C ρ g ks (.dat d) s0 fun s => WT C ρ tt s fun w => if w = true then WX C ρ te s fun r => ∃ d', r.dz = some d' ∧ acc.length < 1000000 ∧ LcD xs b e (i + 1) (acc ++ [d']) else LcD xs b e (i + 1) acc :=
  gd_imp hs fun s ⟨h1, h2⟩ => h1.w (by
    cases hb : b x with
    | true => rw [if_pos rfl]; exact (h2 hb).imp fun r er => ⟨e x, er, Nat.lt_of_le_of_lt iv.len hz, iv.yes hx hb⟩
    | false => rw [if_neg (by decide)]; exact iv.no hx hb)
theorem xlcL {tl : TE} {g : TG} {tt : TT} {te : TE} {vs ks : List Nat} (hk : ∀ j ∈ ks, j ∈ vs) {r0 : Sl} (hl : XD C ρ tl sl r0) (xs : List α) (f : α → Dt) (b : α → Bool) (e : α → Dt) (e0 : r0.lsF = some (xs.map f)) (hz : xs.length < 1000000)
    (hs : ∀ x ∈ xs, GD C ρ g ks (.dat (f x)) (slW sl vs) fun s => TD C ρ tt s (b x) ∧ (b x = true → WX C ρ te s fun r => r.dz = some (e x))) : XD C ρ (tLc (iList F tl) g tt te vs) sl (.own ((xs.filter b).map e)) := by
  refine wx_lcL hk (hl.w ⟨xs.map f, e0, LcD xs b e, rfl, fun i d acc hd iv => ?_, fun acc iv => ?_⟩)
  · rw [List.getElem?_map] at hd
    cases q : xs[i]? with
    | none => rw [q] at hd; cases hd
    | some x =>
      rw [q] at hd; cases hd
      exact lcd_turn q hz (hs x (List.mem_of_getElem? q)) acc iv
  · rw [List.length_map] at iv
    rw [iv.all]
theorem xlcR1 {g : TG} {tt : TT} {te : TE} {vs ks : List Nat} (hk : ∀ j ∈ ks, j ∈ vs) {n : Nat} (hl : XD C ρ ta sl (.dat (.int (n : Int)))) (b : Nat → Bool) (e : Nat → Dt) (hz : n < 1000000)
    (hs : ∀ x, x < n → GD C ρ g ks (.dat (.int (x : Int))) (slW sl vs) fun s => TD C ρ tt s (b x) ∧ (b x = true → WX C ρ te s fun r => r.dz = some (e x))) : XD C ρ (tLc (iRng1 (tCons ta tNil)) g tt te vs) sl (.own (((List.range n).filter b).map e)) := by
  refine wx_lcR1 hk (hl.w ⟨n, rfl, by omega, by omega, LcD (List.range n) b e, rfl, fun i acc hi iv => ?_, fun acc iv => ?_⟩)
  · have hi' : i < n := by omega
    exact lcd_turn (x := i) (by rw [List.getElem?_range hi']) (by rw [List.length_range]; exact hz) (hs i hi') acc iv
  · have e1 : (n : Int).toNat = (List.range n).length := by simp
    rw [e1] at iv
    rw [iv.all]
theorem xlcR2 {g : TG} {tt : TT} {te tb : TE} {vs ks : List Nat} (hk : ∀ j ∈ ks, j ∈ vs) {lo hi : Nat} {l h : Int} (hl : XD C ρ ta sl (.dat (.int l))) (hh : XD C ρ tb sl (.dat (.int h))) (el : l = (lo : Int)) (eh : h = (hi : Int)) (b : Nat → Bool) (e : Nat → Dt) (hz : hi < 1000000) (hz2 : lo < 1000000)
    (hs : ∀ x, lo ≤ x → x < hi → GD C ρ g ks (.dat (.int (x : Int))) (slW sl vs) fun s => TD C ρ tt s (b x) ∧ (b x = true → WX C ρ te s fun r => r.dz = some (e x))) : XD C ρ (tLc (iRng2 (tCons ta (tCons tb tNil))) g tt te vs) sl (.own (((List.range' lo (hi - lo)).filter b).map e)) := by
  subst el eh
  refine wx_lcR2 hk (hl.w ⟨lo, rfl, hh.w ⟨hi, rfl, ⟨by omega, by omega, by omega, by omega⟩, LcD (List.range' lo (hi - lo)) b e, rfl, fun i acc hlt iv => ?_, fun acc iv => ?_⟩⟩)
  · have hi' : i < hi - lo := by omega
    have ex : (List.range' lo (hi - lo))[i]? = some (lo + i) := by rw [List.getElem?_range' hi']; simp
    have ec : ((lo : Int) + (i : Int)) = ((lo + i : Nat) : Int) := by omega
    rw [ec]
    exact lcd_turn (x := lo + i) ex (by rw [List.length_range']; omega) (hs (lo + i) (by omega) (by omega)) acc iv
  · have e1 : ((hi : Int) - (lo : Int)).toNat = (List.range' lo (hi - lo)).length := by
      rw [List.length_range']; omega
    rw [e1] at iv
    rw [iv.all]
end
end D3
namespace D3
open PySem L2 PyProof.Rows
section
variable {C : Addr} {ρ : Rsc} {S0 H0 Hs S H S1 H1 S2 H2 : Hp} {v x y : V} {r r1 r2 r3 : Sl} {sl : List Sl} {σ : L2.St} {te ta tb : TE} {t : TA} {K K' : Sl → Prop} {F : PySem.W.Frag} {nx bk ct : List Sl → Prop} {rt : Sl → Prop} {tu tv : TS}
/-! ## what is ours, changed -/
/-- the own thing that stands in slot i -/
theorem Good.own (g : Good C ρ S0 H0 S H σ sl) {i : Nat} {ds : List Dt} (e : sl[i]? = some (.own ds)) : ∃ p xs, σ[i]? = some (some (.ref p)) ∧ H0 p = none ∧ S p = none ∧ H p = some (.lst xs) ∧ RpAll C S xs ds := by
  obtain ⟨v, ev, p, xs, rfl, h⟩ := g.at e (by intro h; cases h) (by intro d h; cases h) (by intro d h; cases h)
  exact ⟨p, xs, ev, h⟩
theorem Good.cellD (g : Good C ρ S0 H0 S H σ sl) {i : Nat} {o : HO} {ho : ∀ xs, o ≠ .tup xs} (e : sl[i]? = some (.cell (cellO o ho))) : ∃ p, σ[i]? = some (some (.ref p)) ∧ H0 p = none ∧ S p = none ∧ H p = some o := by
  obtain ⟨v, ev, p, u, rfl, z0, z1, z2, z3⟩ := g.at e (by intro h; cases h) (by intro d h; cases h) (by intro d h; cases h)
  have z4 : u = o := z3
  exact ⟨p, ev, z0, z1, by rw [z2, z4]⟩
/-- xs.append(e) -/
theorem sd_append {i : Nat} {ds : List Dt} (e : sl[i]? = some (.own ds)) (hl : ds.length < 1000000) (h : WX C ρ te sl fun r => ∃ d, r.dz = some d ∧ nx (sl.set i (.own (ds ++ [d])))) :
    SD C ρ (tDrop (tBM F "list" rAppend (tVar i) (tCons te tNil))) sl nx rt bk ct := fun S0 H0 S H σ g D a _ _ _ => by
  obtain ⟨p, xs, ev, h0, hs, hp, ra⟩ := g.own e
  refine ⟨_, ev, .inl ⟨rfl, _, .inl (.inl hp)⟩, ?_⟩
  refine h S0 H0 S H σ g _ fun r S1 H1 y ⟨d, ed, k⟩ a1 ok1 => ?_
  obtain ⟨S2, a2, _, ok2⟩ := ok1.fzD g.k a1
  rw [dz_fz ed] at ok2
  have hp2 : H1 p = some (.lst xs) := a2.hh p _ (g.k0.nm h0) hp
  have hs2 : S2 p = none := a2.fr p hs (by rw [hp]; simp)
  refine ⟨p, xs, y, rfl, rfl, hp2, by rw [ra.length, sizeLine_eq]; omega, ?_⟩
  exact a _ S2 _ σ k a2.ss ((g.move a2).mutAt e trivial ev _ _ trivial ⟨p, xs ++ [y], rfl, h0, hs2, upd_same, (ra.mono a2.ss).append (.cons ok2 .nil)⟩)
/-- xs.extend(ys) -/
theorem sd_extend {i : Nat} {ds : List Dt} (e : sl[i]? = some (.own ds)) (h : WX C ρ te sl fun r => ∃ es, r.lsF = some es ∧ ds.length + es.length < 1000000 ∧ nx (sl.set i (.own (ds ++ es)))) :
    SD C ρ (tDrop (tBM F "list" rExtend (tVar i) (tCons te tNil))) sl nx rt bk ct := fun S0 H0 S H σ g D a _ _ _ => by
  obtain ⟨p, xs, ev, h0, hs, hp, ra⟩ := g.own e
  refine ⟨_, ev, .inl ⟨rfl, _, .inl (.inl hp)⟩, ?_⟩
  refine h S0 H0 S H σ g _ fun r S1 H1 y ⟨es, ed, hl, k⟩ a1 ok1 => ?_
  obtain ⟨S2, a2, _, ok2⟩ := ok1.fzD g.k a1
  rw [lsF_fz ed] at ok2
  obtain ⟨q, ys, rfl, hq, rq⟩ := ok2.lsD a2.ok rfl
  have hp2 : H1 p = some (.lst xs) := a2.hh p _ (g.k0.nm h0) hp
  have hs2 : S2 p = none := a2.fr p hs (by rw [hp]; simp)
  refine ⟨p, q, xs, ys, rfl, rfl, hp2, hq, by rw [ra.length, rq.length, sizeLine_eq]; omega, ?_⟩
  exact a _ S2 _ σ k a2.ss ((g.move a2).mutAt e trivial ev _ _ trivial ⟨p, xs ++ ys, rfl, h0, hs2, upd_same, (ra.mono a2.ss).append rq⟩)
/-- xs.clear() -/
theorem sd_clear {i : Nat} {ds : List Dt} (e : sl[i]? = some (.own ds)) (k : nx (sl.set i (.own []))) : SD C ρ (tDrop (tBM0 F "list" rClear (tVar i))) sl nx rt bk ct := fun S0 H0 S H σ g D a _ _ _ => by
  obtain ⟨p, xs, ev, h0, hs, hp, ra⟩ := g.own e
  refine ⟨_, ev, .inl ⟨rfl, _, .inl (.inl hp)⟩, p, xs, rfl, rfl, hp, ?_⟩
  exact a _ S _ σ k (Same.refl S) (g.mutAt e trivial ev _ _ trivial ⟨p, [], rfl, h0, hs, upd_same, .nil⟩)
/-- xs[j] = e -/
theorem sd_setL {i : Nat} {ds : List Dt} {rset : TSet} (hrs : ∀ o k v H Q, rSetL o k v H Q → rset o k v H Q) (e : sl[i]? = some (.own ds)) (h : WX C ρ te sl fun r => ∃ d, r.dz = some d ∧ WX C ρ ta sl fun r2 => ∃ j : Int, ∃ k : Nat, r2 = .dat (.int j) ∧ ixN ds.length j = some k ∧ nx (sl.set i (.own (ds.set k d)))) :
    SD C ρ (tAsg te (gSub (tVar i) ta rset)) sl nx rt bk ct := fun S0 H0 S H σ g D a _ _ _ => by
  obtain ⟨p, xs, ev, h0, hs, hp, ra⟩ := g.own e
  refine h S0 H0 S H σ g _ fun r S1 H1 y ⟨d, ed, h2⟩ a1 ok1 => ?_
  obtain ⟨S2, a2, _, ok2⟩ := ok1.fzD g.k a1
  rw [dz_fz ed] at ok2
  refine ⟨_, ev, ?_⟩
  refine h2 S0 H0 S2 H1 σ (g.move a2) _ fun r2 S3 H3 z ⟨j, k, e2, ej, kk⟩ a3 ok3 => ?_
  subst e2; cases ok3
  have a23 := a2.trans g.k a3
  have hp3 : H3 p = some (.lst xs) := a23.hh p _ (g.k0.nm h0) hp
  have hs3 : S3 p = none := a23.fr p hs (by rw [hp]; simp)
  refine hrs _ _ _ _ _ ⟨p, xs, j, k, rfl, rfl, hp3, by rw [ra.length]; exact ej, ?_⟩
  exact a _ S3 _ σ kk a23.ss ((g.move a23).mutAt e trivial ev _ _ trivial ⟨p, xs.set k y, rfl, h0, hs3, upd_same, (ra.mono a23.ss).set (Rp.mono a3.ss ok2) k⟩)
/-- xs.pop(j), as a value -/
theorem wx_popAt {i : Nat} {ds : List Dt} {j : Int} {k : Nat} {d : Dt} : True := trivial
/-! ## slices -/
variable {tl th : TO}
def WO (C : Addr) (ρ : Rsc) (to : TO) (sl : List Sl) (K : Option Int → Prop) : Prop := ∀ S0 H0 S H σ, Good C ρ S0 H0 S H σ sl → ∀ Q : Option Int → Hp → Prop, (∀ o S' H', K o → Mv ρ S H S' H' → Q o H') → to σ H Q
theorem wo_none {KO : Option Int → Prop} (k : KO none) : WO C ρ tNoPart sl KO := fun S0 H0 S H σ g Q q => q none S H k (Mv.refl g.k)
theorem wo_some {KO : Option Int → Prop} (h : WX C ρ te sl fun r => ∃ i : Int, r = .dat (.int i) ∧ KO (some i)) : WO C ρ (tPart te) sl KO := fun S0 H0 S H σ g Q q => by
  refine h S0 H0 S H σ g _ fun r S1 H1 x ⟨i, e, k⟩ a1 ok1 => ?_
  subst e; cases ok1
  exact ⟨i, rfl, q _ S1 H1 k a1⟩
theorem xon : WO C ρ tNoPart sl (· = none) := wo_none rfl
theorem xos {i : Int} (h : XD C ρ te sl (.dat (.int i))) : WO C ρ (tPart te) sl (· = some i) := wo_some (h.w ⟨i, rfl, rfl⟩)
def rSlAny (F : PySem.W.Frag) : V → Option Int → Option Int → Hp → VK → Prop := fun x lo hi H Q => rSlL F x lo hi H Q ∨ (rSlA F x lo hi H Q ∨ rSlS x lo hi H Q)
theorem sl_any {X : Cx} : SlR X (rSlAny X.K) := sl_list.or (sl_tupA.or sl_str)
def SLD (C : Addr) (ρ : Rsc) (F : PySem.W.Frag) (r : Sl) (lo hi : Option Int) (K : Sl → Prop) : Prop := ∀ Hs S H x, (∀ p, H p = none → Hs p = none) → Ok ρ S H → RvOk C ρ Hs S H x r → ∀ Q : VK, (∀ q S' H' v, K q → Mv ρ S H S' H' → RvOk C ρ H S' H' v q → Q v H') → rSlAny F x lo hi H Q
theorem wx_slice (h : WX C ρ te sl fun r => WO C ρ tl sl fun lo => WO C ρ th sl fun hi => SLD C ρ F r lo hi K) : WX C ρ (tSl (rSlAny F) te tl th) sl K := fun S0 H0 S H σ g Q q => by
  refine h S0 H0 S H σ g _ fun r S1 H1 x h2 a1 ok1 => ?_
  refine h2 S0 H0 S1 H1 σ (g.move a1) _ fun lo S2 H2 h3 a2 => ?_
  have a12 := a1.trans g.k a2
  refine h3 S0 H0 S2 H2 σ (g.move a12) _ fun hi S3 H3 h4 a3 => ?_
  have a13 := a12.trans g.k a3
  exact h4 H S3 H3 x (fun p => a13.back g.k) a13.ok ((ok1.mv g.k a1 a2).mv g.k a12 a3) Q fun r S' H' v kr a ok => q r S' H' v kr (a13.trans g.k a) (ok.pre fun p => a13.back g.k)
theorem xslice {lo hi : Option Int} (h : XD C ρ te sl r) (h1 : WO C ρ tl sl (· = lo)) (h2 : WO C ρ th sl (· = hi)) (k : SLD C ρ F r lo hi K) : WX C ρ (tSl (rSlAny F) te tl th) sl K :=
  wx_slice (h.w fun S0 H0 S H σ g Q q => h1 S0 H0 S H σ g _ fun o S' H' e a => q o S' H' (by subst e; exact fun S0 H0 S H σ g Q q => h2 S0 H0 S H σ g _ fun o S' H' e a => q o S' H' (by subst e; exact k) a) a)
theorem sld_l {ds : List Dt} {lo hi : Option Int} (e : r.ls = some ds) (k : K (.own (cutD ds lo hi))) : SLD C ρ F r lo hi K := fun Hs S H x _ ok h Q q => by
  obtain ⟨a, us, rfl, ha, ra⟩ := h.lsD ok e
  exact .inl ⟨a, us, rfl, SqL.of ha, fin_new ok q k (cut_rp ra lo hi)⟩
theorem cut_all {α : Type} {ds : List α} {lo hi : Option Int} (h : HT.sIx ds.length 0 lo = 0 ∧ HT.sIx ds.length ds.length hi = ds.length) : cutD ds lo hi = ds := by
  unfold cutD
  rw [h.1, h.2]
  simp
theorem sld_t {ds : List Dt} {lo hi : Option Int} (k : K (.dat (.tup (cutD ds lo hi)))) : SLD C ρ F (.dat (.tup ds)) lo hi K := fun Hs S H x _ ok h Q q => by
  obtain ⟨a, us, rfl, sa, ha, ra⟩ := h.tupD ok
  refine .inr (.inl ⟨a, us, rfl, SqT.of ha, fun e => ?_, fun _ => fin_tup ok q k (cut_rp ra lo hi)⟩)
  rw [ra.length] at e
  rw [cut_all e] at k
  exact fin_dat ok q k (.tup sa ra)
theorem sld_s {z : Str} {lo hi : Option Int} (hz : z.length ≤ sizeLine) (k : K (.dat (.str (cutS z lo hi)))) : SLD C ρ F (.dat (.str z)) lo hi K := fun Hs S H x _ ok h Q q => by
  cases h
  exact .inr (.inr ⟨z, rfl, hz, fin_dat ok q k (.str _)⟩)
/-- list(range(a)), list(range(a, b)) -/
def rngD (lo : Int) (n : Nat) : List Dt := (List.range n).map fun (i : Nat) => .int (lo + (i : Int))
theorem rgV_rp {H : Hp} (a b : Int) : RpAll C H (rgV a b) (rngD a (b - a).toNat) := by
  unfold rgV rngD
  induction List.range (b - a).toNat with
  | nil => exact .nil
  | cons x xs ih => exact .cons (.int _) ih
theorem wx_lrng1 (h : WX C ρ ta sl fun r => ∃ n : Int, r = .dat (.int n) ∧ 0 ≤ n ∧ n ≤ 1000000 ∧ K (.own (rngD 0 n.toNat))) : WX C ρ (tLstRg (tRg1 ta)) sl K := fun S0 H0 S H σ g Q q => by
  refine h S0 H0 S H σ g _ fun r S1 H1 x ⟨n, e, hn, hn', k⟩ a1 ok1 => ?_
  subst e; cases ok1
  refine ⟨n, rfl, RgOk.of_le (by omega) (by omega) (by omega) (by omega), ?_⟩
  have : (n - 0).toNat = n.toNat := by rw [Int.sub_zero]
  exact fin_new a1.ok (fun r S' H' v kr a ok => q r S' H' v kr (a1.trans g.k a) (ok.pre fun p => a1.back g.k)) k (by have h := rgV_rp (C := C) (H := S1) 0 n; rw [this] at h; exact h)
theorem rngD_range (n : Nat) : rngD 0 ((n : Int).toNat) = (List.range n).map natD := by
  unfold rngD natD
  rw [Int.toNat_natCast]
  apply List.map_congr_left
  intro a _
  rw [Int.zero_add]
theorem xlrng {n : Nat} (h : XD C ρ ta sl (.dat (.int (n : Int)))) (hn : n ≤ 1000000) : XD C ρ (tLstRg (tRg1 ta)) sl (.own ((List.range n).map natD)) := wx_lrng1 (h.w ⟨n, rfl, by omega, by omega, by rw [rngD_range]⟩)
end

/-! ## the entry of a def -/
section
variable {C : Addr} {N : List Str} {vs : List V} {H : Hp} {Q : VK} {E : XK} {t : TS} {Fn : List Dt → (Sl → Prop) → Prop}
def initS (N : List Str) (rs : List Sl) : List Sl := rs ++ List.replicate (N.length - rs.length) .any
theorem start_get {N : List Str} {vs : List V} {i : Nat} {v : V} (h : vs[i]? = some v) : (L2.start N vs)[i]? = some (some v) := by
  unfold L2.start
  have hi : i < (vs.map some).length := by rw [List.length_map]; exact (List.getElem?_eq_some_iff.mp h).1
  rw [List.getElem?_append_left hi, List.getElem?_map, h]; rfl
theorem start_len (N : List Str) (vs : List V) (h : vs.length ≤ N.length) : (L2.start N vs).length = N.length := by
  unfold L2.start
  rw [List.length_append, List.length_map, List.length_replicate]; omega
theorem good_start {ρ : Rsc} {S : Hp} {rs : List Sl} (k : Ok ρ S H) (r : RvsOk C ρ H S H vs rs) (hl : vs.length ≤ N.length) (hn : ∀ s ∈ rs, ¬ s.isOwn) (ax : ρ.A S H := by trivial) : Good C ρ S H S H (L2.start N vs) (initS N rs) := by
  have hlen : ∀ {vs : List V} {rs : List Sl}, RvsOk C ρ H S H vs rs → vs.length = rs.length := by
    intro vs
    induction vs with
    | nil => intro rs h; cases rs with
      | nil => rfl
      | cons => exact h.elim
    | cons v vs ih => intro rs h; cases rs with
      | nil => exact h.elim
      | cons r rs => rw [List.length_cons, List.length_cons, ih h.2]
  have el := hlen r
  have get : ∀ {vs : List V} {rs : List Sl}, RvsOk C ρ H S H vs rs → ∀ (i : Nat) (s : Sl), rs[i]? = some s → ∃ v, vs[i]? = some v ∧ RvOk C ρ H S H v s := by
    intro vs
    induction vs with
    | nil => intro rs h i s e; cases rs with
      | nil => simp at e
      | cons => exact h.elim
    | cons v vs ih => intro rs h i s e; cases rs with
      | nil => exact h.elim
      | cons r rs =>
        cases i with
        | zero => simp at e; subst e; exact ⟨v, rfl, h.1⟩
        | succ i => simpa using ih h.2 i s (by simpa using e)
  have no : ∀ (i : Nat) (s : Sl), (initS N rs)[i]? = some s → s = .any ∨ rs[i]? = some s := fun i s e => by
    unfold initS at e
    by_cases hi : i < rs.length
    · rw [List.getElem?_append_left hi] at e; exact .inr e
    · rw [List.getElem?_append_right (by omega)] at e
      have := List.mem_of_getElem? e
      exact .inl (List.eq_of_mem_replicate this)
  refine ⟨⟨k.z, ax⟩, Mv.refl k, ?_, fun i s e => ?_, fun i j s t p _ e1 _ o1 _ _ _ => ?_⟩
  · rw [start_len N vs hl]; unfold initS; rw [List.length_append, List.length_replicate]; omega
  · rcases no i s e with rfl | e'
    · trivial
    · obtain ⟨v, ev, ok⟩ := get r i s e'
      exact SlOk.of (v := v) (by rw [start_get ev]; rfl) ok
  · rcases no i s e1 with rfl | e'
    · exact o1.elim
    · exact hn s (List.mem_of_getElem? e') o1
theorem enter (hN : ∀ ds K, Fn ds K → ds.length ≤ N.length) (hb : ∀ ds K, Fn ds K → SD C ρ0 t (initS N (ds.map Sl.dat)) (fun _ => K (.dat .non)) K (fun _ => False) (fun _ => False)) (h : spD C Fn vs H Q E) :
    t { nx := fun _ H' => Q .non H', rt := Q } (L2.start N vs) H := by
  obtain ⟨S, ds, K, ok, ra, f, k⟩ := h
  have g := good_start (C := C) (N := N) (rs := ds.map Sl.dat) ok (RvsOk.of_all ra) (by rw [ra.length]; exact hN _ _ f) (by
    intro s hs
    obtain ⟨d, _, rfl⟩ := List.mem_map.mp hs
    intro z; exact z)
  exact hb ds K f S H S H _ g _ (fun s S' H' σ' kk _ g' => k _ S' H' _ kk g'.mv .non) (fun r S' H' v kr m rv => k r S' H' v kr m rv) (fun _ _ _ _ z => z.elim) (fun _ _ _ _ z => z.elim)
end

/-! ## the die -/
/-- two numbers, and behind them great ones -/
def DieOk (xs : List V) : Prop := ∃ (f x : Int) (rest : List Int), xs = .int f :: .int x :: rest.map V.int ∧ 0 ≤ f ∧ f < 2147483647 ∧ 0 ≤ x ∧ ∀ z ∈ rest, 0 < z
def ρd (a : Addr) : Rsc := ⟨(· = a), fun H => ∃ xs, H a = some (.lst xs) ∧ DieOk xs, fun H H' k ⟨xs, h, d⟩ => ⟨xs, k a _ (.inl rfl) h, d⟩, fun _ _ => True⟩
section
variable (C : Addr)
/-- a def that draws from the die, its first argument -/
def spR (F : List Dt → (Sl → Prop) → Prop) : Sp := fun vs H Q _ => ∃ a rest S ds K, vs = .ref a :: rest ∧ Ok (ρd a) S H ∧ RpAll C S rest ds ∧ F ds K ∧ ∀ r S' H' v, K r → Mv (ρd a) S H S' H' → RvOk C (ρd a) H S' H' v r → Q v H'
end
section
variable {C : Addr} {a : Addr} {N : List Str} {vs : List V} {H : Hp} {Q : VK} {E : XK} {ts : TS} {Fn : List Dt → (Sl → Prop) → Prop} {sl : List Sl} {K : Sl → Prop} {t : TA}
theorem enterR (hN : ∀ ds K, Fn ds K → ds.length + 1 ≤ N.length) (hb : ∀ a ds K, Fn ds K → SD C (ρd a) ts (initS N (.raw (.ref a) :: ds.map Sl.dat)) (fun _ => K (.dat .non)) K (fun _ => False) (fun _ => False)) (h : spR C Fn vs H Q E) :
    ts { nx := fun _ H' => Q .non H', rt := Q } (L2.start N vs) H := by
  obtain ⟨a, rest, S, ds, K, rfl, ok, ra, f, k⟩ := h
  have g := good_start (C := C) (N := N) (rs := .raw (.ref a) :: ds.map Sl.dat) (vs := .ref a :: rest) ok ⟨rfl, RvsOk.of_all ra⟩ (by rw [List.length_cons, ra.length]; exact hN _ _ f) (by
    intro s hs
    rcases List.mem_cons.mp hs with rfl | hs
    · intro z; exact z
    · obtain ⟨d, _, rfl⟩ := List.mem_map.mp hs
      intro z; exact z)
  exact hb a ds K f S H S H _ g _ (fun s S' H' σ' kk _ g' => k _ S' H' _ kk g'.mv .non) (fun r S' H' v kr m rv => k r S' H' v kr m rv) (fun _ _ _ _ z => z.elim) (fun _ _ _ _ z => z.elim)
theorem wx_callR (h : WA C (ρd a) t sl fun rs => ∃ rs' ds, rs = .raw (.ref a) :: rs' ∧ datsOf rs' = some ds ∧ Fn ds K) : WX C (ρd a) (tCall (spR C Fn) [] E t) sl K := fun S0 H0 S H σ g Q q => by
  refine h S0 H0 S H σ g _ fun rs S1 H1 vs ⟨rs', ds, er, e, f⟩ a1 ok1 => ?_
  subst er
  rw [List.append_nil]
  match vs, ok1 with
  | v :: rest, ok1 =>
    obtain rfl : v = .ref a := ok1.1
    exact ⟨a, rest, S1, ds, K, rfl, a1.ok, ok1.2.dats e, f, fun r S2 H2 v kr a2 ok2 => q r S2 H2 v kr (a1.trans g.k a2) (ok2.pre fun p => a1.back g.k)⟩
theorem xcallR {rs : List Sl} {ds : List Dt} (h : AD C (ρd a) t sl (.raw (.ref a) :: rs)) (e : datsOf rs = some ds) (f : Fn ds K) : WX C (ρd a) (tCall (spR C Fn) [] E t) sl K := wx_callR (h.w ⟨rs, ds, rfl, e, f⟩)
end
end D3
namespace D3
open PySem L2 PyProof.Rows

/-! ## the usual promises: an argument a, coded by enc; asked pre; given post -/
def FnP {α : Type} (enc : α → List Dt) (pre : α → Prop) (post : α → (Sl → Prop) → Prop) : List Dt → (Sl → Prop) → Prop := fun ds K => ∃ a, ds = enc a ∧ pre a ∧ post a K
section
variable {C : Addr} {N : List Str} {vs : List V} {H : Hp} {Q : VK} {E : XK} {t : TS} {α : Type} {enc : α → List Dt} {pre : α → Prop} {post : α → (Sl → Prop) → Prop}
theorem lenP {n : Nat} (hn : ∀ a, (enc a).length = n) (h : spD C (FnP enc pre post) vs H Q E) : vs.length = n := by
  obtain ⟨S, ds, K, _, ra, ⟨a, rfl, _⟩, _⟩ := h
  rw [ra.length, hn]
theorem lenR {n : Nat} (hn : ∀ a, (enc a).length = n) (h : spR C (FnP enc pre post) vs H Q E) : vs.length = n + 1 := by
  obtain ⟨b, rest, S, ds, K, rfl, _, ra, ⟨a, rfl, _⟩, _⟩ := h
  rw [List.length_cons, ra.length, hn]
theorem enterP (hN : ∀ a, (enc a).length ≤ N.length) (hb : ∀ a K, pre a → post a K → SD C ρ0 t (initS N ((enc a).map Sl.dat)) (fun _ => K (.dat .non)) K (fun _ => False) (fun _ => False)) (h : spD C (FnP enc pre post) vs H Q E) :
    t { nx := fun _ H' => Q .non H', rt := Q } (L2.start N vs) H :=
  enter (Fn := FnP enc pre post) (fun ds K ⟨a, e, _⟩ => by rw [e]; exact hN a) (fun ds K ⟨a, e, p, q⟩ => by rw [e]; exact hb a K p q) h
theorem enterRP (hN : ∀ a, (enc a).length + 1 ≤ N.length) (hb : ∀ d a K, pre a → post a K → SD C (ρd d) t (initS N (.raw (.ref d) :: (enc a).map Sl.dat)) (fun _ => K (.dat .non)) K (fun _ => False) (fun _ => False)) (h : spR C (FnP enc pre post) vs H Q E) :
    t { nx := fun _ H' => Q .non H', rt := Q } (L2.start N vs) H :=
  enterR (Fn := FnP enc pre post) (fun ds K ⟨a, e, _⟩ => by rw [e]; exact hN a) (fun d ds K ⟨a, e, p, q⟩ => by rw [e]; exact hb d a K p q) h
end
/-- a def of which nothing is promised -/
theorem fn_none {P : Program} {w : World} {K : PySem.W.Frag} {mg : Str → Option Value} {base : Heap} {CX : CXT} {k : Nat} {f : Addr} {fd : FuncData} {ps : List Str} : FnOk P w K mg base CX k f fd ps (fun _ _ _ _ => False) :=
  ⟨fun _ _ _ _ h => h.elim, fun _ _ _ _ _ _ _ _ _ _ _ _ _ h => h.elim⟩
theorem fn_noneP {P : Program} {w : World} {K : PySem.W.Frag} {mg : Str → Option Value} {base : Heap} {CX : CXT} {k : Nat} {f C : Addr} {fd : FuncData} {ps : List Str} {α : Type} {enc : α → List Dt} {pre : α → Prop} {post : α → (Sl → Prop) → Prop} (h : ∀ a, ¬ pre a) :
    FnOk P w K mg base CX k f fd ps (spD C (FnP enc pre post)) := fn_none.imp fun _ _ _ _ ⟨_, _, _, _, _, ⟨a, _, p, _⟩, _⟩ => h a p

/-! ## isinstance -/
def tyD : Dt → String
  | .non => "NoneType"
  | .bl _ => "bool"
  | .int _ => "int"
  | .str _ => "str"
  | .lst _ => "list"
  | .tup _ => "tuple"
  | .dki _ => "dict"
  | .dkt _ => "dict"
  | .yard _ _ => ""
  | .ext _ => ""
section
variable {C : Addr} {ρ : Rsc} {S0 H0 Hs S H S1 H1 S2 H2 : Hp} {v x y : V} {r r1 r2 r3 : Sl} {sl : List Sl} {σ : L2.St} {te ta tb : TE} {t : TA} {K K' : Sl → Prop} {F : PySem.W.Frag} {nx bk ct : List Sl → Prop} {rt : Sl → Prop} {tu tv : TS}
theorem Rp.ty {H : Hp} {v : V} {d : Dt} (h : Rp C H v d) (n : tyD d ≠ "") : TyX F H v (.type (tyD d)) := by
  cases h with
  | non => exact .base .non
  | bl b => exact .base (.bl b)
  | int i => exact .base (.int i)
  | str x => exact .base (.str x)
  | lst h _ => exact .base (.lst h)
  | tup h _ => exact .base (.tup h)
  | dki h => exact .base (.dK h)
  | dkt h => exact .base (.dT h)
  | yard => exact absurd rfl n
  | ext => exact absurd rfl n
theorem cd_isi {T : String} {d : Dt} {b : Bool} (e : r1.hd = some d) (n : tyD d ≠ "") (kb : kitB (tyD d) T = some b) (k : K (.dat (.bl b))) : CD C ρ (rIsi F) [r1, .raw (.ty T)] K := CD2 fun Hs S H v w _ ok h1 h2 Q q => by
  obtain rfl : w = .ty T := h2
  exact ⟨v, .ty T, _, _, b, rfl, .ty T, (h1.hdD ok e).ty n, kit_ty kb, fin_dat ok q k (.bl _)⟩

/-! ## stores by a place: lists and dicts -/
def rSetD : TSet := fun o i v H Q => ∃ a H', o = .ref a ∧ DPut H a i v H' ∧ Q H'
theorem set_dict {X : Cx} (hu : X.A.units + 1 < cLine) : PSet X rSetD := by
  intro pins s σ H o i v ov iv u Q I ro ri rv h
  obtain ⟨a, H', rfl, g, q⟩ := h
  obtain rfl : ov = Value.ref a := ro
  exact d_setItem hu I g ri rv fun s' I' => ⟨H', I', q⟩
def rSetA : TSet := fun o i v H Q => rSetL o i v H Q ∨ rSetD o i v H Q
theorem set_any {X : Cx} (hu : X.A.units + 1 < cLine) : PSet X rSetA := by
  intro pins s σ H o i v ov iv u Q I ro ri rv h
  rcases h with h | h
  · exact set_list pins s σ H o i v ov iv u Q I ro ri rv h
  · exact set_dict hu pins s σ H o i v ov iv u Q I ro ri rv h
/-- xs.append(ys.pop(e)) -/
theorem seq_nat {n k : Nat} (h : k < n) : seqIndex? (k : Int) n = some k := by
  rw [seqIndex_of (by omega) (by omega), Int.toNat_natCast]
theorem sd_appendPop {i j : Nat} {ds es : List Dt} (hij : i ≠ j) (e1 : sl[i]? = some (.own ds)) (e2 : sl[j]? = some (.own es)) (hl : es.length < 1000000) (hl2 : ds.length < 1000000)
    (h : WX C ρ te sl fun r => ∃ k : Nat, ∃ d, r = .dat (.int (k : Int)) ∧ ds[k]? = some d ∧ nx ((sl.set i (.own (ds.eraseIdx k))).set j (.own (es ++ [d])))) :
    SD C ρ (tDrop (tBM F "list" rAppend (tVar j) (tCons (tBM F "list" rPopAt (tVar i) (tCons te tNil)) tNil))) sl nx rt bk ct := fun S0 H0 S H σ g D a _ _ _ => by
  obtain ⟨p, xs, ev, h0, hs, hp, ra⟩ := g.own e1
  obtain ⟨p', ys, ev', h0', hs', hp', rb⟩ := g.own e2
  refine ⟨_, ev', .inl ⟨rfl, _, .inl (.inl hp')⟩, _, ev, .inl ⟨rfl, _, .inl (.inl hp)⟩, ?_⟩
  refine h S0 H0 S H σ g _ fun r S1 H1 y ⟨k, d, er, ed, kk⟩ a1 ok1 => ?_
  subst er; cases ok1
  have g1 := g.move a1
  have hp1 : H1 p = some (.lst xs) := a1.hh p _ (g.k0.nm h0) hp
  have hs1 : S1 p = none := a1.fr p hs (by rw [hp]; simp)
  have hq1 : H1 p' = some (.lst ys) := a1.hh p' _ (g.k0.nm h0') hp'
  have hsq1 : S1 p' = none := a1.fr p' hs' (by rw [hp']; simp)
  obtain ⟨v, hv, rv⟩ := (ra.mono a1.ss).get ed
  have hk : k < xs.length := by rw [ra.length]; exact (List.getElem?_eq_some_iff.mp ed).1
  have hlx : xs.length < 1000000 := by rw [ra.length]; exact hl2
  have npp : p' ≠ p := fun z => by
    subst z
    exact g.ne i j _ _ p' hij e1 e2 trivial trivial ev ev'
  refine ⟨p, xs, (k : Int), k, v, rfl, rfl, hp1, by omega, by omega, seq_nat hk, hv, ?_⟩
  refine ⟨p', ys, v, rfl, rfl, by rw [upd_ne npp]; exact hq1, by rw [rb.length, sizeLine_eq]; omega, ?_⟩
  have g2 := g1.mutAt e1 trivial ev (.lst (xs.eraseIdx k)) (.own (ds.eraseIdx k)) trivial ⟨p, _, rfl, h0, hs1, upd_same, (ra.mono a1.ss).eraseIdx k⟩
  have e2' : (sl.set i (.own (ds.eraseIdx k)))[j]? = some (.own es) := by rw [List.getElem?_set_ne hij]; exact e2
  have g3 := g2.mutAt e2' trivial ev' (.lst (ys ++ [v])) (.own (es ++ [d])) trivial ⟨p', _, rfl, h0', hsq1, upd_same, (rb.mono a1.ss).append (.cons rv .nil)⟩
  exact a _ S1 _ σ kk a1.ss g3
end

/-! ## a yard is made -/
def ValidY (n : Nat) (ts : List (Nat × Nat)) : Prop := ts.Nodup ∧ ∀ p ∈ ts, p.1 < p.2 ∧ p.2 < n
/-- __init__ of Yard, when there is nothing to refuse -/
def spYI (C : Addr) : Sp := fun vs H Q _ => ∃ (y dx l : Addr) (xs : List V) (n : Nat) (ts : List (Nat × Nat)) (S : Hp), vs = [.ref y, .int (n : Int), .ref l] ∧ H y = some (.ins C dx []) ∧ H dx = some (.own y) ∧ S y = none ∧ Same S H ∧ l ≠ y ∧ H l = some (.lst xs) ∧ RpAll C S xs (ts.map tieD) ∧
  1 ≤ n ∧ n ≤ 30 ∧ ValidY n ts ∧
  ∀ S' H', (∀ b o, b ≠ y → H b = some o → H' b = some o) → Same S S' → Same S' H' → (∀ b, b ≠ y → S b = none → H b ≠ none → S' b = none) → Rp C S' (.ref y) (.yard n ts) → Q .non H'
section
variable {C : Addr} {ρ : Rsc} {sl : List Sl} {t : TA} {K : Sl → Prop} {E : XK}
theorem wx_makeB (h : WA C ρ t sl fun rs => ∃ (n : Nat) (ts : List (Nat × Nat)) (r : Sl), rs = [.dat (.int (n : Int)), r] ∧ r.ls = some (ts.map tieD) ∧ 1 ≤ n ∧ n ≤ 30 ∧ ValidY n ts ∧ K (.dat (.yard n ts))) : WX C ρ (tMake C (spYI C) [] E t) sl K := fun S0 H0 S H σ g Q q => by
  refine h S0 H0 S H σ g _ fun rs S1 H1 vs ⟨n, ts, r, e, er, h1, h2, hv, k⟩ a1 ok1 => ?_
  subst e
  match vs, ok1 with
  | [v1, v2], ok1 =>
    obtain ⟨o1, o2, _⟩ := ok1
    cases o1
    obtain ⟨l, xs, rfl, hl, ra⟩ := o2.lsD a1.ok er
    intro y dx hy hd hne
    have hyd : y ≠ dx := Ne.symm hne
    refine ⟨y, dx, l, xs, n, ts, S1, by simp, upd_same, by rw [upd_ne hne, upd_same], a1.ok.ns hy, fun b o e => ?_, ne_of_none hl hy, by rw [upd_ne (ne_of_none hl hy), upd_ne (ne_of_none hl hd)]; exact hl, ra, h1, h2, hv, fun S' H' k1 k2 k3 k4 k5 => ⟨rfl, ?_⟩⟩
    · have hb := a1.ok.sh b o e
      rw [upd_ne (ne_of_none hb hy), upd_ne (ne_of_none hb hd)]; exact hb
    · have keep : ∀ b o, H1 b = some o → H' b = some o := fun b o e => k1 b o (ne_of_none e hy) (by rw [upd_ne (ne_of_none e hy), upd_ne (ne_of_none e hd)]; exact e)
      have fr : ∀ b, S1 b = none → H1 b ≠ none → S' b = none := fun b e n => by
        have nb : b ≠ y := fun z => by subst z; exact n hy
        refine k4 b nb e ?_
        rw [upd_ne nb]
        by_cases hb : b = dx
        · subst hb; rw [upd_same]; simp
        · rw [upd_ne hb]; exact n
      have mv : Mv ρ S1 H1 S' H' := by
        refine ⟨⟨k3, fun b m => fr b (a1.ok.m b m) (a1.ok.t b m), fun b m => ?_, ρ.loc H1 H' (fun b o _ e => keep b o e) a1.ok.r⟩, k2, fun b o _ e => keep b o e, fr⟩
        cases q : H1 b with
        | none => exact absurd q (a1.ok.t b m)
        | some o => rw [keep b o q]; simp
      exact q _ S' H' _ k (a1.trans g.k mv) k5
theorem wx_make (h : WA C ρ t sl fun rs => ∃ (n : Nat) (ts : List (Nat × Nat)), rs = [.dat (.int (n : Int)), .dat (.lst (ts.map tieD))] ∧ 1 ≤ n ∧ n ≤ 30 ∧ ValidY n ts ∧ K (.dat (.yard n ts))) : WX C ρ (tMake C (spYI C) [] E t) sl K :=
  wx_makeB (h.imp fun rs ⟨n, ts, e, h1, h2, h3, k⟩ => ⟨n, ts, _, e, rfl, h1, h2, h3, k⟩)
end
end D3
namespace D3
open PySem L2 PyProof.Rows
section
variable {C : Addr} {ρ : Rsc} {r r1 r2 r3 : Sl} {sl : List Sl} {te ta tb : TE} {t : TA} {K K' : Sl → Prop} {F : PySem.W.Frag}
/-! ## single answers -/
theorem xi {i : Int} : XD C ρ (tC (.int i)) sl (.dat (.int i)) := xc rfl
theorem xs {i : Str} : XD C ρ (tC (.str i)) sl (.dat (.str i)) := xc rfl
theorem xb {i : Bool} : XD C ρ (tC (.bl i)) sl (.dat (.bl i)) := xc rfl
theorem xn : XD C ρ (tC .non) sl (.dat .non) := xc rfl
theorem xadd {i j : Int} (h1 : XD C ρ ta sl (.dat (.int i))) (h2 : XD C ρ tb sl (.dat (.int j))) : XD C ρ (tOp (rPlus F) ta tb) sl (.dat (.int (i + j))) := xop h1 h2 (od_plus_int rfl)
theorem xadds {i j : Str} (h1 : XD C ρ ta sl (.dat (.str i))) (h2 : XD C ρ tb sl (.dat (.str j))) (hl : i.length + j.length ≤ sizeLine) : XD C ρ (tOp (rPlus F) ta tb) sl (.dat (.str (i ++ j))) := xop h1 h2 (od_plus_str hl rfl)
theorem xcat {xs ys : List Dt} (h1 : XD C ρ ta sl r1) (h2 : XD C ρ tb sl r2) (e1 : r1.ls = some xs) (e2 : r2.ls = some ys) (hl : xs.length + ys.length ≤ 16777216) : XD C ρ (tOp (rPlus F) ta tb) sl (.own (xs ++ ys)) := xop h1 h2 (od_plus_lst e1 e2 (by rw [sizeLine_eq]; exact hl) rfl)
theorem xcatT {xs ys : List Dt} (h1 : XD C ρ ta sl (.dat (.tup xs))) (h2 : XD C ρ tb sl (.dat (.tup ys))) (hl : xs.length + ys.length ≤ 16777216) : XD C ρ (tOp (rPlus F) ta tb) sl (.dat (.tup (xs ++ ys))) := xop h1 h2 (od_plus_tup (by rw [sizeLine_eq]; exact hl) rfl)
theorem xsub {i j : Int} (h1 : XD C ρ ta sl (.dat (.int i))) (h2 : XD C ρ tb sl (.dat (.int j))) : XD C ρ (tOp (rI0 fun i j => .int (i - j)) ta tb) sl (.dat (.int (i - j))) := xop h1 h2 (od_sub rfl)
theorem xmul {i j : Int} (h1 : XD C ρ ta sl (.dat (.int i))) (h2 : XD C ρ tb sl (.dat (.int j))) (hc : CMul i j) : XD C ρ (tOp rTimes ta tb) sl (.dat (.int (i * j))) := xop h1 h2 (od_mul hc rfl)
theorem xrep {ds : List Dt} {j : Int} (h1 : XD C ρ ta sl r1) (h2 : XD C ρ tb sl (.dat (.int j))) (e1 : r1.ls = some ds) (h0 : 0 ≤ j) (hj : ds.length * j.toNat ≤ 1000000) (h1' : j ≤ 1000000) : XD C ρ (tOp rTimes ta tb) sl (.own (List.replicate j.toNat ds).flatten) := xop h1 h2 (od_rep e1 h0 hj h1' rfl)
theorem xdiv {i j : Int} (h1 : XD C ρ ta sl (.dat (.int i))) (h2 : XD C ρ tb sl (.dat (.int j))) (h0 : 0 < j) (hj : j < 1073741824) : XD C ρ (tOp (rI CDivW fun i j => .int (i / j)) ta tb) sl (.dat (.int (i / j))) := xop h1 h2 (od_fdiv h0 hj rfl)
theorem xmod {i j : Int} (h1 : XD C ρ ta sl (.dat (.int i))) (h2 : XD C ρ tb sl (.dat (.int j))) (h0 : 0 < j) : XD C ρ (tOp (rI (fun _ j => 0 < j) fun i j => .int (i % j)) ta tb) sl (.dat (.int (i % j))) := xop h1 h2 (od_mod h0 rfl)
theorem xcmp {g : Int → Int → Bool} {i j : Int} (h1 : XD C ρ ta sl (.dat (.int i))) (h2 : XD C ρ tb sl (.dat (.int j))) : XD C ρ (tOp (rI0 fun i j => .bl (g i j)) ta tb) sl (.dat (.bl (g i j))) := xop h1 h2 (od_cmp rfl)
theorem xeq {d1 d2 : Dt} (h1 : XD C ρ ta sl r1) (h2 : XD C ρ tb sl r2) (e1 : r1.hd = some d1) (e2 : r2.hd = some d2) (p1 : plD 64 d1 = true) (p2 : plD 64 d2 = true) : XD C ρ (tOp (rEqA F) ta tb) sl (.dat (.bl (eqD d1 d2))) := xop h1 h2 (od_eq e1 e2 p1 p2 rfl)
theorem xne {d1 d2 : Dt} (h1 : XD C ρ ta sl r1) (h2 : XD C ρ tb sl r2) (e1 : r1.hd = some d1) (e2 : r2.hd = some d2) (p1 : plD 64 d1 = true) (p2 : plD 64 d2 = true) : XD C ρ (tOp (rNeA F) ta tb) sl (.dat (.bl (!eqD d1 d2))) := xop h1 h2 (od_ne e1 e2 p1 p2 rfl)
theorem xeqi {i j : Int} (h1 : XD C ρ ta sl (.dat (.int i))) (h2 : XD C ρ tb sl (.dat (.int j))) : XD C ρ (tOp (rEqA F) ta tb) sl (.dat (.bl (decide (i = j)))) := xop h1 h2 (od_eq rfl rfl rfl rfl (by rw [eqD_int]))
theorem xnei {i j : Int} (h1 : XD C ρ ta sl (.dat (.int i))) (h2 : XD C ρ tb sl (.dat (.int j))) : XD C ρ (tOp (rNeA F) ta tb) sl (.dat (.bl (!decide (i = j)))) := xop h1 h2 (od_ne rfl rfl rfl rfl (by rw [eqD_int]))
theorem xeqb {i j : Bool} (h1 : XD C ρ ta sl (.dat (.bl i))) (h2 : XD C ρ tb sl (.dat (.bl j))) : XD C ρ (tOp (rEqA F) ta tb) sl (.dat (.bl (decide (i = j)))) := xop h1 h2 (od_eq rfl rfl rfl rfl (by rw [eqD_bl]))
theorem xneb {i j : Bool} (h1 : XD C ρ ta sl (.dat (.bl i))) (h2 : XD C ρ tb sl (.dat (.bl j))) : XD C ρ (tOp (rNeA F) ta tb) sl (.dat (.bl (!decide (i = j)))) := xop h1 h2 (od_ne rfl rfl rfl rfl (by rw [eqD_bl]))
theorem xeqs {i j : Str} (h1 : XD C ρ ta sl (.dat (.str i))) (h2 : XD C ρ tb sl (.dat (.str j))) : XD C ρ (tOp (rEqA F) ta tb) sl (.dat (.bl (decide (i = j)))) := xop h1 h2 (od_eq_str rfl)
theorem xnes {i j : Str} (h1 : XD C ρ ta sl (.dat (.str i))) (h2 : XD C ρ tb sl (.dat (.str j))) : XD C ρ (tOp (rNeA F) ta tb) sl (.dat (.bl (!decide (i = j)))) := xop h1 h2 (od_ne_str rfl)
theorem xisN {d : Dt} (h1 : XD C ρ ta sl (.dat d)) (h2 : XD C ρ tb sl (.dat .non)) : XD C ρ (tOp (fun x y H Q => y = .non ∧ Q (.bl (decide (x = .non))) H) ta tb) sl (.dat (.bl (isNonD d))) := xop h1 h2 (od_isN rfl)
theorem xnotN {d : Dt} (h1 : XD C ρ ta sl (.dat d)) (h2 : XD C ρ tb sl (.dat .non)) : XD C ρ (tOp (fun x y H Q => y = .non ∧ Q (.bl (!decide (x = .non))) H) ta tb) sl (.dat (.bl (!isNonD d))) := xop h1 h2 (od_notN rfl)
theorem xix {ds : List Dt} {i : Int} {d : Dt} (h1 : XD C ρ ta sl r1) (h2 : XD C ρ tb sl (.dat (.int i))) (e1 : r1.sq = some ds) (e : atI ds i = some d) : XD C ρ (tOp (rIxA F) ta tb) sl (.dat d) := xop h1 h2 (od_ix e1 e rfl)
theorem xixs {z : Str} {i : Int} {c : Nat} (h1 : XD C ρ ta sl (.dat (.str z))) (h2 : XD C ρ tb sl (.dat (.int i))) (hz : z.length ≤ 16777216) (e : atI z.cps.toList i = some c) : XD C ρ (tOp (rIxA F) ta tb) sl (.dat (.str ⟨#[c]⟩)) := xop h1 h2 (od_ix_s (by rw [sizeLine_eq]; exact hz) e rfl)
/-- a list or tuple of codes f x -/
theorem xixm {α : Type} {ds : List α} {f : α → Dt} {i : Int} {x : α} (h1 : XD C ρ ta sl r1) (h2 : XD C ρ tb sl (.dat (.int i))) (e1 : r1.sq = some (ds.map f)) (e : atI ds i = some x) : XD C ρ (tOp (rIxA F) ta tb) sl (.dat (f x)) := xix h1 h2 e1 (by
  unfold atI at e ⊢
  rw [List.length_map]
  cases q : ixN ds.length i with
  | none => rw [q] at e; cases e
  | some j =>
    rw [q] at e
    show (ds.map f)[j]? = some (f x)
    rw [List.getElem?_map, show ds[j]? = some x from e]; rfl)
theorem xinF {ds : List Dt} {d : Dt} (h1 : XD C ρ ta sl (.dat d)) (h2 : XD C ρ tb sl r2) (e1 : r2.sq = some ds) (p1 : plD 0 d = true) (p2 : plDs 0 ds = true) : XD C ρ (tOp (rInA F) ta tb) sl (.dat (.bl (memD d ds))) := xop h1 h2 (od_in_flat e1 rfl p1 p2 rfl)
theorem xninF {ds : List Dt} {d : Dt} (h1 : XD C ρ ta sl (.dat d)) (h2 : XD C ρ tb sl r2) (e1 : r2.sq = some ds) (p1 : plD 0 d = true) (p2 : plDs 0 ds = true) : XD C ρ (tOp (rNotInA F) ta tb) sl (.dat (.bl (!memD d ds))) := xop h1 h2 (od_notin_flat e1 rfl p1 p2 rfl)
theorem xinL {ds : List Dt} {d : Dt} (h1 : XD C ρ ta sl r1) (h2 : XD C ρ tb sl r2) (e1 : r1.hd = some d) (e2 : r2.hd = some (.lst ds)) (p1 : plD 64 d = true) (p2 : plD 64 (.lst ds) = true) : XD C ρ (tOp (rInA F) ta tb) sl (.dat (.bl (memD d ds))) := xop h1 h2 (od_in e1 e2 p1 p2 rfl)
theorem xninL {ds : List Dt} {d : Dt} (h1 : XD C ρ ta sl r1) (h2 : XD C ρ tb sl r2) (e1 : r1.hd = some d) (e2 : r2.hd = some (.lst ds)) (p1 : plD 64 d = true) (p2 : plD 64 (.lst ds) = true) : XD C ρ (tOp (rNotInA F) ta tb) sl (.dat (.bl (!memD d ds))) := xop h1 h2 (od_notin e1 e2 p1 p2 rfl)
/-- a number among numbers -/
theorem xinN {ks : List Nat} {k : Nat} {i : Int} (h1 : XD C ρ ta sl (.dat (.int i))) (h2 : XD C ρ tb sl r2) (e : i = (k : Int)) (e1 : r2.sq = some (ks.map natD)) : XD C ρ (tOp (rInA F) ta tb) sl (.dat (.bl (decide (k ∈ ks)))) := by
  subst e
  refine (xinF h1 h2 e1 rfl (plDs_all.mpr fun x hx => ?_)).to ?_
  · obtain ⟨a, _, rfl⟩ := List.mem_map.mp hx; rfl
  · rw [show Dt.int (k : Int) = natD k from rfl, memD_map natD eqD_natD]
theorem xninN {ks : List Nat} {k : Nat} {i : Int} (h1 : XD C ρ ta sl (.dat (.int i))) (h2 : XD C ρ tb sl r2) (e : i = (k : Int)) (e1 : r2.sq = some (ks.map natD)) : XD C ρ (tOp (rNotInA F) ta tb) sl (.dat (.bl (!decide (k ∈ ks)))) := by
  subst e
  refine (xninF h1 h2 e1 rfl (plDs_all.mpr fun x hx => ?_)).to ?_
  · obtain ⟨a, _, rfl⟩ := List.mem_map.mp hx; rfl
  · rw [show Dt.int (k : Int) = natD k from rfl, memD_map natD eqD_natD]
/-- a tie among ties: a list, or the dict of them -/
def tiesD (q : Bool) (ts : List (Nat × Nat)) : Dt := if q then .dkt ts else .lst (ts.map tieD)
theorem plD_ties (ts : List (Nat × Nat)) : plD 64 (.lst (ts.map tieD)) = true := plD_lst_map fun p _ => plD_tieD _ p
theorem xinT {q : Bool} {ts : List (Nat × Nat)} {p : Nat × Nat} {d : Dt} (h1 : XD C ρ ta sl (.dat d)) (h2 : XD C ρ tb sl (.dat (tiesD q ts))) (e : d = tieD p) : XD C ρ (tOp (rInA F) ta tb) sl (.dat (.bl (decide (p ∈ ts)))) := by
  subst e
  cases q with
  | true => exact xop h1 h2 (od_in_dkt rfl rfl)
  | false => exact (xinL h1 h2 rfl rfl (plD_tieD _ p) (plD_ties ts)).to (by rw [memD_map tieD eqD_tieD]; by_cases h : p ∈ ts <;> simp [h])
theorem xninT {q : Bool} {ts : List (Nat × Nat)} {p : Nat × Nat} {d : Dt} (h1 : XD C ρ ta sl (.dat d)) (h2 : XD C ρ tb sl (.dat (tiesD q ts))) (e : d = tieD p) : XD C ρ (tOp (rNotInA F) ta tb) sl (.dat (.bl (!decide (p ∈ ts)))) := by
  subst e
  cases q with
  | true => exact xop h1 h2 (od_notin_dkt rfl rfl)
  | false => exact (xninL h1 h2 rfl rfl (plD_tieD _ p) (plD_ties ts)).to (by rw [memD_map tieD eqD_tieD]; by_cases h : p ∈ ts <;> simp [h])
theorem xlen {ds : List Dt} (h : XD C ρ ta sl r1) (e : r1.sq = some ds) : XD C ρ (tCB (rLenA F) (tCons ta tNil)) sl (.dat (.int (ds.length : Int))) := by
  refine xcb (ac h an) (cd_len (r1 := fz r1) ?_ rfl)
  cases r1 <;> first | exact e | cases e
theorem xlens {z : Str} (h : XD C ρ ta sl (.dat (.str z))) (hz : z.length ≤ 16777216) : XD C ρ (tCB (rLenA F) (tCons ta tNil)) sl (.dat (.int (z.length : Int))) := xcb (ac h an) (cd_len_str (by rw [sizeLine_eq]; exact hz) rfl)
theorem xlist {ds : List Dt} (h : XD C ρ ta sl r1) (e : r1.sq = some ds) : XD C ρ (tCB (rListA F) (tCons ta tNil)) sl (.own ds) := by
  refine xcb (ac h an) (cd_list (r1 := fz r1) ?_ rfl)
  cases r1 <;> first | exact e | cases e
theorem xtuple {ds : List Dt} (h : XD C ρ ta sl r1) (e : r1.ls = some ds) : XD C ρ (tCB (rTupleA F) (tCons ta tNil)) sl (.dat (.tup ds)) := by
  refine xcb (ac h an) (cd_tuple (r1 := fz r1) ?_ rfl)
  cases r1 <;> first | exact e | cases e
theorem xmin {i j : Int} (h1 : XD C ρ ta sl (.dat (.int i))) (h2 : XD C ρ tb sl (.dat (.int j))) : XD C ρ (tCB (rMin2 F) (tCons ta (tCons tb tNil))) sl (.dat (.int (min i j))) := xcb (ac h1 (ac h2 an)) (cd_min2 rfl)
theorem xmax {i j : Int} (h1 : XD C ρ ta sl (.dat (.int i))) (h2 : XD C ρ tb sl (.dat (.int j))) : XD C ρ (tCB (rMax2 F) (tCons ta (tCons tb tNil))) sl (.dat (.int (max i j))) := xcb (ac h1 (ac h2 an)) (cd_max2 rfl)
theorem xintb {b : Bool} (h1 : XD C ρ ta sl (.dat (.bl b))) : XD C ρ (tCB rInt1 (tCons ta tNil)) sl (.dat (.int (if b then 1 else 0))) := xcb (ac h1 an) (cd_int_bl rfl)
theorem xall {bs : List Bool} (h : XD C ρ ta sl (.own (bs.map Dt.bl))) : XD C ρ (tCB (rAll F) (tCons ta tNil)) sl (.dat (.bl (bs.all id))) := xcb (ac h an) (cd_all rfl rfl)
theorem xsum {ns : List Int} (h : XD C ρ ta sl (.own (ns.map Dt.int))) : XD C ρ (tCB (rSum F) (tCons ta tNil)) sl (.dat (.int ns.sum)) := xcb (ac h an) (cd_sum rfl rfl)
theorem xtup1 {d1 : Dt} (h1 : XD C ρ ta sl r1) (e1 : r1.dz = some d1) : XD C ρ (tTup (tCons ta tNil)) sl (.dat (.tup [d1])) := xtup (ac h1 an) (by rw [dz_fz e1]; rfl) (Nat.le_of_ble_eq_true rfl)
theorem xtup2 {d1 d2 : Dt} (h1 : XD C ρ ta sl (.dat d1)) (h2 : XD C ρ tb sl (.dat d2)) : XD C ρ (tTup (tCons ta (tCons tb tNil))) sl (.dat (.tup [d1, d2])) := xtup (ac h1 (ac h2 an)) rfl (Nat.le_of_ble_eq_true rfl)
theorem xlst0 : XD C ρ (tLst tNil) sl (.own []) := xlst an rfl (Nat.le_of_ble_eq_true rfl)
theorem xlst1 {d1 : Dt} (h1 : XD C ρ ta sl (.dat d1)) : XD C ρ (tLst (tCons ta tNil)) sl (.own [d1]) := xlst (ac h1 an) rfl (Nat.le_of_ble_eq_true rfl)
theorem xlst2 {d1 d2 : Dt} (h1 : XD C ρ ta sl (.dat d1)) (h2 : XD C ρ tb sl (.dat d2)) : XD C ρ (tLst (tCons ta (tCons tb tNil))) sl (.own [d1, d2]) := xlst (ac h1 (ac h2 an)) rfl (Nat.le_of_ble_eq_true rfl)
theorem xcut {ds : List Dt} {lo hi : Option Int} {tl th : TO} (h : XD C ρ te sl r) (h1 : WO C ρ tl sl (· = lo)) (h2 : WO C ρ th sl (· = hi)) (e : r.ls = some ds) : XD C ρ (tSl (rSlAny F) te tl th) sl (.own (cutD ds lo hi)) := xslice h h1 h2 (sld_l e rfl)
theorem xisi {T : String} {d : Dt} {b : Bool} (h1 : XD C ρ ta sl r1) (h2 : XD C ρ tb sl (.raw (.ty T))) (e : (fz r1).hd = some d) (n : tyD d ≠ "") (kb : kitB (tyD d) T = some b) : XD C ρ (tCB (rIsi F) (tCons ta (tCons tb tNil))) sl (.dat (.bl b)) := xcb (ac h1 (ac h2 an)) (cd_isi e n kb rfl)
/-! a call of a def, by its promise: a single answer -/
theorem xcl {α : Type} {enc : α → List Dt} {pre : α → Prop} {res : α → Sl} {E : XK} {rs : List Sl} (a : α) (h : AD C ρ t sl rs) (e : datsOf rs = some (enc a)) (p : pre a) (pl : (res a).plain := by trivial) : XD C ρ (tCall (spD C (FnP enc pre fun a K => K (res a))) [] E t) sl (res a) := xcall h e ⟨a, rfl, p, pl, rfl⟩
theorem xclW {α : Type} {enc : α → List Dt} {pre : α → Prop} {post : α → (Sl → Prop) → Prop} {E : XK} {rs : List Sl} (a : α) (h : AD C ρ t sl rs) (e : datsOf rs = some (enc a)) (p : pre a) (k : post a fun r => r.plain ∧ K r) : WX C ρ (tCall (spD C (FnP enc pre post)) [] E t) sl K := xcall h e ⟨a, rfl, p, k⟩
theorem xmt {m : Str} {α : Type} {enc : α → List Dt} {pre : α → Prop} {res : α → Sl} {E : XK} {rs : List Sl} {ds : List Dt} {n : Nat} {ts : List (Nat × Nat)} (a : α) (h0 : XD C ρ ta sl (.dat (.yard n ts))) (h : AD C ρ t sl rs) (e : datsOf rs = some ds) (ea : enc a = .yard n ts :: ds) (p : pre a)
    (hm : m ≠ "size" ∧ m ≠ "kept" ∧ m ≠ "near" := by decide +kernel) (pl : (res a).plain := by trivial) : XD C ρ (tMeth C m (spD C (FnP enc pre fun a K => K (res a))) [] E ta t) sl (res a) := xmeth hm h0 h e ⟨a, ea.symm, p, pl, rfl⟩
/-- a drawing def -/
theorem xclR {a : Addr} {α : Type} {enc : α → List Dt} {pre : α → Prop} {post : α → (Sl → Prop) → Prop} {E : XK} {rs : List Sl} (x : α) (h : AD C (ρd a) t sl (.raw (.ref a) :: rs)) (e : datsOf rs = some (enc x)) (p : pre x) (k : post x K) : WX C (ρd a) (tCall (spR C (FnP enc pre post)) [] E t) sl K := xcallR h e ⟨x, rfl, p, k⟩
end
/-! ## the rules with the written part named -/
section
variable {X : Cx} (F : PySem.W.Frag) (h : X.K = F)
include h
theorem k_plus : OpR X (binaryOp .Add) (rPlus F) := h ▸ op_plus
theorem k_eq (hu : X.A.units + 64 < cLine) : OpR X (compareOp .Eq) (rEqA F) := h ▸ op_eqA hu
theorem k_ne (hu : X.A.units + 64 < cLine) : OpR X (compareOp .NotEq) (rNeA F) := h ▸ op_neA hu
theorem k_in {k : Nat} (hr : Room k X.A) : OpR X (compareOp .In) (rInA F) := h ▸ op_inA hr
theorem k_notIn {k : Nat} (hr : Room k X.A) : OpR X (compareOp .NotIn) (rNotInA F) := h ▸ op_notInA hr
theorem k_ix (hu : X.A.units + 1 < cLine) : IxR X (rIxA F) := h ▸ ix_any hu
theorem k_sl : SlR X (rSlAny F) := h ▸ sl_any
theorem k_len : CallR X (.builtin "len") (rLenA F) := h ▸ call_lenA
theorem k_list : CallR X (.type "list") (rListA F) := h ▸ call_listA
theorem k_tuple : CallR X (.type "tuple") (rTupleA F) := h ▸ call_tupleA
theorem k_max (hc : X.calm = true) : CallR X (.builtin "max") (rMax2 F) := h ▸ call_maxA hc
theorem k_min (hc : X.calm = true) : CallR X (.builtin "min") (rMin2 F) := h ▸ call_minA hc
theorem k_sum (hc : X.calm = true) : CallR X (.builtin "sum") (rSum F) := h ▸ cr_sum hc
theorem k_all (hc : X.calm = true) : CallR X (.builtin "all") (rAll F) := h ▸ cr_all hc
theorem k_isi : CallR X (.builtin "isinstance") (rIsi F) := h ▸ call_isi
theorem k_list_ {tg l : Expr} {tl : TE} (hl : PE X l tl) : PI X tg l (iList F tl) := h ▸ pi_list hl
theorem k_tup_ {tg l : Expr} {tl : TE} (hl : PE X l tl) : PI X tg l (iTup F tl) := h ▸ pi_tup hl
theorem k_gtup {es : List Expr} {k : Nat} {t : TGs} {n : Nat} {pos : Pos} (hc : X.calm = true) (hg : PGs X es t) (hn : (assignEach es X.env).length = n) (hst : (assignEach es X.env).findIdx? (·.1) = none) : PG X (.Tuple es k pos) (gTup F n t) := h ▸ pg_tup hc hg hn hst
theorem k_fld {e : Expr} {ta : TE} {f : Str} {pos : Pos} (he : PE X e ta) (hb : attributeBase e f X.env (eval e X.env) = eval e X.env) : PE X (.Attribute e f pos) (tFld F ta f) := h ▸ pe_fld he hb
end
end D3
namespace D3
open PySem L2 PyProof.Rows
/-! ## own dicts, and what is lent -/
def flatD : Dt → Bool
  | .non => true
  | .bl _ => true
  | .int _ => true
  | .str _ => true
  | _ => false
theorem flat_any {C : Addr} {H H' : Hp} {v : V} {d : Dt} (f : flatD d = true) (h : Rp C H v d) : Rp C H' v d := by
  cases h with
  | non => exact .non
  | bl b => exact .bl b
  | int b => exact .int b
  | str b => exact .str b
  | lst => cases f
  | tup => cases f
  | dki => cases f
  | dkt => cases f
  | yard => cases f
  | ext => cases f
abbrev dT (ts : List (Nat × Nat)) : Sl := .cell (cellO (.dT (ts.map ktV)) nofun)
abbrev dK (ks : List Nat) : Sl := .cell (cellO (.dK (ks.map kiV)) nofun)
/-- a key put in -/
def insU {α : Type} [DecidableEq α] (xs : List α) (x : α) : List α := if x ∈ xs then xs else xs ++ [x]
theorem putK_const {α κ : Type} [DecidableEq α] [DecidableEq κ] (f : α → κ) (hf : ∀ a b, f a = f b → a = b) (w : V) (ks : List α) (k : α) : putK (ks.map fun a => (f a, w)) (f k) w = (insU ks k).map fun a => (f a, w) := by
  unfold putK insU
  have e : ((ks.map fun a => (f a, w)).any fun kv => decide (kv.1 = f k)) = decide (k ∈ ks) := by
    rw [Bool.eq_iff_iff, List.any_eq_true, decide_eq_true_eq]
    constructor
    · rintro ⟨kv, hm, h⟩
      obtain ⟨a, ha, rfl⟩ := List.mem_map.mp hm
      rw [← hf _ _ (of_decide_eq_true h)]; exact ha
    · intro h
      exact ⟨_, List.mem_map.mpr ⟨k, h, rfl⟩, decide_eq_true rfl⟩
  rw [e]
  by_cases h : k ∈ ks
  · rw [decide_eq_true h, if_pos rfl, if_pos h, List.map_map]
    apply List.map_congr_left
    intro a _
    by_cases h' : f a = f k <;> simp [h']
  · rw [decide_eq_false h, if_neg (by decide), if_neg h, List.map_append]; rfl
theorem putK_t (ts : List (Nat × Nat)) (p : Nat × Nat) : putK (ts.map ktV) [Sum.inl (p.1 : Int), Sum.inl (p.2 : Int)] (V.bl true) = (insU ts p).map ktV :=
  putK_const (fun p : Nat × Nat => ([Sum.inl (p.1 : Int), Sum.inl (p.2 : Int)] : List Key)) (fun a b e => by
    obtain ⟨a1, a2⟩ := a
    obtain ⟨b1, b2⟩ := b
    injection e with e1 e2
    injection e2 with e2 _
    have := Sum.inl.inj e1
    have := Sum.inl.inj e2
    simp at *; omega) (V.bl true) ts p
theorem putK_k (ks : List Nat) (k : Nat) : putK (ks.map kiV) (Sum.inl (k : Int)) (V.bl true) = (insU ks k).map kiV :=
  putK_const (fun k : Nat => (Sum.inl (k : Int) : Key)) (fun a b e => by have := Sum.inl.inj e; omega) (V.bl true) ks k
section
variable {C : Addr} {ρ : Rsc} {S0 H0 Hs S H S1 H1 S2 H2 : Hp} {v x y : V} {r r1 r2 r3 : Sl} {sl : List Sl} {σ : L2.St} {te ta tb : TE} {t : TA} {K K' : Sl → Prop} {F : PySem.W.Frag} {nx bk ct : List Sl → Prop} {rt : Sl → Prop} {tu tv : TS} {i : Nat}
/-- an own thing of a slot becomes data -/
theorem Good.freezeCell {o : HO} {ho : ∀ xs, o ≠ .tup xs} {d : Dt} (g : Good C ρ S0 H0 S H σ sl) (e : sl[i]? = some (.cell (cellO o ho))) (hd : ∀ S' p, S' p = some o → Rp C S' (.ref p) d) : ∃ S', Good C ρ S0 H0 S' H σ (sl.set i (.dat d)) ∧ Same S S' := by
  obtain ⟨p, ev, h0, h1, h2⟩ := g.cellD e
  have hi : i < sl.length := (List.getElem?_eq_some_iff.mp e).1
  have a := g.mv.freeze g.k0 h0 h2
  have ss : Same S (upd S p o) := same_new h1
  refine ⟨upd S p o, ⟨g.k1, a, by simp [g.len], fun j t ej => ?_, fun j k s' t' q hjk e1 e2 o1 o2 e3 e4 => ?_⟩, ss⟩
  · by_cases hj : j = i
    · subst hj
      rw [List.getElem?_set_self hi] at ej
      cases ej
      exact ⟨.ref p, by rw [ev]; rfl, hd _ p upd_same⟩
    · rw [List.getElem?_set_ne (Ne.symm hj)] at ej
      have q := g.ok j t ej
      have ne : ∀ b, σ[j]?.getD none = some (.ref b) → t.isOwn → b ≠ p := fun b ev' ot z => by
        refine g.ne i j _ t p (Ne.symm hj) e ej trivial ot ev ?_
        rw [z] at ev'
        have hj' : j < σ.length := by rw [g.len]; exact (List.getElem?_eq_some_iff.mp ej).1
        rw [List.getElem?_eq_getElem hj'] at ev' ⊢
        simpa using ev'
      cases t with
      | any => trivial
      | bor d => trivial
      | bcell d => trivial
      | dat d => obtain ⟨v, ev', h⟩ := q; exact ⟨v, ev', Rp.mono ss h⟩
      | raw d => exact q
      | own ds' =>
        obtain ⟨v, ev', b, ys, e1, g0, g1, g2, g3⟩ := q
        subst e1
        exact ⟨_, ev', b, ys, rfl, g0, by rw [upd_ne (ne b ev' trivial)]; exact g1, g2, g3.mono ss⟩
      | cell ds' =>
        obtain ⟨v, ev', b, u, e1, g0, g1, g2, g3⟩ := q
        subst e1
        exact ⟨_, ev', b, u, rfl, g0, by rw [upd_ne (ne b ev' trivial)]; exact g1, g2, ds'.mono ss g3⟩
  · have orig : ∀ (m : Nat) (u : Sl), (sl.set i (.dat d))[m]? = some u → u.isOwn → sl[m]? = some u := fun m u em ou => by
      by_cases hm : m = i
      · subst hm
        rw [List.getElem?_set_self hi] at em
        cases em; exact ou.elim
      · rw [List.getElem?_set_ne (Ne.symm hm)] at em; exact em
    exact g.ne j k s' t' q hjk (orig j s' e1 o1) (orig k t' e2 o2) o1 o2 e3 e4
theorem Good.freezeT {ts : List (Nat × Nat)} (g : Good C ρ S0 H0 S H σ sl) (e : sl[i]? = some (dT ts)) : ∃ S', Good C ρ S0 H0 S' H σ (sl.set i (.dat (.dkt ts))) ∧ Same S S' := g.freezeCell e fun S' p h => .dkt h
theorem Good.freezeK {ks : List Nat} (g : Good C ρ S0 H0 S H σ sl) (e : sl[i]? = some (dK ks)) : ∃ S', Good C ρ S0 H0 S' H σ (sl.set i (.dat (.dki ks))) ∧ Same S S' := g.freezeCell e fun S' p h => .dki h
/-- slot i's own thing may stand as the data d -/
def Lends (C : Addr) (sl : List Sl) (i : Nat) (d : Dt) : Prop := ∀ (ρ : Rsc) (S0 H0 S H : Hp) (σ : L2.St), Good C ρ S0 H0 S H σ sl → ∃ S', Good C ρ S0 H0 S' H σ (sl.set i (.dat d)) ∧ Same S S'
theorem lendL {ds : List Dt} (e : sl[i]? = some (.own ds)) : Lends C sl i (.lst ds) := fun _ _ _ _ _ _ g => g.freezeAt e
theorem lendT {ts : List (Nat × Nat)} (e : sl[i]? = some (dT ts)) : Lends C sl i (.dkt ts) := fun _ _ _ _ _ _ g => g.freezeT e
theorem lendK {ks : List Nat} (e : sl[i]? = some (dK ks)) : Lends C sl i (.dki ks) := fun _ _ _ _ _ _ g => g.freezeK e
theorem lent_mv (g : Good C ρ S0 H0 S H σ sl) (ss : Same S S1) (a : Mv ρ S1 H S2 H2) : Mv ρ S H S H2 :=
  ⟨⟨fun b o e => a.ok.sh b o (a.ss b o (ss b o e)), g.k.m, a.ok.t, a.ok.r⟩, Same.refl S, a.hh, fun b e _ => e⟩
theorem wx_lend {d0 : Dt} (l : Lends C sl i d0) (h : WX C ρ te (sl.set i (.dat d0)) fun r => ∃ d, r = .dat d ∧ flatD d = true ∧ K r) : WX C ρ te sl K := fun S0 H0 S H σ g Q q => by
  obtain ⟨S', g', ss⟩ := l ρ S0 H0 S H σ g
  refine h S0 H0 S' H σ g' _ fun r S1 H1 v ⟨d, er, f, k⟩ a1 ok1 => ?_
  subst er
  exact q _ S H1 v k (lent_mv g ss a1) (flat_any f ok1)
theorem xlend {d0 d : Dt} (l : Lends C sl i d0) (f : flatD d = true) (h : XD C ρ te (sl.set i (.dat d0)) (.dat d)) : XD C ρ te sl (.dat d) := wx_lend l (h.imp fun _ e => ⟨d, e, f, e⟩)
theorem wt_lend {d0 : Dt} {tt : TT} {KB : Bool → Prop} (l : Lends C sl i d0) (h : WT C ρ tt (sl.set i (.dat d0)) KB) : WT C ρ tt sl KB := fun S0 H0 S H σ g Q q => by
  obtain ⟨S', g', ss⟩ := l ρ S0 H0 S H σ g
  exact h S0 H0 S' H σ g' _ fun b S1 H1 k a1 => q b S H1 k (lent_mv g ss a1)
theorem tlend {d0 : Dt} {tt : TT} {b : Bool} (l : Lends C sl i d0) (h : TD C ρ tt (sl.set i (.dat d0)) b) : TD C ρ tt sl b := wt_lend l h
/-- an own thing becomes data for good -/
theorem sd_frz {t : TS} {d0 : Dt} (l : Lends C sl i d0) (h : SD C ρ t (sl.set i (.dat d0)) nx rt bk ct) : SD C ρ t sl nx rt bk ct := fun S0 H0 S H σ g D a b c d => by
  obtain ⟨S', g', ss⟩ := l ρ S0 H0 S H σ g
  exact sd_from h g' ss a b c d
/-! ### a new dict -/
theorem wx_dnewT (k : K (dT [])) : WX C ρ tDNewT sl K := fun S0 H0 S H σ g Q q p hp => q _ S (upd H p (.dT [])) _ k (Mv.new g.k hp _) ⟨p, _, rfl, hp, g.k.ns hp, upd_same, rfl⟩
theorem wx_dnewK (k : K (dK [])) : WX C ρ tDNewK sl K := fun S0 H0 S H σ g Q q p hp => q _ S (upd H p (.dK [])) _ k (Mv.new g.k hp _) ⟨p, _, rfl, hp, g.k.ns hp, upd_same, rfl⟩
/-- known[key] = True -/
theorem sd_putT {ts : List (Nat × Nat)} (e : sl[i]? = some (dT ts)) (hl : ts.length < 1000000) (h : WX C ρ te sl fun r => r = .dat (.bl true) ∧ WX C ρ ta sl fun r2 => ∃ p : Nat × Nat, r2 = .dat (tieD p) ∧ nx (sl.set i (dT (insU ts p)))) :
    SD C ρ (tAsg te (gSub (tVar i) ta rSetA)) sl nx rt bk ct := fun S0 H0 S H σ g D a _ _ _ => by
  obtain ⟨q, ev, h0, hs, hq⟩ := g.cellD e
  refine h S0 H0 S H σ g _ fun r S1 H1 y ⟨er, h2⟩ a1 ok1 => ?_
  subst er; cases ok1
  refine ⟨_, ev, ?_⟩
  refine h2 S0 H0 S1 H1 σ (g.move a1) _ fun r2 S3 H3 z ⟨p, e2, kk⟩ a3 ok3 => ?_
  subst e2
  have a13 := a1.trans g.k a3
  have hp3 : H3 q = some _ := a13.hh q _ (g.k0.nm h0) hq
  have hs3 : S3 q = none := a13.fr q hs (by rw [hq]; simp)
  obtain ⟨b, xs, rfl, _, hb, ra⟩ := ok3.tupD a3.ok
  obtain rfl : xs = [.int (p.1 : Int), .int (p.2 : Int)] := by
    cases ra with
    | cons x1 r => cases r with
      | cons x2 r => cases r; cases x1; cases x2; rfl
  refine .inr ⟨q, _, rfl, .inr ⟨_, [Sum.inl (p.1 : Int), Sum.inl (p.2 : Int)], b, hp3, rfl, hb, by rw [List.length_map, sizeLine_eq]; omega, rfl⟩, ?_⟩
  rw [putK_t]
  exact a _ S3 _ σ kk a13.ss ((g.move a13).mutAt e trivial ev _ _ trivial ⟨q, _, rfl, h0, hs3, upd_same, rfl⟩)
theorem sd_putK {ks : List Nat} (e : sl[i]? = some (dK ks)) (hl : ks.length < 1000000) (h : WX C ρ te sl fun r => r = .dat (.bl true) ∧ WX C ρ ta sl fun r2 => ∃ k : Nat, r2 = .dat (.int (k : Int)) ∧ nx (sl.set i (dK (insU ks k)))) :
    SD C ρ (tAsg te (gSub (tVar i) ta rSetA)) sl nx rt bk ct := fun S0 H0 S H σ g D a _ _ _ => by
  obtain ⟨q, ev, h0, hs, hq⟩ := g.cellD e
  refine h S0 H0 S H σ g _ fun r S1 H1 y ⟨er, h2⟩ a1 ok1 => ?_
  subst er; cases ok1
  refine ⟨_, ev, ?_⟩
  refine h2 S0 H0 S1 H1 σ (g.move a1) _ fun r2 S3 H3 z ⟨k, e2, kk⟩ a3 ok3 => ?_
  subst e2; cases ok3
  have a13 := a1.trans g.k a3
  have hp3 : H3 q = some _ := a13.hh q _ (g.k0.nm h0) hq
  have hs3 : S3 q = none := a13.fr q hs (by rw [hq]; simp)
  refine .inr ⟨q, _, rfl, .inl ⟨_, Sum.inl (k : Int), hp3, rfl, by rw [List.length_map, sizeLine_eq]; omega, rfl⟩, ?_⟩
  rw [putK_k]
  exact a _ S3 _ σ kk a13.ss ((g.move a13).mutAt e trivial ev _ _ trivial ⟨q, _, rfl, h0, hs3, upd_same, rfl⟩)
end
end D3
/-! list(reversed(xs)) -/
namespace D3
open PySem PyProof.Rows L2
def nl0 : Obj := { cls := .type "list", data := .seq #[] }
section
variable {prog : Program} {w : World} {A : Around} {E : Value → Shared → Prop} {s : Shared}
/-- the loop that fills the new list S from a list's reversed iterator -/
theorem lrev_fill {it l S : Addr} {its : Array Value} {R : Result → Shared → Prop} (hh : A.handled = none) (hit : s.heap.IsRevIter it l ((its.size : Int) - 1)) (hl : s.heap.IsList l its) (hne : l ≠ it) (hn : its.size ≤ sizeLine) (nSi : S ≠ it) (nSl : S ≠ l) (c0 : Nat)
    (hS : s.heap.get? S = some { cls := .type "list", data := .seq #[] c0 })
    (hR : ∀ (h' : Heap) (tk : Nat) (acc : Array Value) (c' : Nat), (∀ b o, b ≠ S → b ≠ it → s.heap.get? b = some o → h'.get? b = some o) → h'.get? S = some { cls := .type "list", dict := none, data := .seq acc c', slots := #[] } → ItemsOf (fun i v => its[its.size - 1 - i]? = some v) acc its.size → R (.ok (.ret .none)) { s with heap := h', toks := tk }) :
    wpAny (model prog w) A.in1 (Builtin.List.listExtendWith (.ref S) (.ref it) .none) (fun f s' => match f with | .done f => R (.ok f) s' | .again c' => c'.quiet = true ∧ codeAny (model prog w) A c' R s') (fun e s' => R (.error e) s') s := by
  have wk := (Walks.listRev (prog := prog) (w := w) (A := A.in1) hh it l hne its).toS
  have ty : s.TypeIs (.ref it) "list_reverseiterator" := hit.typeIs
  have nS : S ∉ [it, l] := by simp; exact ⟨nSi, nSl⟩
  unfold Builtin.List.listExtendWith; refine wpAny_bind (wpAny_typeOf ty ?_)
  rw [if_neg (by rw [show Builtin.List.listSameRef (.ref S) (.ref it) = false by simp [Builtin.List.listSameRef, nSi]]; decide)]
  refine wpAny_bind (wpAny_pyIter_revIter hit ?_); refine wpAny_bind (wpAny_holding ?_)
  unfold Builtin.List.listLengthHint; refine wpAny_bind (wpAny_specialOf ty RT.nolen_lri ?_)
  show wpAny _ A.in1 (specialOf (Value.ref it) (Str.ofString "__length_hint__") >>= _) _ _ _
  refine wpAny_bind (wpAny_specialOf ty RT.hint_lri ?_); generalize hid : ("list_reverseiterator.__length_hint__" : String) = jd
  wp_delta
  rw [show splitId jd = some ("list_reverseiterator", "__length_hint__") from by subst hid; decide +kernel]
  subst hid; refine wpAny_bind (wpAny_isInstance (b := true) ty (by rw [isSubtype_type]; kernel_rfl) ?_)
  refine wpAny_pure ?_; rw [if_neg (by decide)]
  refine wpAny_pure ⟨plainId_quiet F.plain_extend_loop _, codeAny_extend_loopS wk hn S nS _ its.size 0 _ _ _ rfl (Nat.zero_le _) ⟨Nat.zero_le _, by rw [show ((its.size : Nat) : Int) - 1 - ((0 : Nat) : Int) = (its.size : Int) - 1 by omega]; exact hit, hl⟩ hS (ItemsOf.nil _) fun s' acc' c' hm hS' ha => ?_⟩
  rw [Moved.eq_with hm]
  refine hR s'.heap s'.toks acc' c' (fun b o n1 n2 e => hm.heap b o (fun m => ?_) e) hS' ha
  rcases List.mem_cons.mp m with e' | m
  · exact n1 e'
  · exact n2 (List.mem_singleton.mp m)
theorem lrev_init {it l S : Addr} {its : Array Value} {R : Result → Shared → Prop} (hh : A.handled = none) (hit : s.heap.IsRevIter it l ((its.size : Int) - 1)) (hl : s.heap.IsList l its) (hne : l ≠ it) (hn : its.size ≤ sizeLine) (nSi : S ≠ it) (nSl : S ≠ l)
    (hS : s.heap.get? S = some nl0)
    (hR : ∀ (h' : Heap) (tk : Nat) (acc : Array Value) (c' : Nat), (∀ b o, b ≠ S → b ≠ it → s.heap.get? b = some o → h'.get? b = some o) → h'.get? S = some { cls := .type "list", dict := none, data := .seq acc c', slots := #[] } → ItemsOf (fun i v => its[its.size - 1 - i]? = some v) acc its.size → R (.ok (.ret .none)) { s with heap := h', toks := tk }) :
    wpAny (model prog w) A.in1 (Builtin.«list.__init__» ⟨[.ref S, .ref it], []⟩) (fun f s' => match f with | .done f => R (.ok f) s' | .again c' => c'.quiet = true ∧ codeAny (model prog w) A c' R s') (fun e s' => R (.error e) s') s := by
  show wpAny _ _ (do let o1 ← Builtin.List.listItems (.ref S); Builtin.List.listUpdate (.ref S) (fun _ => #[]); letGo o1.toList.reverse; Builtin.List.listExtendWith (.ref S) (.ref it) .none) _ _ s
  refine wpAny_bind ?_; unfold Builtin.List.listItems
  refine wpAny_bind (wpAny_seqItems hS rfl (wpAny_pure ?_)); show wpAny _ _ (updateSeq S (fun _ => #[]) >>= fun _ => letGo (#[] : Array Value).toList.reverse >>= fun _ => Builtin.List.listExtendWith (.ref S) (.ref it) .none) _ _ s
  refine wpAny_bind (wpAny_updateSeq hS rfl ?_)
  have h2 := Heap.get?_update_self (Obj.mapSeq (fun _ => (#[] : Array Value))) hS rfl
  have ot : ∀ b o, b ≠ S → s.heap.get? b = some o → (s.heap.update S (Obj.mapSeq (fun _ => (#[] : Array Value)))).get? b = some o := fun b o hb e => (Heap.get?_update_other _ _ (Ne.symm hb)).trans e
  refine wpAny_bind (wpAny_letGo ?_)
  obtain ⟨ol, hol, ql⟩ := id hl
  refine lrev_fill hh (hit.at fun o e => ot it o (Ne.symm nSi) e) ⟨ol, ot l ol (Ne.symm nSl) hol, ql⟩ hne hn nSi nSl _ h2 fun h' tk acc c' hk => ?_
  exact hR h' tk acc c' (fun b o n1 n2 e => hk b o n1 n2 (ot b o n1 e))
theorem lrev_call {it l : Addr} {its : Array Value} {Q : Value → Shared → Prop} (hh : A.handled = none) (hit : s.heap.IsRevIter it l ((its.size : Int) - 1)) (hl : s.heap.IsList l its) (hne : l ≠ it) (hn : its.size ≤ sizeLine)
    (hQ : ∀ (h' : Heap) (tk : Nat) (acc : Array Value) (c' : Nat), (∀ b o, b ≠ it → s.heap.get? b = some o → h'.get? b = some o) → h'.get? s.heap.objs.size = some { cls := .type "list", dict := none, data := .seq acc c', slots := #[] } → ItemsOf (fun i v => its[its.size - 1 - i]? = some v) acc its.size → Q (.ref s.heap.objs.size) { s with heap := h', toks := tk }) :
    wpAny (model prog w) A (call (.type "list") [.ref it]) Q E s := by
  refine callType_codes (Q₁ := fun b t => b = .ref s.heap.objs.size ∧ t = { s with heap := s.heap.push nl0 }) F.called_list (F.typeCall_list_1 _) F.entry_list_init (code_list_new _ ⟨rfl, rfl⟩) fun b t ht => ?_
  obtain ⟨rfl, rfl⟩ := ht
  have hS : (s.heap.push nl0).get? s.heap.objs.size = some nl0 := Heap.get?_push_size _ rfl
  obtain ⟨oi, hoi, _⟩ := id hit
  obtain ⟨ol, hol, _⟩ := id hl
  refine ⟨⟨_, hS, rfl⟩, F.args_list_init_2 _ _, lrev_init (A := A.in1) hh (hit.at fun o e => Heap.get?_push_of_some _ e) (hl.push _) hne hn (Nat.ne_of_gt (Heap.lt_size hoi)) (Nat.ne_of_gt (Heap.lt_size hol)) hS fun h' tk acc c' hk e1 e2 => ⟨rfl, ?_⟩⟩
  exact hQ h' tk acc c' (fun b o n e => hk b o (Nat.ne_of_lt (Heap.lt_size e)) n (Heap.get?_push_of_some _ e)) e1 e2
end
/-- list(reversed(x)), x a list: a new list -/
def tLstRev (F : PySem.W.Frag) (te : TE) : TE := fun σ H Q => te σ H fun v H1 => ∃ (a : Addr) (xs : List V), v = .ref a ∧ SqL F H1 a xs ∧ ∀ q, H1 q = none → Q (.ref q) (upd H1 q (.lst xs.reverse))
section
variable {X : Cx}
theorem pe_lstRev {e : Expr} {te : TE} {p p2 pos pos2 : Pos} (hc : X.calm = true) (hg : Gl X "list") (hm : X.mg "list" = none) (hg2 : Gl X "reversed") (hm2 : X.mg "reversed" = none) (he : PE X e te)
    (hs : starEach [e] X.env = (false, eval e X.env) :: starEach [] X.env := by rfl) (hs2 : starEach [.Call (.Name "reversed" p2) [e] [] pos2] X.env = (false, eval (.Call (.Name "reversed" p2) [e] [] pos2) X.env) :: starEach [] X.env := by rfl) :
    PE X (.Call (.Name "list" p) [.Call (.Name "reversed" p2) [e] [] pos2] [] pos) (tLstRev X.K te) := by
  refine ⟨fun pins s σ H Q I h => Call_ (ld_blt I hg hm boot_list (PyProof.Rows.callWith_type1 (args_cons (Call_ (ld_blt I hg2 hm2 PyProof.Rows.boot_reversed (PyProof.Rows.callWith_type1 (args_cons (thn (he.run pins s σ H _ I h) fun u s1 ⟨v, H1, I1, r1, q1⟩ => args_nil ?_) hs) hs rfl))) hs2) hs2 rfl))⟩
  obtain ⟨a, xs, ev, hq, q⟩ := q1
  subst ev; obtain rfl : u = Value.ref a := r1
  obtain ⟨its, rv, p', hz⟩ := I1.list hq
  refine call_reversed_list p'.isList (args_nil ?_)
  have hl := p'.isList
  obtain ⟨ol, hol, _⟩ := id hl
  have hlt := Heap.lt_size hol
  have hz' : its.toArray.size ≤ sizeLine := by rw [List.size_toArray, ← rv.length]; exact hz
  refine lrev_call (s := { s1 with heap := s1.heap.push (revObj a ((its.toArray.size : Int) - 1)) }) (I1.ok.hd hc) ⟨_, Heap.get?_push_size _ rfl, rfl, rfl⟩ (hl.push _) (Nat.ne_of_lt hlt) hz' fun h' tk acc c' hk e1 e2 => ?_
  have hS : (s1.heap.push (revObj a ((its.toArray.size : Int) - 1))).objs.size = s1.heap.objs.size + 1 := by simp [Heap.push]
  have fp := I1.fpOk (H' := H1) (b := s1.heap.objs.size) (Nat.le_refl _) (I1.hok.fresh (Nat.le_refl _))
  rw [hS] at e1
  refine ⟨.ref (s1.heap.objs.size + 1), upd H1 (s1.heap.objs.size + 1) (.lst xs.reverse), ?_, by show Value.ref _ = Value.ref _; rw [hS], q _ (I1.hok.fresh (Nat.le_succ _))⟩
  exact I1.turnedNew (ch := [s1.heap.objs.size]) (t' := tk) (fun b o hb e => hk b o (fun z => hb (by simp [z])) (Heap.get?_push_of_some _ e)) (fun b hb => by rw [List.mem_singleton.mp hb]; exact fp) (Nat.le_succ _) (show ObjOk X.prog X.w _ _ _ (.lst xs.reverse) from ⟨by rw [List.length_reverse]; exact hz, acc.toList, c', RT.vals_rev rv e2, by rw [Array.toArray_toList]; exact e1⟩)
end
section
variable {C : Addr} {ρ : Rsc} {sl : List Sl} {te : TE} {K : Sl → Prop} {F : PySem.W.Frag}
theorem wx_lstRev (h : WX C ρ te sl fun r => ∃ ds, r.ls = some ds ∧ K (.own ds.reverse)) : WX C ρ (tLstRev F te) sl K := fun S0 H0 S H σ g Q q => by
  refine h S0 H0 S H σ g _ fun r S1 H1 v ⟨ds, e, k⟩ a1 ok1 => ?_
  obtain ⟨p, xs, rfl, hp, ra⟩ := ok1.lsD a1.ok e
  refine ⟨p, xs, rfl, SqL.of hp, ?_⟩
  exact fin_new a1.ok (fun r S' H' v kr a ok => q r S' H' v kr (a1.trans g.k a) (ok.pre fun p => a1.back g.k)) k ra.reverse
theorem xlstRev {ds : List Dt} {r : Sl} (h : XD C ρ te sl r) (e : r.ls = some ds) : XD C ρ (tLstRev F te) sl (.own ds.reverse) := wx_lstRev (h.w ⟨ds, e, rfl⟩)
end
section
variable {C : Addr} {ρ : Rsc} {sl : List Sl} {te : TE} {K : Sl → Prop} {F : PySem.W.Frag}
/-- xs[::-1] -/
theorem xrevL {ds : List Dt} {r : Sl} (h : XD C ρ te sl r) (e : r.ls = some ds) : XD C ρ (tRevL F te) sl (.own ds.reverse) := fun S0 H0 S H σ g Q q => by
  refine h S0 H0 S H σ g _ fun r1 S1 H1 v e1 a1 ok1 => ?_
  subst e1
  obtain ⟨p, xs, rfl, hp, ra⟩ := ok1.lsD a1.ok e
  refine ⟨p, xs, rfl, SqL.of hp, ?_⟩
  exact fin_new (K := (· = .own ds.reverse)) a1.ok (fun r S' H' v kr a ok => q r S' H' v kr (a1.trans g.k a) (ok.pre fun p => a1.back g.k)) rfl ra.reverse
/-! ### sorted: ints, rising -/
def srtZ (ns : List Int) : List Int := ns.mergeSort (fun a b => decide (a ≤ b))
theorem srtZ_perm (ns : List Int) : (srtZ ns).Perm ns := List.mergeSort_perm _ _
theorem srtZ_sorted (ns : List Int) : (srtZ ns).Pairwise (· ≤ ·) := by
  have h := List.pairwise_mergeSort (le := fun a b : Int => decide (a ≤ b)) (fun a b c h1 h2 => by simp at *; omega) (fun a b => by simp; omega) ns
  exact h.imp fun h => of_decide_eq_true h
theorem sorted_uniq : ∀ {l m : List Int}, l.Perm m → l.Pairwise (· ≤ ·) → m.Pairwise (· ≤ ·) → l = m
  | [], m, p, _, _ => (List.perm_nil.mp p.symm).symm
  | a :: l, [], p, _, _ => absurd p.length_eq (by simp)
  | a :: l, b :: m, p, h1, h2 => by
    have ha : a ∈ b :: m := p.subset List.mem_cons_self
    have hb : b ∈ a :: l := p.symm.subset List.mem_cons_self
    rw [List.pairwise_cons] at h1 h2
    have e : a = b := by
      rcases List.mem_cons.mp ha with e | ha
      · exact e
      · rcases List.mem_cons.mp hb with e | hb
        · exact e.symm
        · have := h1.1 b hb; have := h2.1 a ha; omega
    subst e
    rw [sorted_uniq p.cons_inv h1.2 h2.2]
theorem cd_sortI {ns : List Int} {r1 : Sl} (e : r1.ls = some (ns.map Dt.int)) (k : K (.own ((srtZ ns).map Dt.int))) : CD C ρ (rSortedI F) [r1] K := CD1 fun Hs S H v b ok rv Q q => by
  obtain ⟨p, xs, rfl, hp, ra⟩ := rv.lsD ok e
  obtain rfl := ra.ints
  refine ⟨p, ns, rfl, SqL.of hp, fun ns' d h1 h2 hd => ?_⟩
  have e2 : ns' = srtZ ns := sorted_uniq (h1.trans (srtZ_perm ns).symm) h2 (srtZ_sorted ns)
  subst e2
  have hr : RpAll C H ((srtZ ns).map V.int) ((srtZ ns).map Dt.int) := by
    induction srtZ ns with
    | nil => exact .nil
    | cons x l ih => exact .cons (.int _) ih
  exact fin_new ok q k (by
    have : RpAll C S ((srtZ ns).map V.int) ((srtZ ns).map Dt.int) := by
      induction srtZ ns with
      | nil => exact .nil
      | cons x l ih => exact .cons (.int _) ih
    exact this) d hd
theorem xsortI {ns : List Int} {r1 : Sl} {ta : TE} (h : XD C ρ ta sl r1) (e : (fz r1).ls = some (ns.map Dt.int)) : XD C ρ (tCB (rSortedI F) (tCons ta tNil)) sl (.own ((srtZ ns).map Dt.int)) := xcb (ac h an) (cd_sortI e rfl)
end
theorem k_sortI {X : Cx} (F : PySem.W.Frag) (h : X.K = F) : CallR X (.builtin "sorted") (rSortedI F) := h ▸ cr_sortedI
theorem k_revL {X : Cx} (F : PySem.W.Frag) (h : X.K = F) {e : Expr} {te : TE} {k : Nat} {p1 p2 p3 pos : Pos} (he : PE X e te) : PE X (.Subscript e (.Slice none none (some (.UnaryOp .USub (.Constant (.int 1) k p1) p2)) p3) pos) (tRevL F te) := h ▸ pe_revL he
theorem srt_range {ks : List Nat} {n : Nat} (h : ks.Perm (List.range n)) : (srtZ (ks.map fun (k : Nat) => (k : Int))).map Dt.int = (List.range n).map natD := by
  have e : srtZ (ks.map fun (k : Nat) => (k : Int)) = (List.range n).map fun (k : Nat) => (k : Int) := by
    refine sorted_uniq ((srtZ_perm _).trans (h.map _)) (srtZ_sorted _) ?_
    rw [List.pairwise_map]
    refine (List.pairwise_lt_range (n := n)).imp fun h => ?_
    omega
  rw [e, List.map_map]; rfl
theorem natD_ints (ks : List Nat) : (ks.map fun (k : Nat) => (k : Int)).map Dt.int = ks.map natD := by rw [List.map_map]; rfl
theorem plD_nats (ks : List Nat) : plD 64 (.lst (ks.map natD)) = true := plD_lst_map fun p _ => plD_natD _ p
theorem eqD_nats (xs ys : List Nat) : eqD (.lst (xs.map natD)) (.lst (ys.map natD)) = decide (xs = ys) := eqD_lst_map natD eqD_natD xs ys
section
variable {C : Addr} {ρ : Rsc} {sl : List Sl} {ta tb : TE}
/-- x is True, x is not True -/
theorem xisB {a b : Bool} (h1 : XD C ρ ta sl (.dat (.bl a))) (h2 : XD C ρ tb sl (.dat (.bl b))) : XD C ρ (tOp (fun x y H Q => ∃ a b, x = .bl a ∧ y = .bl b ∧ Q (.bl (decide (a = b))) H) ta tb) sl (.dat (.bl (decide (a = b)))) := xop h1 h2 fun Hs S H x y _ ok h1 h2 Q q => by
  cases h1; cases h2
  exact ⟨a, b, rfl, rfl, fin_dat (K := (· = .dat (.bl (decide (a = b))))) ok q rfl (.bl _)⟩
theorem xisnB {a b : Bool} (h1 : XD C ρ ta sl (.dat (.bl a))) (h2 : XD C ρ tb sl (.dat (.bl b))) : XD C ρ (tOp (fun x y H Q => ∃ a b, x = .bl a ∧ y = .bl b ∧ Q (.bl (!decide (a = b))) H) ta tb) sl (.dat (.bl (!decide (a = b)))) := xop h1 h2 fun Hs S H x y _ ok h1 h2 Q q => by
  cases h1; cases h2
  exact ⟨a, b, rfl, rfl, fin_dat (K := (· = .dat (.bl (!decide (a = b))))) ok q rfl (.bl _)⟩
end
end D3
/-! xs.remove(x) of data; sorted of pairs -/
namespace D3
open PySem PyProof.Rows L2
/-- the first equal item, at place j, is gone -/
def rRemD (F : PySem.W.Frag) : V → List V → Hp → VK → Prop := fun x vs H Q => ∃ (l : Addr) (ys : List V) (y : V) (d : PyData) (ds : List PyData) (j : Nat), x = .ref l ∧ vs = [y] ∧ H l = some (.lst ys) ∧ DpAll F H ys ds ∧ Dp F H y d ∧
  SeqAt.shaped (.list ds) = true ∧ SeqAt.shaped d = true ∧ (∃ z, ds[j]? = some z ∧ PyData.eqv z d = true) ∧ (∀ (m : Nat) (z : PyData), m < j → ds[m]? = some z → PyData.eqv z d = false) ∧ Q .non (upd H l (.lst (ys.eraseIdx j)))
theorem mt_remD {X : Cx} (hu : X.A.units + 65 < cLine) : MtM X "list.remove" (rRemD X.K) := by
  intro pins s σ H x vs v us Q I rx rv h
  obtain ⟨l, ys, y, d, ds, j, rfl, rfl, hH, ha, hy, sl, sd, ⟨w0, hz, hzj⟩, hno, q⟩ := h
  cases rx
  obtain ⟨u, rfl, ru⟩ := rv.one
  obtain ⟨z, its, n, r, hl, e⟩ := I.lstM hH
  obtain ⟨bs, r1⟩ := Dp.reads I d y u hy ru
  have hxs : PyData.canLayAll0 ds = true := SeqAt.canLay_of_shaped sl
  have hroom : X.A.units + 1 + min (PyData.depthAll ds) d.depth < cLine := room_in_shaped sd hu
  obtain ⟨as, h4⟩ := Dp.readsAll I ds _ its ha r
  have hn : its.length = ds.length := SeqAt.ReadsAll.length ds its as h4
  have hmap : its.map (SeqAt.readOf s.heap) = ds := SeqAt.readsAll_map ds its as hxs h4
  have hyl := r.length
  obtain ⟨hjd, _⟩ := List.getElem?_eq_some_iff.mp hz
  have hj : j < its.toArray.size := by rw [List.size_toArray]; omega
  have at_ : ∀ (m : Nat) (hm : m < its.toArray.size) (z' : PyData), ds[m]? = some z' → SeqAt.readOf s.heap its.toArray[m] = z' := fun m hm z' hz' => by
    have hml : m < its.length := by rw [List.size_toArray] at hm; exact hm
    rw [← hmap, List.getElem?_map, List.getElem?_eq_getElem hml] at hz'
    simpa using Option.some.inj hz'
  refine call_meets PySem.F.slot_list_remove ⟨_, e, rfl⟩ PySem.F.entry_list_remove (PySem.F.args_list_remove_2 _ _) (SeqAt.list_removeAt l its.toArray n none #[] u (fun u => PyData.eqv (SeqAt.readOf s.heap u) d) j hj ?_ ?_ (by rw [List.size_toArray]; omega)) ⟨e, SeqAt.items_eqAt (vs := its.toArray) (show ReadsAll s.heap its.toArray.toList ds as from h4) r1 hxs (SeqAt.canLay_of_shaped sd) hroom, ?_⟩
  · show PyData.eqv (SeqAt.readOf s.heap its.toArray[j]) d = true
    rw [at_ j hj w0 hz]; exact hzj
  · intro m hm hmj
    have hz' : ds[m]? = some (ds[m]'(by omega)) := List.getElem?_eq_getElem _
    show PyData.eqv (SeqAt.readOf s.heap its.toArray[m]) d = false
    rw [at_ m hm _ hz']; exact hno m _ hmj hz'
  · refine ⟨.non, _, I.lset (its' := its.eraseIdx j) (t' := s.toks) hH e ?_ (r.eraseIdx j) ?_, rfl, q⟩
    · show its.toArray.eraseIdxIfInBounds j = (its.eraseIdx j).toArray
      rw [List.eraseIdxIfInBounds_toArray]
    · have := List.length_eraseIdx_le ys j; omega
theorem k_remD {X : Cx} (F : PySem.W.Frag) (h : X.K = F) {k : Nat} (hr : Room k X.A) : MtM X "list.remove" (rRemD F) := h ▸ mt_remD (by have := hr.un; omega)
section
variable {C : Addr} {ρ : Rsc} {sl : List Sl} {te : TE} {nx bk ct : List Sl → Prop} {rt : Sl → Prop} {F : PySem.W.Frag}
theorem toPys_get : ∀ {ds : List Dt} {j : Nat} {d : Dt}, ds[j]? = some d → (toPys ds)[j]? = some (toPy d)
  | [], _, _, h => by simp at h
  | x :: xs, 0, d, h => by simp at h; subst h; rfl
  | x :: xs, j + 1, d, h => by
    have := toPys_get (ds := xs) (j := j) (d := d) (by simpa using h)
    simpa [toPys] using this
theorem toPys_len : ∀ ds : List Dt, (toPys ds).length = ds.length
  | [] => rfl
  | x :: xs => by rw [toPys, List.length_cons, List.length_cons, toPys_len xs]
theorem erase_map {α β : Type} (f : α → β) : ∀ (l : List α) (j : Nat), (l.map f).eraseIdx j = (l.eraseIdx j).map f
  | [], j => by simp
  | a :: r, 0 => by simp
  | a :: r, j + 1 => by simp [erase_map f r j]
theorem erase_filter {α : Type} [DecidableEq α] {p : α} : ∀ {l : List α} {j : Nat}, l.Nodup → l[j]? = some p → l.eraseIdx j = l.filter fun q => !decide (q = p)
  | [], j, _, h => by simp at h
  | a :: r, 0, nd, h => by
    simp at h; subst h
    have nd' := List.nodup_cons.mp nd
    rw [List.filter_cons, if_neg (by simp)]
    show r = _
    symm
    rw [List.filter_eq_self]
    intro x hx
    have hne : x ≠ a := fun z => by subst z; exact nd'.1 hx
    simpa using hne
  | a :: r, j + 1, nd, h => by
    have nd' := List.nodup_cons.mp nd
    have hr : r[j]? = some p := by simpa using h
    have hne : a ≠ p := fun z => by subst z; exact nd'.1 (List.mem_of_getElem? hr)
    rw [List.filter_cons, if_pos (by simpa using hne), List.eraseIdx_cons_succ, erase_filter nd'.2 hr]
/-- xs.remove(e), the ties that xs holds each once -/
theorem sd_remT {i : Nat} {ts : List (Nat × Nat)} (e : sl[i]? = some (.own (ts.map tieD))) (nd : ts.Nodup) (h : WX C ρ te sl fun r => ∃ p, r = .dat (tieD p) ∧ p ∈ ts ∧ nx (sl.set i (.own ((ts.filter fun q => !decide (q = p)).map tieD)))) :
    SD C ρ (tDrop (tBM F "list" (rRemD F) (tVar i) (tCons te tNil))) sl nx rt bk ct := fun S0 H0 S H σ g D a _ _ _ => by
  obtain ⟨l, ys, ev, h0, hs, hp, ra⟩ := g.own e
  refine ⟨_, ev, .inl ⟨rfl, _, .inl (.inl hp)⟩, ?_⟩
  refine h S0 H0 S H σ g _ fun r S1 H1 y ⟨p, er, hm, k⟩ a1 ok1 => ?_
  subst er
  obtain ⟨j, hj⟩ := List.getElem?_of_mem hm
  have hp1 : H1 l = some (.lst ys) := a1.hh l _ (g.k0.nm h0) hp
  have hs1 : S1 l = none := a1.fr l hs (by rw [hp]; simp)
  have ra1 := ra.mono a1.ss
  have pl : plDs 60 (ts.map tieD) = true := plDs_all.mpr fun x hx => by
    obtain ⟨q, _, rfl⟩ := List.mem_map.mp hx
    exact plD_tieD 59 q
  have pl64 : plD 64 (.lst (ts.map tieD)) = true := plD_ties ts
  have ee : (ys.eraseIdx j).length = ((ts.map tieD).eraseIdx j).length := by rw [List.length_eraseIdx, List.length_eraseIdx, ra.length]
  refine ⟨l, ys, y, toPy (tieD p), toPys (ts.map tieD), j, rfl, rfl, hp1, RpAll.dp pl (ra1.mono a1.ok.sh), Rp.dp (n := 60) (plD_tieD _ p) (Rp.mono a1.ok.sh ok1), plD_shaped pl64, plD_shaped (plD_tieD 63 p), ⟨toPy (tieD p), toPys_get (by rw [List.getElem?_map, hj]; rfl), ?_⟩, fun m z hmj hz => ?_, ?_⟩
  · have := eqD_tieD p p
    rw [decide_eq_true rfl] at this; exact this
  · have hml : m < ts.length := by
      have := (List.getElem?_eq_some_iff.mp hz).1
      rw [toPys_len, List.length_map] at this; exact this
    obtain ⟨q, hq⟩ : ∃ q, ts[m]? = some q := ⟨_, List.getElem?_eq_getElem hml⟩
    have hz2 := toPys_get (ds := ts.map tieD) (j := m) (d := tieD q) (by rw [List.getElem?_map, hq]; rfl)
    rw [hz2] at hz; cases hz
    have hne : q ≠ p := fun z => by
      subst z
      have := nd_ix nd hq hj; omega
    have := eqD_tieD q p
    rw [decide_eq_false hne] at this; exact this
  · have er : (ts.map tieD).eraseIdx j = (ts.filter fun q => !decide (q = p)).map tieD := by
      rw [erase_map, erase_filter nd hj]
    refine a _ S1 _ σ k a1.ss ((g.move a1).mutAt e trivial ev _ _ trivial ⟨l, _, rfl, h0, hs1, upd_same, ?_⟩)
    rw [← er]
    exact ra1.eraseIdx j
end
/-! ### sorted: pairs of numbers -/
def pLe (p q : Nat × Nat) : Bool := decide (p.1 < q.1 ∨ (p.1 = q.1 ∧ p.2 ≤ q.2))
def srtP (ts : List (Nat × Nat)) : List (Nat × Nat) := ts.mergeSort pLe
theorem srtP_perm (ts : List (Nat × Nat)) : (srtP ts).Perm ts := List.mergeSort_perm _ _
theorem srtP_sorted (ts : List (Nat × Nat)) : (srtP ts).Pairwise fun p q => pLe p q = true :=
  List.pairwise_mergeSort (le := pLe) (fun a b c h1 h2 => by simp [pLe] at *; omega) (fun a b => by simp [pLe]; omega) ts
theorem uniqG {α : Type} {r : α → α → Prop} (anti : ∀ a b, r a b → r b a → a = b) : ∀ {l m : List α}, l.Perm m → l.Pairwise r → m.Pairwise r → l = m
  | [], m, p, _, _ => (List.perm_nil.mp p.symm).symm
  | a :: l, [], p, _, _ => absurd p.length_eq (by simp)
  | a :: l, b :: m, p, h1, h2 => by
    have ha : a ∈ b :: m := p.subset List.mem_cons_self
    have hb : b ∈ a :: l := p.symm.subset List.mem_cons_self
    rw [List.pairwise_cons] at h1 h2
    have e : a = b := by
      rcases List.mem_cons.mp ha with e | ha
      · exact e
      · rcases List.mem_cons.mp hb with e | hb
        · exact e.symm
        · exact anti a b (h1.1 b hb) (h2.1 a ha)
    subst e
    rw [uniqG anti p.cons_inv h1.2 h2.2]
theorem pLe_anti (a b : Nat × Nat) (h1 : pLe a b = true) (h2 : pLe b a = true) : a = b := by
  obtain ⟨a1, a2⟩ := a
  obtain ⟨b1, b2⟩ := b
  simp [pLe] at h1 h2
  ext <;> simp <;> omega
theorem srtP_of_perm {ts us : List (Nat × Nat)} (h : ts.Perm us) : srtP ts = srtP us := uniqG pLe_anti ((srtP_perm ts).trans (h.trans (srtP_perm us).symm)) (srtP_sorted ts) (srtP_sorted us)
/-- the pair that a ref bears -/
def kP (S : Hp) (x : V) : Int × Int := match x with
  | .ref t => match S t with
    | some (.tup [.int i, .int j]) => (i, j)
    | _ => (0, 0)
  | _ => (0, 0)
def kN (S : Hp) (x : V) : Nat × Nat := ((kP S x).1.toNat, (kP S x).2.toNat)
theorem ties_refs {C : Addr} {S : Hp} : ∀ {xs : List V} {ts : List (Nat × Nat)}, RpAll C S xs (ts.map tieD) → xs.map (kN S) = ts ∧ ∀ x ∈ xs, ∃ t, x = .ref t ∧ S t = some (.tup [.int ((kN S x).1 : Int), .int ((kN S x).2 : Int)]) ∧ kP S x = (((kN S x).1 : Int), ((kN S x).2 : Int))
  | [], ts, h => by
    cases ts with
    | nil => exact ⟨rfl, fun x hx => by cases hx⟩
    | cons => cases h
  | x :: xs, ts, h => by
    cases ts with
    | nil => cases h
    | cons p ts =>
      cases h with
      | cons h1 h2 =>
        obtain ⟨e, f⟩ := ties_refs h2
        obtain ⟨t, rfl, ht⟩ := Rp.pair (a := p.1) (b := p.2) h1
        have ek : kP S (.ref t) = ((p.1 : Int), (p.2 : Int)) := by unfold kP; simp only [ht]; rfl
        have en : kN S (.ref t) = p := by unfold kN; rw [ek]; simp
        refine ⟨by rw [List.map_cons, e, en], fun x hx => ?_⟩
        rcases List.mem_cons.mp hx with rfl | hx
        · exact ⟨t, rfl, by rw [en]; exact ht, by rw [en]; exact ek⟩
        · exact f x hx
theorem refs_ties {C : Addr} {S : Hp} : ∀ {ys : List V}, (∀ x ∈ ys, ∃ t, x = .ref t ∧ S t = some (.tup [.int ((kN S x).1 : Int), .int ((kN S x).2 : Int)])) → RpAll C S ys ((ys.map (kN S)).map tieD)
  | [], _ => .nil
  | y :: ys, h => by
    obtain ⟨t, e, ht⟩ := h y List.mem_cons_self
    refine .cons ?_ (refs_ties fun x hx => h x (List.mem_cons_of_mem _ hx))
    subst e
    exact .tup ht (.cons (.int _) (.cons (.int _) .nil))
section
variable {C : Addr} {ρ : Rsc} {sl : List Sl} {ta : TE} {K : Sl → Prop} {F : PySem.W.Frag} {r1 : Sl}
theorem cd_sortP {ts : List (Nat × Nat)} (e : r1.ls = some (ts.map tieD)) (k : K (.own ((srtP ts).map tieD))) : CD C ρ (rSortedPO F) [r1] K := CD1 fun Hs S H v b ok rv Q q => by
  have hls : ∃ p xs, v = .ref p ∧ H p = some (.lst xs) ∧ RpAll C S xs (ts.map tieD) := by
    obtain ⟨p, xs, e1, e2, e3⟩ := rv.lsD ok e
    exact ⟨p, xs, e1, e2, e3⟩
  obtain ⟨p, xs, rfl, hp, ra⟩ := hls
  obtain ⟨em, f⟩ := ties_refs ra
  refine ⟨p, xs, kP S, rfl, SqL.of hp, fun x hx => ?_, fun ys d h1 h2 hd => ?_⟩
  · obtain ⟨t, e1, e2, e3⟩ := f x hx
    exact ⟨t, e1, by rw [e3]; exact ok.sh _ _ e2⟩
  · have hperm : ys.Perm xs := h2.perm
    have hy : ∀ x ∈ ys, ∃ t, x = .ref t ∧ S t = some (.tup [.int ((kN S x).1 : Int), .int ((kN S x).2 : Int)]) := fun x hx => by
      obtain ⟨t, e1, e2, _⟩ := f x (hperm.subset hx)
      exact ⟨t, e1, e2⟩
    have es : ys.map (kN S) = srtP ts := by
      refine uniqG pLe_anti ((hperm.map _).trans (by rw [em]; exact (srtP_perm ts).symm)) ?_ (srtP_sorted ts)
      rw [List.pairwise_map]
      refine List.Pairwise.imp_of_mem (fun {a b} ha hb h => ?_) h1
      obtain ⟨_, _, _, ka⟩ := f a (hperm.subset ha)
      obtain ⟨_, _, _, kb⟩ := f b (hperm.subset hb)
      have := SrtO.lexB_no.mp h
      rw [ka, kb] at this
      simp only at this
      unfold pLe
      rw [decide_eq_true_eq]
      omega
    have hr := refs_ties (C := C) hy
    rw [es] at hr
    exact fin_new ok q k hr d hd
theorem xsortP {ts : List (Nat × Nat)} (h : XD C ρ ta sl r1) (e : (fz r1).ls = some (ts.map tieD)) : XD C ρ (tCB (rSortedPO F) (tCons ta tNil)) sl (.own ((srtP ts).map tieD)) := xcb (ac h an) (cd_sortP e rfl)
end
theorem k_sortP {X : Cx} (F : PySem.W.Frag) (h : X.K = F) : CallR X (.builtin "sorted") (rSortedPO F) := h ▸ cr_sortedPO
/-! ### over a list that is ours -/
section
variable {C : Addr} {ρ : Rsc} {S0 H0 Hs S H : Hp} {v : V} {r : Sl} {sl : List Sl} {K : Sl → Prop} {F : PySem.W.Frag}
theorem RvOk.lsB {ds : List Dt} (ks : Ok0 ρ S0 Hs) (k : Ok ρ S H) (h : RvOk C ρ Hs S H v r) (e : r.ls = some ds) : ∃ p xs, v = .ref p ∧ ¬ ρ.M p ∧ H p = some (.lst xs) ∧ RpAll C S xs ds := by
  cases r with
  | any => cases e
  | raw u => cases e
  | cell o => cases e
  | bcell o => cases e
  | bor es => cases e; exact h
  | own es =>
    cases e
    obtain ⟨p, xs, e1, h0, h1, h2, h3⟩ := h
    exact ⟨p, xs, e1, ks.nm h0, h2, h3⟩
  | dat d =>
    cases d with
    | lst es =>
      cases e
      cases (show Rp C S v (.lst ds) from h) with
      | lst a b => exact ⟨_, _, rfl, (fun m => by rw [k.m _ m] at a; cases a), k.sh _ _ a, b⟩
    | _ => cases e
theorem wx_lcLB {tl : TE} {g : TG} {tt : TT} {te : TE} {vs ks : List Nat} (hk : ∀ j ∈ ks, j ∈ vs) (h : WX C ρ tl sl fun r => ∃ items, r.ls = some items ∧ ∃ Iv : Nat → List Dt → Prop, Iv 0 [] ∧
      (∀ i d acc, items[i]? = some d → Iv i acc → GD C ρ g ks (.dat d) (slW sl vs) fun s => WT C ρ tt s fun b => if b = true then WX C ρ te s fun r => ∃ d', r.dz = some d' ∧ acc.length < 1000000 ∧ Iv (i + 1) (acc ++ [d']) else Iv (i + 1) acc) ∧
      (∀ acc, Iv items.length acc → K (.own acc))) : WX C ρ (tLc (iList F tl) g tt te vs) sl K := fun S0 H0 S H σ gd Q q => by
  refine h S0 H0 S H σ gd _ fun r S1 H1 v ⟨items, er, Iv, h0, hs, hd⟩ a1 ok1 => ?_
  obtain ⟨p, xs, rfl, nM, hp, ra⟩ := ok1.lsB gd.k.z a1.ok er
  refine ⟨p, rfl, ⟨xs, SqL.of hp⟩, fun D hD => ?_⟩
  refine lc_list (K := F) (a := p) (xs := xs) (LcP C ρ S1 H1 D Iv) (lc_start a1.ok hD h0) (fun i H' _ ⟨S', _, _, _, m, _⟩ => SqL.of (m.hh _ _ nM hp)) ?_ (fun H' hp' => lc_end gd.k a1 hD q (by rw [ra.length]; exact hd) H' hp')
  intro i x H3 hx hp3
  obtain ⟨d, ed, rd⟩ := ra.getV hx
  exact lc_turn (gd.move a1) hD hk (fun S' ss => Rp.mono ss rd) (fun acc iv => hs i d acc ed iv) hp3
theorem xlcLB {α : Type} {tl : TE} {g : TG} {tt : TT} {te : TE} {vs ks : List Nat} (hk : ∀ j ∈ ks, j ∈ vs) {r0 : Sl} (hl : XD C ρ tl sl r0) (xs : List α) (f : α → Dt) (b : α → Bool) (e : α → Dt) (e0 : r0.ls = some (xs.map f)) (hz : xs.length < 1000000)
    (hs : ∀ x ∈ xs, GD C ρ g ks (.dat (f x)) (slW sl vs) fun s => TD C ρ tt s (b x) ∧ (b x = true → WX C ρ te s fun r => r.dz = some (e x))) : XD C ρ (tLc (iList F tl) g tt te vs) sl (.own ((xs.filter b).map e)) := by
  refine wx_lcLB hk (hl.w ⟨xs.map f, e0, LcD xs b e, rfl, fun i d acc hd iv => ?_, fun acc iv => ?_⟩)
  · rw [List.getElem?_map] at hd
    cases q : xs[i]? with
    | none => rw [q] at hd; cases hd
    | some x =>
      rw [q] at hd; cases hd
      exact lcd_turn q hz (hs x (List.mem_of_getElem? q)) acc iv
  · rw [List.length_map] at iv
    rw [iv.all]
end
end D3
/-! Texts: join, split, str(n), int(x), the signs of a text. -/
namespace D3
open PySem PyProof.Rows L2
def rJoin (F : PySem.W.Frag) : V → List V → Hp → VK → Prop := fun x xs H Q => ∃ a p, ∃ ys : List Str, x = .str a ∧ xs = [.ref p] ∧ (SqL F H p (ys.map V.str) ∨ SqT F H p (ys.map V.str)) ∧ (ys.map (·.length)).sum + ys.length * a.length ≤ 16777216 ∧ Q (.str (Txt.join a ys)) H
theorem k_join {X : Cx} (F : PySem.W.Frag) (h : X.K = F) : MtR X "str.join" (rJoin F) := h ▸ mt_join
def rSplit : V → List V → Hp → VK → Prop := fun x xs H Q => ∃ a b, x = .str a ∧ xs = [.str b] ∧ (b.length == 0) = false ∧ a.length + 2 ≤ sizeLine ∧ rNewStrs (Txt.split a b) H Q
theorem mt_split1 {X : Cx} : MtR X "str.split" rSplit := mt_split
theorem k_bmJ {X : Cx} {F : PySem.W.Frag} {o e : Expr} {es : List Expr} {T : String} {name : Str} {apos cpos : Pos} {r : V → List V → Hp → VK → Prop} {to : TE} {t : TA} (h : X.K = F) (p : PE X (.Call (.Attribute o name apos) (e :: es) [] cpos) (tBM X.K T r to t)) : PE X (.Call (.Attribute o name apos) (e :: es) [] cpos) (tBM F T r to t) := h ▸ p
def rStrI : List V → Hp → VK → Prop := fun xs H Q => ∃ i, xs = [.int i] ∧ i.natAbs.log2 < 1920 ∧ Q (.str (toString i)) H
theorem call_strI {X : Cx} : CallR X (.type "str") rStrI := call_str_int
def rIntS : List V → Hp → VK → Prop := fun xs H Q => ∃ a n, xs = [.str a] ∧ PySem.intText? a = some n ∧ a.length ≤ 640 ∧ Q (.int n) H
theorem call_intS {X : Cx} : CallR X (.type "int") rIntS := call_int_str
section
variable {C : Addr} {ρ : Rsc} {sl : List Sl} {te to ta : TE} {K : Sl → Prop} {F : PySem.W.Frag} {r : Sl}
theorem strs_V {H : Hp} : ∀ {vs : List V} {ys : List Str}, RpAll C H vs (ys.map Dt.str) → vs = ys.map V.str
  | _, [], h => by cases h; rfl
  | _, y :: ys, h => by
    cases h with
    | cons h1 h2 => cases h1; rw [strs_V h2]; rfl
theorem V_strs {H : Hp} : ∀ ys : List Str, RpAll C H (ys.map V.str) (ys.map Dt.str)
  | [] => .nil
  | y :: ys => .cons (.str y) (V_strs ys)
theorem xjoin {a : Str} {ys : List Str} (h1 : XD C ρ to sl (.dat (.str a))) (h2 : XD C ρ te sl r) (e : (fz r).ls = some (ys.map Dt.str)) (hz : (ys.map (·.length)).sum + ys.length * a.length ≤ 16777216) : XD C ρ (tBM F "str" (rJoin F) to (tCons te tNil)) sl (.dat (.str (Txt.join a ys))) := fun S0 H0 S H σ g Q q => by
  refine h1 S0 H0 S H σ g _ fun r1 S1 H1 v1 e1 a1 ok1 => ?_
  subst e1; cases ok1
  refine ⟨rfl, ?_⟩
  refine (ac h2 an) S0 H0 S1 H1 σ (g.move a1) _ fun rs S2 H2 vs e2 a2 ok2 => ?_
  subst e2
  match vs, ok2 with
  | [v], ok2 =>
    obtain ⟨ok3, _⟩ := ok2
    obtain ⟨p, xs, rfl, hp, ra⟩ := ok3.lsD a2.ok e
    obtain rfl := strs_V ra
    exact ⟨a, p, ys, rfl, rfl, .inl (SqL.of hp), hz, q _ S2 H2 _ rfl (a1.trans g.k a2) (.str _)⟩
theorem xsplit {a b : Str} (h1 : XD C ρ to sl (.dat (.str a))) (h2 : XD C ρ te sl (.dat (.str b))) (hb : (b.length == 0) = false) (hz : a.length + 2 ≤ 16777216) : XD C ρ (tBM F "str" rSplit to (tCons te tNil)) sl (.own ((Txt.split a b).map Dt.str)) := fun S0 H0 S H σ g Q q => by
  refine h1 S0 H0 S H σ g _ fun r1 S1 H1 v1 e1 a1 ok1 => ?_
  subst e1; cases ok1
  refine ⟨rfl, ?_⟩
  refine h2 S0 H0 S1 H1 σ (g.move a1) _ fun r2 S2 H2 v2 e2 a2 ok2 => ?_
  subst e2; cases ok2
  refine ⟨a, b, rfl, rfl, hb, by rw [sizeLine_eq]; exact hz, ?_⟩
  exact fin_new (K := (· = .own ((Txt.split a b).map Dt.str))) a2.ok (fun r S' H' v kr m ok => q r S' H' v kr ((a1.trans g.k a2).trans g.k m) (ok.pre fun p => (a1.trans g.k a2).back g.k)) rfl (V_strs _)
theorem xstr {i : Int} (h : XD C ρ ta sl (.dat (.int i))) (hi : i.natAbs.log2 < 1920) : XD C ρ (tCB rStrI (tCons ta tNil)) sl (.dat (.str (toString i))) := xcb (ac h an) (CD1 fun Hs S H v _ ok rv Q q => by
  cases rv; exact ⟨_, rfl, hi, fin_dat (K := (· = .dat (.str (toString i)))) ok q rfl (.str _)⟩)
theorem xint {a : Str} {n : Int} (h : XD C ρ ta sl (.dat (.str a))) (e : PySem.intText? a = some n) (hl : a.length ≤ 640) : XD C ρ (tCB rIntS (tCons ta tNil)) sl (.dat (.int n)) := xcb (ac h an) (CD1 fun Hs S H v _ ok rv Q q => by
  cases rv; exact ⟨_, _, rfl, e, hl, fin_dat (K := (· = .dat (.int n))) ok q rfl (.int _)⟩)
/-- [.. for sign in text if ..], whose test fails at each sign -/
theorem xlcS {tl : TE} {g : TG} {tt : TT} {te : TE} {vs ks : List Nat} (hk : ∀ j ∈ ks, j ∈ vs) {z : Str} (hl : XD C ρ tl sl (.dat (.str z)))
    (hs : ∀ c ∈ z.cps.toList, GD C ρ g ks (.dat (.str ⟨#[c]⟩)) (slW sl vs) fun s => TD C ρ tt s false) : XD C ρ (tLc (iStr tl) g tt te vs) sl (.own []) := fun S0 H0 S H σ gd Q q => by
  refine hl S0 H0 S H σ gd _ fun r S1 H1 v er a1 ok1 => ?_
  subst er; cases ok1
  refine ⟨z, rfl, fun D hD => ?_⟩
  refine lc_it walk_str (LcP C ρ S1 H1 D fun _ acc => acc = []) (lc_start a1.ok hD rfl) (fun _ _ _ _ => trivial) ?_ (fun H' hp' => lc_end (K := (· = .own [])) gd.k a1 hD q (fun acc e => by rw [e]) H' hp')
  rintro i x Ha Hb hi hp3 ⟨e, c, hc, rfl⟩
  subst e
  have hm : c ∈ z.cps.toList := by
    rw [Array.getElem?_eq_some_iff] at hc
    obtain ⟨h1, h2⟩ := hc
    rw [← h2]; simp
  exact lc_turn (Iv := fun _ acc => acc = []) (i := i) (d := .str ⟨#[c]⟩) (gd.move a1) hD hk (fun S' ss => .str _) (fun acc iv => gd_imp (hs c hm) fun s h => h.imp fun b e => by subst e; rw [if_neg (by decide)]; exact iv) hp3
theorem xninS {z : Str} {c : Nat} (h1 : XD C ρ ta sl (.dat (.str ⟨#[c]⟩))) (h2 : XD C ρ te sl (.dat (.str z))) : XD C ρ (tOp (rNotInA F) ta te) sl (.dat (.bl (!decide (c ∈ z.cps.toList)))) := xop h1 h2 fun Hs S H x y _ ok h1 h2 Q q => by
  cases h1; cases h2
  exact .inr (.inr (.inr ⟨c, z, rfl, rfl, fin_dat (K := (· = .dat (.bl (!decide (c ∈ z.cps.toList))))) ok q rfl (.bl _)⟩))
end
end D3
/-! What is told may be changed: answers whose lists are new. -/
namespace D3
open PySem PyProof.Rows L2
/-- a new tuple of data and two new lists -/
def tupOwn2 (C : Addr) (x : Dt) (d1 d2 : List Dt) : SemP where
  p Hs S H v := ∃ t p1 p2 u xs1 xs2, v = .ref t ∧ (Hs t = none ∧ Hs p1 = none ∧ Hs p2 = none) ∧ (S t = none ∧ S p1 = none ∧ S p2 = none) ∧ p1 ≠ p2 ∧ H t = some (.tup [u, .ref p1, .ref p2]) ∧ Rp C S u x ∧ H p1 = some (.lst xs1) ∧ RpAll C S xs1 d1 ∧ H p2 = some (.lst xs2) ∧ RpAll C S xs2 d2
  mv := by
    rintro ρ S0 Hs S H S1 H1 v ks a0 ⟨t, p1, p2, u, xs1, xs2, e, ⟨h1, h2, h3⟩, ⟨s1, s2, s3⟩, ne, ht, hu, hp1, r1, hp2, r2⟩ a
    exact ⟨t, p1, p2, u, xs1, xs2, e, ⟨h1, h2, h3⟩, ⟨a.fr t s1 (by rw [ht]; simp), a.fr p1 s2 (by rw [hp1]; simp), a.fr p2 s3 (by rw [hp2]; simp)⟩, ne, a.hh t _ (ks.nm h1) ht, Rp.mono a.ss hu, a.hh p1 _ (ks.nm h2) hp1, r1.mono a.ss, a.hh p2 _ (ks.nm h3) hp2, r2.mono a.ss⟩
  pre := by
    rintro Hs Hr S H v b ⟨t, p1, p2, u, xs1, xs2, e, ⟨h1, h2, h3⟩, q⟩
    exact ⟨t, p1, p2, u, xs1, xs2, e, ⟨b t h1, b p1 h2, b p2 h3⟩, q⟩
section
variable {C : Addr} {ρ : Rsc} {S0 H0 Hs S H S1 H1 S2 H2 : Hp} {v : V} {sl : List Sl} {σ : L2.St} {te tx : TE} {K : Sl → Prop} {F : PySem.W.Frag} {nx bk ct : List Sl → Prop} {rt : Sl → Prop} {tu tv : TS} {i j : Nat}
/-- return (x, xs, ys), both lists ours -/
theorem sd_retTup2 {x : Dt} {d1 d2 : List Dt} (hij : i ≠ j) (e1 : sl[i]? = some (.own d1)) (e2 : sl[j]? = some (.own d2)) (h : WX C ρ tx sl fun r => r = .dat x ∧ rt (.bcell (tupOwn2 C x d1 d2))) : SD C ρ (tRet (tTup (tCons tx (tCons (tVar i) (tCons (tVar j) tNil))))) sl nx rt bk ct := fun S0 H0 S H σ g D _ b _ _ => by
  refine h S0 H0 S H σ g _ fun r S1 H1 u ⟨er, k⟩ a1 ok1 => ?_
  subst er
  have g1 := g.move a1
  obtain ⟨p1, xs1, ev1, h01, hs1, hp1, ra1⟩ := g1.own e1
  obtain ⟨p2, xs2, ev2, h02, hs2, hp2, ra2⟩ := g1.own e2
  have ne : p1 ≠ p2 := fun z => by
    subst z
    exact g1.ne i j _ _ p1 hij e1 e2 trivial trivial ev1 ev2
  refine ⟨_, ev1, _, ev2, Nat.le_trans (show 3 ≤ 100000 by decide) (by rw [sizeLine_eq]; decide), fun t ht => ?_⟩
  have mt := Mv.new g1.k ht (.tup [u, .ref p1, .ref p2])
  have nt1 : p1 ≠ t := ne_of_none hp1 ht
  have nt2 : p2 ≠ t := ne_of_none hp2 ht
  refine b _ S1 (upd H1 t (.tup [u, .ref p1, .ref p2])) _ k (g1.mv.trans g1.k0 mt) ⟨t, p1, p2, u, xs1, xs2, rfl, ⟨g1.mv.back g1.k0 ht, h01, h02⟩, ⟨g1.k.ns ht, hs1, hs2⟩, ne, upd_same, ok1, by rw [upd_ne nt1]; exact hp1, ra1, by rw [upd_ne nt2]; exact hp2, ra2⟩
/-- what was before stays, whatever is done to what is new -/
theorem Mv.shrink (k : Ok ρ S H) (a : Mv ρ S H S1 H1) : Mv ρ S H S H1 := ⟨⟨fun b o e => a.ok.sh b o (a.ss b o e), k.m, a.ok.t, a.ok.r⟩, Same.refl S, a.hh, fun b e _ => e⟩
/-- x = f(..), looked at, then its lists cleared -/
theorem sd_clear2 {x : Dt} {d1 d2 : List Dt} {tt : TT} {tr : TS} (h : WX C ρ te sl fun r => r = .bcell (tupOwn2 C x d1 d2)) (hi : i < sl.length)
    (hc : TD C ρ tt (sl.set i (.dat (.tup [x, .lst d1, .lst d2]))) false) (hr : SD C ρ tr (sl.set i .any) nx rt bk ct) :
    SD C ρ (tSeq (tAsg te (gName i)) (tSeq (tIfS tt tu tNext) (tSeq (tDrop (tBM0 F "list" rClear (tOp (rIxA F) (tVar i) (tC (.int 1))))) (tSeq (tDrop (tBM0 F "list" rClear (tOp (rIxA F) (tVar i) (tC (.int 2))))) tr)))) sl nx rt bk ct := fun S0 H0 S H σ g D a b c d => by
  refine h S0 H0 S H σ g _ fun r S1 H1 v er a1 ok1 => ?_
  subst er
  obtain ⟨t, p1, p2, u, xs1, xs2, rfl, ⟨h1, h2, h3⟩, ⟨s1, s2, s3⟩, ne, ht, hu, hp1, r1, hp2, r2⟩ := ok1
  have n1 : p1 ≠ t := ne_of hp1 ht (by intro z; cases z)
  have n2 : p2 ≠ t := ne_of hp2 ht (by intro z; cases z)
  have f1 := Mv.freeze g.k a1 h2 hp1
  have f2 := Mv.freeze g.k f1 h3 (p := p2) hp2
  have f3 := Mv.freeze g.k f2 h1 (p := t) ht
  have ss1 : Same S1 (upd S1 p1 (.lst xs1)) := same_new s2
  have s3' : upd S1 p1 (.lst xs1) p2 = none := by rw [upd_ne (Ne.symm ne)]; exact s3
  have ss2 : Same (upd S1 p1 (.lst xs1)) (upd (upd S1 p1 (.lst xs1)) p2 (.lst xs2)) := same_new s3'
  have s1' : upd (upd S1 p1 (.lst xs1)) p2 (.lst xs2) t = none := by rw [upd_ne (Ne.symm n2), upd_ne (Ne.symm n1)]; exact s1
  have ss3 : Same (upd (upd S1 p1 (.lst xs1)) p2 (.lst xs2)) (upd (upd (upd S1 p1 (.lst xs1)) p2 (.lst xs2)) t (.tup [u, .ref p1, .ref p2])) := same_new s1'
  have ssA := ss1.trans (ss2.trans ss3)
  have rp : Rp C (upd (upd (upd S1 p1 (.lst xs1)) p2 (.lst xs2)) t (.tup [u, .ref p1, .ref p2])) (.ref t) (.tup [x, .lst d1, .lst d2]) := by
    refine .tup upd_same (.cons (Rp.mono ssA hu) (.cons (.lst (xs := xs1) ?_ (r1.mono ssA)) (.cons (.lst (xs := xs2) ?_ (r2.mono ssA)) .nil)))
    · rw [upd_ne n1, upd_ne ne, upd_same]
    · rw [upd_ne n2, upd_same]
  have g2 := g.set (i := i) f3 (r := .dat (.tup [x, .lst d1, .lst d2])) rp
  refine hc S0 H0 _ H1 _ g2 _ fun bb S3 H3 eb a3 => ?_
  subst eb
  rw [if_neg (by decide)]
  have A3 := f3.trans g.k a3
  have hl : i < σ.length := by rw [g.len]; exact hi
  have hσ : (σ.set i (some (V.ref t)))[i]? = some (some (V.ref t)) := List.getElem?_set_self hl
  have kp : ∀ b o, H b = none → H1 b = some o → H3 b = some o := fun b o hb e => a3.hh b o (g.k.nm hb) e
  have ht3 := kp t _ h1 ht
  have hp13 := kp p1 _ h2 hp1
  have hp23 := kp p2 _ h3 hp2
  refine ⟨_, hσ, .inl (.inr (.inl ⟨t, _, 1, .ref p1, rfl, rfl, SqT.of ht3, atI_nat (j := 1) rfl, .inl ⟨rfl, _, .inl (.inl hp13)⟩, p1, xs1, rfl, rfl, hp13, ?_⟩))⟩
  have ht4 : upd H3 p1 (.lst []) t = some (.tup [u, .ref p1, .ref p2]) := by rw [upd_ne (Ne.symm n1)]; exact ht3
  have hp24 : upd H3 p1 (.lst []) p2 = some (.lst xs2) := by rw [upd_ne (Ne.symm ne)]; exact hp23
  refine ⟨_, hσ, .inl (.inr (.inl ⟨t, _, 2, .ref p2, rfl, rfl, SqT.of ht4, atI_nat (j := 2) rfl, .inl ⟨rfl, _, .inl (.inl hp24)⟩, p2, xs2, rfl, rfl, hp24, ?_⟩))⟩
  have m5 := Mv.mut g.k (Mv.mut g.k (Mv.shrink g.k A3) h2 (g.k.ns h2) (nt_lst hp13) (o := .lst [])) h3 (g.k.ns h3) (nt_lst hp24) (o := .lst [])
  exact sd_from hr ((g.move m5).setAny i (some (V.ref t))) (Same.refl S) a b c d
end
section
variable {C : Addr} {ρ : Rsc} {sl : List Sl} {te : TE} {K : Sl → Prop} {i : Nat}
theorem flats_any {H H' : Hp} : ∀ {xs : List V} {ds : List Dt}, (∀ d ∈ ds, flatD d = true) → RpAll C H xs ds → RpAll C H' xs ds
  | _, _, _, .nil => .nil
  | _, _, f, .cons h r => .cons (flat_any (f _ List.mem_cons_self) h) (flats_any (fun d hd => f d (List.mem_cons_of_mem _ hd)) r)
theorem xlendO {d0 : Dt} {ds : List Dt} (l : Lends C sl i d0) (f : ∀ d ∈ ds, flatD d = true) (h : XD C ρ te (sl.set i (.dat d0)) (.own ds)) : XD C ρ te sl (.own ds) := fun S0 H0 S H σ g Q q => by
  obtain ⟨S', g', ss⟩ := l ρ S0 H0 S H σ g
  refine h S0 H0 S' H σ g' _ fun r S1 H1 v er a1 ok1 => ?_
  subst er
  obtain ⟨p, xs, e, h0, h1, h2, h3⟩ := ok1
  exact q _ S H1 v rfl (lent_mv g ss a1) ⟨p, xs, e, h0, g.k.ns h0, h2, flats_any f h3⟩
theorem flat_nats (ks : List Nat) : ∀ d ∈ ks.map natD, flatD d = true := fun d hd => by
  obtain ⟨k, _, rfl⟩ := List.mem_map.mp hd; rfl
end
/-- .. as data for good -/
theorem xtold2 {C : Addr} {ρ : Rsc} {sl : List Sl} {te : TE} {x : Dt} {d1 d2 : List Dt} (h : XD C ρ te sl (.bcell (tupOwn2 C x d1 d2))) : XD C ρ te sl (.dat (.tup [x, .lst d1, .lst d2])) := fun S0 H0 S H σ g Q q => by
  refine h S0 H0 S H σ g _ fun r S1 H1 v er a1 ok1 => ?_
  subst er
  obtain ⟨t, p1, p2, u, xs1, xs2, rfl, ⟨h1, h2, h3⟩, ⟨s1, s2, s3⟩, ne, ht, hu, hp1, r1, hp2, r2⟩ := ok1
  have n1 : p1 ≠ t := ne_of hp1 ht (by intro z; cases z)
  have n2 : p2 ≠ t := ne_of hp2 ht (by intro z; cases z)
  have f3 := Mv.freeze g.k (Mv.freeze g.k (Mv.freeze g.k a1 h2 hp1) h3 (p := p2) hp2) h1 (p := t) ht
  have ss1 : Same S1 (upd S1 p1 (.lst xs1)) := same_new s2
  have s3' : upd S1 p1 (.lst xs1) p2 = none := by rw [upd_ne (Ne.symm ne)]; exact s3
  have ss2 : Same (upd S1 p1 (.lst xs1)) (upd (upd S1 p1 (.lst xs1)) p2 (.lst xs2)) := same_new s3'
  have s1' : upd (upd S1 p1 (.lst xs1)) p2 (.lst xs2) t = none := by rw [upd_ne (Ne.symm n2), upd_ne (Ne.symm n1)]; exact s1
  have ssA := ss1.trans (ss2.trans (same_new (o := .tup [u, .ref p1, .ref p2]) s1'))
  refine q _ _ H1 _ rfl f3 (.tup upd_same (.cons (Rp.mono ssA hu) (.cons (.lst (xs := xs1) ?_ (r1.mono ssA)) (.cons (.lst (xs := xs2) ?_ (r2.mono ssA)) .nil))))
  · rw [upd_ne n1, upd_ne ne, upd_same]
  · rw [upd_ne n2, upd_same]
end D3
/-! An own exception whose __init__ calls its own base's. -/
namespace D3
open PySem PySem.Spec PyProof.Rows L2
section
variable {X : Cx} {e : Expr} {es : List Expr} {ta : TA} {p1 p2 pos : Pos}
/-- Base.__init__(self, ..), Base an own class without own __init__ -/
theorem pe_ownInit {B : Addr} {nb : Str} {pl : Sem Bool} (hg : Gl X nb) (hm : X.mg nb = some (.ref B)) (gB : PySem.W.specialIn X.K (.ref B) "__getattribute__" = some (some (.builtin "type.__getattribute__"))) (tB : PySem.W.typeIn X.K (.ref B) = some (.type "type")) (rB : PySem.W.readsIn X.K B (.type "type") = true)
    (vB : PySem.W.findCls X.K (.ref B) (.type "type") "__init__" = some (.val (.builtin "ValueError.__init__"))) (ha : PA X (e :: es) ta) (hdb : (nb == ("__debug__" : Str)) = false := by decide)
    (hc : eval (.Call (.Attribute (.Name nb p1) "__init__" p2) (e :: es) [] pos) X.env = (do
      let ov ← eval (.Name nb p1) X.env
      standAt p2.atName
      let (f, first) ← holding [ov] (getMethod ov "__init__" pl)
      callWith pos f first (backTo pos (starEach (e :: es) X.env)) (backToKw pos (keywordEach [] X.env))) := by rfl)
    (he : starEach (e :: es) X.env = (false, eval e X.env) :: starEach es X.env := by rfl) (hpl : (backTo pos (starEach es X.env)).any (·.1) = false := by rfl) :
    PE X (.Call (.Attribute (.Name nb p1) "__init__" p2) (e :: es) [] pos) (tVeI X.K ta) := by
  refine ⟨fun pins s σ H Q I h => ?_⟩
  refine PySem.W.methodCall_KW (ld_glob I hg hm ?_ hdb) hc
  obtain ⟨m, fr⟩ := I.fr
  refine PySem.W.method_of_cls fr I.ok.mod.kin gB (PySem.W.cls_val fr I.ok.mod.kin tB rB vB (by decide +kernel) ?_)
  show wpAny _ _ (callWith pos (Value.builtin "ValueError.__init__") [] (backTo pos (starEach (e :: es) X.env)) []) _ _ _
  refine PyProof.Rows.callWith_method1 (thn (ha.run pos pins _ σ H _ (I.tok _) h) fun us s1 ⟨vs, H1, I1, r1, a, C, ws, ev, hl, T, ea, q⟩ => ?_) he hpl
  subst ev
  cases r1 with
  | @cons _ u0 _ ur ra rw' =>
    obtain rfl : u0 = Value.ref a := ra
    have hlen : ur.length ≤ sizeLine := by
      rw [← Paired.length rw', sizeLine_eq]; omega
    exact oinit_ok T I1 ea hlen fun s' J => ⟨.non, H1, J, rfl, q⟩
end
end D3
namespace D3
open PySem PySem.W PySem.Spec PySem.Calls PyProof.Rows
section
variable {prog : Program} {w : World} {A : Around} {E : Value → Shared → Prop} {s : Shared} {K : Frag} {x D : Addr} {ox : Obj} {od : Option Obj}
/-- e.__class__ of an own error, with a dict of its own or without -/
theorem cls_ofE {Q : Option Value → Shared → Prop} (T : L2.ExcC K D) (Xk : K.In s.heap) (I : InstAt s.heap x ox D od) (h : Q (some (.ref D)) { s with toks := s.toks + 1 }) : wpAny (model prog w) A (getAttr? (.ref x) "__class__") Q E s := by
  have hf : findObj K D od "__class__" = some (.bind (.builtin "getset_descriptor.__get__") (.builtin "object.__class__")) := by
    have q : (clsIn K D).isSome = true := by obtain ⟨cd, hc, _⟩ := any_some T.hd; rw [hc]; rfl
    cases od with
    | none => exact findObj_dataN q T.ha T.hn T.ht
    | some o => exact findObj_data q T.ha T.hn T.ht
  obtain ⟨hp, g, d, t, os⟩ := s
  have l0 := I.type (M := model prog w); have l1 := looks_findIn (M := model prog w) Xk T.hg; have l2 := looks_findIn (M := model prog w) Xk T.hk; have l3 := looks_find (M := model prog w) Xk I hf
  have sb : Looks (model prog w) hp (isInstance (.ref x) (.type "BaseException")) true := l0.andThen (looks_subIn Xk T.hs)
  have z2 : (Value.builtin "BaseException.__getattribute__" == Value.builtin "object.__getattribute__") = false := by decide +kernel
  have z1 : (onTheHeap (Value.ref D) && Value.builtin "BaseException.__getattribute__" == Value.builtin "object.__getattribute__") = false := by rw [z2]; rfl
  unfold getAttr? getAttrBy? getAttrBy; refine wpAny_bind (wpAny_mkText (wpAny_bind (wpAny_attempt (wpAny_holding (wpAny_bind (l0.at (wpAny_bind (l1.at ?_))))))))
  show wpAny _ _ (if (onTheHeap (Value.ref D) && Value.builtin "BaseException.__getattribute__" == Value.builtin "object.__getattribute__") = true then _ else _) _ _ _
  rw [z1, if_neg Bool.false_ne_true]; unfold getAttrByItsOwn hookBefore; refine wpAny_bind ?_
  rw [if_pos (show onTheHeap (Value.ref D) = true from rfl)]; refine l2.at ?_; refine wpAny_bind (wpAny_attempt (wpAny_holding ?_))
  unfold callGetattribute; rw [show (false && onTheHeap (Value.builtin "BaseException.__getattribute__")) = false from rfl, if_neg Bool.false_ne_true]; unfold boundAndCalled
  rw [PySem.F.excAttr_ValueError.ga.bind (.ref x)]; refine wpAny_bind (wpAny_pure ?_)
  show wpAny _ _ (call (.builtin "BaseException.__getattribute__") [.ref x, .str "__class__" t]) _ _ _
  refine wpAny_call (codeAny_call_builtin PySem.F.excAttr_ValueError.ga.plain PySem.F.entry_bexc_ga ?_); refine @check_slot (model prog w) _ _ ⟨hp, g, d, t + 1, os⟩ "BaseException.__getattribute__" "BaseException" "__getattribute__" (.ref x) [.str "__class__" t] [] _ (by decide +kernel) (by decide +kernel) sb (PySem.F.args_bexc_ga (.ref x) (.str "__class__" t)) ?_
  unfold Builtin.«object.__getattribute__»; refine wpAny_bind (wpAny_of_eq (a := ((Value.ref x : Value), [Value.str "__class__" t])) (by first | rfl | (simp only [slotArgs]; rfl)) ?_)
  refine wpAny_bind (wpAny_pure (wpAny_bind (l0.at (wpAny_bind (l3.at ?_))))); show wpAny _ _ (holding [Value.builtin "object.__class__"] (call (.builtin "getset_descriptor.__get__") [.builtin "object.__class__", .ref x, .ref D]) >>= ret) _ _ _
  refine wpAny_bind (wpAny_holding (wpAny_call (class_get (s := ⟨hp, g, d, t + 1, os⟩) (ox := ox) (od := od) Xk I T.hm ?_))); refine wpAny_pure ?_
  show wpAny _ _ (handedOut (.ref D)) _ _ _; rw [handedOut_of (v := .ref D) rfl]
  first | exact wpAny_pure (wpAny_pure h) | exact wpAny_pure h | exact wpAny_pure (wpAny_bind (wpAny_pure (wpAny_pure h)))
theorem kit_ofE (T : L2.ExcC K D) : KitX K (.ref x) (.ref D) (fun h => ∃ ox od, InstAt h x ox D od) where
  ty := fun _ _ _ ⟨_, _, I⟩ => I.type
  it := fun _ _ Xk _ => by
    obtain ⟨cdD, hcD, _⟩ := any_some T.hd
    unfold clsIn at hcD; split at hcD
    · rename_i c' d' cd' sl' ho; intro A' Q' E' s' k q; unfold isType loadHead; exact wpAny_bind (wpAny_loadPart (k _ _ (Xk _ _ ho)) (wpAny_pure q))
    · cases hcD
  ne := fun h tp dd its n sl Xk htp => by
    obtain ⟨cdD, hcD, _⟩ := any_some T.hd
    refine Bool.eq_false_iff.mpr fun q => ?_
    have e : D = tp := Value.ref.inj (beq_iff_eq.mp q)
    subst e; unfold clsIn at hcD; split at hcD
    · rename_i c' d' cd' sl' ho; have z := (Xk _ _ ho).symm.trans htp; cases z
    · cases hcD
  ca := fun Xk ⟨_, _, I⟩ k => cls_ofE T Xk I k
end
end D3
namespace D3
open PySem PySem.Spec PyProof.Rows L2
/-- an error object that stays as it is -/
def excH (oe : Obj) : HO := .frz oe (.ext fun _ => True)
/-- isinstance(e, c), e an error of the class at D -/
def rIsX (K : PySem.W.Frag) (D : Addr) : List V → Hp → VK → Prop := fun xs H Q => ∃ (a : Addr) (oe : Obj) (d : Option Addr) (vs : Array Value) (c : V) (cv : Value) (b : Bool), xs = [.ref a, c] ∧ H a = some (excH oe) ∧ Zc (.ref D) d oe ∧ oe.data = .fields vs ∧
  (d = none ∨ ∃ dd fs, d = some dd ∧ H dd = some (.xd fs)) ∧ L2.ExcC K D ∧ (∀ u, RelV c u → u = cv) ∧ PySem.W.kitOne K (.ref D) cv = some b ∧ Q (.bl b) H
theorem call_isX {X : Cx} {D : Addr} : CallR X (.builtin "isinstance") (rIsX X.K D) := by
  intro pins s σ H xs us Q I r h
  obtain ⟨a, oe, d, vs, c, cv, b, rfl, ha, hz, hv, hd, C, hcv, e, q⟩ := h
  cases r with
  | cons rx rr =>
    cases rr with
    | cons rt rr =>
      cases rr; cases rx
      have ec := hcv _ rt
      subst ec
      have hget : s.heap.get? a = some oe := (I.hok a _ ha).1
      have J : ∃ od, PySem.W.InstAt s.heap a oe D od := by
        rcases hd with rfl | ⟨dd, fs, rfl, hdd⟩
        · refine ⟨none, hget, hz.1, by unfold PySem.W.notCls; rw [hv], ?_⟩
          rw [hz.2]; trivial
        · have hx : ObjOk X.prog X.w H s.heap dd (.xd fs) := I.hok dd _ hdd
          obtain ⟨mA, hns, _⟩ := hx
          obtain ⟨od, ho, _⟩ := lookIn_ns hns
          exact ⟨some od, hget, hz.1, by unfold PySem.W.notCls; rw [hv], by rw [hz.2]; exact ho⟩
      obtain ⟨od, J⟩ := J
      exact PySem.W.kia_one (kit_ofE C) I.kIn ⟨oe, od, J⟩ e (fun z => nomatch z) fun tk => ⟨.bl b, H, I.kept (t' := tk) fun _ _ z => z, rfl, q⟩
end D3
/-! Code that runs while an error is handled: walks, comprehensions, all, calls, isinstance. -/
namespace D3
open PySem PySem.Spec PyProof.Rows L2 HotX
/-- the state bears the handled error p -/
structure HotP (X : Cx) (p : Addr × Obj) : Prop where
  hot : L2H.Hot1 X.A p
  pin : ∀ (pins : List (Addr × Obj)) (σ : L2.St) (H : Hp) (s : Shared), Inv X pins σ H s → L2H.PinOk X.stack H s p
theorem hot_mem {X : Cx} {p : Addr × Obj} (h : L2H.Hot1 X.A p) (hm : p ∈ X.pn) : HotP X p := ⟨h, fun pins σ H s I => by
  have P1 := I.pin p (List.mem_append_left _ hm)
  exact ⟨P1.1, P1.2.1, fun hm => (List.mem_cons.mp (I.stkSub p.1 hm)).elim P1.2.2.1 P1.2.2.2.1, P1.2.2.2.2⟩⟩
theorem HotP.at {X : Cx} {p : Addr × Obj} (c : HotP X p) {pins : List (Addr × Obj)} {σ : L2.St} {H : Hp} {s : Shared} (I : Inv X pins σ H s) : HotAt X.A p.1 s.heap := by
  obtain ⟨hh, v1, e1, c1⟩ := c.hot
  exact ⟨hh, p.2, v1, (c.pin pins σ H s I).get, e1, c1⟩
theorem hot_suite {X : Cx} {a : Addr} {oe : Obj} {cls : Value} {d : Option Addr} {pn : List (Addr × Obj)} (hz : L2N.Zn cls d oe) (hf : ∃ vs, oe.data = .fields vs) : HotP (X.suite a ((a, oe) :: pn)) (a, oe) := by
  obtain ⟨vs, e⟩ := hf
  exact hot_mem ⟨rfl, vs, e, hz.2.2 vs e⟩ List.mem_cons_self
theorem hot_blk {X : Cx} {p : Addr × Obj} (c : HotP X p) (hm : p ∈ X.pn) {pins : List (Addr × Obj)} {σ : L2.St} {H : Hp} {s : Shared} (I : Inv X pins σ H s) {scope : Scope} {ce : Env} {fp : List Addr} (hfp : ∀ b ∈ fp, FpOk X pins H b) : HotP (X.blk s H scope ce fp) p := by
  have P := c.pin pins σ H s I
  have nfp : p.1 ∉ fp := fun m => (hfp p.1 m).2.2.2.2.2 p (List.mem_append_left _ hm) rfl
  exact ⟨c.hot, fun pins' σ' H' s' J => ⟨J.base.keep p.1 p.2 P.get P.free P.nofs nfp, J.base.free p.1 p.2 P.get P.free nfp, P.nofs, P.nocell⟩⟩
/-! ### the end of a list's walk -/
section
variable {prog : Program} {w : World} {A : Around} {E : Value → Shared → Prop} {s : Shared}
theorem list_end_hot {it l x1 : Addr} {i : Nat} {items : Array Value} {Q : Option Value → Shared → Prop} (hot : HotAt A x1 s.heap) (hn : x1 ≠ it)
    (hit : s.heap.IsListIter it l i) (hl : s.heap.IsList l items) (hx : items[i]? = none)
    (hQ : ∀ h', (∀ b o, b ≠ it → s.heap.get? b = some o → h'.get? b = some o) → Q none { s with heap := h' }) : wpAny (model prog w) A (pyNext (.ref it)) Q E s := by
  obtain ⟨o, ho, hc, hd⟩ := id hit
  obtain ⟨ol, hol, _, nl, hdl⟩ := hl
  obtain ⟨hh, o1, vs1, h1, d1, c1⟩ := hot
  unfold pyNext
  refine wpAny_bind (wpAny_attempt (wpAny_callSpecial?_slot (name := Str.ofString "__next__") hit.typeIs slot_listiter_next
    (wpAny_call_entry slot_listiter_next hit.typeIs entry_listiter_next ?_ (args_listiter_next _))))
  show wpAny _ _ (field (.ref it) 0 >>= _) _ _ s
  refine wpAny_bind (wpAny_field ho hd (x := .ref l) rfl ?_)
  show wpAny _ _ (if (Value.ref l == Value.none) = true then _ else _) _ _ s
  rw [if_neg (show ¬ ((Value.ref l == Value.none) = true) from Bool.false_ne_true)]
  show wpAny _ _ (field (.ref it) 1 >>= _) _ _ s
  refine wpAny_bind (wpAny_field ho hd (x := .int i 0) rfl ?_)
  show wpAny _ _ (seqItems? (.ref l) >>= _) _ _ s
  refine wpAny_bind (wpAny_seqItems hol hdl ?_)
  simp only [Int.toNat_natCast, hx]
  refine wpAny_bind (wpAny_rule (wpAny_bind (wpAny_setField ho hd (by simp) ?_)))
  show wpAny _ _ (newExc (.type "StopIteration") [] >>= _) _ _ _
  refine wpAny_bind ?_
  simp only [newExc, newTuple]
  have k : ∀ b ob, b ≠ it → s.heap.get? b = some ob → (s.heap.update it (Obj.mapFields (·.setIfInBounds 0 Value.none))).get? b = some ob := fun b ob hb e => (Heap.get?_update_other _ _ (Ne.symm hb)).trans e
  refine wpAny_bind (wpAny_newObj_type ?_ (by size_fits))
  refine wpAny_bind (m := firstArgMember _ _) (wpAny_of_eq (a := Value.none) (by first | rfl | (simp only [firstArgMember]; rfl)) ?_)
  refine wpAny_newObj_type ?_ (by size_fits)
  refine raiseNew_hot ⟨hh, o1, vs1, Heap.get?_push_of_some _ (Heap.get?_push_of_some _ (k _ _ hn h1)), d1, c1⟩ (Nat.ne_of_lt (Heap.lt_size (Heap.get?_push_of_some _ (k _ _ hn h1)))) (Heap.get?_push_size _ rfl) rfl (by first | (simp; done) | (simp; omega) | (simp only [Array.size_append]; simp; omega)) ?_
  refine wpAny_bind (wpAny_isInstance (T := "StopIteration") (b := true) ⟨_, Heap.get?_update_self _ (Heap.get?_push_size _ rfl) rfl, rfl⟩ isSubtype_stop ?_)
  refine wpAny_pure (hQ _ fun b ob hb e => ?_)
  rw [Heap.get?_update_other _ _ (Nat.ne_of_gt (Heap.lt_size (Heap.get?_push_of_some _ (k b ob hb e))))]
  exact Heap.get?_push_of_some _ (Heap.get?_push_of_some _ (k b ob hb e))
/-- a list's walk, hot -/
theorem walks_hot {I ax x1 : Addr} {o1 : Obj} {vs1 : Array Value} (hh : A.handled = some (.ref x1)) (d1 : o1.data = .fields vs1) (c1 : vs1[2]? = some .none) (hne : ax ≠ I) (hn : x1 ≠ I) (items : Array Value) :
    Walks prog w A I [I, ax, x1] [I] items.size (fun i v => items[i]? = some v) (fun i h => (h.IsListIter I ax i ∧ h.IsList ax items) ∧ h.get? x1 = some o1) where
  sub := fun b hb => by simp at hb; simp [hb]
  frame := fun _ _ _ st hk => ⟨⟨st.1.1.at fun o e => hk I (by simp) o e, st.1.2.at fun o e => hk ax (by simp) o e⟩, hk x1 (by simp) _ st.2⟩
  item := fun i s Q E hi st hQ => by
    refine wpAny_pyNext_list_item st.1.1 st.1.2 (x := items[i]) (by simp [hi]) fun h' hit' hs' => ?_
    exact hQ _ h' s.toks (by simp [hi]) ⟨⟨hit', st.1.2.extBut hs'.extBut hne⟩, hs'.extBut x1 _ hn st.2⟩ fun b o hb e => hs'.extBut b o (fun h => hb (by simp [h])) e
  done := fun s Q E st hQ => list_end_hot ⟨hh, o1, vs1, st.2, d1, c1⟩ hn st.1.1 st.1.2 (by simp) fun h' he' => hQ h' s.toks fun b o hb e => he' b o (fun h => hb (by simp [h])) e
  self := fun _ _ _ _ st hQ => wpAny_pyIter_listiter st.1.1 hQ
end
theorem cr_allP {X : Cx} {p : Addr × Obj} (c : HotP X p) : CallR X (.builtin "all") (rAll X.K) := by
  intro pins s σ H vs us Q I r h
  obtain ⟨a, bs, rfl, hs, q⟩ := h
  obtain ⟨its, rv, hl, _⟩ := I.list hs
  rw [Vals.ref1 r]
  have hb := rv.bls
  have P := c.pin pins σ H s I
  obtain ⟨hh, v1, e1, c1⟩ := c.hot
  refine call_all_walk (iter_any hl.isList fun s₂ e2 st hne => ?_)
  subst e2
  refine ⟨_, _, _, _, _, _, _, rfl, walks_hot (A := X.A.in1) hh e1 c1 hne (Nat.ne_of_lt (Heap.lt_size P.get)) its.toArray, ⟨st, Heap.get?_push_of_some _ P.get⟩, truth_bools hb, fun h' tk hk => ?_⟩
  refine ⟨.bl _, H, I.kept fun b o eo => hk b o (fun hmem => ?_) (Heap.get?_push_of_some _ eo), ?_, q⟩
  · rcases List.mem_cons.mp hmem with e1 | hmem
    · exact absurd (e1 ▸ Heap.lt_size eo) (Nat.lt_irrefl _)
    · cases hmem
  · show Value.bool _ = Value.bool _
    rw [← L2.all_range, hb, List.size_toArray, List.length_map]
/-! ### what is walked -/
structure TurnP (P : Program) (w : World) (K : PySem.W.Frag) (p : Addr × Obj) (tg : Expr) (J : It) (fp : List Addr) (it : Addr) (tn : Nat → Heap → Prop) : Prop where
  mem : it ∈ fp
  obj : ∀ i h, tn i h → ∀ b ∈ fp, ∃ o, h.get? b = some o ∧ ∀ v, o.data ≠ .cell v
  keep : ∀ i h h', tn i h → (∀ b ∈ fp, ∀ o, h.get? b = some o → h'.get? b = some o) → tn i h'
  item : ∀ (X : Cx), X.prog = P → X.w = w → X.K = K → HotP X p → ∀ (i : Nat) (pins : List (Addr × Obj)) (s : Shared) (σ : L2.St) (H : Hp) (E : Value → Shared → Prop), Inv X pins σ H s → (∀ b ∈ fp, FpOk X pins H b) → tn i s.heap → J.go i H →
    wpAny (model P w) X.A (pyNext (.ref it)) (fun r s1 => ∃ u, r = some u ∧
      wpAny (model P w) X.A (letOwnedTupleGo tg (.ref it) u) (fun _ s2 => ∃ x H', Inv X pins σ H' s2 ∧ RelV x u ∧ J.yld i H x H' ∧ tn (i + 1) s2.heap ∧ ∀ b ∈ fp, H' b = none) E s1) E s
  done : ∀ (X : Cx), X.prog = P → X.w = w → X.K = K → HotP X p → p.1 ∉ fp → ∀ (i : Nat) (pins : List (Addr × Obj)) (s : Shared) (σ : L2.St) (H : Hp) (E : Value → Shared → Prop), Inv X pins σ H s → (∀ b ∈ fp, FpOk X pins H b) → tn i s.heap → J.stop i H →
    wpAny (model P w) X.A (pyNext (.ref it)) (fun r s1 => r = none ∧ Inv X pins σ H s1) E s
  self : ∀ (A : Around) (i : Nat) (s : Shared) (Q : Value → Shared → Prop) (E : Value → Shared → Prop), tn i s.heap → Q (.ref it) s → wpAny (model P w) A (pyIter (.ref it)) Q E s
theorem turn_rangeP {P : Program} {w : World} {K : PySem.W.Frag} {p : Addr × Obj} {tg : Expr} (it : Addr) (lo : Int) (n : Nat) : TurnP P w K p tg (Itr lo n) [it] it (fun i h => IsRangeIter h it (lo + (i : Nat) * 1) ((n : Int) - (i : Nat)) 1) where
  mem := by simp
  obj := fun i h st b hb => by
    have e : b = it := by simpa using hb
    subst e
    exact ⟨_, st, fun v z => by
      have z' : Data.fields _ = Data.cell v := z
      cases z'⟩
  keep := fun i h h' st k => k it (by simp) _ st
  item := by
    intro X hP hw hK hc i pins s σ H E I hf st hg
    subst hP hw hK
    obtain ⟨f0, f1, f2, f3, f4, f5⟩ := hf it (by simp)
    have hlt : i < n := hg
    refine wpAny_pyNext_range_item st (by omega) fun h' st' sb => ?_
    have st2 : IsRangeIter h' it (lo + ((i + 1 : Nat) : Int) * 1) ((n : Int) - ((i + 1 : Nat) : Int)) 1 := by
      have e1 : lo + ((i : Nat) : Int) * 1 + 1 = lo + ((i + 1 : Nat) : Int) * 1 := by omega
      have e2 : (n : Int) - ((i : Nat) : Int) - 1 = (n : Int) - ((i + 1 : Nat) : Int) := by omega
      rw [← e1, ← e2]
      exact st'
    have I1 : Inv X pins σ H { s with heap := h', toks := s.toks + 1 } := I.turned (fun b o hb e => (sb.2 b hb).trans e) f0 f1 f3 f4 f5
    refine ⟨_, rfl, go_of (s := { s with heap := h', toks := s.toks + 1 }) (n := "range_iterator") st2 rfl rfl (by decide) ⟨.int (lo + i), H, I1, ⟨s.toks, ?_⟩, ⟨rfl, rfl⟩, st2, fun b hb => (hf b hb).1⟩⟩
    rw [Int.mul_one]
  done := by
    intro X hP hw hK hc hp i pins s σ H E I hf st hg
    subst hP hw hK
    obtain ⟨f0, f1, f2, f3, f4, f5⟩ := hf it (by simp)
    exact pyNext_range_end_hot (hc.at I) st (by have : n ≤ i := hg; omega) fun h' eb => ⟨rfl, I.turned (t' := s.toks) (fun b o _ e => eb b o e) f0 f1 f3 f4 f5⟩
  self := fun _ _ _ _ _ st h => wpAny_pyIter_rangeiter st h
theorem turn_listP {P : Program} {w : World} {K : PySem.W.Frag} {p : Addr × Obj} {tg : Expr} (a it : Addr) : TurnP P w K p tg (Itl K a) [it] it (fun i h => h.IsListIter it a i) where
  mem := by simp
  obj := fun i h st b hb => by
    have e : b = it := by simpa using hb
    subst e
    obtain ⟨o, e, c, d⟩ := st
    exact ⟨o, e, fun v z => by rw [d] at z; cases z⟩
  keep := fun i h h' st k => st.at fun o e => k it (by simp) o e
  item := by
    intro X hP hw hK hc i pins s σ H E I hf st hg
    subst hP hw hK
    obtain ⟨xs, x, hq, hx⟩ := hg
    obtain ⟨its, rv, p, hz⟩ := I.list hq
    obtain ⟨u, hu, ru⟩ := rv.get hx
    obtain ⟨f0, f1, f2, f3, f4, f5⟩ := hf it (by simp)
    refine wpAny_pyNext_list_item st p.isList (x := u) (by simpa using hu) fun h' st' sb => ?_
    have I1 : Inv X pins σ H { s with heap := h' } := I.turned (t' := s.toks) (fun b o hb e => (sb.2 b hb).trans e) f0 f1 f3 f4 f5
    obtain ⟨o, e, c, d⟩ := id st'
    exact ⟨u, rfl, go_of (s := { s with heap := h' }) e c d (by decide) ⟨x, H, I1, ru, ⟨rfl, fun ys hy => by rw [I.list_inj hy hq]; exact hx⟩, st', fun b hb => (hf b hb).1⟩⟩
  done := by
    intro X hP hw hK hc hp i pins s σ H E I hf st hg
    subst hP hw hK
    obtain ⟨xs, hq, hx⟩ := hg
    obtain ⟨its, rv, pl, hz⟩ := I.list hq
    obtain ⟨f0, f1, f2, f3, f4, f5⟩ := hf it (by simp)
    have hl := rv.length
    exact list_end_hot (hc.at I) (fun z => hp (by simp [z])) st pl.isList (by simp; omega) fun h' eb => ⟨rfl, I.turned (t' := s.toks) (fun b o hb e => eb b o hb e) f0 f1 f3 f4 f5⟩
  self := fun _ _ _ _ _ st h => wpAny_pyIter_listiter st h
def PIEP (X : Cx) (p : Addr × Obj) (pins : List (Addr × Obj)) (σ : L2.St) (tg : Expr) (R : It → Hp → Prop) (itv : Value) (s2 : Shared) : Prop :=
  ∃ (it : Addr) (fp : List Addr) (tn : Nat → Heap → Prop) (J : It) (H' : Hp), itv = .ref it ∧ Inv X pins σ H' s2 ∧ TurnP X.prog X.w X.K p tg J fp it tn ∧ tn 0 s2.heap ∧ (∀ b ∈ fp, FpOk X pins H' b) ∧ R J H'
structure PIP (X : Cx) (p : Addr × Obj) (tg iter : Expr) (wi : TI) : Prop where
  run : ∀ (pins : List (Addr × Obj)) (s : Shared) (σ : L2.St) (H : Hp) (R : It → Hp → Prop), Inv X pins σ H s → wi σ H R →
    wpAny (model X.prog X.w) X.A (eval iter X.env) (fun v s1 => wpAny (model X.prog X.w) X.A (pyIter v) (PIEP X p pins σ tg R) X.xe s1) X.xe s
section
variable {X : Cx} {p : Addr × Obj} {tg : Expr}
theorem range_itP {pins : List (Addr × Obj)} {σ : L2.St} {H : Hp} {s : Shared} {R : It → Hp → Prop} {E : Value → Shared → Prop} {lo hi : Int} {t u v : Tok} {tk : Nat} (I : Inv X pins σ H s) (h1 : -(2 ^ 62) ≤ lo) (h2 : lo < 2 ^ 62) (h3 : -(2 ^ 62) ≤ hi) (h4 : hi < 2 ^ 62)
    (q : R (Itr lo (hi - lo).toNat) H) : wpAny (model X.prog X.w) X.A (pyIter (.ref s.heap.objs.size)) (PIEP X p pins σ tg R) E { s with heap := s.heap.push { cls := .type "range", data := .fields #[.int lo t, .int hi u, .int 1 v] }, toks := tk } := by
  refine wpAny_pyIter_range (IsRange.new ..) (small_one h1 h2 h3 h4) ?_
  have I1 : Inv X pins σ H { s with heap := s.heap.push { cls := .type "range", data := .fields #[.int lo t, .int hi u, .int 1 v] }, toks := tk } := I.kept fun b o e => Heap.get?_push_of_some _ e
  refine ⟨(s.heap.push { cls := .type "range", data := .fields #[.int lo t, .int hi u, .int 1 v] }).objs.size, [(s.heap.push { cls := .type "range", data := .fields #[.int lo t, .int hi u, .int 1 v] }).objs.size], _, _, H, rfl,
    I1.kept (t' := tk) fun b o e => Heap.get?_push_of_some _ e, turn_rangeP _ lo (hi - lo).toNat, ?_, fun b hb => ?_, q⟩
  · have e1 : lo + ((0 : Nat) : Int) * 1 = lo := by simp
    have e2 : (((hi - lo).toNat : Nat) : Int) - ((0 : Nat) : Int) = Builtin.Range.rangeSize lo hi 1 := by rw [rangeSize_one]; split <;> omega
    show IsRangeIter _ _ (lo + ((0 : Nat) : Int) * 1) ((((hi - lo).toNat : Nat) : Int) - ((0 : Nat) : Int)) 1
    rw [e1, e2]
    exact Heap.get?_push_size _ rfl
  · have e : b = (s.heap.push { cls := .type "range", data := .fields #[.int lo t, .int hi u, .int 1 v] }).objs.size := by simpa using hb
    subst e
    exact I1.fpOk (Nat.le_refl _) (I1.hok.fresh (Nat.le_refl _))
theorem pi_range1P {a : Expr} {ta : TA} {pp pos : Pos} (hg : Gl X "range") (hm : X.mg "range" = none) (ha : PA X [a] ta) (hs : starEach [a] X.env = [(false, eval a X.env)] := by rfl) : PIP X p tg (.Call (.Name "range" pp) [a] [] pos) (iRng1 ta) := by
  refine ⟨fun pins s σ H R I h => ?_⟩
  refine Call_ (ld_blt I hg hm boot_range (PyProof.Rows.callWith_type1 (thn (ha.run pos pins s σ H _ I h) fun us s1 ⟨vs, H1, I1, r1, q1⟩ => ?_) hs rfl))
  obtain ⟨j, e, q1, q2, q⟩ := q1
  subst e
  cases r1 with
  | cons r rr =>
    cases rr
    obtain ⟨t, rfl⟩ := r
    exact call_range_1 (range_itP I1 (by omega) (by omega) q1 q2 (by simpa using q))
theorem pi_listP {l : Expr} {tl : TE} (hl : PE X l tl) : PIP X p tg l (iList X.K tl) := by
  refine ⟨fun pins s σ H R I h => ?_⟩
  refine thn (hl.run pins s σ H _ I h) fun v s1 ⟨x, H1, I1, r1, q1⟩ => ?_
  obtain ⟨a, e, ⟨xs, hq⟩, q⟩ := q1
  subst e
  cases r1
  obtain ⟨its, rv, pl, hz⟩ := I1.list hq
  refine wpAny_pyIter_list pl.isList ?_
  refine ⟨s1.heap.objs.size, [s1.heap.objs.size], _, _, H1, rfl, I1.kept (t' := s1.toks) fun b o e => Heap.get?_push_of_some _ e, turn_listP a _, ⟨_, Heap.get?_push_size _ rfl, rfl, rfl⟩, fun b hb => ?_, q⟩
  have e : b = s1.heap.objs.size := by simpa using hb
  subst e
  exact I1.fpOk (Nat.le_refl _) (I1.hok.fresh (Nat.le_refl _))
/-! ### [elt for target in iter] -/
theorem pe_lcP {elt iter : Expr} {ifs : List Expr} {scope : Scope} {own : List (Str × Nat)} {pos : Pos} {wi : TI} {g : TG} {tt : TT} {te : TE} (c : HotP X p) (hm : p ∈ X.pn) (hN : X.N.Nodup) (hi : PIP X p tg iter wi) (ok : BlkOk X.N X.env.scope scope own)
    (hg : ∀ (s : Shared) (H : Hp) (C : Addr) (cl : List (Str × Addr)) (fp : List Addr), PG (X.blk s H scope (compEnvC scope cl C X.env) fp) tg g) (ht : ∀ (s : Shared) (H : Hp) (C : Addr) (cl : List (Str × Addr)) (fp : List Addr), HotP (X.blk s H scope (compEnvC scope cl C X.env) fp) p → PTs (X.blk s H scope (compEnvC scope cl C X.env) fp) ifs tt)
    (he : ∀ (s : Shared) (H : Hp) (C : Addr) (cl : List (Str × Addr)) (fp : List Addr), HotP (X.blk s H scope (compEnvC scope cl C X.env) fp) p → PE (X.blk s H scope (compEnvC scope cl C X.env) fp) elt te) (hs : ∀ x, foldedSetIterable iter X.env x = pure x := by intro _; rfl) :
    PE X (.ListComp elt [⟨tg, iter, ifs, 0⟩] scope pos) (tLc wi g tt te (own.map (·.2))) := by
  refine ⟨fun pins s σ H Q I h => ?_⟩
  rw [eval_ListComp]
  have hRR : ∀ D C s' m H', Inv X pins σ H' s' → Q (.ref D) H' → s'.heap.Ns C m → FpOk X pins H' C → compPost (model X.prog X.w) X.A X.xe none (EP X pins σ Q) (.ref D) C (.ok .next) s' := fun D C s' m H' I' q hn f => ⟨m, hn, fun h'' sb => by
    obtain ⟨f0, f1, f2, f3, f4, f5⟩ := f
    exact ⟨.ref D, H', I'.turned (t' := s'.toks) (fun b o hb e => (sb.2 b hb).trans e) f0 f1 f3 f4 f5, rfl, q⟩⟩
  have hfree : ∀ y ∈ scope.names, y.2 = .free → ∃ c, X.env.cells.lookup y.1 = some c := fun y hy e => by
    rcases ok.free y hy e with k | k
    · exact I.ok.has _ (.inl k)
    · exact I.ok.has _ (.inr k)
  refine wpAny_comprehension_free (use := none) rfl hs (closure_ok hfree) ok.kind (fun y hy e => by rw [ok.uniq y hy, e])
    (thn (hi.run pins s σ H _ I h) fun xv s1 hx => thn hx fun itv s2 h2 => ?_)
  obtain ⟨it, fp, tn, J, H2, e, I2, T, st2, f2, q⟩ := h2
  subst e
  refine wpAny_newObj_type (newEnv_comp ?_) (by show 0 ≤ sizeLine; decide)
  generalize hD : s2.heap.objs.size = D
  have hDn : H2 D = none := I2.hok.fresh (Nat.le_of_eq hD)
  obtain ⟨W, ⟨m0, w0⟩, turn⟩ := q D hDn
  generalize hs3 : ({ s2 with heap := s2.heap.push { cls := .type "list", data := .seq ([] : List Value).toArray } } : Shared) = s3
  have I3 : Inv X pins σ (upd H2 D (.lst [])) s3 := by
    rw [← hs3]
    refine I2.laid (t' := s2.toks) (fun b o e => Heap.get?_push_of_some _ e) (Nat.le_of_eq hD) ⟨Nat.zero_le _, [], 0, .nil, ?_⟩
    rw [← hD]
    exact Heap.get?_push_size _ rfl
  have h3 : s3.heap = s2.heap.push { cls := .type "list", data := .seq ([] : List Value).toArray } := by rw [← hs3]
  have sz : ∀ b ∈ fp, b < s2.heap.objs.size := fun b hb => by
    obtain ⟨o, e, _⟩ := T.obj _ _ st2 b hb
    exact Heap.lt_size e
  have f3 : ∀ b ∈ fp, FpOk X pins (upd H2 D (.lst [])) b ∧ b < s3.heap.objs.size := fun b hb => by
    have hlt := sz b hb
    refine ⟨⟨?_, (f2 b hb).2⟩, by rw [h3, Heap.size_push]; exact Nat.lt_succ_of_lt hlt⟩
    rw [upd_ne (by rw [← hD]; exact Nat.ne_of_lt hlt)]
    exact (f2 b hb).1
  have nfp0 : p.1 ∉ fp := fun m => (f2 p.1 m).2.2.2.2.2 p (List.mem_append_left _ hm) rfl
  have st3 : tn 0 s3.heap := T.keep _ _ _ st2 fun b _ o e => by rw [h3]; exact Heap.get?_push_of_some _ e
  have I4 := block_start I3 ok hN f3
  have hb3 : HotP (X.blk s3 (upd H2 D (.lst [])) scope (compEnvC scope (cellsFrom (s3.heap.objs.size + 1) scope.names (cloFrom X.env.cells scope.names [])) s3.heap.objs.size X.env) fp) p := hot_blk c hm I3 fun b hb => (f3 b hb).1
  have pg := hg s3 (upd H2 D (.lst [])) s3.heap.objs.size (cellsFrom (s3.heap.objs.size + 1) scope.names (cloFrom X.env.cells scope.names [])) fp
  have pt := ht s3 (upd H2 D (.lst [])) s3.heap.objs.size (cellsFrom (s3.heap.objs.size + 1) scope.names (cloFrom X.env.cells scope.names [])) fp hb3
  have pe := he s3 (upd H2 D (.lst [])) s3.heap.objs.size (cellsFrom (s3.heap.objs.size + 1) scope.names (cloFrom X.env.cells scope.names [])) fp hb3
  show codeAny _ _ (.compStart (.ListComp elt [⟨tg, iter, ifs, 0⟩] scope pos) 0 (.ref it) (.ref D) (compEnvC scope (cellsFrom (s3.heap.objs.size + 1) scope.names (cloFrom X.env.cells scope.names [])) s3.heap.objs.size X.env)) (compPost (model X.prog X.w) X.A X.xe none (EP X pins σ Q) (.ref D) s3.heap.objs.size) { s3 with heap := pushCells (s3.heap.push { cls := .type "dict", data := .dict #[] }) scope.names }
  have nfp : ∀ b ∈ fp, (upd H2 D (.lst [])) b = none := fun b hb => (f3 b hb).1.1
  generalize hce : compEnvC scope (cellsFrom (s3.heap.objs.size + 1) scope.names (cloFrom X.env.cells scope.names [])) s3.heap.objs.size X.env = ce at I4 pg pt pe hb3 ⊢
  have cL : ce.locals = s3.heap.objs.size := by subst hce; rfl
  generalize hH3 : upd H2 D (.lst []) = H3 at I3 I4 pg pt pe hb3 w0 nfp f3
  generalize hs4 : ({ s3 with heap := pushCells (s3.heap.push { cls := .type "dict", data := .dict #[] }) scope.names } : Shared) = s4 at I4 ⊢
  have st4 : tn 0 s4.heap := T.keep _ _ _ st3 fun b _ o e => by rw [← hs4]; exact pushCells_keeps _ _ _ _ (Heap.get?_push_of_some _ e)
  have stat : ∀ {σ' : L2.St} {H' : Hp} {s' : Shared}, Inv (X.blk s3 H3 scope ce fp) [] σ' H' s' → (∀ b ∈ fp, H' b = none) → ∀ b ∈ fp, FpOk (X.blk s3 H3 scope ce fp) [] H' b := fun {σ' H' s'} I' hn b hb =>
    ⟨hn b hb, (I'.ok.exf b hb).1, I'.ok.exfs b hb, .inl hb, fun x c e => (I'.ok.exf b hb).2 x c e, fun p hp => absurd (show p ∈ ([] : List (Addr × Obj)) ++ [] from hp) (by simp)⟩
  have loop : codeAny (model X.prog X.w) X.A (.compLoop (.ListComp elt [⟨tg, iter, ifs, 0⟩] scope pos) 0 (.ref it) (.ref D) ce) (compPost (model X.prog X.w) X.A X.xe none (EP X pins σ Q) (.ref D) s3.heap.objs.size) s4 := by
    refine compLoop_any (fun n s' => ∃ i H', Inv (X.blk s3 H3 scope ce fp) [] (wipe σ (own.map (·.2))) H' s' ∧ tn i s'.heap ∧ (∀ b ∈ fp, H' b = none) ∧ W i n H') ?_ m0 ⟨0, H3, I4, st4, nfp, w0⟩
    rintro n s5 ⟨i, H5, I5, st5, n5, w5⟩
    rcases turn i n H5 w5 with ⟨stop, qq⟩ | ⟨go, Nx, hNx, step⟩
    · have td := T.done (X.blk s3 H3 scope ce fp) rfl rfl rfl hb3 nfp0 i [] s5 _ H5 (fun _ _ => False) I5 (stat I5 n5) st5 stop
      refine thnF td fun r s6 ⟨hr, I6⟩ => ?_
      subst hr
      have I7 : Inv X pins σ H5 s6 := I3.call' (ch := fp) I6.os I6.base I6.hok I6.bare fun b hb => ⟨(f3 b hb).1.2.2.2.1, (f3 b hb).1.2.1, (f3 b hb).1.2.2.2.2.1, (f3 b hb).1.2.2.2.2.2⟩
      have nC : H5 s3.heap.objs.size = none := by
        have z : H5 ce.locals = none := I6.free
        rw [cL] at z
        exact z
      obtain ⟨m, hn, _⟩ := I6.loc
      have hn : s6.heap.Ns ce.locals m := hn
      rw [cL] at hn
      exact hRR D s3.heap.objs.size s6 m H5 I7 qq hn (I3.fpOk (Nat.le_refl _) nC)
    · have ti := T.item (X.blk s3 H3 scope ce fp) rfl rfl rfl hb3 i [] s5 _ H5 (fun _ _ => False) I5 (stat I5 n5) st5 go
      refine thnF ti fun r s6 ⟨u, hr, h6⟩ => ?_
      subst hr
      refine thnF h6 fun _ s7 ⟨x, H7, I7, r7, y7, st7, n7⟩ => ?_
      have I7' := I7.pinned (stat I7 n7) (T.obj _ _ st7)
      refine thnF (pg.run _ s7 _ H7 x u _ I7' r7 (step x H7 y7)) fun _ s8 ⟨σ8, H8, I8, hw8, q8⟩ => ?_
      refine thnF (pt.run _ s8 σ8 H8 _ I8 q8) fun b s9 ⟨H9, I9, q9⟩ => ?_
      have fin : ∀ {s' : Shared} {H' : Hp}, Inv (X.blk s3 H3 scope ce fp) ([] ++ pinsAt fp s7.heap) σ8 H' s' → Nx H' → ∃ m, m < n ∧ ∃ i H', Inv (X.blk s3 H3 scope ce fp) [] (wipe σ (own.map (·.2))) H' s' ∧ tn i s'.heap ∧ (∀ b ∈ fp, H' b = none) ∧ W i m H' := fun {s' H'} I' nx => by
        obtain ⟨m', hm, w'⟩ := hNx H' nx
        have pin' : ∀ b ∈ fp, ∀ o, s7.heap.get? b = some o → s'.heap.get? b = some o ∧ H' b = none := fun b hb o e =>
          let z := I'.pin (b, o) (List.mem_append_right _ (List.mem_append_right _ (mem_pinsAt hb e)))
          ⟨z.1, z.2.1⟩
        have hl : (wipe σ (own.map (·.2))).length = σ8.length := by rw [← hw8, wipe_length]
        refine ⟨m', hm, i + 1, H', (I'.unpinned (pins := [])).weak hl (fun j v e => ?_), T.keep _ _ _ st7 fun b hb o e => (pin' b hb o e).1, fun b hb => ?_, w'⟩
        · rw [← hw8] at e
          exact (wipe_some e).1
        · obtain ⟨o, e, _⟩ := T.obj _ _ st7 b hb
          exact (pin' b hb o e).2
      cases b with
      | false =>
        simp only [Bool.false_eq_true, if_false] at q9 ⊢
        exact fin I9 q9
      | true =>
        simp only [if_true] at q9 ⊢
        refine thnF (pe.run _ s9 σ8 H9 _ I9 q9) fun z s10 ⟨yv, H10, I10, r10, acc, hD10, hz10, nx⟩ => ?_
        exact app_ok (X := X.blk s3 H3 scope ce fp) I10 hD10 hz10 r10 fun s11 I11 => fin I11 nx
  exact codeAny_compStart_list loop (T.self X.A 0 _ _ _ st4 loop)
end
/-! ### what a def promises while p is handled -/
structure FnE (P : Program) (w : World) (K : PySem.W.Frag) (mg : Str → Option Value) (base : Heap) (CX : CXT) (k : Nat) (f : Addr) (fd : FuncData) (ps : List Str) (sp : Addr × Obj → Sp) : Prop where
  len : ∀ p vs H Q E, sp p vs H Q E → vs.length = ps.length
  run : ∀ (A : Around) (outer : List Env) (s : Shared) (H : Hp) (args : Args) (us : List Value) (vs : List V) (Q : VK) (E : XK) (p : Addr × Obj), L2H.RoomH k A → L2H.Hot1 A p → L2H.PinOk outer H s p → Env0 P w K mg base A outer s H → BindsTo s fd args (ps.zip us) → Vals vs us → sp p vs H Q E →
    codeAny (model P w) A (.call (.ref f) args) (CR CX outer P w H s Q E) s
theorem fn_ofE {CX : CXT} {P : Program} {w : World} {K : PySem.W.Frag} {mg : Str → Option Value} {base : Heap} {k : Nat} {f : Addr} {name qual : Str} {params : Arguments} {body : List Stmt} {scope : Scope} {dV kV doc pm cdv ct oc : Value} {an od : Option Addr}
    {osl : Array (Option Value)} {N ps : List Str} {sp : Addr × Obj → Sp} (lk : K.lookup f = some ⟨oc, od, .func (PySem.W.fnOf name qual params body scope dV kV doc pm an cdv ct), osl⟩) (hcd : PySem.W.codeIn K cdv qual = true) (S : FnScope N ps scope)
    (len : ∀ p vs H Q E, sp p vs H Q E → vs.length = ps.length)
    (hbody : ∀ (A : Around) (outer : List Env) (s : Shared) (H : Hp) (vs : List V) (Q : VK) (E : XK) (p : Addr × Obj), L2H.Hot1 A p → L2H.RoomH k (A.deeper (envOfC qual scope s.heap.objs.size f cdv)) → sp p vs H Q E →
      ∃ t, PSs (L2H.cxH CX P w K mg base N qual scope f cdv A outer s H E p) body t ∧ t { nx := fun _ H' => Q .non H', rt := Q } (L2.start N vs) H) :
    FnE P w K mg base CX (k + 1) f (PySem.W.fnOf name qual params body scope dV kV doc pm an cdv ct) ps sp := by
  refine ⟨len, fun A outer s H args us vs Q E p hr hot hpin e0 hb r hsp => ?_⟩
  have hl := len _ _ _ _ _ hsp
  have KX : K.In s.heap := e0.mod.kin.keeps fun b o e => (e0.bs b o e).1
  have lim : s.heap.NoLimit := e0.mod.nolimit.keeps fun b o e => (e0.bs b o e).1
  have hkind : ∀ y ∈ ps.zip us, scope.names.lookup y.1 = some .local ∨ (scope.names.lookup y.1 = some .cell ∧ ((cellsFrom (s.heap.objs.size + 1) scope.names []).lookup y.1).isSome = true) := fun ⟨n, v⟩ hy => by
    rcases S.par n (List.of_mem_zip hy).1 with q | q
    · exact .inl q
    · exact .inr ⟨q, PySem.W.cellsFrom_some _ _ _ (.inl q)⟩
  refine codeAny_call_function hr.depth (KX _ _ lk) rfl S.co S.gen rfl (PySem.W.codeRec_of KX hcd) (hb _ _ _ _ ?_)
  refine wpAny_newFunctionEnv_cells S.kind hkind fun env he s1 x => ?_
  subst he
  refine ⟨lim.keeps x.toInCall.keep, codeAny_func ?_⟩
  obtain ⟨t, ht, hq⟩ := hbody A outer s H vs Q E p hot (hr.deeper _) hsp
  have I : Inv (L2H.cxH CX P w K mg base N qual scope f cdv A outer s H E p) [] (L2.start N vs) H s1 := L2H.inv_startH S hpin e0 hl r x
  refine wpAny_mono (ht.run [] s1 (L2.start N vs) H _ I hq) (fun fl s' hs => ?_) fun e s' hs => hs
  have fin : ∀ {σ' : L2.St} {H' : Hp} {v : V} {u : Value}, Inv (L2H.cxH CX P w K mg base N qual scope f cdv A outer s H E p) [] σ' H' s' → RelV v u → Q v H' → CE outer P w H s Q u s' :=
    fun {σ' H' v u} J rv q => ⟨v, H', J.os, J.bare, J.base, J.hok, rv, q⟩
  cases fl with
  | ret u =>
    obtain ⟨v, σ', H', J, rv, q⟩ := hs
    exact fin J rv q
  | next =>
    obtain ⟨σ', H', J, q⟩ := hs
    exact fin (v := V.non) (u := Value.none) J rfl q
  | brk =>
    obtain ⟨_, _, _, q⟩ := hs
    exact False.elim q
  | cont =>
    obtain ⟨_, _, _, q⟩ := hs
    exact False.elim q
/-- as Fun.ok, while an error is handled -/
theorem okE {P : Program} {w : World} {K : PySem.W.Frag} {mg : Str → Option Value} {base : Heap} {x qual : Str} {st : Stmt} {f : Addr} {fd : FuncData} {N ps : List Str} {k : Nat} {sp : Addr × Obj → Sp} (F : Fun K x qual st f fd) (S : FnScope N ps (defScope st)) (len : ∀ p vs H Q E, sp p vs H Q E → vs.length = ps.length)
    (hbody : ∀ (cdv : Value) (A : Around) (outer : List Env) (s : Shared) (H : Hp) (vs : List V) (Q : VK) (E : XK) (p : Addr × Obj), HotP ((L2H.cxH CX0 P w K mg base N qual (defScope st) f cdv A outer s H E p).nox) p → p ∈ ((L2H.cxH CX0 P w K mg base N qual (defScope st) f cdv A outer s H E p).nox).pn → L2H.RoomH k (A.deeper (envOfC qual (defScope st) s.heap.objs.size f cdv)) → sp p vs H Q E →
      ∃ t, PSs ((L2H.cxH CX0 P w K mg base N qual (defScope st) f cdv A outer s H E p).nox) (defBody st) t ∧ t { nx := fun _ H' => Q .non H', rt := Q } (L2.start N vs) H) : FnE P w K mg base CX0 (k + 1) f fd ps sp := by
  obtain ⟨oc, od, kV, doc, pm, an, cdv, ct, osl, rfl, lk, hcd⟩ := F.ex
  refine fn_ofE lk hcd S len fun A outer s H vs Q E p hot hr hsp => ?_
  obtain ⟨t, h, q⟩ := hbody cdv A outer s H vs Q E p (hot_mem (X := (L2H.cxH CX0 P w K mg base N qual (defScope st) f cdv A outer s H E p).nox) hot (List.mem_singleton.mpr rfl)) (List.mem_singleton.mpr rfl) hr hsp
  exact ⟨t, h.nox, q⟩
/-! ### its call -/
def tCallP (p : Addr × Obj) (sp : Addr × Obj → Sp) (t : TA) : TE := fun σ H Q => t σ H fun vs H1 => sp p vs H1 Q fun _ _ _ => False
section
variable {X : Cx} {k : Nat} {f : Addr} {fd : FuncData} {ps : List Str} {sp : Addr × Obj → Sp} {x : Str} {q pos : Pos} {e : Expr} {es : List Expr} {t : TA} {p : Addr × Obj}
theorem pe_callP (F : FnE X.prog X.w X.K X.mg X.base CX0 k f fd ps sp) (hr : L2H.RoomH k X.A) (c : HotP X p) (hg : Gl X x) (hm : X.mg x = some (.ref f)) (hk : PySem.W.keepIn X.K (.ref f) = true) (hb : Binds X.K fd ps [])
    (ha : PA X (e :: es) t) (hdb : (x == ("__debug__" : Str)) = false := by decide) (he : starEach (e :: es) X.env = (false, eval e X.env) :: starEach es X.env := by rfl) (hpl : (backTo pos (starEach es X.env)).any (·.1) = false := by rfl) :
    PE X (.Call (.Name x q) (e :: es) [] pos) (tCallP p sp t) := by
  refine ⟨fun pins s σ H Q I h => ?_⟩
  refine wpAny_Call_Name_kw (ld_glob I hg hm ?_ hdb)
  refine PySem.W.callWith_K (h₀ := X.base) I.ok.mod.kin hk (thn (ha.run pos pins s σ H _ I h) fun us s1 ⟨vs, H1, I1, r, q⟩ => ⟨I1.kIn, ?_⟩) he hpl
  have hl : us.length = ps.length := by rw [← r.length]; exact F.len _ _ _ _ _ q
  have b := hb s1 us I1.kIn (by rw [List.append_nil]; exact hl)
  rw [List.append_nil] at b
  refine wpAny_call (codeAny_mono (F.run X.A X.stack s1 H1 ⟨us, []⟩ us vs Q _ p hr c.hot (c.pin _ _ _ _ I1) I1.env0 b r q) fun r s' hq => ?_)
  cases r with
  | error e => exact False.elim hq
  | ok fl =>
    cases fl with
    | ret u => exact I1.after hq
    | next => exact False.elim hq
    | brk => exact False.elim hq
    | cont => exact False.elim hq
end
/-! ### isinstance(e, C) of the handled error -/
def rIsP (K : PySem.W.Frag) (D : Addr) (d : Option Addr) (p : Addr × Obj) : List V → Hp → VK → Prop := fun xs H Q => ∃ (c : V) (cv : Value) (b : Bool), xs = [.ref p.1, c] ∧ (d = none ∨ ∃ dd fs, d = some dd ∧ H dd = some (.xd fs)) ∧ (∀ u, RelV c u → u = cv) ∧ PySem.W.kitOne K (.ref D) cv = some b ∧ Q (.bl b) H
theorem call_isP {X : Cx} {p : Addr × Obj} {D : Addr} {d : Option Addr} (c : HotP X p) (C : L2.ExcC X.K D) (hz : Zc (.ref D) d p.2) : CallR X (.builtin "isinstance") (rIsP X.K D d p) := by
  intro pins s σ H xs us Q I r h
  obtain ⟨c', cv, b, rfl, hd, hcv, e, q⟩ := h
  cases r with
  | cons rx rr =>
    cases rr with
    | cons rt rr =>
      cases rr; cases rx
      have ec := hcv _ rt
      subst ec
      obtain ⟨hh, vs, hv, _⟩ := c.hot
      have hget := (c.pin pins σ H s I).get
      have J : ∃ od, PySem.W.InstAt s.heap p.1 p.2 D od := by
        rcases hd with rfl | ⟨dd, fs, rfl, hdd⟩
        · refine ⟨none, hget, hz.1, by unfold PySem.W.notCls; rw [hv], ?_⟩
          rw [hz.2]; trivial
        · have hx : ObjOk X.prog X.w H s.heap dd (.xd fs) := I.hok dd _ hdd
          obtain ⟨mA, hns, _⟩ := hx
          obtain ⟨od, ho, _⟩ := lookIn_ns hns
          exact ⟨some od, hget, hz.1, by unfold PySem.W.notCls; rw [hv], by rw [hz.2]; exact ho⟩
      obtain ⟨od, J⟩ := J
      exact PySem.W.kia_one (kit_ofE C) I.kIn ⟨p.2, od, J⟩ e (fun z => nomatch z) fun tk => ⟨.bl b, H, I.kept (t' := tk) fun _ _ z => z, rfl, q⟩
end D3
/-! Defs that raise, a try around their call, over data. -/
namespace D3
open PySem PySem.Spec PyProof.Rows L2
theorem takes0N {X : Cx} : L2N.Takes X (fun _ _ _ _ => False) := fun _ _ x => by
  obtain ⟨_, _, _, _, _, _, _, _, _, _, _, _, _, _, _, _, z⟩ := x
  exact z.elim
theorem hu64 {A : Around} {k : Nat} (hr : L2H.RoomH k A) : A.units + 64 < cLine := by have := hr.un; omega
theorem hu1 {A : Around} {k : Nat} (hr : L2H.RoomH k A) : A.units + 1 < cLine := by have := hr.un; omega
section
variable {P : Program} {w : World} {K : PySem.W.Frag} {mg : Str → Option Value} {base : Heap}
/-- a def that may raise -/
theorem okX {x qual : Str} {st : Stmt} {f : Addr} {fd : FuncData} {N ps : List Str} {k : Nat} {sp : Sp} (F : Fun K x qual st f fd) (S : FnScope N ps (defScope st)) (len : ∀ vs H Q E, sp vs H Q E → vs.length = ps.length)
    (hbody : ∀ (cdv : Value) (A : Around) (outer : List Env) (s : Shared) (H : Hp) (vs : List V) (Q : VK) (E : XK), Room k (A.deeper (envOfC qual (defScope st) s.heap.objs.size f cdv)) → sp vs H Q E →
      ∃ t, PSs (cxOf (L2N.CX P w) P w K mg base N qual (defScope st) f cdv A outer s H E) (defBody st) t ∧ t { nx := fun _ H' => Q .non H', rt := Q } (L2.start N vs) H) : FnOk P w K mg base (L2N.CX P w) (k + 1) f fd ps sp := by
  obtain ⟨oc, od, kV, doc, pm, an, cdv, ct, osl, rfl, lk, hcd⟩ := F.ex
  exact fn_of lk hcd S len fun A outer s H vs Q E hr hsp => hbody cdv A outer s H vs Q E hr hsp
/-- two promises of one def -/
def spO (s1 s2 : Sp) : Sp := fun vs H Q E => s1 vs H Q E ∨ s2 vs H Q E
theorem fn_or {k j : Nat} {f : Addr} {fd : FuncData} {ps : List Str} {s1 s2 : Sp} (F1 : FnOk P w K mg base CX0 k f fd ps s1) (F2 : FnOk P w K mg base (L2N.CX P w) j f fd ps s2) : FnOk P w K mg base (L2N.CX P w) (max k j) f fd ps (spO s1 s2) := by
  refine ⟨fun vs H Q E h => ?_, fun A outer s H args us vs Q E hr e0 hb r h => ?_⟩
  · rcases h with h | h
    · exact F1.len _ _ _ _ h
    · exact F2.len _ _ _ _ h
  · rcases h with h | h
    · refine codeAny_mono (F1.run A outer s H args us vs Q E (hr.mono (Nat.le_max_left _ _)) e0 hb r h) fun r' s' q => ?_
      cases r' with
      | error e => exact False.elim q
      | ok fl => cases fl <;> exact q
    · exact F2.run A outer s H args us vs Q E (hr.mono (Nat.le_max_right _ _)) e0 hb r h
end
/-! ### errors, over data -/
/-- an error: its class, the fields of its own dict if it has one -/
structure Er where
  D : Addr
  fs : Option (List (Str × V))
def ErOk (er : Er) (S : Hp) (d : Option Addr) : Prop := match er.fs with
  | none => d = none
  | some fs => ∃ dd, d = some dd ∧ S dd = some (.xd fs)
theorem ErOk.mono {er : Er} {S S' : Hp} {d : Option Addr} (h : ErOk er S d) (ss : Same S S') : ErOk er S' d := by
  obtain ⟨D, fs⟩ := er
  cases fs with
  | none => exact h
  | some fs => obtain ⟨dd, e, q⟩ := h; exact ⟨dd, e, ss _ _ q⟩
theorem ErOk.dict {er : Er} {S H : Hp} {d : Option Addr} (h : ErOk er S d) (ss : Same S H) : d = none ∨ ∃ dd fs, d = some dd ∧ H dd = some (.xd fs) := by
  obtain ⟨D, fs⟩ := er
  cases fs with
  | none => exact .inl h
  | some fs => obtain ⟨dd, e, q⟩ := h; exact .inr ⟨dd, fs, e, ss _ _ q⟩
/-- the same resource, other assumptions -/
abbrev Rsc.wA (ρ : Rsc) (B : Hp → Hp → Prop) : Rsc := { ρ with A := B }
section
variable {C : Addr} {ρ : Rsc} {B : Hp → Hp → Prop} {S0 H0 Hs S H S1 H1 S2 H2 : Hp} {v : V} {r : Sl} {sl : List Sl} {σ : L2.St}
theorem Ok.re (k : Ok ρ S H) : Ok (ρ.wA B) S H := ⟨k.sh, k.m, k.t, k.r⟩
theorem Ok.un (k : Ok (ρ.wA B) S H) : Ok ρ S H := ⟨k.sh, k.m, k.t, k.r⟩
theorem Mv.re (a : Mv ρ S H S1 H1) : Mv (ρ.wA B) S H S1 H1 := ⟨a.ok.re, a.ss, a.hh, a.fr⟩
theorem Mv.un (a : Mv (ρ.wA B) S H S1 H1) : Mv ρ S H S1 H1 := ⟨a.ok.un, a.ss, a.hh, a.fr⟩
theorem RvOk.re (h : RvOk C ρ Hs S H v r) : RvOk C (ρ.wA B) Hs S H v r := by cases r <;> exact h
theorem RvOk.un (h : RvOk C (ρ.wA B) Hs S H v r) : RvOk C ρ Hs S H v r := by cases r <;> exact h
/-- what goes out -/
def ρx (er : Er) (E : XK) : Rsc := ρ0.wA fun S0 H0 => ∀ S' H' d, Mv ρ0 S0 H0 S' H' → ErOk er S' d → E (.ref er.D) d H'
end
section
variable (C : Addr)
/-- a def that surely raises -/
def spX (F : List Dt → Er → Prop) : Sp := fun vs H Q E => ∃ S ds er, Ok ρ0 S H ∧ RpAll C S vs ds ∧ F ds er ∧ ∀ S' H' d, Mv ρ0 S H S' H' → ErOk er S' d → E (.ref er.D) d H'
def FnX {α : Type} (enc : α → List Dt) (pre : α → Er → Prop) : List Dt → Er → Prop := fun ds er => ∃ a, ds = enc a ∧ pre a er
end
section
variable {C : Addr} {N : List Str} {vs : List V} {H : Hp} {Q : VK} {E : XK} {t : TS} {F : List Dt → Er → Prop} {α : Type} {enc : α → List Dt} {pre : α → Er → Prop}
theorem lenX {n : Nat} (hn : ∀ a, (enc a).length = n) (h : spX C (FnX enc pre) vs H Q E) : vs.length = n := by
  obtain ⟨S, ds, er, _, ra, ⟨a, rfl, _⟩, _⟩ := h
  rw [ra.length, hn]
theorem enterX (hN : ∀ a, (enc a).length ≤ N.length) (hb : ∀ a er, pre a er → SD C (ρx er E) t (initS N ((enc a).map Sl.dat)) (fun _ => False) (fun _ => False) (fun _ => False) (fun _ => False)) (h : spX C (FnX enc pre) vs H Q E) :
    t { nx := fun _ H' => Q .non H', rt := Q } (L2.start N vs) H := by
  obtain ⟨S, ds, er, ok, ra, ⟨a, rfl, p⟩, k⟩ := h
  have g := good_start (C := C) (N := N) (ρ := ρx er E) (rs := (enc a).map Sl.dat) ok.re (RvsOk.of_all ra) (by rw [ra.length]; exact hN a) (by
    intro s hs
    obtain ⟨d, _, rfl⟩ := List.mem_map.mp hs
    intro z; exact z) k
  exact hb a er p S H S H _ g _ (fun _ _ _ _ z => z.elim) (fun _ _ _ _ z => z.elim) (fun _ _ _ _ z => z.elim) (fun _ _ _ _ z => z.elim)
end
section
variable {C : Addr} {er : Er} {E : XK} {sl : List Sl} {K : Sl → Prop} {t : TA} {nx bk ct : List Sl → Prop} {rt : Sl → Prop} {F : List Dt → Er → Prop}
/-- raise X('..') -/
theorem sd_raise (h : er.fs = none) : SD C (ρx er E) (fun _ _ H => E (.ref er.D) none H) sl nx rt bk ct := fun S0 H0 S H σ g D _ _ _ _ => g.k1.2 S H none g.mv.un (by
  obtain ⟨D', fs⟩ := er
  cases h; rfl)
/-- the call of a def that surely raises -/
theorem wx_callX (h : WA C (ρx er E) t sl fun rs => ∃ ds, datsOf rs = some ds ∧ F ds er) : WX C (ρx er E) (tCall (spX C F) [] E t) sl K := fun S0 H0 S H σ g Q q => by
  refine h S0 H0 S H σ g _ fun rs S1 H1 vs ⟨ds, e, f⟩ a1 ok1 => ?_
  rw [List.append_nil]
  exact ⟨S1, ds, er, a1.ok.pure, ok1.dats e, f, fun S' H' d mv eo => g.k1.2 S' H' d (((g.mv.trans g.k0 a1).trans g.k0 (mv.lift a1.ok)).un) eo⟩
theorem xcallX {α : Type} {enc : α → List Dt} {pre : α → Er → Prop} {rs : List Sl} (a : α) (h : AD C (ρx er E) t sl rs) (e : datsOf rs = some (enc a)) (p : pre a er) : WX C (ρx er E) (tCall (spX C (FnX enc pre)) [] E t) sl K := wx_callX (h.w ⟨_, e, a, rfl, p⟩)
/-- a def of both kinds -/
theorem wx_callOD {s2 : Sp} {ρ : Rsc} {Fn : List Dt → (Sl → Prop) → Prop} (h : WA C ρ t sl fun rs => ∃ ds, datsOf rs = some ds ∧ Fn ds (fun r => r.plain ∧ K r)) : WX C ρ (tCall (spO (spD C Fn) s2) [] E t) sl K := fun S0 H0 S H σ g Q q => by
  refine h S0 H0 S H σ g _ fun rs S1 H1 vs ⟨ds, e, f⟩ a1 ok1 => ?_
  rw [List.append_nil]
  refine .inl ⟨S1, ds, _, a1.ok.pure, ok1.dats e, f, fun r S2 H2 v kr a2 ok2 => ?_⟩
  exact q r S2 H2 v kr.2 (a1.trans g.k (a2.lift a1.ok)) ((lift_rv kr.1 ok2).pre fun p => a1.back g.k)
theorem xclO {s2 : Sp} {ρ : Rsc} {α : Type} {enc : α → List Dt} {pre : α → Prop} {res : α → Sl} {rs : List Sl} (a : α) (h : AD C ρ t sl rs) (e : datsOf rs = some (enc a)) (p : pre a) (pl : (res a).plain := by trivial) : XD C ρ (tCall (spO (spD C (FnP enc pre fun a K => K (res a))) s2) [] E t) sl (res a) := wx_callOD (h.w ⟨_, e, a, rfl, p, pl, rfl⟩)
theorem wx_callOX {s1 : Sp} (h : WA C (ρx er E) t sl fun rs => ∃ ds, datsOf rs = some ds ∧ F ds er) : WX C (ρx er E) (tCall (spO s1 (spX C F)) [] E t) sl K := fun S0 H0 S H σ g Q q => by
  refine h S0 H0 S H σ g _ fun rs S1 H1 vs ⟨ds, e, f⟩ a1 ok1 => ?_
  rw [List.append_nil]
  exact .inr ⟨S1, ds, er, a1.ok.pure, ok1.dats e, f, fun S' H' d mv eo => g.k1.2 S' H' d (((g.mv.trans g.k0 a1).trans g.k0 (mv.lift a1.ok)).un) eo⟩
theorem xcallOX {s1 : Sp} {α : Type} {enc : α → List Dt} {pre : α → Er → Prop} {rs : List Sl} (a : α) (h : AD C (ρx er E) t sl rs) (e : datsOf rs = some (enc a)) (p : pre a er) : WX C (ρx er E) (tCall (spO s1 (spX C (FnX enc pre))) [] E t) sl K := wx_callOX (h.w ⟨_, e, a, rfl, p⟩)
end
/-! ### the suite of a try -/
section
variable {C : Addr} {ρ : Rsc} {S0 H0 S H : Hp} {σ : L2.St} {sl : List Sl}
theorem Good.epoch (g : Good C ρ S0 H0 S H σ sl) (B : Hp → Hp → Prop) (b : B S H) (no : ∀ s ∈ sl, ¬ s.isOwn) : Good C (ρ.wA B) S H S H σ sl := by
  refine ⟨⟨g.k.re.z, b⟩, Mv.refl g.k.re, g.len, fun i s e => ?_, fun i j s t p hij e1 _ o1 _ _ _ => no s (List.mem_of_getElem? e1) o1⟩
  have q := g.ok i s e
  have n := no s (List.mem_of_getElem? e)
  cases s with
  | any => trivial
  | bor d => trivial
  | bcell d => trivial
  | dat d => exact q
  | raw d => exact q
  | own d => exact absurd trivial n
  | cell d => exact absurd trivial n
end
section
variable {C : Addr} {ρ : Rsc} {sl : List Sl} {K : Sl → Prop} {t : TA} {nx bk ct : List Sl → Prop} {rt : Sl → Prop} {F : List Dt → Er → Prop} {Kf : PySem.W.Frag} {c : Value} {i : Nat} {ts : Addr → Value → Option Addr → TS} {Wout : L2.WX}
/-- what is known in the suite -/
def InSuite (er : Er) (a : Addr) (d : Option Addr) (S H : Hp) : Prop := ErOk er S d ∧ H a = none
/-- try: f(..) except X as e: suite, the call surely raises -/
theorem sd_try (no : ∀ s ∈ sl, ¬ s.isOwn) (h : WA C ρ t sl fun rs => ∃ ds er, datsOf rs = some ds ∧ F ds er ∧ PySem.W.exmOne Kf (.ref er.D) c = some true ∧
      ∀ a d, SD C (ρ.wA (InSuite er a d)) (ts a (.ref er.D) d) (sl.set i (.raw (.ref a))) (fun _ => False) rt (fun _ => False) (fun _ => False)) :
    SD C ρ (fun D σ H => tDrop (tCallS (spX C F) (WE (wAs Kf c i ts Wout D)) t) D σ H) sl nx rt bk ct := fun S0 H0 S H σ g D _ b _ _ => by
  refine h S0 H0 S H σ g _ fun rs S1 H1 vs ⟨ds, er, e, f, hx, su⟩ a1 ok1 => ?_
  refine ⟨S1, ds, er, a1.ok.pure, ok1.dats e, f, fun S' H' d mv eo => ⟨true, hx, fun _ a na => ?_, fun z => nomatch z⟩⟩
  have g1 := (g.move (a1.trans g.k (mv.lift a1.ok))).epoch (InSuite er a d) ⟨eo, na⟩ no
  have g2 := g1.set (i := i) (v := .ref a) (r := .raw (.ref a)) (Mv.refl g1.k) rfl
  refine su a d _ _ _ _ _ g2 _ (fun _ _ _ _ z => z.elim) (fun r S2 H2 v kr m rv => ?_) (fun _ _ _ _ z => z.elim) (fun _ _ _ _ z => z.elim)
  have g3 := g.move (a1.trans g.k (mv.lift a1.ok))
  exact b r S2 H2 v kr (g3.mv.trans g.k0 m.un) (rv.un.pre fun p => g3.mv.back g.k0)
end
/-! ### calls in the suite -/
def tCallQ (a : Addr) (cls : Value) (d : Option Addr) (sp : Addr × Obj → Sp) (t : TA) : TE := fun σ H Q => t σ H fun vs H1 => ∀ oe, Zc cls d oe → sp (a, oe) vs H1 Q fun _ _ _ => False
section
variable {X : Cx} {k : Nat} {f : Addr} {fd : FuncData} {ps : List Str} {sp : Addr × Obj → Sp} {x : Str} {q pos : Pos} {e : Expr} {es : List Expr} {t : TA} {a : Addr} {oe : Obj} {cls : Value} {d : Option Addr} {pn : List (Addr × Obj)}
theorem pe_callQ (F : FnE X.prog X.w X.K X.mg X.base CX0 k f fd ps sp) (hr : L2H.RoomH k (X.suite a ((a, oe) :: pn)).A) (hz : L2N.Zn cls d oe) (hf : ∃ vs, oe.data = .fields vs) (hg : Gl X x) (hm : X.mg x = some (.ref f)) (hk : PySem.W.keepIn X.K (.ref f) = true) (hb : Binds X.K fd ps [])
    (ha : PA (X.suite a ((a, oe) :: pn)) (e :: es) t) (hdb : (x == ("__debug__" : Str)) = false := by decide) (he : starEach (e :: es) X.env = (false, eval e X.env) :: starEach es X.env := by rfl) (hpl : (backTo pos (starEach es X.env)).any (·.1) = false := by rfl) :
    PE (X.suite a ((a, oe) :: pn)) (.Call (.Name x q) (e :: es) [] pos) (tCallQ a cls d sp t) := by
  refine ⟨fun pins s σ H Q I h => wpAny_Call_Name_kw (ld_glob I hg hm ?_ hdb)⟩
  have c := hot_suite (X := X) (a := a) (pn := pn) hz hf
  refine PySem.W.callWith_K (h₀ := X.base) I.ok.mod.kin hk (thn (ha.run pos pins s σ H _ I h) fun us s1 ⟨vs, H1, I1, r, q⟩ => ⟨I1.kIn, ?_⟩) he hpl
  replace q := q oe hz.zc
  have hl : us.length = ps.length := by rw [← r.length]; exact F.len _ _ _ _ _ q
  have b := hb s1 us I1.kIn (by rw [List.append_nil]; exact hl)
  rw [List.append_nil] at b
  refine wpAny_call (codeAny_mono (F.run (X.suite a ((a, oe) :: pn)).A X.stack s1 H1 ⟨us, []⟩ us vs Q _ (a, oe) hr c.hot (c.pin _ _ _ _ I1) I1.env0 b r q) fun r s' hq => ?_)
  cases r with
  | error e => exact False.elim hq
  | ok fl =>
    cases fl with
    | ret u => exact I1.after hq
    | next => exact False.elim hq
    | brk => exact False.elim hq
    | cont => exact False.elim hq
end
/-! ### what is promised of _law_is -/
structure IsCs where
  y : Addr
  o : Addr
  m : Addr
  t : Addr
def IsW (Kf : PySem.W.Frag) (cs : IsCs) (D : Addr) (w : Str) : Prop := PySem.W.kitOne Kf (.ref D) (.ref cs.y) = some (decide (w = "yard")) ∧ PySem.W.kitOne Kf (.ref D) (.ref cs.o) = some (decide (w = "order")) ∧ PySem.W.kitOne Kf (.ref D) (.ref cs.m) = some (decide (w = "many")) ∧ PySem.W.kitOne Kf (.ref D) (.ref cs.t) = some (decide (w = "text")) ∧ PySem.W.kitOne Kf (.ref D) (.type "ValueError") = some true
def spIs (Kf : PySem.W.Frag) (cs : IsCs) : Addr × Obj → Sp := fun p vs H Q _ => ∃ D d w S, vs = [.ref p.1, .str w] ∧ Zc (.ref D) d p.2 ∧ L2.ExcC Kf D ∧ Ok ρ0 S H ∧ (d = none ∨ ∃ dd fs, d = some dd ∧ S dd = some (.xd fs)) ∧ IsW Kf cs D w ∧ ∀ S' H', Mv ρ0 S H S' H' → Q (.bl true) H'
/-- the start of such a def -/
theorem is_start {C : Addr} {d : Option Addr} {p : Addr × Obj} {w : Str} {S H : Hp} {Q : VK} {N : List Str} {t : TS} (hN : Nat.ble 2 N.length = true) (ok : Ok ρ0 S H) (hd : d = none ∨ ∃ dd fs, d = some dd ∧ S dd = some (.xd fs)) (q : ∀ S' H', Mv ρ0 S H S' H' → Q (.bl true) H')
    (h : SD C (ρ0.wA fun S _ => d = none ∨ ∃ dd fs, d = some dd ∧ S dd = some (.xd fs)) t (initS N [.raw (.ref p.1), .dat (.str w)]) (fun _ => False) (· = .dat (.bl true)) (fun _ => False) (fun _ => False)) : t { nx := fun _ H' => Q .non H', rt := Q } (L2.start N [.ref p.1, .str w]) H := by
  have g := good_start (C := C) (N := N) (ρ := ρ0.wA fun S _ => d = none ∨ ∃ dd fs, d = some dd ∧ S dd = some (.xd fs)) (vs := [.ref p.1, .str w]) (rs := [.raw (.ref p.1), .dat (.str w)]) ok.re ⟨rfl, .str _, trivial⟩ (Nat.le_of_ble_eq_true hN) (by
    intro s hs
    rcases List.mem_cons.mp hs with rfl | hs
    · intro z; exact z
    · obtain rfl := List.mem_singleton.mp hs
      intro z; exact z) hd
  exact h S H S H _ g _ (fun _ _ _ _ z => z.elim) (fun r S' H' v kr m rv => by subst kr; cases rv; exact q S' H' m.un) (fun _ _ _ _ z => z.elim) (fun _ _ _ _ z => z.elim)
section
variable {C : Addr} {ρ : Rsc} {sl : List Sl} {K : Sl → Prop} {t : TA} {Kf : PySem.W.Frag} {te tx ta tb : TE}
/-- isinstance(e, C) -/
theorem xisP {D : Addr} {d : Option Addr} {p : Addr × Obj} {c : V} {cv : Value} {b : Bool} (h1 : XD C (ρ0.wA fun S _ => d = none ∨ ∃ dd fs, d = some dd ∧ S dd = some (.xd fs)) ta sl (.raw (.ref p.1))) (hc : ∀ u, RelV c u → u = cv) (hk : PySem.W.kitOne Kf (.ref D) cv = some b) :
    XD C (ρ0.wA fun S _ => d = none ∨ ∃ dd fs, d = some dd ∧ S dd = some (.xd fs)) (tCB (rIsP Kf D d p) (tCons ta (tCons (tC c) tNil))) sl (.dat (.bl b)) := fun S0 H0 S H σ g Q q => by
  refine (ac h1 (ac xraw an)) S0 H0 S H σ g _ fun rs S1 H1 vs er a1 ok1 => ?_
  subst er
  match vs, ok1 with
  | [v1, v2], ok1 =>
    obtain ⟨o1, o2, _⟩ := ok1
    obtain rfl : v1 = .ref p.1 := o1
    obtain rfl : v2 = c := o2
    refine ⟨_, cv, b, rfl, ?_, hc, hk, q _ S1 H1 _ rfl a1 (.bl _)⟩
    rcases g.k1.2 with h | ⟨dd, fs, e, h⟩
    · exact .inl h
    · exact .inr ⟨dd, fs, e, a1.ok.sh _ _ (a1.ss _ _ (g.mv.ss _ _ h))⟩
/-- _law_is(e, word) in the suite -/
theorem xisQ {er : Er} {a : Addr} {d : Option Addr} {cs : IsCs} {w : Str} (h : AD C (ρ.wA (InSuite er a d)) t sl [.raw (.ref a), .dat (.str w)]) (hC : L2.ExcC Kf er.D) (hw : IsW Kf cs er.D w) :
    XD C (ρ.wA (InSuite er a d)) (tCallQ a (.ref er.D) d (spIs Kf cs) t) sl (.dat (.bl true)) := fun S0 H0 S H σ g Q q => by
  refine h S0 H0 S H σ g _ fun rs S1 H1 vs e a1 ok1 => ?_
  subst e
  match vs, ok1 with
  | [v1, v2], ok1 =>
    obtain ⟨o1, o2, _⟩ := ok1
    obtain rfl : v1 = .ref a := o1
    cases o2
    intro oe hz
    have ss := g.mv.ss.trans a1.ss
    refine ⟨er.D, d, w, S1, rfl, hz, hC, a1.ok.pure, ?_, hw, fun S' H' m => q _ S' H' _ rfl (a1.trans g.k (m.lift a1.ok)) (.bl _)⟩
    exact (g.k1.2.1.mono ss).dict (Same.refl _)
/-- another def in the suite -/
theorem wx_callQ {a : Addr} {cls : Value} {d : Option Addr} {Fn : List Dt → (Sl → Prop) → Prop} (h : WA C ρ t sl fun rs => ∃ ds, datsOf rs = some ds ∧ Fn ds (fun r => r.plain ∧ K r)) : WX C ρ (tCallQ a cls d (fun _ => spD C Fn) t) sl K := fun S0 H0 S H σ g Q q => by
  refine h S0 H0 S H σ g _ fun rs S1 H1 vs ⟨ds, e, f⟩ a1 ok1 => ?_
  intro oe _
  refine ⟨S1, ds, _, a1.ok.pure, ok1.dats e, f, fun r S2 H2 v kr a2 ok2 => ?_⟩
  exact q r S2 H2 v kr.2 (a1.trans g.k (a2.lift a1.ok)) ((lift_rv kr.1 ok2).pre fun p => a1.back g.k)
theorem wx_callP {p : Addr × Obj} {Fn : List Dt → (Sl → Prop) → Prop} (h : WA C ρ t sl fun rs => ∃ ds, datsOf rs = some ds ∧ Fn ds (fun r => r.plain ∧ K r)) : WX C ρ (tCallP p (fun _ => spD C Fn) t) sl K := fun S0 H0 S H σ g Q q => by
  refine h S0 H0 S H σ g _ fun rs S1 H1 vs ⟨ds, e, f⟩ a1 ok1 => ?_
  refine ⟨S1, ds, _, a1.ok.pure, ok1.dats e, f, fun r S2 H2 v kr a2 ok2 => ?_⟩
  exact q r S2 H2 v kr.2 (a1.trans g.k (a2.lift a1.ok)) ((lift_rv kr.1 ok2).pre fun p => a1.back g.k)
/-- e.f in the suite -/
theorem xerrF {er : Er} {a D : Addr} {d : Option Addr} {f : Str} {fs : List (Str × V)} {v : V} {dt : Dt} (h : XD C (ρ.wA (InSuite er a d)) te sl (.raw (.ref a))) (eD : er.D = D) (ef : er.fs = some fs) (l : fs.lookup f = some v) (hv : V.dt v = some dt) :
    XD C (ρ.wA (InSuite er a d)) (tXf a (.ref er.D) d D f te) sl (.dat dt) := fun S0 H0 S H σ g Q q => by
  refine h S0 H0 S H σ g _ fun r S1 H1 x e a1 ok1 => ?_
  subst e
  have eo := g.k1.2.1.mono (g.mv.ss.trans a1.ss)
  obtain ⟨D', fs'⟩ := er
  cases ef
  obtain ⟨dd, ed, hdd⟩ := eo
  refine ⟨ok1, by rw [← eD], dd, fs, v, ed, a1.ok.sh _ _ hdd, l, q _ S1 H1 v rfl a1 ?_⟩
  cases v <;> simp [V.dt] at hv <;> subst hv
  · exact .non
  · exact .bl _
  · exact .int _
  · exact .str _
end

theorem roomH_mk {A : Around} {h : Option Value} {k j : Nat} (hr : Room k A) (hj : j ≤ k) : L2H.RoomH j (A.mark h) := ⟨(hr.mono hj).dp, (hr.mono hj).un⟩
theorem hu_s {A : Around} {h : Option Value} {k : Nat} (hr : Room k A) : (A.mark h).units + 1 < cLine := (hu_of hr : A.units + 1 < cLine)
theorem k_allP {X : Cx} (F : PySem.W.Frag) (h : X.K = F) {p : Addr × Obj} (c : HotP X p) : CallR X (.builtin "all") (rAll F) := h ▸ cr_allP c
/-! ### classes of errors -/
theorem kitC_of {K : PySem.W.Frag} {t : Value} {D : Addr} {b : Bool} (h : PySem.W.subIn K t (.ref D) = some b) (c : PySem.W.isClsIn K D = true) (ty : PySem.W.typeIn K (.ref D) = some (.type "type")) : PySem.W.kitCls K t (.ref D) = some b := by
  have c' : (PySem.W.clsIn K D).isSome = true := c
  show (if ((PySem.W.clsIn K D).isSome && PySem.W.typeIn K (.ref D) == some (.type "type")) = true then PySem.W.subIn K t (.ref D) else none) = some b
  rw [c', ty]
  exact (if_pos (by simp)).trans h
theorem kit_t {K : PySem.W.Frag} {t : Value} {D : Addr} (h : PySem.W.subIn K t (.ref D) = some true) (c : PySem.W.isClsIn K D = true) (ty : PySem.W.typeIn K (.ref D) = some (.type "type")) : PySem.W.kitOne K t (.ref D) = some true := by
  unfold PySem.W.kitOne
  split
  · rfl
  · exact kitC_of h c ty
theorem kit_f {K : PySem.W.Frag} {t : Value} {D : Addr} (h : PySem.W.subIn K t (.ref D) = some false) (hs : PySem.W.subIn K t t = some true) (c : PySem.W.isClsIn K D = true) (ty : PySem.W.typeIn K (.ref D) = some (.type "type")) : PySem.W.kitOne K t (.ref D) = some false := by
  unfold PySem.W.kitOne
  split
  · rename_i e
    rw [← beq_iff_eq.mp e, hs] at h
    cases h
  · exact kitC_of h c ty
theorem kit_v {K : PySem.W.Frag} {D : Addr} (h : PySem.W.subIn K (.ref D) (.type "ValueError") = some true) : PySem.W.kitOne K (.ref D) (.type "ValueError") = some true := by
  unfold PySem.W.kitOne
  rw [if_neg (by intro z; cases beq_iff_eq.mp z)]
  unfold PySem.W.kitCls
  exact (if_pos (by decide +kernel)).trans h
theorem exm_t {K : PySem.W.Frag} {t : Value} {D : Addr} (h : PySem.W.subIn K t (.ref D) = some true) (b : PySem.W.subIn K (.ref D) (.type "BaseException") = some true) (c : PySem.W.isClsIn K D = true) (ty : PySem.W.typeIn K (.ref D) = some (.type "type")) : PySem.W.exmOne K t (.ref D) = some true := by
  unfold PySem.W.exmOne
  rw [b, if_pos (by simp)]
  exact kitC_of h c ty
structure XBase (K : PySem.W.Frag) (B : Addr) : Prop where
  ga : PySem.W.specialIn K (.ref B) "__getattribute__" = some (some (.builtin "type.__getattribute__"))
  ty : PySem.W.typeIn K (.ref B) = some (.type "type")
  rd : PySem.W.readsIn K B (.type "type") = true
  vi : PySem.W.findCls K (.ref B) (.type "type") "__init__" = some (.val (.builtin "ValueError.__init__"))
structure XOwn (K : PySem.W.Frag) (D B : Addr) : Prop where
  x : PySem.W.excIn K D PySem.HandSPX.veTail "ValueError.__new__" = true
  kp : PySem.W.keepIn K (.ref D) = true
  b : PySem.W.subIn K (.ref D) (.type "BaseException") = some true
  ty : PySem.W.typeIn K (.ref D) = some (.type "type")
  ec : L2.ExcC K D
  e : PySem.W.exmOne K (.ref D) (.ref B) = some true
structure XIni (K : PySem.W.Frag) (D B fI : Addr) : Prop where
  ox : OexC K D
  iC : PySem.W.findIn K (.ref D) "__init__" = some (some (.ref fI))
  tC : PySem.W.typeIn K (.ref fI) = some (.type "function")
  ec : L2.ExcC K D
  xf : XfC K D
  e : PySem.W.exmOne K (.ref D) (.ref B) = some true
section
variable {X : Cx} {e : Expr} {es : List Expr} {ta : TA} {p pos : Pos}
theorem pmk_oexN {CX : CXT} {x : Str} {C fI : Addr} {k : Nat} {fd : FuncData} {ps : List Str} {sp : Sp} {ds : List Value} {dvs : List V} (T : OexC X.K C) (iC : PySem.W.findIn X.K (.ref C) "__init__" = some (some (.ref fI))) (tI : PySem.W.typeIn X.K (.ref fI) = some (.type "function"))
    (F1 : FnOk X.prog X.w X.K X.mg X.base CX k fI fd ps sp) (hr : Room (k + 1) X.A) (hb : Binds X.K fd ps ds) (hd : Vals dvs ds) (hx : Passes CX X (fun _ _ _ => False)) (hg : Gl X x) (hm : X.mg x = some (.ref C)) (ha : PA X (e :: es) ta)
    (hdb : (x == ("__debug__" : Str)) = false := by decide) (he : starEach (e :: es) X.env = (false, eval e X.env) :: starEach es X.env := by rfl) (hpl : (backTo pos (starEach es X.env)).any (·.1) = false := by rfl) :
    L2N.PMk X (.Call (.Name x p) (e :: es) [] pos) (tMkO C sp dvs ta) := by
  intro pins s σ H Q I h
  obtain ⟨nm, q, N, bs, bm, sn, sub, ab, col, dd, k0, k1, k2, k3, k5, hC, hbm⟩ := T.cls
  refine wpAny_Call_Name_kw (ld_glob I hg hm ?_ hdb)
  refine PySem.W.callWith_K (h₀ := X.base) I.ok.mod.kin T.kC (thn (ha.run pos pins s σ H _ I h) fun us s1 ⟨vs, H1, I1, r1, hz, q1⟩ => ⟨I1.kIn, ?_⟩) he hpl
  show wpAny _ _ (call (.ref C) us) _ _ _
  obtain ⟨hp, g, dr, tk, os⟩ := s1
  have hsz : hp.objs.size ≤ hp.objs.size + 1 := Nat.le_succ _
  have hn : H1 (hp.objs.size + 1) = none := I1.hok.fresh hsz
  have hq := q1 (hp.objs.size + 1) hn
  have kk : ∀ b o, hp.get? b = some o → ((hp.push (PySem.W.kdv_tup us)).push (PySem.HandSPX.excO C hp.objs.size)).get? b = some o := fun b o e => Heap.get?_push_of_some _ (Heap.get?_push_of_some _ e)
  have hget : ((hp.push (PySem.W.kdv_tup us)).push (PySem.HandSPX.excO C hp.objs.size)).get? (hp.objs.size + 1) = some (PySem.HandSPX.excO C hp.objs.size) := by heap_get
  have I2 : Inv X pins σ (upd H1 (hp.objs.size + 1) (exo (hp.objs.size + 1) C none)) ⟨(hp.push (PySem.W.kdv_tup us)).push (PySem.HandSPX.excO C hp.objs.size), g, dr, tk, os⟩ :=
    I1.laid (t' := tk) (a := hp.objs.size + 1) (o := exo (hp.objs.size + 1) C none) (h' := (hp.push (PySem.W.kdv_tup us)).push (PySem.HandSPX.excO C hp.objs.size)) kk hsz (exo_ok hget)
  have r2 : Vals (V.ref (hp.objs.size + 1) :: (vs ++ dvs)) (Value.ref (hp.objs.size + 1) :: (us ++ ds)) := .cons rfl (r1.append hd)
  have hl : (Value.ref (hp.objs.size + 1) :: us ++ ds).length = ps.length := by
    have e := r2.length
    rw [F1.len _ _ _ _ hq] at e
    exact e.symm
  have hus : us.length ≤ sizeLine := by
    rw [← Paired.length r1, sizeLine_eq]
    omega
  refine wpAny_call (PySem.HandSPX.call_own F.excBase_ValueError (fun Y => PySem.HandSPX.refsVE_contains Y bm hbm) (I1.kIn _ _ hC) (PySem.W.looks_findIn I1.kIn iC) (fun self => PySem.W.bind_fn I1.kIn self tI) hus
    (codeAny_mono (F1.run _ X.stack _ _ ⟨Value.ref (hp.objs.size + 1) :: us, []⟩ (Value.ref (hp.objs.size + 1) :: (us ++ ds)) _ _ (fun _ _ _ => False) (hr.make C us []) (I2.env0.make C us []) (hb _ (Value.ref (hp.objs.size + 1) :: us) I2.kIn hl) r2 hq) fun r s' hq' => ?_))
  cases r with
  | error er => exact hx pins σ _ _ er s' I2 hq'
  | ok fl =>
    cases fl with
    | ret u =>
      obtain ⟨v, H2, os2, bare2, un2, hok2, rv, ev, d, fs, ea, ed, hd1, q2⟩ := hq'
      subst ev
      obtain ⟨h2, g2, d2, t2, os'⟩ := s'
      obtain ⟨t0, G, J, kG, ge, hoe, na⟩ := mk_end0 (d2 := d2) (t2 := t2) I1 hsz kk un2 hok2 os2 bare2 ea ed hd1
      exact ⟨rv, _, _, _, ⟨G, g2, d2, t2, os'⟩, _, .ref C, some d, rfl, J, kG, ge, hoe, ⟨rfl, rfl, fun vs e => by cases e; rfl⟩, rfl, rfl, na, rfl, bare2, raises_own T.exC T.tyC, q2⟩
    | next => exact False.elim hq'
    | brk => exact False.elim hq'
    | cont => exact False.elim hq'
end
/-- __init__ of an own error: the base's, then its fields -/
def spEI (D : Addr) (n : Nat) (mk : List V → List (Str × V)) : Sp := fun vs H Q _ => ∃ a ws, vs = .ref a :: ws ∧ ws.length = n ∧ H a = some (exo a D none) ∧
  ∀ H2 d, H d = none → d ≠ a → H2 a = some (exo a D (some d)) → H2 d = some (exd d (mk ws)) → (∀ b, b ≠ a → b ≠ d → H2 b = H b) → Q .non H2
/-- the value of flat data -/
def flV : Dt → V
  | .bl b => .bl b
  | .int i => .int i
  | .str x => .str x
  | _ => .non
theorem flats_V {C : Addr} {S : Hp} : ∀ {vs : List V} {ds : List Dt}, RpAll C S vs ds → (∀ d ∈ ds, flatD d = true) → vs = ds.map flV
  | _, _, .nil, _ => rfl
  | _, _, .cons h r, f => by
    rw [flats_V r fun d hd => f d (List.mem_cons_of_mem _ hd)]
    have f1 := f _ List.mem_cons_self
    cases h with
    | non => rfl
    | bl b => rfl
    | int b => rfl
    | str b => rfl
    | lst => cases f1
    | tup => cases f1
    | dki => cases f1
    | dkt => cases f1
    | yard => cases f1
    | ext => cases f1
section
variable {C D : Addr} {er : Er} {E : XK} {sl : List Sl} {t : TA} {nx bk ct : List Sl → Prop} {rt : Sl → Prop} {n : Nat} {mk : List V → List (Str × V)}
/-- raise X(e, ..), X with an own __init__ -/
theorem sd_raiseI (h : WA C (ρx er E) t sl fun rs => ∃ ds, datsOf rs = some ds ∧ (∀ d ∈ ds, flatD d = true) ∧ ds.length = n ∧ n ≤ 1000 ∧ er = ⟨D, some (mk (ds.map flV))⟩) :
    SD C (ρx er E) (fun _ σ H => tMkO D (spEI D n mk) [] t σ H fun cls d H' => E cls d H') sl nx rt bk ct := fun S0 H0 S H σ g D' _ _ _ _ => by
  refine h S0 H0 S H σ g _ fun rs S1 H1 vs ⟨ds, e, f, hl, hn, ee⟩ a1 ok1 => ?_
  have ra := ok1.dats e
  have ev := flats_V ra f
  have k1 := g.k1.2
  have g1 := g.mv.trans g.k0 a1
  clear h
  subst ev
  refine ⟨by rw [List.length_map, hl]; exact hn, fun a na => ?_⟩
  rw [List.append_nil]
  refine ⟨a, _, rfl, by rw [List.length_map, hl], upd_same, fun H2 d hd nda h2a h2d rest => ⟨rfl, d, _, h2a, h2d, ?_, ?_⟩⟩
  · rw [upd_ne nda] at hd; exact hd
  · rw [upd_ne nda] at hd
    have eq : upd (L2.del H2 a) d (.xd (mk (ds.map flV))) = upd H1 d (.xd (mk (ds.map flV))) := by
      funext b
      by_cases hb : b = d
      · subst hb; rw [upd_same, upd_same]
      · rw [upd_ne hb, upd_ne hb]
        by_cases ha : b = a
        · subst ha; rw [L2.del_same, na]
        · rw [L2.del_ne ha, rest b ha hb, upd_ne ha]
    rw [eq]
    subst ee
    exact k1 (upd S1 d _) _ (some d) ((g1.trans g.k0 (Mv.newS g1.ok hd _)).un) ⟨d, rfl, upd_same⟩
end
end D3
/-! What the defs give, as plain functions; what is promised of them. -/
namespace Den
open PySem L2 D3
def yEnc (a : Nat × List (Nat × Nat)) : List Dt := [.yard a.1 a.2]
def fn_Yard_many := FnP yEnc (fun _ => True) (fun a K => K (.dat (.int (a.1 : Int))))
def fn_Yard_ties := FnP yEnc (fun _ => True) (fun a K => K (.own (a.2.map tieD)))
def tiedB (ts : List (Nat × Nat)) (i j : Nat) : Bool := decide (j ∈ nearOf ts i)
theorem near_at {n i : Nat} (ts : List (Nat × Nat)) (h : i < n) : atI (nearD n ts) (i : Int) = some (.dki (nearOf ts i)) := by
  refine atI_nat ?_
  unfold nearD
  rw [List.getElem?_map, List.getElem?_range h]; rfl
def yijEnc (a : (Nat × List (Nat × Nat)) × Nat × Nat) : List Dt := [.yard a.1.1 a.1.2, .int (a.2.1 : Int), .int (a.2.2 : Int)]
def fn_Yard_is_tied := FnP yijEnc (fun a => a.2.1 < a.1.1) (fun a K => K (.dat (.bl (tiedB a.1.2 a.2.1 a.2.2))))
def yiEnc (a : (Nat × List (Nat × Nat)) × Nat) : List Dt := [.yard a.1.1 a.1.2, .int (a.2 : Int)]
def fn_Yard_degree := FnP yiEnc (fun a => a.2 < a.1.1) (fun a K => K (.dat (.int ((nearOf a.1.2 a.2).length : Int))))
/-- the pairs (a, b) with a < b < n, a below i -/
def pairsTo (n i : Nat) : List (Nat × Nat) := (List.range i).flatMap fun a => (List.range' (a + 1) (n - (a + 1))).map fun b => (a, b)
def pairsN (n : Nat) : List (Nat × Nat) := pairsTo n n
theorem pairsTo_succ (n i : Nat) : pairsTo n (i + 1) = pairsTo n i ++ (List.range' (i + 1) (n - (i + 1))).map fun b => (i, b) := by
  unfold pairsTo
  rw [List.range_succ, List.flatMap_append]
  simp
theorem pairsTo_len (n : Nat) : ∀ i, (pairsTo n i).length ≤ i * n
  | 0 => by simp [pairsTo]
  | i + 1 => by
    rw [pairsTo_succ, List.length_append, List.length_map, List.length_range']
    have := pairsTo_len n i
    have e : (i + 1) * n = i * n + n := by rw [Nat.succ_mul]
    omega
theorem pairsTo_len30 {n i : Nat} (hn : n ≤ 30) (hi : i ≤ 30) : (pairsTo n i).length ≤ 900 := Nat.le_trans (pairsTo_len n i) (Nat.mul_le_mul hi hn)
theorem pairRow (i n : Nat) : ((List.range' (i + 1) (n - (i + 1))).filter fun _ => true).map (fun b => tieD (i, b)) = ((List.range' (i + 1) (n - (i + 1))).map fun b => (i, b)).map tieD := by
  rw [List.filter_eq_self.mpr (fun _ _ => rfl), List.map_map]; rfl
def fn_Yard_pairs := FnP yEnc (fun a => a.1 ≤ 30) (fun a K => K (.own ((pairsN a.1).map tieD)))
def thinN (n : Nat) (ts : List (Nat × Nat)) : List (Nat × Nat) := (pairsN n).filter fun p => !tiedB ts p.1 p.2 && decide (((nearOf ts p.1).length : Int) + ((nearOf ts p.2).length : Int) < (n : Int))
theorem mem_pairsTo {n i : Nat} {p : Nat × Nat} : p ∈ pairsTo n i ↔ p.1 < i ∧ p.1 < p.2 ∧ p.2 < n := by
  unfold pairsTo
  rw [List.mem_flatMap]
  constructor
  · rintro ⟨a, ha, hb⟩
    obtain ⟨b, hb', rfl⟩ := List.mem_map.mp hb
    rw [List.mem_range] at ha
    rw [List.mem_range'_1] at hb'
    exact ⟨ha, by show a < b; omega, by show b < n; omega⟩
  · rintro ⟨h1, h2, h3⟩
    exact ⟨p.1, List.mem_range.mpr h1, List.mem_map.mpr ⟨p.2, List.mem_range'_1.mpr ⟨by omega, by omega⟩, rfl⟩⟩
theorem mem_pairsN {n : Nat} {p : Nat × Nat} : p ∈ pairsN n ↔ p.1 < p.2 ∧ p.2 < n := by
  unfold pairsN
  rw [mem_pairsTo]
  constructor
  · rintro ⟨h1, h2, h3⟩; exact ⟨h2, h3⟩
  · rintro ⟨h2, h3⟩; exact ⟨by omega, h2, h3⟩
theorem take_filter_succ {α : Type} {xs : List α} {i : Nat} {x : α} (h : xs[i]? = some x) (b : α → Bool) : (xs.take (i + 1)).filter b = (xs.take i).filter b ++ if b x = true then [x] else [] := by
  rw [take_succ h, List.filter_append]
  cases hb : b x <;> simp [hb]
def fn_p_thin := FnP yEnc (fun a => a.1 ≤ 30) (fun a K => K (.own ((thinN a.1 a.2).map tieD)))
def nEnc (n : Nat) : List Dt := [.int (n : Int)]
def fn_l_pairs := FnP nEnc (fun n => n ≤ 30) (fun n K => K (.own ((pairsN n).map tieD)))
theorem die_mv {a : Addr} {S H H2 : Hp} {xs : List V} (ok : Ok (ρd a) S H) (h : ∀ b, b ≠ a → H2 b = H b) (ha : H2 a = some (.lst xs)) (d : DieOk xs) : Mv (ρd a) S H S H2 := by
  have sa : S a = none := ok.m a rfl
  refine ⟨⟨fun b o e => ?_, ok.m, fun b m => ?_, ⟨xs, ha, d⟩⟩, Same.refl S, fun b o m e => by rw [h b m]; exact e, fun b e _ => e⟩
  · have : b ≠ a := fun z => by subst z; rw [sa] at e; cases e
    rw [h b this]; exact ok.sh b o e
  · obtain rfl : b = a := m
    rw [ha]; simp
def offPost (m : Nat) (K : Sl → Prop) : Prop := ∀ r : Nat, r < m → K (.dat (.int (r : Int)))
def fn_l_off := FnP nEnc (fun m => 0 < m ∧ m < 1073741824) offPost
theorem dec_int_eq (x y : Int) : decide (V.int x = V.int y) = decide (x = y) := by by_cases h : x = y <;> simp [h]
theorem emod_nat {x m : Int} (h : 0 < m) : ∃ r : Nat, x % m = (r : Int) ∧ (r : Int) < m := ⟨(x % m).toNat, by have := Int.emod_nonneg x (by omega : m ≠ 0); omega, by have := Int.emod_nonneg x (by omega : m ≠ 0); have := Int.emod_lt_of_pos x h; omega⟩
/-- the die's first and second number -/
theorem ix_die0 {F : PySem.W.Frag} {a : Addr} {f x : Int} {R : List V} {σ : L2.St} {H : Hp} {Q : VK} (hσ : σ[0]? = some (some (.ref a))) (ha : H a = some (.lst (.int f :: .int x :: R))) (q : Q (.int f) H) : tOp (rIxA F) (tVar 0) (tC (.int 0)) σ H Q :=
  ⟨_, hσ, .inl (.inl ⟨a, _, 0, .int f, rfl, rfl, SqL.of ha, atI_nat (j := 0) rfl, q⟩)⟩
theorem ix_die1 {F : PySem.W.Frag} {a : Addr} {f x : Int} {R : List V} {σ : L2.St} {H : Hp} {Q : VK} (hσ : σ[0]? = some (some (.ref a))) (ha : H a = some (.lst (.int f :: .int x :: R))) (q : Q (.int x) H) : tOp (rIxA F) (tVar 0) (tC (.int 1)) σ H Q :=
  ⟨_, hσ, .inl (.inl ⟨a, _, 1, .int x, rfl, rfl, SqL.of ha, atI_nat (j := 1) rfl, q⟩)⟩
def tGt : R2 := rI0 fun i j => V.bl (decide (j < i))
def tModA : R2 := rI (fun _ j => 0 < j) fun i j => .int (i % j)
def tDivA : R2 := rI CDivW fun i j => .int (i / j)
def tOff2 (F : PySem.W.Frag) : TS := tSeq (tIfS (tTest (tOp tGt (tOp (rIxA F) (tVar 0) (tC (.int 1))) (tC (.int 0)))) (tSeq (tAsg (tOp tModA (tOp (rIxA F) (tVar 0) (tC (.int 1))) (tVar 1)) (gName 2)) (tSeq (tAsg (tOp tDivA (tOp (rIxA F) (tVar 0) (tC (.int 1))) (tVar 1)) (gSub (tVar 0) (tC (.int 1)) rSetA)) (tRet (tVar 2)))) tNext)
  (tSeq (tAsg (tOp tModA (tOp (rPlus F) (tOp rTimes (tOp (rIxA F) (tVar 0) (tC (.int 0))) (tC (.int 48271))) (tC (.int 11))) (tC (.int 2147483647))) (gSub (tVar 0) (tC (.int 0)) rSetA)) (tRet (tOp tModA (tOp tDivA (tOp (rIxA F) (tVar 0) (tC (.int 0))) (tC (.int 64))) (tVar 1))))
theorem ifp {c : Bool} {A B : Prop} (h : c = true) (a : A) : if c = true then A else B := by rw [if_pos h]; exact a
theorem ifn {c : Bool} {A B : Prop} (h : c = false) (b : B) : if c = true then A else B := by rw [h, if_neg (by decide)]; exact b
theorem div_ok {j : Int} (a : 0 < j) (b : j < 1073741824) (i : Int) : CDivW i j := by
  have h : (2 : Nat) ^ 30 = 1073741824 := by decide
  exact wide_div (b := 30) a (by rw [h]; omega) (by decide) (by decide)
theorem ixN_of {n j : Nat} (h : j < n) : ixN n (j : Int) = some j := by
  unfold ixN
  rw [if_pos (by omega), if_pos (by omega), Int.toNat_natCast]
theorem off2 {F : PySem.W.Frag} {a : Addr} {m : Nat} {H : Hp} {D : Ends} {z : Option V} (h0 : 0 < m) (h1 : m < 1073741824)
    (fin : ∀ (H2 : Hp) (f x : Int) (rs : List Int) (r : Int), (∀ b, b ≠ a → H2 b = H b) → H2 a = some (.lst (.int f :: .int x :: rs.map V.int)) → 0 ≤ f → f < 2147483647 → 0 ≤ x → (∀ z ∈ rs, 0 < z) → D.rt (.int (r % (m : Int))) H2)
    (H1 : Hp) (f x : Int) (rs : List Int) (e2 : ∀ b, b ≠ a → H1 b = H b) (ha : H1 a = some (.lst (.int f :: .int x :: rs.map V.int))) (f0 : 0 ≤ f) (f1 : f < 2147483647) (x0 : 0 ≤ x) (e5 : ∀ z ∈ rs, 0 < z) : tOff2 F D [some (.ref a), some (.int (m : Int)), z] H1 := by
  have dv : ∀ j : Int, 0 < j → j < 1073741824 → ∀ i, CDivW i j := fun j a b i => div_ok a b i
  refine ix_die1 rfl ha ⟨_, _, rfl, rfl, _, rfl, ?_⟩
  by_cases hx : 0 < x
  · refine ifp (decide_eq_true hx) ?_
    refine ix_die1 rfl ha ⟨_, rfl, _, _, rfl, rfl, by omega, ?_⟩
    refine ix_die1 rfl ha ⟨_, rfl, _, _, rfl, rfl, dv _ (by omega) (by omega) _, ?_⟩
    refine ⟨_, rfl, .inl ⟨a, _, 1, 1, rfl, rfl, ha, ixN_of (j := 1) (by rw [List.length_cons, List.length_cons]; omega), ?_⟩⟩
    refine ⟨_, rfl, ?_⟩
    exact fin _ f (x / m) rs x (fun b hb => by rw [upd_ne hb]; exact e2 b hb) upd_same f0 f1 (Int.ediv_nonneg x0 (by omega)) e5
  · refine ifn (decide_eq_false hx) ?_
    refine ix_die0 rfl ha (.inl ⟨_, _, rfl, rfl, .inr ⟨by decide, by decide⟩, .inl ⟨_, _, rfl, rfl, ⟨_, _, rfl, rfl, (by show (0 : Int) < 2147483647; decide), ?_⟩⟩⟩)
    refine ⟨_, rfl, .inl ⟨a, _, 0, 0, rfl, rfl, ha, ixN_of (j := 0) (by rw [List.length_cons]; omega), ?_⟩⟩
    refine ix_die0 (f := (f * 48271 + 11) % 2147483647) (x := x) (R := rs.map V.int) rfl upd_same ⟨_, _, rfl, rfl, dv _ (by decide) (by decide) _, ?_⟩
    refine ⟨_, rfl, _, _, rfl, rfl, by omega, ?_⟩
    exact fin _ ((f * 48271 + 11) % 2147483647) x rs _ (fun b hb => by rw [upd_ne hb]; exact e2 b hb) upd_same (Int.emod_nonneg _ (by decide)) (Int.emod_lt_of_pos _ (by decide)) x0 e5
theorem eqD_lst_nil (xs : List Dt) : eqD (.lst xs) (.lst []) = decide (xs = []) := by
  cases xs with
  | nil => simp [eqD_lst, toPys, PyData.eqvAll]
  | cons x xs => simp [eqD_lst, toPys, PyData.eqvAll]
def mixEnc (ds : List Dt) : List Dt := [.lst ds]
def fn_l_mixed := FnP mixEnc (fun ds => ds.length ≤ 100000 ∧ plDs 60 ds = true) (fun ds K => ∀ es : List Dt, es.Perm ds → K (.own es))
theorem plDs_perm {n : Nat} {xs ys : List Dt} (h : xs.Perm ys) (p : plDs n ys = true) : plDs n xs = true := plDs_all.mpr fun x hx => plDs_all.mp p x (h.subset hx)
theorem perm_eraseIdx {α : Type} : ∀ {l : List α} {k : Nat} {x : α}, l[k]? = some x → (x :: l.eraseIdx k).Perm l
  | [], _, _, h => by simp at h
  | a :: l, 0, x, h => by simp at h; subst h; exact List.Perm.refl _
  | a :: l, k + 1, x, h => by
    have ih := perm_eraseIdx (l := l) (k := k) (x := x) (by simpa using h)
    rw [List.eraseIdx_cons_succ]
    exact (List.Perm.swap a x _).trans (ih.cons a)
def lmEnc (a : Nat × Nat) : List Dt := [.int (a.1 : Int), .int (a.2 : Int)]
def yardPost (a : Nat × Nat) (K : Sl → Prop) : Prop := ∀ (n : Nat) (ts : List (Nat × Nat)), a.1 ≤ n → n ≤ a.2 → ValidY n ts → K (.dat (.tup [.int (n : Int), .lst (ts.map tieD)]))
def fn_l_yard := FnP lmEnc (fun a => 1 ≤ a.1 ∧ a.1 ≤ a.2 ∧ a.2 ≤ 30) yardPost
theorem nodup_pairsTo (n : Nat) : ∀ i, (pairsTo n i).Nodup
  | 0 => by simp [pairsTo]
  | i + 1 => by
    rw [pairsTo_succ, List.nodup_append]
    refine ⟨nodup_pairsTo n i, ?_, ?_⟩
    · refine List.Pairwise.map _ (R := (· ≠ ·)) (fun a b h e => h (by injection e)) ?_
      exact List.nodup_range'
    · intro p hp q hq e
      subst e
      obtain ⟨b, _, rfl⟩ := List.mem_map.mp hq
      have := (mem_pairsTo.mp hp).1
      exact absurd this (Nat.lt_irrefl _)
theorem nodup_pairsN (n : Nat) : (pairsN n).Nodup := nodup_pairsTo n n
theorem valid_sub {n : Nat} {ts : List (Nat × Nat)} (h : ts.Sublist (pairsN n)) : ValidY n ts := ⟨(nodup_pairsN n).sublist h, fun p hp => mem_pairsN.mp (h.subset hp)⟩
theorem _root_.D3.ValidY.perm {n : Nat} {ts us : List (Nat × Nat)} (h : ValidY n ts) (p : us.Perm ts) : ValidY n us := ⟨p.nodup_iff.mpr h.1, fun q hq => h.2 q (p.subset hq)⟩
theorem _root_.D3.ValidY.sub {n : Nat} {ts us : List (Nat × Nat)} (h : ValidY n ts) (p : us.Sublist ts) : ValidY n us := ⟨h.1.sublist p, fun q hq => h.2 q (p.subset hq)⟩
/-- a permutation of codes is the codes of a permutation -/
theorem perm_map_inv {α β : Type} (f : α → β) : ∀ {es : List β} {ts : List α}, es.Perm (ts.map f) → ∃ us : List α, us.Perm ts ∧ es = us.map f := by
  intro es ts h
  generalize hb : ts.map f = bs at h
  induction h generalizing ts with
  | nil =>
    have : ts = [] := List.map_eq_nil_iff.mp hb
    subst this
    exact ⟨[], List.Perm.refl _, rfl⟩
  | cons x p ih =>
    cases ts with
    | nil => cases hb
    | cons t ts =>
      injection hb with h1 h2
      obtain ⟨us, p1, e1⟩ := ih h2
      exact ⟨t :: us, p1.cons t, by rw [List.map_cons, h1, e1]⟩
  | swap x y l =>
    match ts, hb with
    | a :: b :: ts, hb =>
      injection hb with h1 h2
      injection h2 with h2 h3
      exact ⟨b :: a :: ts, List.Perm.swap _ _ _, by rw [List.map_cons, List.map_cons, h1, h2, h3]⟩
  | trans p q ih1 ih2 =>
    obtain ⟨us, p1, e1⟩ := ih2 hb
    obtain ⟨ws, p2, e2⟩ := ih1 e1.symm
    exact ⟨ws, p2.trans p1, e2⟩
theorem _root_.D3.ValidY.len {n : Nat} {ts : List (Nat × Nat)} (h : ValidY n ts) (hn : n ≤ 30) : ts.length ≤ 900 := by
  have key : ∀ (us ws : List (Nat × Nat)), us.Nodup → (∀ p ∈ us, p ∈ ws) → us.length ≤ ws.length := by
    intro us
    induction us with
    | nil => intro ws _ _; exact Nat.zero_le _
    | cons u us ih =>
      intro ws nd sub
      have hu : u ∈ ws := sub u List.mem_cons_self
      obtain ⟨l1, l2, rfl⟩ := List.append_of_mem hu
      have nd' := List.nodup_cons.mp nd
      have := ih (l1 ++ l2) nd'.2 fun p hp => by
        have := sub p (List.mem_cons_of_mem _ hp)
        rcases List.mem_append.mp this with m | m
        · exact List.mem_append_left _ m
        · rcases List.mem_cons.mp m with e | m
          · subst e; exact absurd hp nd'.1
          · exact List.mem_append_right _ m
      rw [List.length_append] at this
      rw [List.length_cons, List.length_append, List.length_cons]; omega
  exact Nat.le_trans (key ts (pairsN n) h.1 fun p hp => mem_pairsN.mpr (h.2 p hp)) (pairsTo_len30 hn hn)
theorem plDs_ties (ts : List (Nat × Nat)) : plDs 60 (ts.map tieD) = true := plDs_all.mpr fun x hx => by
  obtain ⟨p, _, rfl⟩ := List.mem_map.mp hx
  exact plD_tieD 59 p
theorem cut_from {α : Type} (xs : List α) (k : Nat) : cutD xs (some (k : Int)) none = xs.drop (min k xs.length) := by
  unfold cutD
  rw [HT.sIx_nat]
  rw [show HT.sIx xs.length xs.length none = xs.length from rfl]
  rw [List.take_of_length_le (by rw [List.length_drop]; omega)]
theorem cut_to {α : Type} (xs : List α) (k : Nat) : cutD xs none (some (k : Int)) = xs.take k := by
  unfold cutD
  rw [HT.sIx_nat]
  rw [show HT.sIx xs.length 0 none = 0 from rfl, List.drop_zero, Nat.sub_zero]
  by_cases h : k ≤ xs.length
  · rw [Nat.min_eq_left h]
  · rw [Nat.min_eq_right (by omega), List.take_of_length_le (Nat.le_refl _), List.take_of_length_le (by omega)]
section
variable {C a : Addr} {sl : List Sl} {K : Sl → Prop} {ta : TE} {E : XK} {F : PySem.W.Frag}
/-- a draw below m -/
theorem xoff {i : Int} {j : Nat} (m : Nat) (h : XD C (ρd a) ta sl (.dat (.int i))) (e : i = (m : Int)) (h0 : 0 < m) (h1 : m < 1073741824) (k : ∀ r : Nat, r < m → K (.dat (.int (r : Int)))) (hd : rdAt sl j = .raw (.ref a) := by rfl) (hd2 : okAt sl j = true := by rfl) :
    WX C (ρd a) (tCall (spR C fn_l_off) [] E (tCons (tVar j) (tCons ta tNil))) sl K := by
  subst e
  refine xclR (enc := nEnc) (post := offPost) (pre := fun m => 0 < m ∧ m < 1073741824) m (rs := [.dat (.int (m : Int))]) ?_ rfl ⟨h0, h1⟩ k
  exact (ac (xv hd2) (ac h an)).imp fun r e => by rw [e, hd]; rfl
/-- a list mixed -/
theorem xmixed {j : Nat} {ds : List Dt} {r : Sl} (h : XD C (ρd a) ta sl r) (e : fz r = .dat (.lst ds)) (hl : ds.length ≤ 100000) (hp : plDs 60 ds = true) (k : ∀ es : List Dt, es.Perm ds → K (.own es)) (hd : rdAt sl j = .raw (.ref a) := by rfl) (hd2 : okAt sl j = true := by rfl) :
    WX C (ρd a) (tCall (spR C fn_l_mixed) [] E (tCons (tVar j) (tCons ta tNil))) sl K := by
  refine xclR (enc := mixEnc) (pre := fun ds => ds.length ≤ 100000 ∧ plDs 60 ds = true) (post := fun ds K => ∀ es : List Dt, es.Perm ds → K (.own es)) ds (rs := [.dat (.lst ds)]) ?_ rfl ⟨hl, hp⟩ k
  exact (ac (xv hd2) (ac h an)).imp fun r e' => by rw [e', hd, e]; rfl
theorem xmixT {j : Nat} {ts : List (Nat × Nat)} {n : Nat} {r : Sl} (h : XD C (ρd a) ta sl r) (e : fz r = .dat (.lst (ts.map tieD))) (hv : ValidY n ts) (hn : n ≤ 30) (k : ∀ us : List (Nat × Nat), us.Perm ts → K (.own (us.map tieD))) (hd : rdAt sl j = .raw (.ref a) := by rfl) (hd2 : okAt sl j = true := by rfl) :
    WX C (ρd a) (tCall (spR C fn_l_mixed) [] E (tCons (tVar j) (tCons ta tNil))) sl K := by
  refine xmixed h e (by rw [List.length_map]; have := hv.len hn; omega) (plDs_ties ts) (fun es he => ?_) hd hd2
  obtain ⟨us, p, rfl⟩ := perm_map_inv tieD he
  exact k us p
/-- list(range(n)) mixed -/
theorem xmixN {j : Nat} {ks : List Nat} {r : Sl} (h : XD C (ρd a) ta sl r) (e : fz r = .dat (.lst (ks.map natD))) (hl : ks.length ≤ 100000) (k : ∀ us : List Nat, us.Perm ks → K (.own (us.map natD))) (hd : rdAt sl j = .raw (.ref a) := by rfl) (hd2 : okAt sl j = true := by rfl) :
    WX C (ρd a) (tCall (spR C fn_l_mixed) [] E (tCons (tVar j) (tCons ta tNil))) sl K := by
  refine xmixed h e (by rw [List.length_map]; exact hl) (plDs_all.mpr fun x hx => ?_) (fun es he => ?_) hd hd2
  · obtain ⟨p, _, rfl⟩ := List.mem_map.mp hx; exact plD_natD _ p
  · obtain ⟨us, p, rfl⟩ := perm_map_inv natD he
    exact k us p
end
/-- the ties so far: some of the first pairs -/
def TsI (n : Nat) (i : Nat) (acc : List Dt) : Prop := ∃ ts : List (Nat × Nat), acc = ts.map tieD ∧ ts.Sublist ((pairsN n).take i)
theorem TsI.yes {n i : Nat} {acc : List Dt} {p : Nat × Nat} (h : TsI n i acc) (e : (pairsN n)[i]? = some p) : TsI n (i + 1) (acc ++ [tieD p]) := by
  obtain ⟨ts, rfl, hs⟩ := h
  exact ⟨ts ++ [p], by rw [List.map_append]; rfl, by rw [take_succ e]; exact hs.append (List.Sublist.refl _)⟩
theorem TsI.no {n i : Nat} {acc : List Dt} {p : Nat × Nat} (h : TsI n i acc) (e : (pairsN n)[i]? = some p) : TsI n (i + 1) acc := by
  obtain ⟨ts, rfl, hs⟩ := h
  exact ⟨ts, rfl, by rw [take_succ e]; exact hs.trans (List.sublist_append_left _ _)⟩
theorem TsI.len {n i : Nat} {acc : List Dt} (h : TsI n i acc) (hn : n ≤ 30) : acc.length < 1000000 := by
  obtain ⟨ts, rfl, hs⟩ := h
  have h1 := hs.length_le
  have h2 := pairsTo_len30 hn hn
  have h3 : (pairsN n).length = (pairsTo n n).length := rfl
  rw [List.length_take] at h1
  rw [List.length_map]; omega
theorem TsI.all {n : Nat} {acc : List Dt} (h : TsI n (pairsN n).length acc) : ∃ ts, acc = ts.map tieD ∧ ValidY n ts := by
  obtain ⟨ts, rfl, hs⟩ := h
  rw [List.take_length] at hs
  exact ⟨ts, rfl, valid_sub hs⟩
/-- [pair for pair in pairs(n) if ..], whatever is asked -/
theorem wx_lcPairs {C : Addr} {ρ : Rsc} {sl : List Sl} {K : Sl → Prop} {tl : TE} {tt : TT} {j : Nat} {n : Nat} {F : PySem.W.Frag} {r0 : Sl} (hn : n ≤ 30) (hl : XD C ρ tl sl r0) (e0 : r0.lsF = some ((pairsN n).map tieD)) (hj' : Nat.ble (j + 1) sl.length = true)
    (ht : ∀ p, p ∈ pairsN n → WT C ρ tt ((slW sl [j]).set j (.dat (tieD p))) fun _ => True) (k : ∀ ts, ValidY n ts → K (.own (ts.map tieD))) : WX C ρ (tLc (iList F tl) (gName j) tt (tVar j) [j]) sl K := by
  have hj : j < sl.length := Nat.le_of_ble_eq_true hj'
  refine wx_lcL (ks := [j]) (fun _ h => h) (hl.w ⟨_, e0, TsI n, ⟨[], rfl, by simp⟩, fun i d acc hi iv => ?_, fun acc iv => ?_⟩)
  · rw [List.getElem?_map] at hi
    cases e : (pairsN n)[i]? with
    | none => rw [e] at hi; cases hi
    | some p =>
      rw [e] at hi
      cases hi
      refine gd_name ((ht p (List.mem_of_getElem? e)).imp fun b _ => ?_)
      cases b with
      | true =>
        refine ifp rfl ?_
        have e1 : (((slW sl [j]).set j (.dat (tieD p)))[j]?) = some (.dat (tieD p)) := by
          rw [List.getElem?_set_self]
          show j < ((sl.set j .any)).length
          rw [List.length_set]; exact hj
        refine (xv (i := j) (by unfold okAt; rw [e1]; rfl)).w ⟨tieD p, ?_, iv.len hn, iv.yes e⟩
        unfold rdAt
        rw [e1]; rfl
      | false => exact ifn rfl (iv.no e)
  · rw [List.length_map] at iv
    obtain ⟨ts, rfl, hv⟩ := iv.all
    exact k ts hv

/-! ### the law's own yard: (many, ties), the ties in a list or a dict -/
def tD (q : Bool) (n : Nat) (ts : List (Nat × Nat)) : Dt := .tup [.int (n : Int), tiesD q ts]
def tEnc (a : Nat × List (Nat × Nat)) : List Dt := [tD false a.1 a.2]
def fn_l_made := FnP tEnc (fun a => 1 ≤ a.1 ∧ a.1 ≤ 30 ∧ ValidY a.1 a.2) (fun a K => K (.dat (.yard a.1 a.2)))
def tieB (ts : List (Nat × Nat)) (i j : Nat) : Bool := decide ((min i j, max i j) ∈ ts)
structure TA2 where
  q : Bool
  n : Nat
  ts : List (Nat × Nat)
  i : Nat
  j : Nat
def tijEnc (a : TA2) : List Dt := [tD a.q a.n a.ts, .int (a.i : Int), .int (a.j : Int)]
def fn_l_tied := FnP tijEnc (fun _ => True) (fun a K => K (.dat (.bl (tieB a.ts a.i a.j))))
theorem minmax_tie (i j : Nat) : Dt.tup [.int (min (i : Int) (j : Int)), .int (max (i : Int) (j : Int))] = tieD (min i j, max i j) := by
  have e1 : min (i : Int) (j : Int) = ((min i j : Nat) : Int) := by omega
  have e2 : max (i : Int) (j : Int) = ((max i j : Nat) : Int) := by omega
  rw [e1, e2]; rfl
def degL (ts : List (Nat × Nat)) (i : Nat) : Nat := (ts.filter fun p => decide (i ∈ [p.1, p.2])).length
def tiEnc (a : (Nat × List (Nat × Nat)) × Nat) : List Dt := [tD false a.1.1 a.1.2, .int (a.2 : Int)]
def fn_l_degree := FnP tiEnc (fun a => a.1.1 ≤ 30 ∧ ValidY a.1.1 a.1.2) (fun a K => K (.dat (.int (degL a.1.2 a.2 : Int))))
def thinL (n : Nat) (ts : List (Nat × Nat)) : List (Nat × Nat) := ((pairsN n).filter fun p => !decide (p ∈ ts)).filter fun p => decide ((degL ts p.1 : Int) + (degL ts p.2 : Int) < (n : Int))
def fn_l_thin := FnP tEnc (fun a => a.1 ≤ 30 ∧ ValidY a.1 a.2) (fun a K => K (.own ((thinL a.1 a.2).map tieD)))
/-! ### alike: the same data twice -/
def alD : Nat → Dt → Bool
  | 0, _ => false
  | _ + 1, .non => true
  | _ + 1, .bl _ => true
  | _ + 1, .int _ => true
  | _ + 1, .str _ => true
  | k + 1, .lst xs => decide (xs.length ≤ 100000) && xs.all (alD k)
  | k + 1, .tup xs => decide (xs.length ≤ 100000) && xs.all (alD k)
  | _ + 1, _ => false
/-! isinstance of data -/
def notY : Dt → Bool
  | .yard _ _ => false
  | .ext _ => false
  | _ => true
theorem notY_ne {d : Dt} (h : notY d = true) : tyD d ≠ "" := by
  cases d <;> first | (show ("NoneType" : String) ≠ ""; decide) | (show ("bool" : String) ≠ ""; decide) | (show ("int" : String) ≠ ""; decide) | (show ("str" : String) ≠ ""; decide) | (show ("list" : String) ≠ ""; decide) | (show ("tuple" : String) ≠ ""; decide) | (show ("dict" : String) ≠ ""; decide) | cases h
def isBoolD : Dt → Bool | .bl _ => true | _ => false
def isIntD : Dt → Bool | .bl _ => true | .int _ => true | _ => false
def isStrD : Dt → Bool | .str _ => true | _ => false
def isLstD : Dt → Bool | .lst _ => true | _ => false
def isTupD : Dt → Bool | .tup _ => true | _ => false
def isDctD : Dt → Bool | .dki _ => true | .dkt _ => true | _ => false
theorem kit_bool {d : Dt} (h : notY d = true) : kitB (tyD d) "bool" = some (isBoolD d) := by cases d <;> first | (dsimp only [tyD, isBoolD]; decide +kernel) | cases h
theorem kit_int {d : Dt} (h : notY d = true) : kitB (tyD d) "int" = some (isIntD d) := by cases d <;> first | (dsimp only [tyD, isIntD]; decide +kernel) | cases h
theorem kit_str {d : Dt} (h : notY d = true) : kitB (tyD d) "str" = some (isStrD d) := by cases d <;> first | (dsimp only [tyD, isStrD]; decide +kernel) | cases h
theorem kit_lst {d : Dt} (h : notY d = true) : kitB (tyD d) "list" = some (isLstD d) := by cases d <;> first | (dsimp only [tyD, isLstD]; decide +kernel) | cases h
theorem kit_tup {d : Dt} (h : notY d = true) : kitB (tyD d) "tuple" = some (isTupD d) := by cases d <;> first | (dsimp only [tyD, isTupD]; decide +kernel) | cases h
theorem kit_dct {d : Dt} (h : notY d = true) : kitB (tyD d) "dict" = some (isDctD d) := by cases d <;> first | (dsimp only [tyD, isDctD]; decide +kernel) | cases h
section
variable {C : Addr} {ρ : Rsc} {sl : List Sl} {ta : TE} {F : PySem.W.Frag} {r1 : Sl} {d : Dt}
theorem xisb (h : XD C ρ ta sl r1) (e : (fz r1).hd = some d) (n : notY d = true := by rfl) : XD C ρ (tCB (rIsi F) (tCons ta (tCons (tC (.ty "bool")) tNil))) sl (.dat (.bl (isBoolD d))) := xisi h xraw e (notY_ne n) (kit_bool n)
theorem xisint (h : XD C ρ ta sl r1) (e : (fz r1).hd = some d) (n : notY d = true := by rfl) : XD C ρ (tCB (rIsi F) (tCons ta (tCons (tC (.ty "int")) tNil))) sl (.dat (.bl (isIntD d))) := xisi h xraw e (notY_ne n) (kit_int n)
theorem xiss (h : XD C ρ ta sl r1) (e : (fz r1).hd = some d) (n : notY d = true := by rfl) : XD C ρ (tCB (rIsi F) (tCons ta (tCons (tC (.ty "str")) tNil))) sl (.dat (.bl (isStrD d))) := xisi h xraw e (notY_ne n) (kit_str n)
theorem xisl (h : XD C ρ ta sl r1) (e : (fz r1).hd = some d) (n : notY d = true := by rfl) : XD C ρ (tCB (rIsi F) (tCons ta (tCons (tC (.ty "list")) tNil))) sl (.dat (.bl (isLstD d))) := xisi h xraw e (notY_ne n) (kit_lst n)
theorem xist (h : XD C ρ ta sl r1) (e : (fz r1).hd = some d) (n : notY d = true := by rfl) : XD C ρ (tCB (rIsi F) (tCons ta (tCons (tC (.ty "tuple")) tNil))) sl (.dat (.bl (isTupD d))) := xisi h xraw e (notY_ne n) (kit_tup n)
theorem xisd (h : XD C ρ ta sl r1) (e : (fz r1).hd = some d) (n : notY d = true := by rfl) : XD C ρ (tCB (rIsi F) (tCons ta (tCons (tC (.ty "dict")) tNil))) sl (.dat (.bl (isDctD d))) := xisi h xraw e (notY_ne n) (kit_dct n)
end
def alEnc (d : Dt) : List Dt := [d, d]
def fn_l_alike (k : Nat) := FnP alEnc (fun d => alD k d = true) (fun _ K => K (.dat (.bl true)))
theorem alD_tie {k : Nat} (p : Nat × Nat) : alD (k + 2) (tieD p) = true := by simp [tieD, alD]
theorem alD_ties {k : Nat} {ts : List (Nat × Nat)} (h : ts.length ≤ 100000) : alD (k + 3) (.lst (ts.map tieD)) = true := by
  rw [alD, Bool.and_eq_true]
  refine ⟨by simpa using h, List.all_eq_true.mpr fun x hx => ?_⟩
  obtain ⟨p, _, rfl⟩ := List.mem_map.mp hx
  exact alD_tie p
theorem all_true (n : Nat) : (((List.range n).filter fun _ => true).map fun _ => Dt.bl true) = (List.replicate n true).map Dt.bl := by
  rw [List.filter_eq_self.mpr fun _ _ => rfl]
  induction n with
  | zero => rfl
  | succ n ih => rw [List.range_succ, List.map_append, ih, List.replicate_succ', List.map_append]; rfl
theorem replicate_all (n : Nat) : (List.replicate n true).all id = true := by simp
section
variable {C : Addr} {ρ : Rsc} {sl : List Sl} {K : Sl → Prop} {ta tb : TE} {E : XK} {F : PySem.W.Frag} {r1 r2 : Sl}
/-- alike of the same data -/
theorem xalike {k : Nat} {d : Dt} (h1 : XD C ρ ta sl r1) (h2 : XD C ρ tb sl r2) (e1 : r1.dz = some d) (e2 : r2.dz = some d) (hd : alD k d = true) : XD C ρ (tCall (spD C (fn_l_alike k)) [] E (tCons ta (tCons tb tNil))) sl (.dat (.bl true)) := by
  refine xclW (enc := alEnc) (pre := fun d => alD k d = true) (post := fun _ K => K (.dat (.bl true))) d (rs := [.dat d, .dat d]) ?_ rfl hd ⟨trivial, rfl⟩
  exact (ac h1 (ac h2 an)).imp fun r e => by rw [e, dz_fz e1, dz_fz e2]
end
end Den
/-! A yard being made: what stands in the heap behind some ties. -/
namespace Den
open PySem L2 D3
theorem putK_new {κ : Type} [DecidableEq κ] {k : κ} {v : V} {kvs : List (κ × V)} (h : valV kvs k = none) : putK kvs k v = kvs ++ [(k, v)] := by
  unfold putK
  rw [valV_any, h]; rfl
theorem nearOf_snoc (us : List (Nat × Nat)) (a b x : Nat) : nearOf (us ++ [(a, b)]) x = nearOf us x ++ (if a = x then [b] else if b = x then [a] else []) := by
  unfold nearOf
  rw [List.filterMap_append]
  congr 1
  by_cases h1 : a = x
  · simp [h1]
  · by_cases h2 : b = x <;> simp [h1, h2]
theorem mem_nearOf {us : List (Nat × Nat)} {x z : Nat} : z ∈ nearOf us x ↔ ∃ p ∈ us, (p.1 = x ∧ p.2 = z) ∨ (p.1 ≠ x ∧ p.2 = x ∧ p.1 = z) := by
  unfold nearOf
  rw [List.mem_filterMap]
  constructor
  · rintro ⟨p, hp, e⟩
    by_cases h1 : p.1 = x
    · rw [if_pos h1] at e; cases e; exact ⟨p, hp, .inl ⟨h1, rfl⟩⟩
    · rw [if_neg h1] at e
      by_cases h2 : p.2 = x
      · rw [if_pos h2] at e; cases e; exact ⟨p, hp, .inr ⟨h1, h2, rfl⟩⟩
      · rw [if_neg h2] at e; cases e
  · rintro ⟨p, hp, h⟩
    refine ⟨p, hp, ?_⟩
    rcases h with ⟨h1, rfl⟩ | ⟨h1, h2, rfl⟩
    · rw [if_pos h1]
    · rw [if_neg h1, if_pos h2]
/-- H: the heap ahead; H': behind the ties us -/
structure YSt (H H' : Hp) (C y dx kp nr : Addr) (n : Nat) (us : List (Nat × Nat)) (tp ds : List Addr) : Prop where
  keep : ∀ b o, b ≠ y → H b = some o → H' b = some o
  ins : H' y = some (.ins C dx (yardFs n kp nr))
  kl : H' kp = some (.lst (tp.map V.ref))
  nl : H' nr = some (.lst (ds.map V.ref))
  tl : tp.length = us.length
  tt : ∀ (j : Nat) (t : Addr) (p : Nat × Nat), tp[j]? = some t → us[j]? = some p → H t = none ∧ H' t = some (.tup [.int (p.1 : Int), .int (p.2 : Int)])
  dl : ds.length = n
  nd : ds.Nodup
  dd : ∀ (i : Nat) (d : Addr), ds[i]? = some d → H d = none ∧ H' d = some (.dK ((nearOf us i).map kiV))
  k0 : H kp = none
  n0 : H nr = none
  kn : kp ≠ nr
theorem upd_keep {H H' : Hp} {y p : Addr} {o : HO} (k : ∀ b o, b ≠ y → H b = some o → H' b = some o) (h : H p = none) : ∀ b u, b ≠ y → H b = some u → upd H' p o b = some u := fun b u n e => by
  rw [upd_ne (ne_of_none e h)]; exact k b u n e
section
variable {H H' : Hp} {C y dx kp nr : Addr} {n : Nat} {us : List (Nat × Nat)} {tp ds : List Addr}
/-- one more tie: the tuple, the list, the two dicts -/
theorem YSt.more (Y : YSt H H' C y dx kp nr n us tp ds) (hy : H y ≠ none) {a b : Nat} {t da db : Addr} (hab : a < b) (ea : ds[a]? = some da) (eb : ds[b]? = some db) (ht : H' t = none) (na : ¬ b ∈ nearOf us a) (nb : ¬ a ∈ nearOf us b) :
    da ≠ db ∧ YSt H (upd (upd (upd (upd H' t (.tup [.int (a : Int), .int (b : Int)])) kp (.lst (tp.map V.ref ++ [.ref t]))) da (.dK ((nearOf us a).map kiV ++ [kiV b]))) db (.dK ((nearOf us b).map kiV ++ [kiV a]))) C y dx kp nr n (us ++ [(a, b)]) (tp ++ [t]) ds := by
  have hda := Y.dd a da ea
  have hdb := Y.dd b db eb
  have nab : da ≠ db := fun z => by
    subst z
    have := nd_ix Y.nd ea eb
    omega
  have nty : t ≠ y := fun z => by subst z; rw [Y.ins] at ht; cases ht
  have ntk : t ≠ kp := fun z => by subst z; rw [Y.kl] at ht; cases ht
  have ntn : t ≠ nr := fun z => by subst z; rw [Y.nl] at ht; cases ht
  have ntd : ∀ (i : Nat) (d : Addr), ds[i]? = some d → t ≠ d := fun i d e z => by subst z; rw [(Y.dd i _ e).2] at ht; cases ht
  have nkd : ∀ (i : Nat) (d : Addr), ds[i]? = some d → kp ≠ d := fun i d e => ne_of Y.kl (Y.dd i d e).2 (by intro z; cases z)
  have nnd : ∀ (i : Nat) (d : Addr), ds[i]? = some d → nr ≠ d := fun i d e => ne_of Y.nl (Y.dd i d e).2 (by intro z; cases z)
  have nyk : y ≠ kp := ne_of Y.ins Y.kl (by intro z; cases z)
  have nyn : y ≠ nr := ne_of Y.ins Y.nl (by intro z; cases z)
  have nyd : ∀ (i : Nat) (d : Addr), ds[i]? = some d → y ≠ d := fun i d e => ne_of Y.ins (Y.dd i d e).2 (by intro z; cases z)
  have t0 : H t = none := by
    cases q : H t with
    | none => rfl
    | some o => rw [Y.keep t o nty q] at ht; cases ht
  refine ⟨nab, ⟨?_, ?_, ?_, ?_, ?_, ?_, Y.dl, Y.nd, ?_, Y.k0, Y.n0, Y.kn⟩⟩
  · exact upd_keep (upd_keep (upd_keep (upd_keep Y.keep t0) Y.k0) hda.1) hdb.1
  · rw [upd_ne (nyd b db eb), upd_ne (nyd a da ea), upd_ne nyk, upd_ne (Ne.symm nty)]; exact Y.ins
  · rw [upd_ne (nkd b db eb), upd_ne (nkd a da ea), upd_same, List.map_append]; rfl
  · rw [upd_ne (nnd b db eb), upd_ne (nnd a da ea), upd_ne (Ne.symm Y.kn), upd_ne (Ne.symm ntn)]; exact Y.nl
  · rw [List.length_append, List.length_append, Y.tl]; rfl
  · intro j t' p e1 e2
    by_cases hj : j < tp.length
    · rw [List.getElem?_append_left hj] at e1
      rw [List.getElem?_append_left (by rw [← Y.tl]; exact hj)] at e2
      obtain ⟨q1, q2⟩ := Y.tt j t' p e1 e2
      refine ⟨q1, ?_⟩
      have n1 : t' ≠ db := ne_of q2 hdb.2 (by intro z; cases z)
      have n2 : t' ≠ da := ne_of q2 hda.2 (by intro z; cases z)
      have n3 : t' ≠ kp := ne_of q2 Y.kl (by intro z; cases z)
      have n4 : t' ≠ t := fun z => by subst z; rw [q2] at ht; cases ht
      rw [upd_ne n1, upd_ne n2, upd_ne n3, upd_ne n4]; exact q2
    · rw [List.getElem?_append_right (by omega)] at e1
      rw [List.getElem?_append_right (by rw [← Y.tl]; omega)] at e2
      have h0 : j - tp.length = 0 := by
        have := (List.getElem?_eq_some_iff.mp e1).1
        simp at this; omega
      rw [h0] at e1
      rw [← Y.tl, h0] at e2
      cases e1; cases e2
      refine ⟨t0, ?_⟩
      rw [upd_ne (ntd b db eb), upd_ne (ntd a da ea), upd_ne ntk, upd_same]
  · intro i d e
    refine ⟨(Y.dd i d e).1, ?_⟩
    rw [nearOf_snoc]
    by_cases h1 : i = a
    · subst h1
      obtain rfl : da = d := by rw [e] at ea; exact (Option.some.inj ea).symm
      rw [upd_ne nab, upd_same, if_pos rfl, List.map_append]; rfl
    · by_cases h2 : i = b
      · subst h2
        obtain rfl : db = d := by rw [e] at eb; exact (Option.some.inj eb).symm
        rw [upd_same, if_neg (fun z => h1 z.symm), if_pos rfl, List.map_append]; rfl
      · have n1 : d ≠ da := fun z => by subst z; exact h1 (nd_ix Y.nd e ea)
        have n2 : d ≠ db := fun z => by subst z; exact h2 (nd_ix Y.nd e eb)
        rw [upd_ne n2, upd_ne n1, upd_ne (Ne.symm (nkd i d e)), upd_ne (Ne.symm (ntd i d e)), if_neg (fun z => h1 z.symm), if_neg (fun z => h2 z.symm), List.append_nil]
        exact (Y.dd i d e).2
open Classical in
/-- the end: what stands in the stable part -/
theorem YSt.done {S : Hp} {Q : VK} (Y : YSt H H' C y dx kp nr n us tp ds) (hS : Same S H) (sy : S y = none)
    (q : ∀ S' H', (∀ b o, b ≠ y → H b = some o → H' b = some o) → Same S S' → Same S' H' → (∀ b, b ≠ y → S b = none → H b ≠ none → S' b = none) → Rp C S' (.ref y) (.yard n us) → Q .non H') : Q .non H' := by
  let S' : Hp := fun b => if H b = none ∨ b = y then H' b else S b
  have inn : ∀ b, H b = none → S' b = H' b := fun b e => if_pos (.inl e)
  have iny : S' y = H' y := if_pos (.inr rfl)
  have out : ∀ b, b ≠ y → H b ≠ none → S' b = S b := fun b n e => if_neg (by
    rintro (h | h)
    · exact e h
    · exact n h)
  refine q S' H' Y.keep (fun b o e => ?_) (fun b o e => ?_) (fun b n e e2 => by rw [out b n e2]; exact e) ?_
  · have hb := hS b o e
    rw [out b (fun z => by subst z; rw [sy] at e; cases e) (by rw [hb]; simp)]; exact e
  · by_cases h : H b = none ∨ b = y
    · rw [show S' b = H' b from if_pos h] at e; exact e
    · rw [show S' b = S b from if_neg h] at e
      exact Y.keep b o (fun z => h (.inr z)) (hS b o e)
  · refine .yard (kx := tp.map V.ref) (nx := ds.map V.ref) (dx := dx) (kp := kp) (nr := nr) (by rw [iny]; exact Y.ins) (by rw [inn kp Y.k0]; exact Y.kl) (by rw [inn nr Y.n0]; exact Y.nl) ?_ ?_ rfl rfl
    · have key : ∀ (tp : List Addr) (us : List (Nat × Nat)), tp.length = us.length → (∀ (j : Nat) (t : Addr) (p : Nat × Nat), tp[j]? = some t → us[j]? = some p → H t = none ∧ H' t = some (.tup [.int (p.1 : Int), .int (p.2 : Int)])) → RpAll C S' (tp.map V.ref) (us.map tieD) := by
        intro tp
        induction tp with
        | nil => intro us h _; cases us with
          | nil => exact .nil
          | cons => cases h
        | cons t tp ih =>
          intro us h f
          cases us with
          | nil => cases h
          | cons p us =>
            obtain ⟨f1, f2⟩ := f 0 t p rfl rfl
            refine .cons (.tup (by rw [inn t f1]; exact f2) (.cons (.int _) (.cons (.int _) .nil))) (ih us (by simpa using h) fun j t' p' e1 e2 => f (j + 1) t' p' (by simpa using e1) (by simpa using e2))
      exact key tp us Y.tl Y.tt
    · have key : ∀ (ds : List Addr) (k : Nat), (∀ (i : Nat) (d : Addr), ds[i]? = some d → H d = none ∧ H' d = some (.dK ((nearOf us (k + i)).map kiV))) → RpAll C S' (ds.map V.ref) ((List.range' k ds.length).map fun x => .dki (nearOf us x)) := by
        intro ds
        induction ds with
        | nil => intro k _; exact .nil
        | cons d ds ih =>
          intro k f
          obtain ⟨f1, f2⟩ := f 0 d rfl
          rw [List.length_cons, List.range'_succ]
          refine .cons (.dki (by rw [inn d f1]; exact f2)) (ih (k + 1) fun i d' e => ?_)
          have := f (i + 1) d' (by simpa using e)
          rwa [show k + (i + 1) = k + 1 + i by omega] at this
      have := key ds 0 (fun i d e => by rw [Nat.zero_add]; exact Y.dd i d e)
      rw [Y.dl, ← List.range_eq_range'] at this
      exact this
end
theorem _root_.D3.Rp.lstI {C : Addr} {H : Hp} {v : V} {ds : List Dt} (h : Rp C H v (.lst ds)) : ∃ l xs, v = .ref l ∧ H l = some (.lst xs) ∧ RpAll C H xs ds := by
  cases h with
  | lst a b => exact ⟨_, _, rfl, a, b⟩
theorem _root_.D3.Rp.tieI {C : Addr} {H : Hp} {v : V} {p : Nat × Nat} (h : Rp C H v (tieD p)) : ∃ t, v = .ref t ∧ H t = some (.tup [.int (p.1 : Int), .int (p.2 : Int)]) := by
  cases h with
  | tup a b =>
    cases b with
    | cons h1 r =>
      cases r with
      | cons h2 r => cases r; cases h1; cases h2; exact ⟨_, rfl, a⟩
theorem take_nodup {α : Type} {ts : List α} {i : Nat} {p : α} (nd : ts.Nodup) (h : ts[i]? = some p) (m : p ∈ ts.take i) : False := by
  obtain ⟨j, hj⟩ := List.getElem?_of_mem m
  have hl : j < (ts.take i).length := (List.getElem?_eq_some_iff.mp hj).1
  rw [List.length_take] at hl
  rw [List.getElem?_take_of_lt (by omega)] at hj
  have := nd_ix nd hj h
  omega
theorem near_not1 {n : Nat} {us : List (Nat × Nat)} (h : ∀ p ∈ us, p.1 < p.2 ∧ p.2 < n) {a b : Nat} (nin : (a, b) ∉ us) (hab : a < b) : ¬ b ∈ nearOf us a := fun m => by
  obtain ⟨p, hp, (⟨e1, e2⟩ | ⟨_, e1, e2⟩)⟩ := mem_nearOf.mp m
  · exact nin (by rw [← e1, ← e2]; exact hp)
  · have := (h p hp).1; omega
theorem near_not2 {n : Nat} {us : List (Nat × Nat)} (h : ∀ p ∈ us, p.1 < p.2 ∧ p.2 < n) {a b : Nat} (nin : (a, b) ∉ us) (hab : a < b) : ¬ a ∈ nearOf us b := fun m => by
  obtain ⟨p, hp, (⟨e1, e2⟩ | ⟨_, e1, e2⟩)⟩ := mem_nearOf.mp m
  · have := (h p hp).1; omega
  · exact nin (by rw [← e1, ← e2]; exact hp)
theorem at0 {α : Type} {xs : List α} {i : Nat} {x : α} (h : xs[i]? = some x) : atI xs ((0 : Int) + (i : Int)) = some x := by rw [Int.zero_add]; exact atI_nat h
theorem nearOf_len (us : List (Nat × Nat)) (a : Nat) : (nearOf us a).length ≤ us.length := List.length_filterMap_le _ _
end Den
/-! The die is made of the script; the law begins. -/
namespace Den
open PySem L2 D3
def spDice (F : PySem.W.Frag) : Sp := fun vs H Q _ => ∃ (a : Addr) (ns : List Int), vs = [.ref a, .int 0] ∧ SqL F H a (ns.map V.int) ∧ ns.length ≤ 63 ∧
  ∀ p H' xs, H p = none → Same H H' → H' p = some (.lst xs) → DieOk xs → Q (.ref p) H'
def spLaw (F : PySem.W.Frag) : Sp := fun vs H Q _ => ∃ (a : Addr) (ns : List Int), vs = [.ref a] ∧ SqL F H a (ns.map V.int) ∧ ns.length ≤ 63 ∧ ∀ H', Q (.bl true) H'
section
variable {C : Addr} {F : PySem.W.Frag} {vs : List V} {H : Hp} {Q : VK} {E E' : XK} {rest : TS} {n0 n1 : Str} {N : List Str}
theorem law_start (h : ∀ p, SD C (ρd p) rest (.any :: .raw (.ref p) :: List.replicate N.length .any) (fun _ => False) (· = .dat (.bl true)) (fun _ => False) (fun _ => False)) (hs : spLaw F vs H Q E) :
    (tSeq (tAsg (tCall (spDice F) [] E' (tCons (tVar 0) (tCons (tC (.int 0)) tNil))) (gName 1)) rest) { nx := fun _ H' => Q .non H', rt := Q } (L2.start (n0 :: n1 :: N) vs) H := by
  obtain ⟨a, ns, rfl, hS, hl, k⟩ := hs
  refine ⟨_, rfl, a, ns, rfl, hS, hl, fun p H' xs hp ss hx die => ?_⟩
  have ok : Ok (ρd p) (fun _ => none) H' := ⟨fun b o e => (by cases e), fun b m => rfl, fun b m => (by
    obtain rfl : b = p := m
    rw [hx]; simp), ⟨xs, hx, die⟩⟩
  have g := good_start (C := C) (N := n0 :: n1 :: N) (rs := [.any, .raw (.ref p)]) (vs := [.ref a, .ref p]) ok ⟨trivial, rfl, trivial⟩ (by simp) (by
    intro s hs
    rcases List.mem_cons.mp hs with rfl | hs
    · intro z; exact z
    · obtain rfl := List.mem_singleton.mp hs
      intro z; exact z)
  exact h p _ H' _ H' _ g _ (fun s S' H' σ' kk _ g' => kk.elim) (fun r S' H' v kr m rv => by subst kr; cases rv; exact k _) (fun _ _ _ _ z => z.elim) (fun _ _ _ _ z => z.elim)
end
section
variable {C a : Addr} {F : PySem.W.Frag} {E E2 : XK} {sl : List Sl} {K : Sl → Prop} {th ta : TE} {j : Nat}
/-- a yard is drawn -/
theorem xyard {lo : Nat} {i : Int} (h1 : XD C (ρd a) ta sl (.dat (.int i))) (ei : i = (lo : Int)) (h : WX C (ρd a) th sl fun r => ∃ hi : Nat, r = .dat (.int (hi : Int)) ∧ (1 ≤ lo ∧ lo ≤ hi ∧ hi ≤ 30) ∧ ∀ (n : Nat) (ts : List (Nat × Nat)), lo ≤ n → n ≤ hi → ValidY n ts → K (.dat (tD false n ts))) (hd : rdAt sl j = .raw (.ref a) := by rfl) (hd2 : okAt sl j = true := by rfl) :
    WX C (ρd a) (tCall (spR C fn_l_yard) [] E (tCons (tVar j) (tCons ta (tCons th tNil)))) sl K := by
  subst ei
  refine wx_callR (wa_cons (XD.w (xv hd2) (wa_cons (h1.w (wa_cons (h.imp fun r ⟨hi, er, hb, k⟩ => ?_))))))
  subst er
  rw [hd]
  exact wa_nil ⟨_, _, rfl, rfl, (lo, hi), rfl, hb, k⟩
/-- [x, y][int(off(d, m) == 0)] -/
theorem xpick2 {x y : Int} {m : Nat} {i : Int} (hi : XD C (ρd a) ta sl (.dat (.int i))) (ei : i = (m : Int)) (h0 : 0 < m) (h1 : m < 1073741824) (kx : K (.dat (.int x))) (ky : K (.dat (.int y))) (hd : rdAt sl j = .raw (.ref a) := by rfl) (hd2 : okAt sl j = true := by rfl) :
    WX C (ρd a) (tOp (rIxA F) (tLst (tCons (tC (.int x)) (tCons (tC (.int y)) tNil))) (tCB rInt1 (tCons (tOp (rEqA F) (tCall (spR C fn_l_off) [] E (tCons (tVar j) (tCons ta tNil))) (tC (.int 0))) tNil))) sl K := by
  refine wx_op (XD.w (xlst2 xi xi) (wx_cb (wa_cons (wx_op (xoff m hi ei h0 h1 (fun r _ => XD.w xi (od_eq rfl rfl rfl rfl ?_)) hd hd2)))))
  refine wa_nil (cd_int_bl ?_)
  cases eqD (.int (r : Int)) (.int 0) with
  | true => exact od_ix (d := .int y) rfl (atI_nat (j := 1) rfl) ky
  | false => exact od_ix (d := .int x) rfl (atI_nat (j := 0) rfl) kx
/-- xs[off(d, len)] -/
theorem xpick {tl : TE} {xs : List Int} {r0 : Sl} {m : Nat} {i : Int} (hl : XD C (ρd a) tl sl r0) (e0 : r0.sq = some (xs.map Dt.int)) (hi : XD C (ρd a) ta sl (.dat (.int i))) (ei : i = (m : Int)) (h0 : 0 < m) (h1 : m < 1073741824) (hm : m ≤ xs.length) (k : ∀ x ∈ xs, K (.dat (.int x))) (hd : rdAt sl j = .raw (.ref a) := by rfl) (hd2 : okAt sl j = true := by rfl) :
    WX C (ρd a) (tOp (rIxA F) tl (tCall (spR C fn_l_off) [] E (tCons (tVar j) (tCons ta tNil)))) sl K := by
  refine wx_op (hl.w (xoff m hi ei h0 h1 (fun r hr => ?_) hd hd2))
  have e : xs[r]? = some (xs[r]'(by omega)) := List.getElem?_eq_getElem _
  exact od_ix (d := .int (xs[r]'(by omega))) e0 (atI_nat (by rw [List.getElem?_map, e]; rfl)) (k _ (List.getElem_mem _))
end
/-! ### a yard asked by its list -/
theorem tied_eq {n : Nat} {ts : List (Nat × Nat)} (hv : ValidY n ts) (i j : Nat) : tiedB ts i j = tieB ts i j := by
  unfold tiedB tieB
  rw [decide_eq_decide, mem_nearOf]
  constructor
  · rintro ⟨p, hp, (⟨rfl, rfl⟩ | ⟨_, rfl, rfl⟩)⟩
    · have := (hv.2 p hp).1
      rw [Nat.min_eq_left (by omega), Nat.max_eq_right (by omega)]; exact hp
    · have := (hv.2 p hp).1
      rw [Nat.min_eq_right (by omega), Nat.max_eq_left (by omega)]; exact hp
  · intro h
    have := (hv.2 _ h).1
    simp only at this
    by_cases hij : i < j
    · rw [Nat.min_eq_left (by omega), Nat.max_eq_right (by omega)] at h
      exact ⟨_, h, .inl ⟨rfl, rfl⟩⟩
    · rw [Nat.min_eq_right (by omega), Nat.max_eq_left (by omega)] at h this
      exact ⟨_, h, .inr ⟨by show j ≠ i; omega, rfl, rfl⟩⟩
theorem deg_eq (ts : List (Nat × Nat)) (i : Nat) : (nearOf ts i).length = degL ts i := by
  unfold nearOf degL
  induction ts with
  | nil => rfl
  | cons p ts ih =>
    rw [List.filterMap_cons, List.filter_cons]
    by_cases h1 : p.1 = i
    · rw [if_pos h1, if_pos (by simp [h1])]; simp [ih]
    · by_cases h2 : p.2 = i
      · rw [if_neg h1, if_pos h2, if_pos (by simp [h2])]; simp [ih]
      · rw [if_neg h1, if_neg h2, if_neg (by simp; exact ⟨fun e => h1 e.symm, fun e => h2 e.symm⟩)]; exact ih
theorem thin_eq {n : Nat} {ts : List (Nat × Nat)} (hv : ValidY n ts) : thinN n ts = thinL n ts := by
  unfold thinN thinL
  rw [List.filter_filter]
  refine List.filter_congr fun p hp => ?_
  have hm := (mem_pairsN.mp hp).1
  rw [tied_eq hv, deg_eq, deg_eq]
  unfold tieB
  rw [Nat.min_eq_left (by omega), Nat.max_eq_right (by omega), Bool.and_comm]
theorem thin_len {n : Nat} (hn : n ≤ 30) (ts : List (Nat × Nat)) : (thinL n ts).length ≤ 900 := Nat.le_trans (List.length_filter_le _ _) (Nat.le_trans (List.length_filter_le _ _) (pairsTo_len30 hn hn))
end Den
/-! Yards closed: plain laws. -/
namespace Den
open PySem L2 D3
/-- a pair that isn't tied, with ties enough -/
def okP (n : Nat) (us : List (Nat × Nat)) (p : Nat × Nat) : Bool := !decide (p ∈ us) && decide ((n : Int) ≤ (degL us p.1 : Int) + (degL us p.2 : Int))
def nextP (n : Nat) (us : List (Nat × Nat)) : Option (Nat × Nat) := (pairsN n).find? (okP n us)
def missing (n : Nat) (us : List (Nat × Nat)) : Nat := ((pairsN n).filter fun q => !decide (q ∈ us)).length
theorem nextP_some {n : Nat} {us : List (Nat × Nat)} {p : Nat × Nat} (h : nextP n us = some p) : p ∈ pairsN n ∧ p ∉ us := by
  have h1 := List.mem_of_find?_eq_some h
  have h2 := List.find?_some h
  unfold okP at h2
  rw [Bool.and_eq_true] at h2
  exact ⟨h1, by simpa using h2.1⟩
theorem missing_lt {n : Nat} {us : List (Nat × Nat)} {p : Nat × Nat} (h : nextP n us = some p) : missing n (us ++ [p]) < missing n us := by
  obtain ⟨h1, h2⟩ := nextP_some h
  unfold missing
  have key : ∀ l : List (Nat × Nat), (l.filter fun q => !decide (q ∈ us ++ [p])).length ≤ (l.filter fun q => !decide (q ∈ us)).length ∧ (p ∈ l → (l.filter fun q => !decide (q ∈ us ++ [p])).length < (l.filter fun q => !decide (q ∈ us)).length) := by
    intro l
    induction l with
    | nil => exact ⟨Nat.le_refl _, fun z => by cases z⟩
    | cons x l ih =>
      rw [List.filter_cons, List.filter_cons]
      by_cases hx : x = p
      · subst hx
        rw [if_neg (by simp), if_pos (by simpa using h2)]
        exact ⟨Nat.le_succ_of_le ih.1, fun _ => Nat.lt_succ_of_le ih.1⟩
      · have e : (!decide (x ∈ us ++ [p])) = !decide (x ∈ us) := by
          congr 1
          rw [decide_eq_decide]
          simp [hx]
        rw [e]
        by_cases hu : (!decide (x ∈ us)) = true
        · rw [if_pos hu, if_pos hu]
          exact ⟨Nat.succ_le_succ ih.1, fun m => Nat.succ_lt_succ (ih.2 ((List.mem_cons.mp m).resolve_left fun z => hx z.symm))⟩
        · rw [if_neg hu, if_neg hu]
          exact ⟨ih.1, fun m => ih.2 ((List.mem_cons.mp m).resolve_left fun z => hx z.symm)⟩
  exact (key _).2 h1
theorem missing_le {n : Nat} (hn : n ≤ 30) (us : List (Nat × Nat)) : missing n us ≤ 900 := Nat.le_trans (List.length_filter_le _ _) (pairsTo_len30 hn hn)
/-- the yards on the way -/
def wayN (n : Nat) (us : List (Nat × Nat)) : List (List (Nat × Nat)) := match h : nextP n us with
  | none => [us]
  | some p => us :: wayN n (us ++ [p])
termination_by missing n us
decreasing_by exact missing_lt h
def clN (n : Nat) (us : List (Nat × Nat)) : List (Nat × Nat) := match h : nextP n us with
  | none => us
  | some p => clN n (us ++ [p])
termination_by missing n us
decreasing_by exact missing_lt h
theorem wayN_none {n : Nat} {us : List (Nat × Nat)} (h : nextP n us = none) : wayN n us = [us] := by
  rw [wayN]
  split
  · rfl
  · rename_i p e; rw [h] at e; cases e
theorem wayN_some {n : Nat} {us : List (Nat × Nat)} {p : Nat × Nat} (h : nextP n us = some p) : wayN n us = us :: wayN n (us ++ [p]) := by
  rw [wayN]
  split
  · rename_i e; rw [h] at e; cases e
  · rename_i q e; rw [h] at e; cases e; rfl
theorem clN_none {n : Nat} {us : List (Nat × Nat)} (h : nextP n us = none) : clN n us = us := by
  rw [clN]
  split
  · rfl
  · rename_i p e; rw [h] at e; cases e
theorem clN_some {n : Nat} {us : List (Nat × Nat)} {p : Nat × Nat} (h : nextP n us = some p) : clN n us = clN n (us ++ [p]) := by
  rw [clN]
  split
  · rename_i e; rw [h] at e; cases e
  · rename_i q e; rw [h] at e; cases e; rfl
theorem closing_ind {n : Nat} {P : List (Nat × Nat) → Prop} (h0 : ∀ us, nextP n us = none → P us) (h1 : ∀ us p, nextP n us = some p → P (us ++ [p]) → P us) : ∀ us, P us := by
  have key : ∀ m us, missing n us ≤ m → P us := by
    intro m
    induction m with
    | zero =>
      intro us hm
      cases h : nextP n us with
      | none => exact h0 us h
      | some p => have := missing_lt h; omega
    | succ m ih =>
      intro us hm
      cases h : nextP n us with
      | none => exact h0 us h
      | some p => exact h1 us p h (ih _ (by have := missing_lt h; omega))
  exact fun us => key _ us (Nat.le_refl _)
theorem wayN_last (n : Nat) : ∀ us, ∃ pre, wayN n us = pre ++ [clN n us] := closing_ind (fun us h => ⟨[], by rw [wayN_none h, clN_none h]; rfl⟩) fun us p h ⟨pre, e⟩ => ⟨us :: pre, by rw [wayN_some h, e, clN_some h]; rfl⟩
theorem clN_end (n : Nat) : ∀ us, nextP n (clN n us) = none := closing_ind (fun us h => by rw [clN_none h]; exact h) fun us p h e => by rw [clN_some h]; exact e
theorem clN_pre (n : Nat) : ∀ us, ∃ ws, clN n us = us ++ ws := closing_ind (fun us h => ⟨[], by rw [clN_none h, List.append_nil]⟩) fun us p h ⟨ws, e⟩ => ⟨p :: ws, by rw [clN_some h, e, List.append_assoc]; rfl⟩
/-- the pairs that are tied one by one -/
def addN (n : Nat) (us : List (Nat × Nat)) : List (Nat × Nat) := (clN n us).drop us.length
theorem clN_eq (n : Nat) (us : List (Nat × Nat)) : clN n us = us ++ addN n us := by
  obtain ⟨ws, e⟩ := clN_pre n us
  unfold addN
  rw [e, List.drop_left]
theorem _root_.D3.ValidY.snoc {n : Nat} {us : List (Nat × Nat)} {p : Nat × Nat} (hv : ValidY n us) (h : nextP n us = some p) : ValidY n (us ++ [p]) := by
  obtain ⟨h1, h2⟩ := nextP_some h
  refine ⟨List.nodup_append.mpr ⟨hv.1, List.nodup_cons.mpr ⟨by simp, List.nodup_nil⟩, fun a ha b hb => ?_⟩, fun q hq => ?_⟩
  · obtain rfl := List.mem_singleton.mp hb
    intro e; subst e; exact h2 ha
  · rcases List.mem_append.mp hq with m | m
    · exact hv.2 q m
    · obtain rfl := List.mem_singleton.mp m
      exact mem_pairsN.mp h1
theorem clN_valid (n : Nat) : ∀ us, ValidY n us → ValidY n (clN n us) := closing_ind (fun us h hv => by rw [clN_none h]; exact hv) fun us p h ih hv => by rw [clN_some h]; exact ih (hv.snoc h)
theorem addN_len {n : Nat} {us : List (Nat × Nat)} (hv : ValidY n us) (hn : n ≤ 30) : (addN n us).length ≤ 900 := by
  have := (clN_valid n us hv).len hn
  unfold addN
  rw [List.length_drop]; omega
theorem okP_prog {n : Nat} {us : List (Nat × Nat)} (hv : ValidY n us) {p : Nat × Nat} (hp : p.1 < p.2) : (!tiedB us p.1 p.2 && decide ((n : Int) ≤ ((nearOf us p.1).length : Int) + ((nearOf us p.2).length : Int))) = okP n us p := by
  unfold okP
  rw [tied_eq hv, deg_eq, deg_eq]
  unfold tieB
  rw [Nat.min_eq_left (by omega), Nat.max_eq_right (by omega)]
def optT : Option (Nat × Nat) → Dt
  | none => .non
  | some p => tieD p
def fn_p_next_pair := FnP yEnc (fun a => a.1 ≤ 30 ∧ ValidY a.1 a.2) (fun a K => K (.dat (optT (nextP a.1 a.2))))
def fn_p_yards_on_the_way := FnP yEnc (fun a => 1 ≤ a.1 ∧ a.1 ≤ 30 ∧ ValidY a.1 a.2) (fun a K => K (.own ((wayN a.1 a.2).map (Dt.yard a.1))))
def fn_p_closed := FnP yEnc (fun a => 1 ≤ a.1 ∧ a.1 ≤ 30 ∧ ValidY a.1 a.2) (fun a K => K (.own ((addN a.1 a.2).map tieD)))
def fn_l_added := FnP tEnc (fun a => 1 ≤ a.1 ∧ a.1 ≤ 30 ∧ ValidY a.1 a.2) (fun a K => K (.dat (.tup [.lst ((addN a.1 a.2).map tieD), tD false a.1 (clN a.1 a.2)])))
theorem find_none {α : Type} {xs : List α} {i : Nat} {x : α} {f : α → Bool} (h : xs[i]? = some x) (e : (xs.take i).find? f = none) : (xs.take (i + 1)).find? f = if f x = true then some x else none := by
  rw [take_succ h, List.find?_append, e]
  cases hx : f x <;> simp [hx]
theorem find_some {α : Type} {xs : List α} {i : Nat} {x y : α} {f : α → Bool} (h : xs[i]? = some x) (e : (xs.take i).find? f = some y) : (xs.take (i + 1)).find? f = some y := by
  rw [take_succ h, List.find?_append, e]; rfl
theorem at_last {α : Type} (xs : List α) (x : α) : atI (xs ++ [x]) (-1) = some x := atI_neg (j := xs.length) (by rw [List.length_append, List.length_singleton]; omega) (by simp)
/-! ### degrees in a list -/
def degsD (n : Nat) (us : List (Nat × Nat)) : List Dt := (List.range n).map fun x => .int (degL us x : Int)
theorem degsD_nil (n : Nat) : List.replicate n (Dt.int 0) = degsD n [] := by
  unfold degsD
  induction n with
  | zero => rfl
  | succ n ih => rw [List.range_succ, List.map_append, List.replicate_succ', ih]; rfl
theorem degL_snoc (us : List (Nat × Nat)) (p : Nat × Nat) (x : Nat) : (degL (us ++ [p]) x : Int) = (degL us x : Int) + (if decide (x ∈ [p.1, p.2]) = true then 1 else 0) := by
  unfold degL
  rw [List.filter_append, List.length_append]
  by_cases h : decide (x ∈ [p.1, p.2]) = true
  · rw [if_pos h, List.filter_cons, if_pos h]; simp
  · rw [if_neg h, List.filter_cons, if_neg h]; simp
theorem degsD_at {n x : Nat} (us : List (Nat × Nat)) (h : x < n) : (degsD n us)[x]? = some (.int (degL us x : Int)) := by
  unfold degsD
  rw [List.getElem?_map, List.getElem?_range h]; rfl
theorem degsD_set {n a b : Nat} (us : List (Nat × Nat)) (hab : a < b) (hb : b < n) : ((degsD n us).set a (.int ((degL us a : Int) + 1))).set b (.int ((degL us b : Int) + 1)) = degsD n (us ++ [(a, b)]) := by
  have hl : (degsD n us).length = n := by unfold degsD; simp
  apply List.ext_getElem?
  intro i
  by_cases hi : i < n
  · rw [degsD_at _ hi, degL_snoc]
    by_cases h1 : i = b
    · subst h1
      rw [List.getElem?_set_self (by rw [List.length_set, hl]; exact hi), if_pos (by simp)]
    · rw [List.getElem?_set_ne (Ne.symm h1)]
      by_cases h2 : i = a
      · subst h2
        rw [List.getElem?_set_self (by rw [hl]; exact hi), if_pos (by simp)]
      · rw [List.getElem?_set_ne (Ne.symm h2), degsD_at _ hi, if_neg (by simp [h1, h2]), Int.add_zero]
  · rw [List.getElem?_eq_none (by simp [hl]; omega), List.getElem?_eq_none (by unfold degsD; simp; omega)]
theorem insU_new {α : Type} [DecidableEq α] {xs : List α} {x : α} (h : x ∉ xs) : insU xs x = xs ++ [x] := if_neg h
end Den
/-! Orders, gaps, turnings: plain laws. -/
namespace Den
open PySem L2 D3
abbrev Tie := Nat × Nat
theorem tieB_comm (ts : List Tie) (i j : Nat) : tieB ts i j = tieB ts j i := by unfold tieB; rw [Nat.min_comm, Nat.max_comm]
def gapAt (ts : List Tie) (ks : List Nat) (i : Nat) : Bool := !tieB ts (ks.getD i 0) (ks.getD ((i + 1) % ks.length) 0)
def gapsN (ts : List Tie) (ks : List Nat) : List Nat := (List.range ks.length).filter (gapAt ts ks)
def fromN (ks : List Nat) (a : Nat) : List Nat := ks.drop (a + 1) ++ ks.take (a + 1)
def turnRow (row : List Nat) (b : Nat) : List Nat := (row.take (b + 1)).reverse ++ row.drop (b + 1)
def turnN (ks : List Nat) (a b : Nat) : List Nat := turnRow (fromN ks a) b
def turnsB (ts : List Tie) (row : List Nat) (b : Nat) : Bool := tieB ts (row.getD 0 0) (row.getD (b + 1) 0) && tieB ts (row.getD (row.length - 1) 0) (row.getD b 0)
def firstB (ts : List Tie) (row : List Nat) : Option Nat := (List.range' 1 (row.length - 2)).find? (turnsB ts row)
def firstN (ts : List Tie) (ks : List Nat) (a : Nat) : Option Nat := firstB ts (fromN ks a)
def foundN (ts : List Tie) (ks : List Nat) : List (Nat × Nat) := (gapsN ts ks).filterMap fun a => (firstN ts ks a).map fun b => (a, b)
/-! ### counting gaps -/
def adj : List Nat → List (Nat × Nat)
  | [] => []
  | [_] => []
  | x :: y :: r => (x, y) :: adj (y :: r)
def cG (ts : List Tie) (l : List Nat) : Nat := ((adj l).filter fun p => !tieB ts p.1 p.2).length
def g1 (ts : List Tie) (x y : Nat) : Nat := if tieB ts x y = true then 0 else 1
theorem g1_comm (ts : List Tie) (x y : Nat) : g1 ts x y = g1 ts y x := by unfold g1; rw [tieB_comm]
theorem adj_app (x y : Nat) (ys : List Nat) : ∀ xs, adj ((xs ++ [x]) ++ y :: ys) = adj (xs ++ [x]) ++ (x, y) :: adj (y :: ys)
  | [] => rfl
  | [a] => rfl
  | a :: b :: r => by
    have := adj_app x y ys (b :: r)
    simp only [List.cons_append, adj] at this ⊢
    rw [this]
theorem cG_app (ts : List Tie) (x y : Nat) (xs ys : List Nat) : cG ts ((xs ++ [x]) ++ y :: ys) = cG ts (xs ++ [x]) + g1 ts x y + cG ts (y :: ys) := by
  unfold cG g1
  rw [adj_app, List.filter_append, List.length_append, List.filter_cons]
  cases h : tieB ts x y <;> simp [h] <;> omega
theorem cG_one (ts : List Tie) (x : Nat) : cG ts [x] = 0 := rfl
theorem cG_cons (ts : List Tie) (x y : Nat) (r : List Nat) : cG ts (x :: y :: r) = g1 ts x y + cG ts (y :: r) := by
  have := cG_app ts x y [] r
  simp only [List.nil_append] at this
  rw [show x :: y :: r = [x] ++ y :: r from rfl, this, cG_one]; omega
theorem cG_rev (ts : List Tie) : ∀ l, cG ts l.reverse = cG ts l
  | [] => rfl
  | [x] => rfl
  | x :: y :: r => by
    have ih := cG_rev ts (y :: r)
    rw [List.reverse_cons] at ih
    rw [List.reverse_cons, List.reverse_cons, show r.reverse ++ [y] ++ [x] = (r.reverse ++ [y]) ++ x :: [] from rfl, cG_app, ih, cG_cons, cG_one, g1_comm]; omega
/-- the gaps of a ring -/
def rG (ts : List Tie) (l : List Nat) : Nat := cG ts l + g1 ts (l.getLastD 0) (l.headD 0)
theorem snoc_of {α : Type} {l : List α} (h : l ≠ []) : ∃ xs x, l = xs ++ [x] := ⟨l.dropLast, l.getLast h, (List.dropLast_concat_getLast h).symm⟩
theorem rG_app (ts : List Tie) {p q : List Nat} (hp : p ≠ []) (hq : q ≠ []) : rG ts (p ++ q) = cG ts p + g1 ts (p.getLastD 0) (q.headD 0) + cG ts q + g1 ts (q.getLastD 0) (p.headD 0) := by
  obtain ⟨xs, x, rfl⟩ := snoc_of hp
  obtain ⟨y, ys, rfl⟩ : ∃ y ys, q = y :: ys := by cases q with
    | nil => exact absurd rfl hq
    | cons y ys => exact ⟨y, ys, rfl⟩
  unfold rG
  rw [cG_app]
  have e1 : ((xs ++ [x]) ++ y :: ys).getLastD 0 = (y :: ys).getLastD 0 := by
    rw [List.getLastD_eq_getLast?, List.getLastD_eq_getLast?, List.getLast?_append]
    cases h : (y :: ys).getLast? with
    | none => simp at h
    | some z => rfl
  have e2 : ((xs ++ [x]) ++ y :: ys).headD 0 = (xs ++ [x]).headD 0 := by cases xs <;> rfl
  have e3 : (xs ++ [x]).getLastD 0 = x := by simp
  rw [e1, e2, e3]; rfl
theorem rG_rot (ts : List Tie) (p q : List Nat) : rG ts (p ++ q) = rG ts (q ++ p) := by
  by_cases hp : p = []
  · subst hp; rw [List.nil_append, List.append_nil]
  · by_cases hq : q = []
    · subst hq; rw [List.nil_append, List.append_nil]
    · rw [rG_app ts hp hq, rG_app ts hq hp]; omega
theorem rG_from (ts : List Tie) (ks : List Nat) (a : Nat) : rG ts (fromN ks a) = rG ts ks := by
  unfold fromN
  rw [rG_rot, List.take_append_drop]
theorem adj_len : ∀ l, (adj l).length = l.length - 1
  | [] => rfl
  | [_] => rfl
  | x :: y :: r => by
    have := adj_len (y :: r)
    simp only [adj, List.length_cons] at this ⊢
    omega
theorem adj_at : ∀ (l : List Nat) (i : Nat), i + 1 < l.length → (adj l)[i]? = some (l.getD i 0, l.getD (i + 1) 0)
  | [], i, h => by simp at h
  | [_], i, h => by simp at h
  | x :: y :: r, 0, _ => rfl
  | x :: y :: r, i + 1, h => by
    have := adj_at (y :: r) i (by simpa using h)
    simpa [adj] using this
theorem gaps_rG (ts : List Tie) {ks : List Nat} (h : ks ≠ []) : (gapsN ts ks).length = rG ts ks := by
  have hl : 0 < ks.length := List.length_pos_iff.mpr h
  have e : ((List.range ks.length).map fun i => (ks.getD i 0, ks.getD ((i + 1) % ks.length) 0)) = adj ks ++ [(ks.getLastD 0, ks.headD 0)] := by
    apply List.ext_getElem?
    intro i
    by_cases h1 : i + 1 < ks.length
    · rw [List.getElem?_append_left (by rw [adj_len]; omega), adj_at ks i h1, List.getElem?_map, List.getElem?_range (by omega)]
      show some (_, ks.getD ((i + 1) % ks.length) 0) = _
      rw [Nat.mod_eq_of_lt h1]
    · by_cases h2 : i + 1 = ks.length
      · rw [List.getElem?_append_right (by rw [adj_len]; omega), adj_len, List.getElem?_map, List.getElem?_range (by omega), show i - (ks.length - 1) = 0 by omega]
        show some (_, ks.getD ((i + 1) % ks.length) 0) = some (_, _)
        rw [h2, Nat.mod_self]
        have e1 : ks.getLastD 0 = ks.getD i 0 := by
          rw [List.getLastD_eq_getLast?, List.getLast?_eq_getElem?, show ks.length - 1 = i by omega]; rfl
        have e2 : ks.headD 0 = ks.getD 0 0 := by cases ks <;> rfl
        rw [e1, e2]
      · rw [List.getElem?_eq_none (by simp; omega), List.getElem?_eq_none (by simp [adj_len]; omega)]
  unfold gapsN rG cG g1
  have e3 : ((List.range ks.length).filter (gapAt ts ks)).length = (((List.range ks.length).map fun i => (ks.getD i 0, ks.getD ((i + 1) % ks.length) 0)).filter fun p => !tieB ts p.1 p.2).length := by
    rw [List.filter_map, List.length_map]; rfl
  rw [e3, e, List.filter_append, List.length_append, List.filter_cons]
  cases h : tieB ts (ks.getLastD 0) (ks.headD 0) <;> simp [h]
theorem turnRow_perm (row : List Nat) (b : Nat) : (turnRow row b).Perm row := by
  unfold turnRow
  exact ((List.reverse_perm _).append_right _).trans (by rw [List.take_append_drop])
theorem fromN_perm (ks : List Nat) (a : Nat) : (fromN ks a).Perm ks := by
  unfold fromN
  exact List.perm_append_comm.trans (by rw [List.take_append_drop])
theorem turnN_perm (ks : List Nat) (a b : Nat) : (turnN ks a b).Perm ks := (turnRow_perm _ _).trans (fromN_perm ks a)
theorem fromN_len (ks : List Nat) (a : Nat) : (fromN ks a).length = ks.length := (fromN_perm ks a).length_eq
theorem turnN_len (ks : List Nat) (a b : Nat) : (turnN ks a b).length = ks.length := (turnN_perm ks a b).length_eq
theorem getD_headD (l : List Nat) : l.getD 0 0 = l.headD 0 := by cases l <;> rfl
theorem getD_lastD (l : List Nat) : l.getD (l.length - 1) 0 = l.getLastD 0 := by
  rw [List.getLastD_eq_getLast?, List.getLast?_eq_getElem?]; rfl
/-- a turning that ties both ends closes the gap between last and first -/
theorem turnRow_rG (ts : List Tie) {row : List Nat} {b : Nat} (hb : b + 1 < row.length) (h : turnsB ts row b = true) : rG ts (turnRow row b) + g1 ts (row.getLastD 0) (row.headD 0) ≤ rG ts row := by
  unfold turnsB at h
  rw [Bool.and_eq_true] at h
  have hp : row.take (b + 1) ≠ [] := fun z => by have := congrArg List.length z; rw [List.length_take, List.length_nil] at this; omega
  have hq : row.drop (b + 1) ≠ [] := fun z => by have := congrArg List.length z; rw [List.length_drop, List.length_nil] at this; omega
  have e0 : row = row.take (b + 1) ++ row.drop (b + 1) := (List.take_append_drop _ _).symm
  have hd : (row.take (b + 1)).headD 0 = row.headD 0 := by cases row <;> rfl
  have la : (row.drop (b + 1)).getLastD 0 = row.getLastD 0 := by
    rw [← getD_lastD, ← getD_lastD, List.length_drop]
    simp only [List.getD_eq_getElem?_getD, List.getElem?_drop]
    rw [show b + 1 + (row.length - (b + 1) - 1) = row.length - 1 by omega]
  have lp : (row.take (b + 1)).getLastD 0 = row.getD b 0 := by
    rw [← getD_lastD, List.length_take, Nat.min_eq_left (by omega)]
    simp only [List.getD_eq_getElem?_getD]
    rw [List.getElem?_take_of_lt (by omega)]; rfl
  have hq' : (row.drop (b + 1)).headD 0 = row.getD (b + 1) 0 := by
    rw [← getD_headD]
    simp only [List.getD_eq_getElem?_getD, List.getElem?_drop, Nat.add_zero]
  have r1 : (row.take (b + 1)).reverse.getLastD 0 = (row.take (b + 1)).headD 0 := by
    rw [List.getLastD_eq_getLast?, List.getLast?_reverse]; cases row.take (b + 1) <;> rfl
  have r2 : (row.take (b + 1)).reverse.headD 0 = (row.take (b + 1)).getLastD 0 := by
    rw [List.getLastD_eq_getLast?, ← List.head?_reverse]; cases (row.take (b + 1)).reverse <;> rfl
  have s1 := rG_app ts hp hq
  rw [List.take_append_drop] at s1
  have hp' : (row.take (b + 1)).reverse ≠ [] := by simpa using hp
  have s2 := rG_app ts hp' hq
  unfold turnRow
  rw [s2, s1, cG_rev, r1, r2, hd, la, lp, hq']
  have t1 : g1 ts (row.headD 0) (row.getD (b + 1) 0) = 0 := by
    unfold g1; rw [← getD_headD, if_pos h.1]
  have t2 : g1 ts (row.getLastD 0) (row.getD b 0) = 0 := by
    unfold g1; rw [← getD_lastD, if_pos h.2]
  omega
theorem from_ends {ks : List Nat} {a : Nat} (h : a < ks.length) : (fromN ks a).getLastD 0 = ks.getD a 0 ∧ (fromN ks a).headD 0 = ks.getD ((a + 1) % ks.length) 0 := by
  constructor
  · rw [← getD_lastD, fromN_len]
    unfold fromN
    simp only [List.getD_eq_getElem?_getD]
    rw [List.getElem?_append_right (by rw [List.length_drop]; omega), List.length_drop, List.getElem?_take_of_lt (by omega), show ks.length - 1 - (ks.length - (a + 1)) = a by omega]
  · rw [← getD_headD]
    unfold fromN
    simp only [List.getD_eq_getElem?_getD]
    by_cases h1 : a + 1 < ks.length
    · rw [List.getElem?_append_left (by rw [List.length_drop]; omega), List.getElem?_drop, Nat.mod_eq_of_lt h1, Nat.add_zero]
    · have e : a + 1 = ks.length := by omega
      rw [List.getElem?_append_right (by rw [List.length_drop]; omega), List.length_drop, e, Nat.mod_self, Nat.sub_self, Nat.sub_zero, List.getElem?_take_of_lt (by omega)]
theorem first_mem {ts : List Tie} {row : List Nat} {b : Nat} (h : firstB ts row = some b) : 1 ≤ b ∧ b + 1 < row.length ∧ turnsB ts row b = true := by
  have h1 := List.mem_of_find?_eq_some h
  have h2 := List.find?_some h
  rw [List.mem_range'_1] at h1
  exact ⟨h1.1, by omega, h2⟩
theorem gap_mem {ts : List Tie} {ks : List Nat} {a : Nat} (h : a ∈ gapsN ts ks) : a < ks.length ∧ gapAt ts ks a = true := by
  have := List.mem_filter.mp h
  exact ⟨List.mem_range.mp this.1, this.2⟩
theorem turn_dec {ts : List Tie} {ks : List Nat} {a b : Nat} (ha : a ∈ gapsN ts ks) (hb : firstN ts ks a = some b) : (gapsN ts (turnN ks a b)).length < (gapsN ts ks).length := by
  obtain ⟨h1, h2⟩ := gap_mem ha
  obtain ⟨b1, b2, b3⟩ := first_mem hb
  have hk : ks ≠ [] := fun z => by subst z; simp at h1
  have hk' : turnN ks a b ≠ [] := fun z => by have := turnN_len ks a b; rw [z] at this; exact hk (List.length_eq_zero_iff.mp this.symm)
  rw [gaps_rG ts hk, gaps_rG ts hk']
  have := turnRow_rG ts b2 b3
  rw [rG_from] at this
  obtain ⟨e1, e2⟩ := from_ends h1
  rw [e1, e2] at this
  unfold gapAt at h2
  have t : g1 ts (ks.getD a 0) (ks.getD ((a + 1) % ks.length) 0) = 1 := by
    unfold g1
    rw [if_neg]
    intro z; rw [z] at h2; cases h2
  rw [t] at this
  exact this
theorem found_head {ts : List Tie} {ks : List Nat} {p : Nat × Nat} {r : List (Nat × Nat)} (h : foundN ts ks = p :: r) : p.1 ∈ gapsN ts ks ∧ firstN ts ks p.1 = some p.2 := by
  have hm : p ∈ foundN ts ks := by rw [h]; exact List.mem_cons_self
  unfold foundN at hm
  obtain ⟨a, ha, e⟩ := List.mem_filterMap.mp hm
  cases e2 : firstN ts ks a with
  | none => rw [e2] at e; cases e
  | some b => rw [e2] at e; cases e; exact ⟨ha, e2⟩
/-- gap by gap closed by turnings -/
def roundW (ts : List Tie) (ks : List Nat) : List (Nat × Nat) × List Nat := match h : foundN ts ks with
  | [] => ([], ks)
  | p :: _ => let r := roundW ts (turnN ks p.1 p.2); (p :: r.1, r.2)
termination_by (gapsN ts ks).length
decreasing_by exact turn_dec (found_head h).1 (found_head h).2
theorem roundW_nil {ts : List Tie} {ks : List Nat} (h : foundN ts ks = []) : roundW ts ks = ([], ks) := by
  rw [roundW]
  split
  · rfl
  · rename_i e; rw [h] at e; cases e
theorem roundW_cons {ts : List Tie} {ks : List Nat} {p : Nat × Nat} {r : List (Nat × Nat)} (h : foundN ts ks = p :: r) : roundW ts ks = (p :: (roundW ts (turnN ks p.1 p.2)).1, (roundW ts (turnN ks p.1 p.2)).2) := by
  rw [roundW]
  split
  · rename_i e; rw [h] at e; cases e
  · rename_i e; rw [h] at e; cases e; rfl
theorem rounding_ind {ts : List Tie} {P : List Nat → Prop} (h0 : ∀ ks, foundN ts ks = [] → P ks) (h1 : ∀ ks p r, foundN ts ks = p :: r → P (turnN ks p.1 p.2) → P ks) : ∀ ks, P ks := by
  have key : ∀ m ks, (gapsN ts ks).length ≤ m → P ks := by
    intro m
    induction m with
    | zero =>
      intro ks hm
      cases h : foundN ts ks with
      | nil => exact h0 ks h
      | cons p r => have := turn_dec (found_head h).1 (found_head h).2; omega
    | succ m ih =>
      intro ks hm
      cases h : foundN ts ks with
      | nil => exact h0 ks h
      | cons p r => exact h1 ks p r h (ih _ (by have := turn_dec (found_head h).1 (found_head h).2; omega))
  exact fun ks => key _ ks (Nat.le_refl _)
theorem roundW_perm (ts : List Tie) : ∀ ks, (roundW ts ks).2.Perm ks := rounding_ind (fun ks h => by rw [roundW_nil h]) fun ks p r h ih => by
  rw [roundW_cons h]
  exact ih.trans (turnN_perm _ _ _)
theorem roundW_len (ts : List Tie) : ∀ ks, (roundW ts ks).1.length ≤ (gapsN ts ks).length := rounding_ind (fun ks h => by rw [roundW_nil h]; exact Nat.zero_le _) fun ks p r h ih => by
  rw [roundW_cons h]
  have := turn_dec (found_head h).1 (found_head h).2
  show (roundW ts (turnN ks p.1 p.2)).1.length + 1 ≤ _
  omega
theorem gapsN_le (ts : List Tie) (ks : List Nat) : (gapsN ts ks).length ≤ ks.length := by
  unfold gapsN
  exact Nat.le_trans (List.length_filter_le _ _) (by rw [List.length_range]; exact Nat.le_refl _)
/-! ### what is promised -/
structure YO where
  q : Bool
  n : Nat
  ts : List Tie
  ks : List Nat
  a : Nat
  b : Nat
structure YO.Ok (x : YO) : Prop where
  n30 : x.n ≤ 30
  v : ValidY x.n x.ts
  lt : ∀ k ∈ x.ks, k < x.n
  len : x.ks.length ≤ 1000
def optI : Option Nat → Dt
  | none => .non
  | some b => .int (b : Int)
def yoEnc (x : YO) : List Dt := [.yard x.n x.ts, .lst (x.ks.map natD)]
def toEnc (x : YO) : List Dt := [tD x.q x.n x.ts, .lst (x.ks.map natD)]
def yoaEnc (x : YO) : List Dt := [.yard x.n x.ts, .lst (x.ks.map natD), .int (x.a : Int)]
def toaEnc (x : YO) : List Dt := [tD x.q x.n x.ts, .lst (x.ks.map natD), .int (x.a : Int)]
def yoabEnc (x : YO) : List Dt := [.yard x.n x.ts, .lst (x.ks.map natD), .int (x.a : Int), .int (x.b : Int)]
def oaEnc (x : YO) : List Dt := [.lst (x.ks.map natD), .int (x.a : Int)]
def oabEnc (x : YO) : List Dt := [.lst (x.ks.map natD), .int (x.a : Int), .int (x.b : Int)]
def fn_p_need_order := FnP yoEnc (fun x => x.n ≤ 30 ∧ x.ks.Perm (List.range x.n)) (fun _ K => K (.dat .non))
def fn_p_all_gaps := FnP yoEnc YO.Ok (fun x K => K (.own ((gapsN x.ts x.ks).map natD)))
def fn_p_gaps := FnP yoEnc (fun x => x.Ok ∧ x.ks.Perm (List.range x.n)) (fun x K => K (.own ((gapsN x.ts x.ks).map natD)))
def roundB (ts : List Tie) (ks : List Nat) (n : Nat) : Bool := decide (2 < (n : Int)) && decide (gapsN ts ks = [])
def fn_p_is_round := FnP yoEnc (fun x => x.Ok ∧ x.ks.Perm (List.range x.n)) (fun x K => K (.dat (.bl (roundB x.ts x.ks x.n))))
def fn_p_from_gap := FnP oaEnc (fun x => x.ks.length ≤ 1000) (fun x K => K (.own ((fromN x.ks x.a).map natD)))
def fn_p_turned_at := FnP oabEnc (fun x => x.ks.length ≤ 1000) (fun x K => K (.own ((turnN x.ks x.a x.b).map natD)))
def fn_l_turned := FnP oabEnc (fun x => x.ks.length ≤ 1000) (fun x K => K (.own ((turnN x.ks x.a x.b).map natD)))
def fn_p_turned := FnP yoabEnc (fun x => x.Ok ∧ x.ks.Perm (List.range x.n) ∧ x.a < x.n ∧ x.b + 1 < x.n) (fun x K => K (.own ((turnN x.ks x.a x.b).map natD)))
def fn_p_first_turning := FnP yoaEnc (fun x => x.Ok ∧ x.a < x.ks.length) (fun x K => K (.dat (optI (firstN x.ts x.ks x.a))))
def optM : Option Nat → Int
  | none => -1
  | some b => (b : Int)
def fn_l_turning := FnP toaEnc (fun x => x.Ok ∧ x.a < x.ks.length) (fun x K => K (.dat (.int (optM (firstN x.ts x.ks x.a)))))
def fn_l_gaps := FnP toEnc YO.Ok (fun x K => K (.own ((gapsN x.ts x.ks).map natD)))
def roundD (ts : List Tie) (ks : List Nat) (n : Nat) : List Dt := [.str (if roundB ts (roundW ts ks).2 n then "round" else "stuck"), .lst ((roundW ts ks).1.map tieD), .lst ((roundW ts ks).2.map natD)]
def fn_p_rounded := FnP yoEnc (fun x => x.Ok ∧ x.ks.Perm (List.range x.n)) (fun x K => K (.dat (.tup (roundD x.ts x.ks x.n))))
def fn_l_rounded := FnP toEnc (fun x => x.Ok ∧ x.ks.Perm (List.range x.n)) (fun x K => K (.dat (.tup (roundD x.ts x.ks x.n))))
def fn_l_quick := FnP tEnc (fun a => a.1 ≤ 30 ∧ ValidY a.1 a.2) (fun a K => K (.dat (tD true a.1 a.2)))
theorem perm_ok {n : Nat} {ks : List Nat} (h : ks.Perm (List.range n)) (hn : n ≤ 30) : (∀ k ∈ ks, k < n) ∧ ks.length ≤ 1000 ∧ ks.length = n := by
  have hl := h.length_eq
  rw [List.length_range] at hl
  exact ⟨fun k hk => List.mem_range.mp (h.subset hk), by omega, hl⟩
theorem mkOk {q : Bool} {n : Nat} {ts : List Tie} {ks : List Nat} {a b : Nat} (hn : n ≤ 30) (hv : ValidY n ts) (h : ks.Perm (List.range n)) : YO.Ok ⟨q, n, ts, ks, a, b⟩ := ⟨hn, hv, (perm_ok h hn).1, (perm_ok h hn).2.1⟩
theorem lt_of_get {n : Nat} {ks : List Nat} (h : ∀ k ∈ ks, k < n) {i : Nat} (hi : i < ks.length) : ks.getD i 0 < n := by
  rw [List.getD_eq_getElem?_getD, List.getElem?_eq_getElem hi]
  exact h _ (List.getElem_mem hi)
theorem get_some {ks : List Nat} {i : Nat} (hi : i < ks.length) : ks[i]? = some (ks.getD i 0) := by
  rw [List.getD_eq_getElem?_getD, List.getElem?_eq_getElem hi]; rfl
theorem atN {ks : List Nat} {i : Nat} (hi : i < ks.length) : atI ks (i : Int) = some (ks.getD i 0) := atI_nat (get_some hi)
theorem filter_true {α : Type} (l : List α) : (l.filter fun _ => true) = l := List.filter_eq_self.mpr fun _ _ => rfl
def frD (ts : List Tie) (rs : List Nat) (a : Nat) : Dt := .tup [.int (a : Int), optI (firstN ts rs a)]
theorem found_map (ts : List Tie) (rs : List Nat) : ((gapsN ts rs).filter fun a => !isNonD (optI (firstN ts rs a))).map (frD ts rs) = (foundN ts rs).map tieD := by
  unfold foundN
  induction gapsN ts rs with
  | nil => rfl
  | cons a l ih =>
    rw [List.filter_cons, List.filterMap_cons]
    cases h : firstN ts rs a with
    | none =>
      rw [if_neg (by show ¬ (!isNonD (optI none)) = true; decide)]
      exact ih
    | some b =>
      rw [if_pos (by show (!isNonD (optI (some b))) = true; rfl), List.map_cons]
      show frD ts rs a :: _ = tieD (a, b) :: _
      rw [ih]
      congr 1
      unfold frD
      rw [h]; rfl
theorem found_len (ts : List Tie) (rs : List Nat) : (foundN ts rs).length ≤ (gapsN ts rs).length := List.length_filterMap_le _ _
theorem eqD_ties_nil (xs : List (Nat × Nat)) : eqD (.lst (xs.map tieD)) (.lst []) = decide (xs = []) := eqD_lst_map tieD eqD_tieD xs []
theorem eqD_nats_nil (xs : List Nat) : eqD (.lst (xs.map natD)) (.lst []) = decide (xs = []) := eqD_nats xs []
theorem roundD_stuck {ts : List Tie} {ks : List Nat} {n : Nat} {us : List (Nat × Nat)} {rs : List Nat} (h : roundW ts ks = (us, rs)) (g : gapsN ts rs ≠ []) : roundD ts ks n = [.str "stuck", .lst (us.map tieD), .lst (rs.map natD)] := by
  unfold roundD roundB
  rw [h]
  simp [g]
theorem roundD_end {ts : List Tie} {ks : List Nat} {n : Nat} {us : List (Nat × Nat)} {rs : List Nat} (h : roundW ts ks = (us, rs)) (g : gapsN ts rs = []) : roundD ts ks n = [.str (if decide (2 < (n : Int)) = true then "round" else "stuck"), .lst (us.map tieD), .lst (rs.map natD)] := by
  unfold roundD roundB
  rw [h]
  simp [g]
theorem optM_pos {ts : List Tie} {row : List Nat} : decide (0 < optM (firstB ts row)) = (firstB ts row).isSome := by
  cases h : firstB ts row with
  | none => rfl
  | some b =>
    have := (first_mem h).1
    show decide (0 < (b : Int)) = true
    exact decide_eq_true (by omega)
theorem found_mapL (ts : List Tie) (rs : List Nat) : ((gapsN ts rs).filter fun a => decide (0 < optM (firstN ts rs a))).map (fun (a : Nat) => Dt.tup [.int (a : Int), .int (optM (firstN ts rs a))]) = (foundN ts rs).map tieD := by
  unfold foundN
  induction gapsN ts rs with
  | nil => rfl
  | cons a l ih =>
    rw [List.filter_cons, List.filterMap_cons]
    have hp : decide (0 < optM (firstN ts rs a)) = (firstN ts rs a).isSome := optM_pos
    rw [hp]
    cases h : firstN ts rs a with
    | none =>
      rw [if_neg (by decide)]
      exact ih
    | some b =>
      rw [if_pos (show (some b).isSome = true from rfl), List.map_cons, h]
      show _ :: _ = tieD (a, b) :: _
      rw [ih]; rfl
/-! ### by a dict of ties -/
def tqEnc (a : Nat × List Tie) : List Dt := [tD true a.1 a.2]
def tqiEnc (a : (Nat × List Tie) × Nat) : List Dt := [tD true a.1.1 a.1.2, .int (a.2 : Int)]
def fn_l_degreeQ := FnP tqiEnc (fun a => a.1.1 ≤ 30 ∧ ValidY a.1.1 a.1.2) (fun a K => K (.dat (.int (degL a.1.2 a.2 : Int))))
def fn_l_thinQ := FnP tqEnc (fun a => a.1 ≤ 30 ∧ ValidY a.1 a.2) (fun a K => K (.own ((thinL a.1 a.2).map tieD)))
def wordR (ts : List Tie) (ks : List Nat) (n : Nat) : Dt := .str (if roundB ts (roundW ts ks).2 n then "round" else "stuck")
/-- with new lists -/
def fn_p_roundedX (C : Addr) := FnP yoEnc (fun x => x.Ok ∧ x.ks.Perm (List.range x.n)) (fun x K => K (.bcell (tupOwn2 C (wordR x.ts x.ks x.n) ((roundW x.ts x.ks).1.map tieD) ((roundW x.ts x.ks).2.map natD))))
theorem flat_optI (o : Option Nat) : flatD (optI o) = true := by cases o <;> rfl
theorem alD_nats {k : Nat} {ks : List Nat} (h : ks.length ≤ 100000) : alD (k + 2) (.lst (ks.map natD)) = true := by
  rw [alD, Bool.and_eq_true]
  refine ⟨by simpa using h, List.all_eq_true.mpr fun x hx => ?_⟩
  obtain ⟨p, _, rfl⟩ := List.mem_map.mp hx
  rfl
end Den
/-! Where two ends have ties enough a turning closes their gap. -/
namespace Den
open PySem L2 D3
theorem nearOf_nodup {n : Nat} {ts : List Tie} (hv : ValidY n ts) (x : Nat) : (nearOf ts x).Nodup := by
  have key : ∀ us : List Tie, us.Nodup → (∀ p ∈ us, p.1 < p.2) → (nearOf us x).Nodup := by
    intro us
    induction us with
    | nil => intro _ _; exact List.nodup_nil
    | cons p us ih =>
      intro nd lt
      have nd' := List.nodup_cons.mp nd
      have ihh := ih nd'.2 fun q hq => lt q (List.mem_cons_of_mem _ hq)
      have lp := lt p List.mem_cons_self
      unfold nearOf at ihh ⊢
      rw [List.filterMap_cons]
      by_cases h1 : p.1 = x
      · rw [if_pos h1]
        refine List.nodup_cons.mpr ⟨fun m => ?_, ihh⟩
        obtain ⟨q, hq, (⟨e1, e2⟩ | ⟨_, e1, e2⟩)⟩ := mem_nearOf.mp m
        · have : q = p := Prod.ext (e1.trans h1.symm) e2
          subst this; exact nd'.1 hq
        · have := lt q (List.mem_cons_of_mem _ hq); omega
      · by_cases h2 : p.2 = x
        · rw [if_neg h1, if_pos h2]
          refine List.nodup_cons.mpr ⟨fun m => ?_, ihh⟩
          obtain ⟨q, hq, (⟨e1, e2⟩ | ⟨_, e1, e2⟩)⟩ := mem_nearOf.mp m
          · have := lt q (List.mem_cons_of_mem _ hq); omega
          · have : q = p := Prod.ext e2 (e1.trans h2.symm)
            subst this; exact nd'.1 hq
        · rw [if_neg h1, if_neg h2]; exact ihh
  exact key ts hv.1 fun p hp => (hv.2 p hp).1
theorem near_mem {n : Nat} {ts : List Tie} (hv : ValidY n ts) {x y : Nat} : y ∈ nearOf ts x ↔ tieB ts x y = true := by
  have h := tied_eq hv x y
  unfold tiedB at h
  rw [← h]; simp
theorem near_lt {n : Nat} {ts : List Tie} (hv : ValidY n ts) {x y : Nat} (h : y ∈ nearOf ts x) : y < n ∧ x < n ∧ x ≠ y := by
  obtain ⟨p, hp, (⟨e1, e2⟩ | ⟨_, e1, e2⟩)⟩ := mem_nearOf.mp h
  · have := hv.2 p hp; omega
  · have := hv.2 p hp; omega
theorem tieB_self {n : Nat} {ts : List Tie} (hv : ValidY n ts) (x : Nat) : tieB ts x x = false := by
  cases h : tieB ts x x with
  | false => rfl
  | true => exact absurd rfl (near_lt hv ((near_mem hv).mpr h)).2.2
theorem perm_of_mem {l m : List Nat} (h1 : l.Nodup) (h2 : m.Nodup) (h : ∀ x, x ∈ l ↔ x ∈ m) : l.Perm m := (List.perm_ext_iff_of_nodup h1 h2).mpr h
theorem deg_count {n : Nat} {ts : List Tie} (hv : ValidY n ts) (x : Nat) {row : List Nat} (hr : row.Perm (List.range n)) : degL ts x = (row.filter fun y => tieB ts x y).length := by
  rw [← deg_eq]
  refine List.Perm.length_eq ((perm_of_mem (nearOf_nodup hv x) ((List.nodup_range (n := n)).filter _) fun y => ?_).trans (hr.symm.filter _))
  rw [near_mem hv, List.mem_filter, List.mem_range]
  constructor
  · intro h; exact ⟨(near_lt hv ((near_mem hv).mpr h)).1, h⟩
  · intro h; exact h.2
theorem row_map (row : List Nat) : (List.range row.length).map (fun j => row.getD j 0) = row := by
  apply List.ext_getElem?
  intro i
  by_cases h : i < row.length
  · rw [List.getElem?_map, List.getElem?_range h, get_some h]; rfl
  · rw [List.getElem?_eq_none (by simp; omega), List.getElem?_eq_none (by omega)]
theorem filter_ix (row : List Nat) (f : Nat → Bool) : (row.filter f).length = ((List.range row.length).filter fun j => f (row.getD j 0)).length := by
  have h : (((List.range row.length).map fun j => row.getD j 0).filter f).length = (row.filter f).length := congrArg (fun l => (l.filter f).length) (row_map row)
  rw [← h, List.filter_map, List.length_map]; rfl
theorem two_le (m : Nat) (f g : Nat → Bool) (h : ∀ b, b < m → ¬ (f b = true ∧ g b = true)) : ((List.range m).filter f).length + ((List.range m).filter g).length ≤ m := by
  induction m with
  | zero => simp
  | succ m ih =>
    have ih' := ih fun b hb => h b (by omega)
    have hm := h m (by omega)
    rw [List.range_succ, List.filter_append, List.filter_append, List.length_append, List.length_append]
    cases h1 : f m <;> cases h2 : g m <;> simp [h1, h2] at hm ⊢ <;> omega
theorem shift_filter (m : Nat) (f : Nat → Bool) (h : f 0 = false) : ((List.range (m + 1)).filter f).length = ((List.range m).filter fun b => f (b + 1)).length := by
  rw [List.range_succ_eq_map, List.filter_cons, if_neg (by rw [h]; decide), List.filter_map, List.length_map]; rfl
theorem last_filter (m : Nat) (f : Nat → Bool) (h : f m = false) : ((List.range (m + 1)).filter f).length = ((List.range m).filter f).length := by
  rw [List.range_succ, List.filter_append, List.length_append]
  simp [h]
/-- ends that aren't tied, with ties enough: a turning -/
theorem ore {n : Nat} {ts : List Tie} (hv : ValidY n ts) {row : List Nat} (hr : row.Perm (List.range n)) (h2 : 2 ≤ n) (hg : tieB ts (row.getD 0 0) (row.getD (row.length - 1) 0) = false)
    (hd : n ≤ degL ts (row.getD 0 0) + degL ts (row.getD (row.length - 1) 0)) : ∃ b, firstB ts row = some b := by
  have hl : row.length = n := by rw [hr.length_eq, List.length_range]
  obtain ⟨m, rfl⟩ : ∃ m, n = m + 1 := ⟨n - 1, by omega⟩
  have e1 := deg_count hv (row.getD 0 0) hr
  have e2 := deg_count hv (row.getD (row.length - 1) 0) hr
  rw [filter_ix, hl, shift_filter m (fun j => tieB ts (row.getD 0 0) (row.getD j 0)) (tieB_self hv _)] at e1
  have el : row.length - 1 = m := by omega
  rw [el] at hg hd e2
  rw [filter_ix, hl, last_filter m (fun j => tieB ts (row.getD m 0) (row.getD j 0)) (tieB_self hv _)] at e2
  cases hf : firstB ts row with
  | some b => exact ⟨b, rfl⟩
  | none =>
    exfalso
    have no : ∀ b, b < m → ¬ (tieB ts (row.getD 0 0) (row.getD (b + 1) 0) = true ∧ tieB ts (row.getD m 0) (row.getD b 0) = true) := by
      rintro b hb ⟨q1, q2⟩
      have b0 : b ≠ 0 := fun z => by subst z; rw [tieB_comm, hg] at q2; cases q2
      have b1 : b + 1 ≠ m := fun z => by rw [z, hg] at q1; cases q1
      unfold firstB at hf
      rw [List.find?_eq_none] at hf
      refine hf b (List.mem_range'_1.mpr ⟨by omega, by omega⟩) ?_
      unfold turnsB
      rw [el, q1, q2]; rfl
    have := two_le m _ _ no
    omega
theorem thin_none {n : Nat} {ts : List Tie} (h : thinL n ts = []) {p : Tie} (hp : p ∈ pairsN n) (hn : p ∉ ts) : n ≤ degL ts p.1 + degL ts p.2 := by
  unfold thinL at h
  rw [List.filter_eq_nil_iff] at h
  have := h p (List.mem_filter.mpr ⟨hp, by simpa using hn⟩)
  simp at this
  omega
/-- where no pair is thin, each gap has a turning -/
theorem thin_turn {n : Nat} {ts : List Tie} (hv : ValidY n ts) (ht : thinL n ts = []) {ks : List Nat} (hk : ks.Perm (List.range n)) (h2 : 2 ≤ n) {a : Nat} (ha : a ∈ gapsN ts ks) : ∃ b, firstN ts ks a = some b := by
  obtain ⟨h1, hg⟩ := gap_mem ha
  have hl : ks.length = n := by rw [hk.length_eq, List.length_range]
  obtain ⟨e1, e2⟩ := from_ends h1
  have hrow : (fromN ks a).Perm (List.range n) := (fromN_perm ks a).trans hk
  unfold gapAt at hg
  have hnt : tieB ts (ks.getD a 0) (ks.getD ((a + 1) % ks.length) 0) = false := by simpa using hg
  have hlt : ∀ k ∈ ks, k < n := (fun k hkk => List.mem_range.mp (hk.subset hkk))
  have x1 := lt_of_get hlt h1
  have x2 := lt_of_get hlt (i := (a + 1) % ks.length) (Nat.mod_lt _ (by omega))
  have nd : ks.Nodup := hk.nodup_iff.mpr List.nodup_range
  have ne : ks.getD a 0 ≠ ks.getD ((a + 1) % ks.length) 0 := fun z => by
    have := nd_ix nd (get_some h1) (by rw [z]; exact get_some (Nat.mod_lt _ (by omega)))
    by_cases h : a + 1 < ks.length
    · rw [Nat.mod_eq_of_lt h] at this; omega
    · have e : a + 1 = ks.length := by omega
      rw [e, Nat.mod_self] at this; omega
  unfold firstN
  refine ore hv hrow h2 ?_ ?_
  · rw [getD_headD, getD_lastD, e1, e2, tieB_comm]; exact hnt
  · rw [getD_headD, getD_lastD, e1, e2]
    have hp : (min (ks.getD a 0) (ks.getD ((a + 1) % ks.length) 0), max (ks.getD a 0) (ks.getD ((a + 1) % ks.length) 0)) ∈ pairsN n := mem_pairsN.mpr ⟨by show min _ _ < max _ _; omega, by show max _ _ < n; omega⟩
    have hn : (min (ks.getD a 0) (ks.getD ((a + 1) % ks.length) 0), max (ks.getD a 0) (ks.getD ((a + 1) % ks.length) 0)) ∉ ts := by
      unfold tieB at hnt
      simpa using hnt
    have := thin_none ht hp hn
    simp only at this
    rcases Nat.lt_or_ge (ks.getD a 0) (ks.getD ((a + 1) % ks.length) 0) with h | h
    · rw [Nat.min_eq_left (by omega), Nat.max_eq_right (by omega)] at this; omega
    · rw [Nat.min_eq_right (by omega), Nat.max_eq_left (by omega)] at this; omega
theorem thin_round {n : Nat} {ts : List Tie} (hv : ValidY n ts) (ht : thinL n ts = []) (h2 : 2 ≤ n) : ∀ ks : List Nat, ks.Perm (List.range n) → gapsN ts (roundW ts ks).2 = [] :=
  rounding_ind (fun ks h hk => by
    rw [roundW_nil h]
    cases hg : gapsN ts ks with
    | nil => rfl
    | cons a l =>
      obtain ⟨b, hb⟩ := thin_turn hv ht hk h2 (a := a) (by rw [hg]; exact List.mem_cons_self)
      unfold foundN at h
      rw [hg, List.filterMap_cons, hb] at h
      cases h) fun ks p r h ih hk => by
    rw [roundW_cons h]
    exact ih ((turnN_perm _ _ _).trans hk)
/-- the first turning told -/
theorem roundW_step {ts : List Tie} {ks rs : List Nat} {p : Nat × Nat} {us : List (Nat × Nat)} (h : roundW ts ks = (p :: us, rs)) : p.1 ∈ gapsN ts ks ∧ firstN ts ks p.1 = some p.2 ∧ roundW ts (turnN ks p.1 p.2) = (us, rs) := by
  cases hf : foundN ts ks with
  | nil => rw [roundW_nil hf] at h; cases h
  | cons q r =>
    rw [roundW_cons hf] at h
    injection h with h1 h2
    injection h1 with h3 h4
    subst h3
    exact ⟨(found_head hf).1, (found_head hf).2, Prod.ext h4 h2⟩
theorem roundW_stop {ts : List Tie} {ks rs : List Nat} (h : roundW ts ks = ([], rs)) : ks = rs := by
  cases hf : foundN ts ks with
  | nil => rw [roundW_nil hf] at h; injection h
  | cons q r => rw [roundW_cons hf] at h; injection h with h1 _; cases h1
/-! ### what is promised of the dense yards -/
def onEnc (x : YO) : List Dt := [.lst (x.ks.map natD), .int (x.n : Int)]
def fn_l_is_order := FnP onEnc (fun x => x.n ≤ 30 ∧ x.ks.Perm (List.range x.n)) (fun _ K => K (.dat (.bl true)))
def noEnc (_ : Unit) : List Dt := []
def fn_l_dense := FnP noEnc (fun _ => True) (fun _ K => ∀ (n : Nat) (ts : List Tie), 3 ≤ n → n ≤ 30 → ValidY n ts → K (.dat (tD false n ts)))
theorem filter_false {α : Type} (l : List α) (f : α → Bool) (h : ∀ x ∈ l, f x = false) : l.filter f = [] := by
  rw [List.filter_eq_nil_iff]
  intro x hx; rw [h x hx]; decide
section
variable {C a : Addr} {F : PySem.W.Frag} {E : XK} {sl : List Sl} {K : Sl → Prop} {ta tx ty : TE} {j : Nat}
/-- [x, y][int(off(d, m) == 0)] -/
theorem xpickG {x y : Int} {m : Nat} {i : Int} (hx : XD C (ρd a) tx sl (.dat (.int x))) (hy : XD C (ρd a) ty sl (.dat (.int y))) (hi : XD C (ρd a) ta sl (.dat (.int i))) (ei : i = (m : Int)) (h0 : 0 < m) (h1 : m < 1073741824) (kx : K (.dat (.int x))) (ky : K (.dat (.int y))) (hd : rdAt sl j = .raw (.ref a) := by rfl) (hd2 : okAt sl j = true := by rfl) :
    WX C (ρd a) (tOp (rIxA F) (tLst (tCons tx (tCons ty tNil))) (tCB rInt1 (tCons (tOp (rEqA F) (tCall (spR C fn_l_off) [] E (tCons (tVar j) (tCons ta tNil))) (tC (.int 0))) tNil))) sl K := by
  refine wx_op (XD.w (xlst2 hx hy) (wx_cb (wa_cons (wx_op (xoff m hi ei h0 h1 (fun r _ => XD.w xi (od_eq rfl rfl rfl rfl ?_)) hd hd2)))))
  refine wa_nil (cd_int_bl ?_)
  cases eqD (.int (r : Int)) (.int 0) with
  | true => exact od_ix (d := .int y) rfl (atI_nat (j := 1) rfl) ky
  | false => exact od_ix (d := .int x) rfl (atI_nat (j := 0) rfl) kx
end
theorem sd_ifAny {C : Addr} {ρ : Rsc} {sl : List Sl} {tt : TT} {tu tv : TS} {nx bk ct : List Sl → Prop} {rt : Sl → Prop} (h : WT C ρ tt sl fun _ => True) (h1 : SD C ρ tu sl nx rt bk ct) (h2 : SD C ρ tv sl nx rt bk ct) : SD C ρ (tIfS tt tu tv) sl nx rt bk ct := sd_if (h.imp fun b _ => by
  cases b with
  | true => exact ifp rfl h1
  | false => exact ifn rfl h2)
/-- 3 + off(d, [18, 28][int(off(d, 3) == 0)]) -/
theorem xmany {C a : Addr} {F : PySem.W.Frag} {E E2 : XK} {sl : List Sl} {K : Sl → Prop} {j : Nat} (k : ∀ n : Nat, 3 ≤ n → n ≤ 30 → K (.dat (.int (n : Int)))) (hd : rdAt sl j = .raw (.ref a) := by rfl) (hd2 : okAt sl j = true := by rfl) :
    WX C (ρd a) (tOp (rPlus F) (tC (.int 3)) (tCall (spR C fn_l_off) [] E2 (tCons (tVar j) (tCons (tOp (rIxA F) (tLst (tCons (tC (.int 18)) (tCons (tC (.int 28)) tNil))) (tCB rInt1 (tCons (tOp (rEqA F) (tCall (spR C fn_l_off) [] E (tCons (tVar j) (tCons (tC (.int 3)) tNil))) (tC (.int 0))) tNil))) tNil)))) sl K := by
  have fin : ∀ (m : Nat) (r : Nat), m ≤ 28 → r < m → OD C (ρd a) (rPlus F) (.dat (.int 3)) (.dat (.int (r : Int))) K := fun m r hm hr => od_plus_int (by rw [show (3 : Int) + (r : Int) = ((3 + r : Nat) : Int) by omega]; exact k (3 + r) (by omega) (by omega))
  refine wx_op (XD.w xi (wx_callR (wa_cons (XD.w (xv hd2) (wa_cons (xpickG (m := 3) xi xi xi rfl (by decide) (by decide) ?_ ?_ hd hd2))))))
  · rw [hd]; exact wa_nil ⟨_, _, rfl, rfl, (18 : Nat), rfl, ⟨by decide, by decide⟩, fun r hr => fin 18 r (by decide) hr⟩
  · rw [hd]; exact wa_nil ⟨_, _, rfl, rfl, (28 : Nat), rfl, ⟨by decide, by decide⟩, fun r hr => fin 28 r (by decide) hr⟩
section
variable {C a : Addr} {F : PySem.W.Frag} {E : XK} {sl : List Sl} {K : Sl → Prop} {ta tb tx ty : TE} {j : Nat}
theorem xpickA {x y : Int} {m : Nat} {i : Int} (hx : XD C (ρd a) tx sl (.dat (.int x))) (hy : XD C (ρd a) ty sl (.dat (.int y))) (hi : XD C (ρd a) ta sl (.dat (.int i))) (ei : i = (m : Int)) (h0 : 0 < m) (h1 : m < 1073741824) (k : ∀ z : Int, K (.dat (.int z))) (hd : rdAt sl j = .raw (.ref a) := by rfl) (hd2 : okAt sl j = true := by rfl) :
    WX C (ρd a) (tOp (rIxA F) (tLst (tCons tx (tCons ty tNil))) (tCB rInt1 (tCons (tOp (rEqA F) (tCall (spR C fn_l_off) [] E (tCons (tVar j) (tCons ta tNil))) (tC (.int 0))) tNil))) sl K := xpickG hx hy hi ei h0 h1 (k x) (k y) hd hd2
theorem xsure {ρ : Rsc} {b2 : Bool} (h1 : WX C ρ ta sl fun r => ∃ b, r = .dat (.bl b) ∧ True) (h2 : XD C ρ tb sl (.dat (.bl b2))) (k : ∀ b : Bool, K (.dat (.bl b))) : WX C ρ (tAndV ta tb) sl K := wx_and (h1.imp fun r ⟨b, e, _⟩ => ⟨b, e, by
  cases b with
  | true => exact ifp rfl (h2.w (k _))
  | false => exact ifn rfl (k _)⟩)
end
/-- a list of degrees, whatever they are -/
def DenJ (n : Nat) (die : Addr) (sl : List Sl) : Prop := ∃ (ts : List Tie) (ds : List Int) (a b c d e f : Sl), sl = [.raw (.ref die), .dat (.int (n : Int)), .dat (.lst (ts.map tieD)), .own (ds.map Dt.int), a, .dat (.int (((n : Int) + 1) / 2)), b, c, d, e, f] ∧ ValidY n ts ∧ ds.length = n
theorem const_ints (n : Nat) (z : Int) : ((List.range n).map fun _ => Dt.int z) = (List.replicate n z).map Dt.int := by
  apply List.ext_getElem?
  intro i
  by_cases h : i < n <;> simp [List.getElem?_replicate, h]
end Den
/-! A round of the closed yard led back. -/
namespace Den
open PySem L2 D3
section
variable {C : Addr} {ρ : Rsc} {sl : List Sl} {F : PySem.W.Frag} {nx bk ct : List Sl → Prop} {rt : Sl → Prop}
/-- for .. in reversed(list) -/
theorem sd_forRev {tl : TE} {g : TG} {ks : List Nat} {tb : TS} (h : WX C ρ tl sl fun r => ∃ items, r.lsF = some items ∧ ∃ Iv : Nat → List Sl → Prop, Iv 0 sl ∧
      (∀ i d sl', i < items.length → items[items.length - 1 - i]? = some d → Iv i sl' → GD C ρ g ks (.dat d) sl' fun s => SD C ρ tb s (Iv (i + 1)) rt nx (Iv (i + 1))) ∧ (∀ sl', Iv items.length sl' → nx sl')) :
    SD C ρ (tFor (RT.iRevA F tl) g tb) sl nx rt bk ct := fun S0 H0 S H σ gd D a b c d => by
  refine h S0 H0 S H σ gd _ fun r S1 H1 v ⟨items, er, Iv, h0, hs, hd⟩ a1 ok1 => ?_
  obtain ⟨S2, a2, _, ok2⟩ := ok1.fzD gd.k a1
  rw [lsF_fz er] at ok2
  obtain ⟨p, xs, rfl, sp, ra⟩ := Rp.lstI ok2
  refine ⟨p, xs, rfl, .inl ⟨SqL.of (a2.ok.sh _ _ sp), ?_⟩⟩
  have hl : xs.length = items.length := ra.length
  refine RT.for_Itv (K := F) (a := p) (xs := xs) (fun i σ' H' => ∃ S' sl', Iv i sl' ∧ Good C ρ S0 H0 S' H' σ' sl' ∧ Same S2 S') ⟨S2, sl, h0, gd.move a2, Same.refl _⟩ (fun i σ' H' ⟨S', sl', _, g', ss⟩ => SqL.of (g'.k.sh _ _ (ss _ _ sp))) ?_ ?_
  · rintro i x σ3 H3 hi hx ⟨S3, sl3, i3, g3, ss⟩
    obtain ⟨dd, ed, rd⟩ := ra.getV hx
    rw [hl] at ed hi
    refine hs i dd sl3 hi ed i3 S0 H0 S3 H3 S3 H3 σ3 x g3 (Mv.refl g3.k) (Rp.mono ss rd) _ fun sl4 S4 H4 σ4 k4 m4 g4 _ _ => ?_
    exact sd_from k4 g4 (ss.trans m4.ss) (fun s S' H' σ' k q g' => ⟨S', s, k, g', q⟩) b (fun s S' H' σ' k q g' => a s S' H' σ' k (a2.ss.trans q) g') (fun s S' H' σ' k q g' => ⟨S', s, k, g', q⟩)
  · rintro σ3 H3 ⟨S3, sl3, i3, g3, ss⟩
    rw [hl] at i3
    exact a sl3 S3 H3 σ3 (hd sl3 i3) (a2.ss.trans ss) g3
end
theorem cut_init {α : Type} (xs : List α) : cutD xs none (some (-1)) = xs.dropLast := by
  unfold cutD
  rw [show HT.sIx xs.length 0 none = 0 from rfl, List.drop_zero, Nat.sub_zero]
  rw [show HT.sIx xs.length xs.length (some (-1)) = xs.length - 1 from by
    show (if (-1 : Int) < 0 then ((-1 : Int) + (xs.length : Int)).toNat else min (-1 : Int).toNat xs.length) = _
    rw [if_pos (by decide)]; omega]
  exact List.dropLast_eq_take.symm
/-- at most one gap, where but one pair isn't tied -/
theorem one_gap {n : Nat} {us : List Tie} {p : Tie} (hv : ValidY n us) (h3 : 3 ≤ n) {ks : List Nat} (hk : ks.Perm (List.range n)) (hg : gapsN (us ++ [p]) ks = []) : (gapsN us ks).length ≤ 1 := by
  have hl : ks.length = n := by rw [hk.length_eq, List.length_range]
  have nd : ks.Nodup := hk.nodup_iff.mpr List.nodup_range
  have key : ∀ i ∈ gapsN us ks, i < n ∧ (min (ks.getD i 0) (ks.getD ((i + 1) % n) 0), max (ks.getD i 0) (ks.getD ((i + 1) % n) 0)) = p := by
    intro i hi
    obtain ⟨h1, h2⟩ := gap_mem hi
    rw [hl] at h1
    refine ⟨h1, ?_⟩
    have no : i ∉ gapsN (us ++ [p]) ks := by rw [hg]; simp
    have h4 : ¬ gapAt (us ++ [p]) ks i = true := fun z => no (List.mem_filter.mpr ⟨List.mem_range.mpr (by omega), z⟩)
    unfold gapAt tieB at h2 h4
    rw [hl] at h2 h4
    simp at h2 h4
    exact h4 h2
  have inj : ∀ i j, i < n → j < n → ks.getD i 0 = ks.getD j 0 → i = j := fun i j hi hj e => nd_ix nd (get_some (by omega)) (by rw [e]; exact get_some (by omega))
  have uniq : ∀ i j, i ∈ gapsN us ks → j ∈ gapsN us ks → i = j := by
    intro i j hi hj
    obtain ⟨hin, e1⟩ := key i hi
    obtain ⟨hjn, e2⟩ := key j hj
    have mi : (i + 1) % n < n := Nat.mod_lt _ (by omega)
    have mj : (j + 1) % n < n := Nat.mod_lt _ (by omega)
    have e3 := e1.trans e2.symm
    injection e3 with e4 e5
    by_cases h : ks.getD i 0 = ks.getD j 0
    · exact inj i j hin hjn h
    · have a1 : ks.getD i 0 = ks.getD ((j + 1) % n) 0 := by omega
      have a2 : ks.getD ((i + 1) % n) 0 = ks.getD j 0 := by omega
      have b1 := inj _ _ hin mj a1
      have b2 := inj _ _ mi hjn a2
      exfalso
      by_cases c1 : i + 1 < n
      · rw [Nat.mod_eq_of_lt c1] at b2
        by_cases c2 : j + 1 < n
        · rw [Nat.mod_eq_of_lt c2] at b1; omega
        · have : j + 1 = n := by omega
          rw [this, Nat.mod_self] at b1; omega
      · have : i + 1 = n := by omega
        rw [this, Nat.mod_self] at b2
        rw [← b2, Nat.mod_eq_of_lt (by omega)] at b1; omega
  have ndg : (gapsN us ks).Nodup := by unfold gapsN; exact (List.nodup_range (n := ks.length)).filter _
  match hq : gapsN us ks with
  | [] => simp
  | [x] => simp
  | x :: y :: r =>
    rw [hq] at ndg uniq
    have := uniq x y (by simp) (by simp)
    subst this
    exact absurd ndg (by simp)
/-- one step back -/
def stepO (us : List Tie) (fs : List (List Nat)) : List (List Nat) := match gapsN us (fs.getLastD []) with
  | [] => fs
  | a :: _ => fs ++ [turnN (fs.getLastD []) a ((firstN us (fs.getLastD []) a).getD 0)]
def openW (n : Nat) (ks : List Nat) (us : List Tie) : List (List Nat) := match h : nextP n us with
  | none => [ks]
  | some p => stepO us (openW n ks (us ++ [p]))
termination_by missing n us
decreasing_by exact missing_lt h
theorem openW_none {n : Nat} {ks : List Nat} {us : List Tie} (h : nextP n us = none) : openW n ks us = [ks] := by
  rw [openW]
  split
  · rfl
  · rename_i p e; rw [h] at e; cases e
theorem openW_some {n : Nat} {ks : List Nat} {us : List Tie} {p : Tie} (h : nextP n us = some p) : openW n ks us = stepO us (openW n ks (us ++ [p])) := by
  rw [openW]
  split
  · rename_i e; rw [h] at e; cases e
  · rename_i q e; rw [h] at e; cases e; rfl
theorem stepO_nil {us : List Tie} {fs : List (List Nat)} {row : List Nat} (h : gapsN us row = []) : stepO us (fs ++ [row]) = fs ++ [row] := by
  unfold stepO
  rw [show (fs ++ [row]).getLastD [] = row by simp, h]
theorem stepO_cons {us : List Tie} {fs : List (List Nat)} {row : List Nat} {a b : Nat} {l : List Nat} (h : gapsN us row = a :: l) (hb : firstN us row a = some b) : stepO us (fs ++ [row]) = (fs ++ [row]) ++ [turnN row a b] := by
  unfold stepO
  rw [show (fs ++ [row]).getLastD [] = row by simp, h]
  show (fs ++ [row]) ++ [turnN row a ((firstN us row a).getD 0)] = _
  rw [hb]; rfl
theorem nextP_deg {n : Nat} {us : List Tie} {p : Tie} (h : nextP n us = some p) : n ≤ degL us p.1 + degL us p.2 := by
  have h2 := List.find?_some h
  unfold okP at h2
  simp at h2
  omega
/-- in the yard ahead a gap of the round has a turning -/
theorem back_turn {n : Nat} {us : List Tie} {p : Tie} (hv : ValidY n us) (h3 : 3 ≤ n) (hp : nextP n us = some p) {ks : List Nat} (hk : ks.Perm (List.range n)) (hg : gapsN (us ++ [p]) ks = []) {a : Nat} {l : List Nat} (ha : gapsN us ks = a :: l) :
    ∃ b, firstN us ks a = some b ∧ gapsN us (turnN ks a b) = [] := by
  have hm : a ∈ gapsN us ks := by rw [ha]; exact List.mem_cons_self
  obtain ⟨h1, h2⟩ := gap_mem hm
  have hl : ks.length = n := by rw [hk.length_eq, List.length_range]
  obtain ⟨e1, e2⟩ := from_ends h1
  have hrow : (fromN ks a).Perm (List.range n) := (fromN_perm ks a).trans hk
  unfold gapAt at h2
  have hnt : tieB us (ks.getD a 0) (ks.getD ((a + 1) % ks.length) 0) = false := by simpa using h2
  have no : a ∉ gapsN (us ++ [p]) ks := by rw [hg]; simp
  have h4 : ¬ gapAt (us ++ [p]) ks a = true := fun z => no (List.mem_filter.mpr ⟨List.mem_range.mpr h1, z⟩)
  have ep : (min (ks.getD a 0) (ks.getD ((a + 1) % ks.length) 0), max (ks.getD a 0) (ks.getD ((a + 1) % ks.length) 0)) = p := by
    unfold gapAt tieB at h4
    unfold tieB at hnt
    simp at h4 hnt
    exact h4 hnt
  have hd := nextP_deg hp
  obtain ⟨b, hb⟩ := ore hv hrow (by omega) (by rw [getD_headD, getD_lastD, e1, e2, tieB_comm]; exact hnt) (by
    rw [getD_headD, getD_lastD, e1, e2]
    rw [← ep] at hd
    simp only at hd
    rcases Nat.lt_or_ge (ks.getD a 0) (ks.getD ((a + 1) % ks.length) 0) with h | h
    · rw [Nat.min_eq_left (by omega), Nat.max_eq_right (by omega)] at hd; omega
    · rw [Nat.min_eq_right (by omega), Nat.max_eq_left (by omega)] at hd; omega)
  refine ⟨b, hb, ?_⟩
  have hdec := turn_dec hm hb
  have := one_gap hv h3 hk hg
  exact List.length_eq_zero_iff.mp (by omega)
theorem openW_ok {n : Nat} (h3 : 3 ≤ n) {ks : List Nat} (hk : ks.Perm (List.range n)) : ∀ us, ValidY n us → gapsN (clN n us) ks = [] → ∃ fs row, openW n ks us = fs ++ [row] ∧ row.Perm (List.range n) ∧ gapsN us row = [] :=
  closing_ind (fun us h hv hg => ⟨[], ks, by rw [openW_none h]; rfl, hk, by rw [clN_none h] at hg; exact hg⟩) fun us p h ih hv hg => by
    rw [clN_some h] at hg
    obtain ⟨fs, row, e, hr, hg2⟩ := ih (hv.snoc h) hg
    rw [openW_some h, e]
    cases hq : gapsN us row with
    | nil => exact ⟨fs, row, stepO_nil hq, hr, hq⟩
    | cons a l =>
      obtain ⟨b, hb, hz⟩ := back_turn hv h3 h hr hg2 hq
      exact ⟨fs ++ [row], turnN row a b, stepO_cons hq hb, (turnN_perm _ _ _).trans hr, hz⟩
theorem stepO_len (us : List Tie) (fs : List (List Nat)) : (stepO us fs).length ≤ fs.length + 1 := by
  unfold stepO
  split
  · omega
  · rw [List.length_append, List.length_singleton]; omega
theorem openW_len {n : Nat} {ks : List Nat} : ∀ us, (openW n ks us).length ≤ missing n us + 1 := closing_ind (fun us h => by rw [openW_none h]; simp) fun us p h ih => by
  rw [openW_some h]
  have := stepO_len us (openW n ks (us ++ [p]))
  have := missing_lt h
  omega
/-! the way, by places -/
theorem way_head (n : Nat) (us : List Tie) : ∃ r, wayN n us = us :: r := by
  cases h : nextP n us with
  | none => exact ⟨[], wayN_none h⟩
  | some p => exact ⟨_, wayN_some h⟩
theorem way_chain {n : Nat} : ∀ us, ∀ (i : Nat) (b c : List Tie), (wayN n us)[i]? = some b → (wayN n us)[i + 1]? = some c → ∃ p, nextP n b = some p ∧ c = b ++ [p] :=
  closing_ind (fun us h i b c e1 e2 => by rw [wayN_none h] at e2; simp at e2) fun us p h ih i b c e1 e2 => by
    rw [wayN_some h] at e1 e2
    cases i with
    | zero =>
      obtain ⟨r, hr⟩ := way_head n (us ++ [p])
      rw [hr] at e2
      simp at e1 e2
      subst e1 e2
      exact ⟨p, h, rfl⟩
    | succ i => exact ih i b c (by simpa using e1) (by simpa using e2)
theorem way_valid {n : Nat} : ∀ us, ValidY n us → ∀ c ∈ wayN n us, ValidY n c ∧ clN n c = clN n us :=
  closing_ind (fun us h hv c hc => by rw [wayN_none h] at hc; obtain rfl := List.mem_singleton.mp hc; exact ⟨hv, rfl⟩) fun us p h ih hv c hc => by
    rw [wayN_some h] at hc
    rcases List.mem_cons.mp hc with rfl | hc
    · exact ⟨hv, rfl⟩
    · obtain ⟨q1, q2⟩ := ih (hv.snoc h) c hc
      exact ⟨q1, by rw [q2, clN_some h]⟩
theorem way_len {n : Nat} : ∀ us, (wayN n us).length ≤ missing n us + 1 := closing_ind (fun us h => by rw [wayN_none h]; simp) fun us p h ih => by
  rw [wayN_some h]
  have := missing_lt h
  simp; omega
def ordD (ks : List Nat) : Dt := .lst (ks.map natD)
def fn_p_opened := FnP yoEnc (fun x => x.Ok ∧ x.ks.Perm (List.range x.n) ∧ 3 ≤ x.n ∧ gapsN (clN x.n x.ts) x.ks = []) (fun x K => K (.own ((openW x.n x.ks x.ts).map ordD)))
def byN (n : Nat) (ts : List Tie) : Dt := if n < 3 ∨ (clN n ts).length < (pairsN n).length then .non else ordD ((openW n (List.range n) ts).getLastD [])
def fn_p_by_closing := FnP yEnc (fun a => 1 ≤ a.1 ∧ a.1 ≤ 30 ∧ ValidY a.1 a.2) (fun a K => K (.dat (byN a.1 a.2)))
theorem nodup_len {us ws : List Tie} (nd : us.Nodup) (sub : ∀ p ∈ us, p ∈ ws) : us.length ≤ ws.length := by
  induction us generalizing ws with
  | nil => exact Nat.zero_le _
  | cons u us ih =>
    obtain ⟨l1, l2, rfl⟩ := List.append_of_mem (sub u List.mem_cons_self)
    have nd' := List.nodup_cons.mp nd
    have := ih nd'.2 (ws := l1 ++ l2) fun p hp => by
      rcases List.mem_append.mp (sub p (List.mem_cons_of_mem _ hp)) with m | m
      · exact List.mem_append_left _ m
      · rcases List.mem_cons.mp m with e | m
        · subst e; exact absurd hp nd'.1
        · exact List.mem_append_right _ m
    simp at this ⊢; omega
theorem all_tied {n : Nat} {us : List Tie} (hv : ValidY n us) (h : (pairsN n).length ≤ us.length) {p : Tie} (hp : p ∈ pairsN n) : p ∈ us := by
  refine Decidable.byContradiction fun hn => ?_
  have := nodup_len (us := p :: us) (ws := pairsN n) (List.nodup_cons.mpr ⟨hn, hv.1⟩) fun q hq => by
    rcases List.mem_cons.mp hq with rfl | hq
    · exact hp
    · exact mem_pairsN.mpr (hv.2 q hq)
  simp at this; omega
theorem all_round {n : Nat} {us : List Tie} (hv : ValidY n us) (h : (pairsN n).length ≤ us.length) (h3 : 3 ≤ n) {ks : List Nat} (hk : ks.Perm (List.range n)) : gapsN us ks = [] := by
  unfold gapsN
  refine filter_false _ _ fun i hi => ?_
  have hi' := List.mem_range.mp hi
  have hl : ks.length = n := by rw [hk.length_eq, List.length_range]
  have nd : ks.Nodup := hk.nodup_iff.mpr List.nodup_range
  have m2 : (i + 1) % ks.length < ks.length := Nat.mod_lt _ (by omega)
  have hlt : ∀ k ∈ ks, k < n := fun k hkk => List.mem_range.mp (hk.subset hkk)
  have x1 := lt_of_get hlt hi'
  have x2 := lt_of_get hlt m2
  have ne : ks.getD i 0 ≠ ks.getD ((i + 1) % ks.length) 0 := fun z => by
    have := nd_ix nd (get_some hi') (by rw [z]; exact get_some m2)
    by_cases c : i + 1 < ks.length
    · rw [Nat.mod_eq_of_lt c] at this; omega
    · have e : i + 1 = ks.length := by omega
      rw [e, Nat.mod_self] at this; omega
  unfold gapAt tieB
  rw [decide_eq_true (all_tied hv h (mem_pairsN.mpr ⟨by show min _ _ < max _ _; omega, by show max _ _ < n; omega⟩))]; rfl
theorem tri (k : Nat) : k * (k - 1) + 2 * k = (k + 1) * k := by
  cases k with
  | zero => rfl
  | succ j => simp [Nat.add_mul, Nat.mul_add]; omega
theorem pairsTo_count (n : Nat) : ∀ i, i ≤ n → (pairsTo n i).length * 2 + (n - i) * (n - i - 1) = n * (n - 1)
  | 0, _ => by simp [pairsTo]
  | i + 1, h => by
    have ih := pairsTo_count n i (by omega)
    rw [pairsTo_succ, List.length_append, List.length_map, List.length_range']
    obtain ⟨k, rfl⟩ : ∃ k, n = i + 1 + k := ⟨n - (i + 1), by omega⟩
    have e1 : i + 1 + k - (i + 1) = k := by omega
    have e2 : i + 1 + k - i = k + 1 := by omega
    rw [e2] at ih
    rw [e1, ← ih]
    have e3 : k + 1 - 1 = k := by omega
    rw [e3, ← tri k]; omega
theorem pairsN_len (n : Nat) : (pairsN n).length = n * (n - 1) / 2 := by
  have := pairsTo_count n n (Nat.le_refl _)
  simp at this
  unfold pairsN
  omega
theorem or_dec (n a b : Nat) : (decide ((n : Int) < 3) || decide ((a : Int) < (b : Int))) = decide (n < 3 ∨ a < b) := by
  rw [Bool.decide_or]
  congr 1
  · rw [decide_eq_decide]; omega
  · rw [decide_eq_decide]; omega
end Den
/-! Whatever pairs are taken, the same are tied at the end. -/
namespace Den
open PySem L2 D3
/-- us behind some takings of pairs with ties enough -/
inductive Taken (n : Nat) (ts : List Tie) : List Tie → Prop
  | nil : Taken n ts ts
  | more {us : List Tie} {p : Tie} : Taken n ts us → p ∈ pairsN n → okP n us p = true → Taken n ts (us ++ [p])
theorem Taken.valid {n : Nat} {ts us : List Tie} (hv : ValidY n ts) (h : Taken n ts us) : ValidY n us := by
  induction h with
  | nil => exact hv
  | more h1 h2 h3 ih =>
    unfold okP at h3
    rw [Bool.and_eq_true] at h3
    have hn := h3.1
    simp at hn
    refine ⟨List.nodup_append.mpr ⟨ih.1, List.nodup_cons.mpr ⟨by simp, List.nodup_nil⟩, fun a ha b hb => ?_⟩, fun q hq => ?_⟩
    · obtain rfl := List.mem_singleton.mp hb
      intro e; subst e; exact hn ha
    · rcases List.mem_append.mp hq with m | m
      · exact ih.2 q m
      · obtain rfl := List.mem_singleton.mp m
        exact mem_pairsN.mp h2
theorem Taken.pre {n : Nat} {ts us : List Tie} (h : Taken n ts us) : ∃ ws, us = ts ++ ws := by
  induction h with
  | nil => exact ⟨[], by simp⟩
  | more h1 h2 h3 ih =>
    obtain ⟨ws, rfl⟩ := ih
    exact ⟨ws ++ [_], by rw [List.append_assoc]⟩
theorem deg_mono {us vs : List Tie} (nd : us.Nodup) (h : ∀ p ∈ us, p ∈ vs) (x : Nat) : degL us x ≤ degL vs x := by
  unfold degL
  refine nodup_len (nd.filter _) fun p hp => ?_
  have := List.mem_filter.mp hp
  exact List.mem_filter.mpr ⟨h p this.1, this.2⟩
/-- what is taken lies in each set of ties that has the first ones and no pair more to be tied -/
theorem Taken.sub {n : Nat} {ts us vs : List Tie} (hv : ValidY n ts) (h : Taken n ts us) (h0 : ∀ p ∈ ts, p ∈ vs) (hend : nextP n vs = none) : ∀ p ∈ us, p ∈ vs := by
  induction h with
  | nil => exact h0
  | more h1 h2 h3 ih =>
    rename_i us p
    intro q hq
    rcases List.mem_append.mp hq with m | m
    · exact ih q m
    · obtain rfl := List.mem_singleton.mp m
      refine Decidable.byContradiction fun hn => ?_
      have hu := h1.valid hv
      have hf := (List.find?_eq_none.mp hend) q h2
      apply hf
      unfold okP at h3 ⊢
      rw [Bool.and_eq_true] at h3 ⊢
      refine ⟨by simpa using hn, ?_⟩
      have a := of_decide_eq_true h3.2
      have b1 := deg_mono hu.1 ih q.1
      have b2 := deg_mono hu.1 ih q.2
      exact decide_eq_true (by omega)
theorem cl_taken {n : Nat} : ∀ ts, ∀ us0, Taken n us0 ts → Taken n us0 (clN n ts) := closing_ind (fun us h us0 t => by rw [clN_none h]; exact t) fun us p h ih us0 t => by
  rw [clN_some h]
  exact ih us0 (t.more (nextP_some h).1 (List.find?_some h))
theorem taken_perm {n : Nat} {ts us : List Tie} (hv : ValidY n ts) (h : Taken n ts us) (hend : nextP n us = none) : us.Perm (clN n ts) := by
  have hc : Taken n ts (clN n ts) := cl_taken ts ts .nil
  obtain ⟨w1, e1⟩ := h.pre
  obtain ⟨w2, e2⟩ := hc.pre
  have s1 := h.sub hv (vs := clN n ts) (fun p hp => by rw [e2]; exact List.mem_append_left _ hp) (clN_end n ts)
  have s2 := hc.sub hv (vs := us) (fun p hp => by rw [e1]; exact List.mem_append_left _ hp) hend
  exact (List.perm_ext_iff_of_nodup (h.valid hv).1 (clN_valid n ts hv).1).mpr fun p => ⟨s1 p, s2 p⟩
theorem cl_cl (n : Nat) (ts : List Tie) : addN n (clN n ts) = [] := by
  unfold addN
  rw [clN_none (clN_end n ts), List.drop_length]
/-- the pairs with ties enough, of those that aren't tied -/
theorem left_ok {n : Nat} {us : List Tie} {p : Tie} : p ∈ ((pairsN n).filter fun q => !decide (q ∈ us)).filter (fun q => decide ((n : Int) ≤ (degL us q.1 : Int) + (degL us q.2 : Int))) ↔ p ∈ pairsN n ∧ okP n us p = true := by
  rw [List.mem_filter, List.mem_filter]
  unfold okP
  rw [Bool.and_eq_true]
  constructor
  · rintro ⟨⟨a, b⟩, c⟩; exact ⟨a, b, c⟩
  · rintro ⟨a, b, c⟩; exact ⟨⟨a, b⟩, c⟩
theorem left_nil {n : Nat} {us : List Tie} (h : ((pairsN n).filter fun q => !decide (q ∈ us)).filter (fun q => decide ((n : Int) ≤ (degL us q.1 : Int) + (degL us q.2 : Int))) = []) : nextP n us = none := by
  unfold nextP
  rw [List.find?_eq_none]
  intro p hp ho
  have : p ∈ ([] : List Tie) := h ▸ left_ok.mpr ⟨hp, ho⟩
  cases this
theorem apart_less {n : Nat} {us : List Tie} (p : Tie) : ((pairsN n).filter fun q => !decide (q ∈ us)).filter (fun q => !decide (q = p)) = (pairsN n).filter fun q => !decide (q ∈ us ++ [p]) := by
  rw [List.filter_filter]
  refine List.filter_congr fun q _ => ?_
  by_cases h1 : q = p <;> by_cases h2 : q ∈ us <;> simp [h1, h2]
theorem missing_ok {n : Nat} {us : List Tie} {p : Tie} (h1 : p ∈ pairsN n) (h2 : p ∉ us) : missing n (us ++ [p]) < missing n us := by
  unfold missing
  rw [← apart_less p]
  have hm : p ∈ (pairsN n).filter fun q => !decide (q ∈ us) := List.mem_filter.mpr ⟨h1, by simpa using h2⟩
  generalize (pairsN n).filter (fun q => !decide (q ∈ us)) = l at hm
  induction l with
  | nil => cases hm
  | cons x l ih =>
    rw [List.filter_cons]
    by_cases hx : x = p
    · subst hx
      rw [if_neg (by simp)]
      exact Nat.lt_succ_of_le (List.length_filter_le _ _)
    · rw [if_pos (by simpa using hx), List.length_cons, List.length_cons]
      exact Nat.succ_lt_succ (ih ((List.mem_cons.mp hm).resolve_left fun z => hx z.symm))
theorem left_len {n : Nat} (hn : n ≤ 30) (us : List Tie) : (((pairsN n).filter fun q => !decide (q ∈ us)).filter (fun q => decide ((n : Int) ≤ (degL us q.1 : Int) + (degL us q.2 : Int)))).length ≤ 900 := Nat.le_trans (List.length_filter_le _ _) (Nat.le_trans (List.length_filter_le _ _) (pairsTo_len30 hn hn))
end Den
/-! Yards as texts: plain laws. -/
namespace Den
open PySem L2 D3
def nS (k : Nat) : Str := toString (k : Int)
def rowL (p : Tie) : List Str := ["tie", nS p.1, nS p.2]
def rowS (p : Tie) : Str := Str.ofString "tie " ++ nS p.1 ++ Str.ofString " " ++ nS p.2
def headS (n : Nat) : Str := Str.ofString "yard " ++ nS n
def rowsS (n : Nat) (ts : List Tie) : List Str := headS n :: ts.map rowS
def textS (n : Nat) (ts : List Tie) : Str := Txt.join "\n" (rowsS n ts)
/-- what is so of each number up to 30 -/
def goodN (k : Nat) : Bool := decide (1 ≤ (nS k).length) && decide ((nS k).length ≤ 2) && !(nS k).cps.toList.contains 32 && !(nS k).cps.toList.contains 10 && (nS k).cps.toList.all (fun c => (Str.ofString "0123456789").cps.toList.contains c) && decide (PySem.intText? (nS k) = some (k : Int)) && (!decide ((nS k).cps.toList[0]? = some 48) || decide (nS k = "0"))
theorem goodN_all : ∀ k, k < 100 → goodN k = true := by decide +kernel
structure GoodN (k : Nat) : Prop where
  l1 : 1 ≤ (nS k).length
  l2 : (nS k).length ≤ 2
  sp : 32 ∉ (nS k).cps.toList
  nl : 10 ∉ (nS k).cps.toList
  fig : ∀ c ∈ (nS k).cps.toList, c ∈ (Str.ofString "0123456789").cps.toList
  int : PySem.intText? (nS k) = some (k : Int)
  zero : (nS k).cps.toList[0]? = some 48 → nS k = "0"
theorem goodN_of {k : Nat} (h : k < 100) : GoodN k := by
  have g := goodN_all k h
  unfold goodN at g
  simp only [Bool.and_eq_true, decide_eq_true_eq, Bool.not_eq_true', Bool.or_eq_true, List.all_eq_true, List.contains_eq_mem, decide_eq_false_iff_not] at g
  obtain ⟨⟨⟨⟨⟨⟨a, b⟩, c⟩, d⟩, e⟩, f⟩, z⟩ := g
  exact ⟨a, b, c, d, e, f, fun h => z.resolve_left fun q => q h⟩
theorem row_split {p : Tie} (h1 : p.1 < 100) (h2 : p.2 < 100) : Txt.split (rowS p) " " = rowL p := by
  have e : rowS p = Txt.join " " (rowL p) := by
    rw [TL.join_eq]
    refine TL.ext_tl ?_
    unfold rowS rowL
    show TL.tl _ = TL.tl (Str.ofString "tie" ++ Str.ofString " " ++ (nS p.1 ++ Str.ofString " " ++ nS p.2))
    simp only [TL.tl_append]
    simp
    rfl
  rw [e]
  refine TL.split_join (s := 32) (S := []) (by decide +kernel) (by decide +kernel) (by unfold rowL; simp) fun q hq => ?_
  unfold rowL at hq
  simp at hq
  rcases hq with rfl | rfl | rfl
  · decide +kernel
  · exact (goodN_of h1).sp
  · exact (goodN_of h2).sp
theorem head_split {n : Nat} (h : n < 100) : Txt.split (headS n) " " = ([Str.ofString "yard", nS n] : List Str) := by
  have e : headS n = Txt.join " " [Str.ofString "yard", nS n] := by
    rw [TL.join_eq]
    refine TL.ext_tl ?_
    unfold headS
    show TL.tl _ = TL.tl (Str.ofString "yard" ++ Str.ofString " " ++ nS n)
    simp only [TL.tl_append]
    rfl
  rw [e]
  refine TL.split_join (s := 32) (S := []) (by decide +kernel) (by decide +kernel) (by simp) fun q hq => ?_
  simp at hq
  rcases hq with rfl | rfl
  · decide +kernel
  · exact (goodN_of h).sp
theorem row_nl {p : Tie} (h1 : p.1 < 100) (h2 : p.2 < 100) : 10 ∉ TL.tl (rowS p) := by
  unfold rowS
  simp only [TL.tl_append, List.mem_append, not_or]
  exact ⟨⟨⟨by decide +kernel, (goodN_of h1).nl⟩, by decide +kernel⟩, (goodN_of h2).nl⟩
theorem head_nl {n : Nat} (h : n < 100) : 10 ∉ TL.tl (headS n) := by
  unfold headS
  simp only [TL.tl_append, List.mem_append, not_or]
  exact ⟨by decide +kernel, (goodN_of h).nl⟩
theorem text_split {n : Nat} {ts : List Tie} (hn : n ≤ 30) (hv : ValidY n ts) : Txt.split (textS n ts) "\n" = rowsS n ts := by
  unfold textS
  refine TL.split_join (s := 10) (S := []) (by decide +kernel) (by decide +kernel) (by unfold rowsS; simp) fun q hq => ?_
  unfold rowsS at hq
  rcases List.mem_cons.mp hq with rfl | hq
  · exact head_nl (by omega)
  · obtain ⟨p, hp, rfl⟩ := List.mem_map.mp hq
    have := hv.2 p hp
    exact row_nl (by omega) (by omega)
theorem len_app (x y : Str) : (x ++ y).length = x.length + y.length := by rw [TL.len_tl, TL.len_tl, TL.len_tl, TL.tl_append, List.length_append]
theorem nS_len {k : Nat} (h : k < 100) : (nS k).length ≤ 2 := (goodN_of h).l2
theorem row_len {p : Tie} (h1 : p.1 < 100) (h2 : p.2 < 100) : (rowS p).length ≤ 20 := by
  unfold rowS
  rw [len_app, len_app, len_app]
  have := nS_len h1
  have := nS_len h2
  have e1 : (Str.ofString "tie ").length = 4 := by decide +kernel
  have e2 : (Str.ofString " ").length = 1 := by decide +kernel
  omega
theorem head_len {n : Nat} (h : n < 100) : (headS n).length ≤ 20 := by
  unfold headS
  rw [len_app]
  have := nS_len h
  have e1 : (Str.ofString "yard ").length = 5 := by decide +kernel
  omega
theorem rows_len {n : Nat} {ts : List Tie} (hn : n ≤ 30) (hv : ValidY n ts) : ∀ q ∈ rowsS n ts, q.length ≤ 20 := fun q hq => by
  unfold rowsS at hq
  rcases List.mem_cons.mp hq with rfl | hq
  · exact head_len (by omega)
  · obtain ⟨p, hp, rfl⟩ := List.mem_map.mp hq
    have := hv.2 p hp
    exact row_len (by omega) (by omega)
theorem sum_len : ∀ ys : List Str, (∀ q ∈ ys, q.length ≤ 20) → (ys.map (·.length)).sum ≤ 20 * ys.length
  | [], _ => Nat.le_refl _
  | y :: ys, h => by
    have := sum_len ys fun q hq => h q (List.mem_cons_of_mem _ hq)
    have := h y List.mem_cons_self
    rw [List.map_cons, List.sum_cons, List.length_cons]; omega
theorem rows_size {n : Nat} {ts : List Tie} (hn : n ≤ 30) (hv : ValidY n ts) : ((rowsS n ts).map (·.length)).sum + (rowsS n ts).length * (Str.ofString "\n").length ≤ 30000 := by
  have h1 := sum_len _ (rows_len hn hv)
  have h2 : (rowsS n ts).length = ts.length + 1 := by unfold rowsS; simp
  have h3 := hv.len hn
  have e1 : (Str.ofString "\n").length = 1 := by decide +kernel
  rw [e1]; omega
theorem join_len (y : Str) : ∀ ys : List Str, (Str.join y ys).length ≤ (ys.map (·.length)).sum + ys.length * y.length
  | [] => by show (Str.empty).length ≤ _; exact Nat.zero_le _
  | [x] => by
    show x.length ≤ _
    rw [List.map_cons, List.sum_cons]; omega
  | x :: z :: r => by
    have ih := join_len y (z :: r)
    show (x ++ y ++ Str.join y (z :: r)).length ≤ _
    rw [len_app, len_app, List.map_cons, List.sum_cons, List.length_cons, Nat.succ_mul]; omega
theorem text_len {n : Nat} {ts : List Tie} (hn : n ≤ 30) (hv : ValidY n ts) : (textS n ts).length ≤ 30000 := by
  unfold textS
  rw [TL.join_eq]
  exact Nat.le_trans (join_len _ _) (rows_size hn hv)
def fn_p_written := FnP yEnc (fun a => a.1 ≤ 30 ∧ ValidY a.1 a.2) (fun a K => K (.dat (.str (textS a.1 a.2))))
def fn_l_text := FnP tEnc (fun a => a.1 ≤ 30 ∧ ValidY a.1 a.2) (fun a K => K (.dat (.str (textS a.1 a.2))))
def strD (k : Nat) : Dt := .str (nS k)
def wdEnc (a : List Nat × Nat) : List Dt := [.lst (a.1.map strD), .int (a.2 : Int)]
def fn_p_numbers_of := FnP wdEnc (fun a => (∀ k ∈ a.1, k < 100) ∧ a.1.length ≤ 1000) (fun a K => K (.dat (.tup (a.1.map natD))))
def txEnc (a : Nat × List Tie) : List Dt := [.str (textS a.1 a.2)]
def fn_p_read := FnP txEnc (fun a => 1 ≤ a.1 ∧ a.1 ≤ 30 ∧ ValidY a.1 a.2) (fun a K => K (.dat (.yard a.1 a.2)))
def rowD (p : Tie) : Dt := .lst [.str "tie", strD p.1, strD p.2]
def splD (q : Str) : Dt := .lst ((Txt.split q " ").map Dt.str)
theorem rows_split {n : Nat} {ts : List Tie} (hn : n ≤ 30) (hv : ValidY n ts) : (rowsS n ts).map splD = .lst [.str "yard", strD n] :: ts.map rowD := by
  unfold rowsS
  rw [List.map_cons, List.map_map]
  congr 1
  · unfold splD; rw [head_split (by omega)]; rfl
  · refine List.map_congr_left fun p hp => ?_
    have := hv.2 p hp
    show splD (rowS p) = rowD p
    unfold splD; rw [row_split (by omega) (by omega)]; rfl
theorem log_ok {k : Nat} (h : k < 100) : ((k : Int)).natAbs.log2 < 1920 := by
  rw [Int.natAbs_natCast]
  exact Nat.lt_of_le_of_lt (Nat.log2_le_self k) (by omega)
theorem alD_t {k : Nat} {n : Nat} {ts : List Tie} (h : ts.length ≤ 100000) : alD (k + 4) (tD false n ts) = true := by
  unfold tD tiesD
  rw [if_neg (by decide), alD, Bool.and_eq_true]
  refine ⟨decide_eq_true (by show 2 ≤ 100000; omega), ?_⟩
  rw [List.all_cons, List.all_cons, alD_ties h]; rfl
theorem one_sign {c : Nat} (h : (⟨#[c]⟩ : Str) = "0") : c = 48 := by
  have := congrArg TL.tl h
  have e0 : TL.tl (Str.ofString "0") = [48] := by decide +kernel
  rw [e0] at this
  exact (List.cons.inj this).1
end Den
/-! What is refused: orders. -/
namespace Den
open PySem L2 D3
def isWs : List Str := ["yard", "order", "many", "text"]
structure YX where
  n : Nat
  ts : List Tie
  ks : List Int
  a : Int
  b : Int
def yxEnc (x : YX) : List Dt := [.yard x.n x.ts, .lst (x.ks.map Dt.int)]
def yxabEnc (x : YX) : List Dt := [.yard x.n x.ts, .lst (x.ks.map Dt.int), .int x.a, .int x.b]
def rngZ (n : Nat) : List Int := (List.range n).map fun (k : Nat) => (k : Int)
theorem rngZ_natD (n : Nat) : (rngZ n).map Dt.int = (List.range n).map natD := natD_ints _
def NoOrder (x : YX) : Prop := x.n ≤ 30 ∧ ValidY x.n x.ts ∧ x.ks.length ≤ 1000 ∧ srtZ x.ks ≠ rngZ x.n
def erO (D : Addr) : Er := ⟨D, none⟩
def fn_p_need_order_x (D : Addr) := FnX yxEnc (fun x er => NoOrder x ∧ er = erO D)
def fn_p_gaps_x (D : Addr) := FnX yxEnc (fun x er => NoOrder x ∧ er = erO D)
def fn_p_is_round_x (D : Addr) := FnX yxEnc (fun x er => NoOrder x ∧ er = erO D)
def fn_p_rounded_x (D : Addr) := FnX yxEnc (fun x er => NoOrder x ∧ er = erO D)
def BadTurn (x : YX) : Prop := x.n ≤ 30 ∧ ValidY x.n x.ts ∧ (∃ ks : List Nat, ks.Perm (List.range x.n) ∧ x.ks = ks.map fun (k : Nat) => (k : Int)) ∧ ¬ (0 ≤ x.a ∧ x.a < (x.n : Int) ∧ 0 ≤ x.b ∧ x.b < (x.n : Int) - 1)
def fn_p_turned_x (D : Addr) := FnX yxabEnc (fun x er => (NoOrder x ∨ BadTurn x) ∧ er = erO D)
theorem eqD_ints (xs ys : List Int) : eqD (.lst (xs.map Dt.int)) (.lst (ys.map Dt.int)) = decide (xs = ys) := eqD_lst_map Dt.int eqD_int xs ys
theorem plD_ints (ks : List Int) : plD 64 (.lst (ks.map Dt.int)) = true := plD_lst_map fun p _ => plD_int _ p
/-- f(..).append(e), the list thrown away -/
theorem sd_dropApp {C : Addr} {ρ : Rsc} {sl : List Sl} {to te : TE} {F : PySem.W.Frag} {nx bk ct : List Sl → Prop} {rt : Sl → Prop} {ds : List Dt} {d : Dt} (h : XD C ρ to sl (.own ds)) (hl : ds.length < 1000000) (h2 : XD C ρ te sl (.dat d)) (k : nx sl) :
    SD C ρ (tDrop (tBM F "list" rAppend to (tCons te tNil))) sl nx rt bk ct := fun S0 H0 S H σ g D a _ _ _ => by
  refine h S0 H0 S H σ g _ fun r S1 H1 v e a1 ok1 => ?_
  subst e
  obtain ⟨p, xs, rfl, h0, hs, hp, ra⟩ := ok1
  refine ⟨.inl ⟨rfl, _, .inl (.inl hp)⟩, ?_⟩
  refine h2 S0 H0 S1 H1 σ (g.move a1) _ fun r2 S2 H2 y e2 a2 ok2 => ?_
  subst e2
  have a12 := a1.trans g.k a2
  have hp2 : H2 p = some (.lst xs) := a2.hh p _ (g.k.nm h0) hp
  have hs2 : S2 p = none := a2.fr p hs (by rw [hp]; simp)
  refine ⟨p, xs, y, rfl, rfl, hp2, by rw [ra.length, sizeLine_eq]; omega, ?_⟩
  have m := Mv.mut g.k a12 h0 hs2 (nt_lst hp2) (o := .lst (xs ++ [y]))
  exact a sl S2 _ σ k a12.ss (g.move m)
end Den
namespace Den
open PySem L2 D3
theorem _root_.D3.fnE_none {P : Program} {w : World} {K : PySem.W.Frag} {mg : Str → Option Value} {base : Heap} {CX : CXT} {k : Nat} {f : Addr} {fd : FuncData} {ps : List Str} {sp : Addr × Obj → Sp} (h : ∀ p vs H Q E, ¬ sp p vs H Q E) : FnE P w K mg base CX k f fd ps sp :=
  ⟨fun p vs H Q E q => (h p vs H Q E q).elim, fun A outer s H args us vs Q E p _ _ _ _ _ _ q => (h p vs H Q E q).elim⟩
theorem _root_.D3.k_isP {X : Cx} (F : PySem.W.Frag) (h : X.K = F) {p : Addr × Obj} {D : Addr} {d : Option Addr} (c : HotP X p) (C : L2.ExcC F D) (hz : Zc (.ref D) d p.2) : CallR X (.builtin "isinstance") (rIsP F D d p) := by subst h; exact call_isP c C hz
section
variable {C : Addr} {ρ : Rsc} {sl : List Sl} {ta tb : TE} {r1 r2 : Sl}
theorem xalikeP {k : Nat} {d : Dt} {p : Addr × Obj} (h1 : XD C ρ ta sl r1) (h2 : XD C ρ tb sl r2) (e1 : r1.dz = some d) (e2 : r2.dz = some d) (hd : alD k d = true) : XD C ρ (tCallP p (fun _ => spD C (fn_l_alike k)) (tCons ta (tCons tb tNil))) sl (.dat (.bl true)) :=
  wx_callP ((ac h1 (ac h2 an)).imp fun rs e => ⟨[d, d], by rw [e, dz_fz e1, dz_fz e2]; rfl, d, rfl, hd, trivial, rfl⟩)
theorem xalikeQ {k : Nat} {d : Dt} {a : Addr} {cls : Value} {dd : Option Addr} (h1 : XD C ρ ta sl r1) (h2 : XD C ρ tb sl r2) (e1 : r1.dz = some d) (e2 : r2.dz = some d) (hd : alD k d = true) : XD C ρ (tCallQ a cls dd (fun _ => spD C (fn_l_alike k)) (tCons ta (tCons tb tNil))) sl (.dat (.bl true)) :=
  wx_callQ ((ac h1 (ac h2 an)).imp fun rs e => ⟨[d, d], by rw [e, dz_fz e1, dz_fz e2]; rfl, d, rfl, hd, trivial, rfl⟩)
theorem xpw {i j : Int} (h1 : XD C ρ ta sl (.dat (.int i))) (h2 : XD C ρ tb sl (.dat (.int j))) (hc : CPow i j) : XD C ρ (tOp (rI CPow fun i j => .int (i ^ j.toNat)) ta tb) sl (.dat (.int (i ^ j.toNat))) := xop h1 h2 (od_pow hc rfl)
end
theorem no_nil : ∀ s ∈ ([] : List Sl), ¬ s.isOwn := fun s h => by cases h
theorem no_cons {s : Sl} {r : List Sl} (h : ¬ s.isOwn) (h2 : ∀ x ∈ r, ¬ x.isOwn) : ∀ x ∈ s :: r, ¬ x.isOwn := fun x hx => by
  rcases List.mem_cons.mp hx with rfl | hx
  · exact h
  · exact h2 x hx
section
variable {C a : Addr} {F : PySem.W.Frag} {E : XK} {sl : List Sl} {K : Sl → Prop} {ta : TE} {j : Nat}
/-- xs[off(d, m)] -/
theorem xpickD {tl : TE} {ds : List Dt} {r0 : Sl} {m : Nat} {i : Int} (hl : XD C (ρd a) tl sl r0) (e0 : r0.sq = some ds) (hi : XD C (ρd a) ta sl (.dat (.int i))) (ei : i = (m : Int)) (h0 : 0 < m) (h1 : m < 1073741824) (hm : m ≤ ds.length) (k : ∀ x ∈ ds, K (.dat x)) (hd : rdAt sl j = .raw (.ref a) := by rfl) (hd2 : okAt sl j = true := by rfl) :
    WX C (ρd a) (tOp (rIxA F) tl (tCall (spR C fn_l_off) [] E (tCons (tVar j) (tCons ta tNil)))) sl K := by
  refine wx_op (hl.w (xoff m hi ei h0 h1 (fun r hr => ?_) hd hd2))
  have e : ds[r]? = some (ds[r]'(by omega)) := List.getElem?_eq_getElem _
  exact od_ix (d := ds[r]'(by omega)) e0 (atI_nat e) (k _ (List.getElem_mem _))
end
end Den
/-! What is refused: yards. -/
namespace D3
open PySem PySem.Spec PyProof.Rows L2
/-- C(e, ..) whose __init__ may raise, in a try -/
def tMakeS (C : Addr) (sp : Sp) (E : L2.St → XK) (t : TA) : TE := fun σ H Q => t σ H fun vs H1 => ∀ x dx, H1 x = none → H1 dx = none → dx ≠ x → sp (.ref x :: vs) (upd (upd H1 dx (.own x)) x (.ins C dx [])) (fun v H2 => v = .non ∧ Q (.ref x) H2) (E σ)
section
variable {X : Cx} {CX : CXT} {k : Nat} {f C : Addr} {fd : FuncData} {ps : List Str} {sp : Sp} {E : L2.St → XK} {x : Str} {p pos : Pos} {e : Expr} {es : List Expr} {t : TA}
theorem pe_makeS (M : Mk X.K C f) (F : FnOk X.prog X.w X.K X.mg X.base CX k f fd ps sp) (hr : Room (k + 1) X.A) (hg : Gl X x) (hm : X.mg x = some (.ref C)) (hb : Binds X.K fd ps []) (hx : ∀ σ, PassesAt CX X σ (E σ))
    (ha : PA X (e :: es) t) (hdb : (x == ("__debug__" : Str)) = false := by decide) (he : starEach (e :: es) X.env = (false, eval e X.env) :: starEach es X.env := by rfl) (hpl : (backTo pos (starEach es X.env)).any (·.1) = false := by rfl) :
    PE X (.Call (.Name x p) (e :: es) [] pos) (tMakeS C sp E t) := by
  refine ⟨fun pins s0 σ H0 Q I0 h0 => ?_⟩
  refine wpAny_Call_Name_kw (ld_glob I0 hg hm ?_ hdb)
  refine PySem.W.callWith_K (h₀ := X.base) I0.ok.mod.kin M.kp (thn (ha.run pos pins s0 σ H0 _ I0 h0) fun us s ⟨vs, H, I, r, h⟩ => ⟨I.kIn, ?_⟩) he hpl
  have hq := h (s.heap.objs.size + 1) s.heap.objs.size (I.hok.fresh (Nat.le_succ _)) (I.hok.fresh (Nat.le_refl _)) (Nat.ne_of_lt (Nat.lt_succ_self _))
  have I2 := Inv.made (C := C) I
  have r2 : Vals (V.ref (s.heap.objs.size + 1) :: vs) (Value.ref (s.heap.objs.size + 1) :: us) := .cons rfl r
  have hl : (Value.ref (s.heap.objs.size + 1) :: us).length = ps.length := by
    have e := r2.length
    rw [F.len _ _ _ _ hq] at e
    exact e.symm
  have b := hb _ (Value.ref (s.heap.objs.size + 1) :: us) I2.kIn (by rw [List.append_nil]; exact hl)
  rw [List.append_nil] at b
  refine wpAny_call (make_map (f := f) I.kIn M.makes M.init (beq_iff_eq.mp M.fn) (codeAny_mono (F.run _ X.stack _ _ ⟨Value.ref (s.heap.objs.size + 1) :: us, []⟩ (Value.ref (s.heap.objs.size + 1) :: us) _ _ (E σ) (hr.make C us [])
    (I2.env0.make C us []) b r2 hq) fun r s' hq' => ?_))
  cases r with
  | error e => exact hx σ pins _ _ e s' I2 hq'
  | ok fl =>
    cases fl with
    | ret u =>
      obtain ⟨v, H', I3, rv, ev, q3⟩ := I2.after hq'
      subst ev
      exact ⟨rv, ⟨V.ref (s.heap.objs.size + 1), H', I3, rfl, q3⟩⟩
    | next => exact False.elim hq'
    | brk => exact False.elim hq'
    | cont => exact False.elim hq'
end
end D3
namespace Den
open PySem L2 D3
def tieZ (p : Int × Int) : Dt := .tup [.int p.1, .int p.2]
def zt (p : Tie) : Int × Int := (p.1, p.2)
theorem tieZ_zt (ts : List Tie) : (ts.map zt).map tieZ = ts.map tieD := by rw [List.map_map]; rfl
/-- the first thing that is wrong of a yard -/
def BadY (many : Int) (us : List (Int × Int)) (at' : Nat) (why : Str) : Prop :=
  (why = "many" ∧ at' = 0 ∧ ¬ (1 ≤ many ∧ many ≤ 30)) ∨
  ∃ (n : Nat) (ts : List Tie) (bad : Int × Int) (rest : List (Int × Int)), many = (n : Int) ∧ 1 ≤ n ∧ n ≤ 30 ∧ ValidY n ts ∧ us = ts.map zt ++ bad :: rest ∧ at' = ts.length ∧ us.length ≤ 2000 ∧
    ((why = "place" ∧ ¬ (0 ≤ bad.1 ∧ bad.1 < many ∧ 0 ≤ bad.2 ∧ bad.2 < many ∧ bad.1 < bad.2)) ∨ (why = "twice" ∧ ∃ p ∈ ts, bad = zt p))
def byFs (at' : Nat) (why : Str) : List (Str × V) := [("why", .str why), ("at", .int (at' : Int))]
def erY (D : Addr) (at' : Nat) (why : Str) : Er := ⟨D, some (byFs at' why)⟩
/-- Yard.__init__ of what is no yard -/
def spYX (C D : Addr) : Sp := fun vs H Q E => ∃ (y dx l : Addr) (xs : List V) (many : Int) (us : List (Int × Int)) (at' : Nat) (why : Str) (S : Hp), vs = [.ref y, .int many, .ref l] ∧ H y = some (.ins C dx []) ∧ H dx = some (.own y) ∧ S y = none ∧ Same S H ∧ l ≠ y ∧ H l = some (.lst xs) ∧ RpAll C S xs (us.map tieZ) ∧ BadY many us at' why ∧
  ∀ H' d, (∀ b o, b ≠ y → H b = some o → H' b = some o) → H d = none → H' d = some (.xd (byFs at' why)) → E (.ref D) (some d) H'
section
variable {C D : Addr} {ρ : Rsc} {er : Er} {E : XK} {sl : List Sl} {K : Sl → Prop} {t : TA} {nx bk ct : List Sl → Prop} {rt : Sl → Prop}
theorem make_x {S1 H1 : Hp} {y dx : Addr} {many : Int} {us : List (Int × Int)} {at' : Nat} {why : Str} {v : V} {r : Sl} {Hs : Hp} {Q : VK} {E : XK} (ok : Ok ρ S1 H1) (hy : H1 y = none) (hd : H1 dx = none) (hne : dx ≠ y) (rv : RvOk C ρ Hs S1 H1 v r) (er : r.ls = some (us.map tieZ)) (hb : BadY many us at' why)
    (k : ∀ S' H' d, Mv ρ S1 H1 S' H' → ErOk (erY D at' why) S' d → E (.ref D) d H') : spYX C D [.ref y, .int many, v] (upd (upd H1 dx (.own y)) y (.ins C dx [])) Q E := by
  obtain ⟨l, xs, rfl, hl, ra⟩ := rv.lsD ok er
  refine ⟨y, dx, l, xs, many, us, at', why, S1, rfl, upd_same, by rw [upd_ne hne, upd_same], ok.ns hy, fun b o e => ?_, ne_of_none hl hy, by rw [upd_ne (ne_of_none hl hy), upd_ne (ne_of_none hl hd)]; exact hl, ra, hb, fun H' d k1 hdn hx => ?_⟩
  · have hb := ok.sh b o e
    rw [upd_ne (ne_of_none hb hy), upd_ne (ne_of_none hb hd)]; exact hb
  · have ndy : d ≠ y := fun z => by subst z; rw [upd_same] at hdn; cases hdn
    have ndx : d ≠ dx := fun z => by subst z; rw [upd_ne hne, upd_same] at hdn; cases hdn
    rw [upd_ne ndy, upd_ne ndx] at hdn
    have keep : ∀ b o, H1 b = some o → H' b = some o := fun b o e => k1 b o (ne_of_none e hy) (by rw [upd_ne (ne_of_none e hy), upd_ne (ne_of_none e hd)]; exact e)
    refine k (upd S1 d (.xd (byFs at' why))) H' (some d) ⟨⟨fun b o e => ?_, fun b m => ?_, fun b m => ?_, ρ.loc H1 H' (fun b o _ e => keep b o e) ok.r⟩, same_new (ok.ns hdn), fun b o _ e => keep b o e, fun b e n => ?_⟩ ⟨d, rfl, upd_same⟩
    · by_cases hbd : b = d
      · subst hbd; rw [upd_same] at e; rw [← e]; exact hx
      · rw [upd_ne hbd] at e; exact keep b o (ok.sh b o e)
    · rw [upd_ne (fun z => by subst z; exact ok.t b m hdn)]; exact ok.m b m
    · cases q : H1 b with
      | none => exact absurd q (ok.t b m)
      | some o => rw [keep b o q]; simp
    · rw [upd_ne (fun z => by subst z; exact n hdn)]; exact e
/-- a yard that is none, made in a def that raises -/
theorem wx_makeX {at' : Nat} {why : Str} (h : WA C (ρx (erY D at' why) E) t sl fun rs => ∃ (many : Int) (us : List (Int × Int)) (r : Sl), rs = [.dat (.int many), r] ∧ r.ls = some (us.map tieZ) ∧ BadY many us at' why) : WX C (ρx (erY D at' why) E) (tMake C (spYX C D) [] E t) sl K := fun S0 H0 S H σ g Q q => by
  refine h S0 H0 S H σ g _ fun rs S1 H1 vs ⟨many, us, r, e, er, hb⟩ a1 ok1 => ?_
  subst e
  match vs, ok1 with
  | [v1, v2], ok1 =>
    obtain ⟨o1, o2, _⟩ := ok1
    cases o1
    intro y dx hy hd hne
    rw [List.append_nil]
    exact make_x a1.ok hy hd hne o2 er hb fun S' H' d mv eo => g.k1.2 S' H' d (((g.mv.trans g.k0 a1).trans g.k0 mv).un) eo
variable {Kf : PySem.W.Frag} {c : Value} {i : Nat} {ts : Addr → Value → Option Addr → TS} {Wout : L2.WX}
/-- try: Yard(..) except X as e: suite, of what is no yard -/
theorem sd_tryM (no : ∀ s ∈ sl, ¬ s.isOwn) (h : WA C ρ t sl fun rs => ∃ (many : Int) (us : List (Int × Int)) (r : Sl) (at' : Nat) (why : Str), rs = [.dat (.int many), r] ∧ r.ls = some (us.map tieZ) ∧ BadY many us at' why ∧ PySem.W.exmOne Kf (.ref D) c = some true ∧
      ∀ a d, SD C (ρ.wA (InSuite (erY D at' why) a d)) (ts a (.ref D) d) (sl.set i (.raw (.ref a))) (fun _ => False) rt (fun _ => False) (fun _ => False)) :
    SD C ρ (fun D' σ H => tDrop (tMakeS C (spYX C D) (WE (wAs Kf c i ts Wout D')) t) D' σ H) sl nx rt bk ct := fun S0 H0 S H σ g D' _ b _ _ => by
  refine h S0 H0 S H σ g _ fun rs S1 H1 vs ⟨many, us, r, at', why, e, er, hb, hx, su⟩ a1 ok1 => ?_
  subst e
  match vs, ok1 with
  | [v1, v2], ok1 =>
    obtain ⟨o1, o2, _⟩ := ok1
    cases o1
    intro y dx hy hd hne
    refine make_x a1.ok hy hd hne o2 er hb fun S' H' d mv eo => ⟨true, hx, fun _ a na => ?_, fun z => nomatch z⟩
    have g3 := g.move (a1.trans g.k mv)
    have g1 := g3.epoch (InSuite (erY D at' why) a d) ⟨eo, na⟩ no
    have g2 := g1.set (i := i) (v := .ref a) (r := .raw (.ref a)) (Mv.refl g1.k) rfl
    refine su a d _ _ _ _ _ g2 _ (fun _ _ _ _ z => z.elim) (fun r S2 H2 v kr m rv => ?_) (fun _ _ _ _ z => z.elim) (fun _ _ _ _ z => z.elim)
    exact b r S2 H2 v kr (g3.mv.trans g.k0 m.un) (rv.un.pre fun p => g3.mv.back g.k0)
end
end Den
namespace Den
open PySem L2 D3
/-! ### tests that leave the heap -/
def PV (te : TE) (σ : L2.St) (H : Hp) (v : V) : Prop := ∀ Q : VK, Q v H → te σ H Q
def PB (tt : TT) (σ : L2.St) (H : Hp) (b : Bool) : Prop := ∀ Q : Bool → Hp → Prop, Q b H → tt σ H Q
section
variable {σ : L2.St} {H : Hp} {ta tb tc : TE} {i j l : Int} {g g1 g2 : Int → Int → Bool} {tt tu : TT} {a b : Bool}
theorem pvar {k : Nat} {v : V} (h : σ[k]? = some (some v)) : PV (tVar k) σ H v := fun Q q => ⟨v, h, q⟩
theorem pcon {v : V} : PV (tC v) σ H v := fun Q q => q
theorem pbcmp (ha : PV ta σ H (.int i)) (hb : PV tb σ H (.int j)) : PB (tTest (tOp (rI0 fun i j => .bl (g i j)) ta tb)) σ H (g i j) := fun Q q => ha _ (hb _ ⟨i, j, rfl, rfl, _, rfl, q⟩)
theorem pbchain (ha : PV ta σ H (.int i)) (hb : PV tb σ H (.int j)) (hc : PV tc σ H (.int l)) : PB (tTest (tChain (rI0 fun i j => .bl (g1 i j)) (rI0 fun i j => .bl (g2 i j)) ta tb tc)) σ H (g1 i j && g2 j l) := fun Q q => ha _ (hb _ ⟨i, j, rfl, rfl, g1 i j, rfl, by
  cases e : g1 i j with
  | true => rw [e] at q; exact ifp rfl (hc _ ⟨j, l, rfl, rfl, _, rfl, q⟩)
  | false => rw [e] at q; exact ifn rfl ⟨_, rfl, q⟩⟩)
theorem pbnot (h : PB tt σ H a) : PB (tNot tt) σ H (!a) := fun Q q => h _ q
theorem pbor (h1 : PB tt σ H a) (h2 : PB tu σ H b) : PB (tOr tt tu) σ H (a || b) := fun Q q => h1 _ (by
  cases a with
  | true => exact ifp rfl q
  | false => exact ifn rfl (h2 _ q))
theorem pif {tv tw : TS} {D : Ends} (h : PB tt σ H a) (q : if a = true then tv D σ H else tw D σ H) : tIfS tt tv tw D σ H := h _ q
end
/-- raise BadYard(at, word) -/
theorem raiseY_fin {D : Addr} {E : XK} {Hi : Hp} {at' : Nat} {why : Str} (k : ∀ d, Hi d = none → E (.ref D) (some d) (upd Hi d (.xd (byFs at' why)))) :
    ([V.int (at' : Int), V.str why] : List V).length ≤ 1000 ∧ ∀ a, Hi a = none → spEI D 2 (fun ws => [("why", ws.getD 1 .non), ("at", ws.getD 0 .non)]) (.ref a :: ([V.int (at' : Int), V.str why] ++ [])) (upd Hi a (exo a D none))
      (fun v H2 => v = .non ∧ ∃ d fs, H2 a = some (exo a D (some d)) ∧ H2 d = some (exd d fs) ∧ Hi d = none ∧ E (.ref D) (some d) (upd (L2.del H2 a) d (.xd fs))) (fun _ _ _ => False) := by
  refine ⟨by show 2 ≤ 1000; decide, fun a na => ⟨a, _, rfl, rfl, upd_same, fun H2 d hd nda h2a h2d rest => ⟨rfl, d, _, h2a, h2d, ?_, ?_⟩⟩⟩
  · rw [upd_ne nda] at hd; exact hd
  · rw [upd_ne nda] at hd
    have eq : upd (L2.del H2 a) d (.xd (byFs at' why)) = upd Hi d (.xd (byFs at' why)) := by
      funext b
      by_cases hb : b = d
      · subst hb; rw [upd_same, upd_same]
      · rw [upd_ne hb, upd_ne hb]
        by_cases ha : b = a
        · subst ha; rw [L2.del_same, na]
        · rw [L2.del_ne ha, rest b ha hb, upd_ne ha]
    have := k d hd
    rw [← eq] at this
    exact this
theorem _root_.D3.Rp.tieZI {C : Addr} {H : Hp} {v : V} {p : Int × Int} (h : Rp C H v (tieZ p)) : ∃ t, v = .ref t ∧ H t = some (.tup [.int p.1, .int p.2]) := by
  cases h with
  | tup a b =>
    cases b with
    | cons h1 r =>
      cases r with
      | cons h2 r => cases r; cases h1; cases h2; exact ⟨_, rfl, a⟩
end Den
namespace Den
open PySem L2 D3
structure BY where
  many : Int
  us : List (Int × Int)
  at' : Nat
  why : Str
def byEnc (x : BY) : List Dt := [.tup [.int x.many, .lst (x.us.map tieZ), .int (x.at' : Int), .str x.why]]
def fn_l_refusedY := FnP byEnc (fun x => BadY x.many x.us x.at' x.why) (fun _ K => K (.dat (.bl true)))
def fn_l_wrong := FnP tEnc (fun a => 1 ≤ a.1 ∧ a.1 ≤ 30 ∧ ValidY a.1 a.2) (fun a K => ∀ x : BY, BadY x.many x.us x.at' x.why → K (.dat (.tup [.int x.many, .lst (x.us.map tieZ), .int (x.at' : Int), .str x.why])))
end Den
namespace Den
open PySem L2 D3
section
variable {C a : Addr} {F : PySem.W.Frag} {E : XK} {sl : List Sl} {K : Sl → Prop} {ta : TE} {j : Nat}
/-- xs[off(d, m)], the place told -/
theorem xpickI {tl : TE} {ds : List Dt} {r0 : Sl} {m : Nat} {i : Int} (hl : XD C (ρd a) tl sl r0) (e0 : r0.sq = some ds) (hi : XD C (ρd a) ta sl (.dat (.int i))) (ei : i = (m : Int)) (h0 : 0 < m) (h1 : m < 1073741824) (hm : m ≤ ds.length) (k : ∀ r : Nat, r < m → ∀ d, ds[r]? = some d → K (.dat d)) (hd : rdAt sl j = .raw (.ref a) := by rfl) (hd2 : okAt sl j = true := by rfl) :
    WX C (ρd a) (tOp (rIxA F) tl (tCall (spR C fn_l_off) [] E (tCons (tVar j) (tCons ta tNil)))) sl K := by
  refine wx_op (hl.w (xoff m hi ei h0 h1 (fun r hr => ?_) hd hd2))
  have e : ds[r]? = some (ds[r]'(by omega)) := List.getElem?_eq_getElem _
  exact od_ix (d := ds[r]'(by omega)) e0 (atI_nat e) (k r hr _ e)
end
theorem rep_flat {α : Type} (x : α) : ∀ n : Nat, (List.replicate n [x]).flatten = List.replicate n x
  | 0 => rfl
  | n + 1 => by rw [List.replicate_succ, List.flatten_cons, rep_flat x n]; rfl
end Den
/-! What is refused: texts. -/
namespace Den
open PySem L2 D3
section
variable {C : Addr} {ρ : Rsc} {sl : List Sl}
/-- [sign for sign in z if ..] -/
theorem xlcSf {tl : TE} {g : TG} {tt : TT} {te : TE} {vs ks : List Nat} (hk : ∀ j ∈ ks, j ∈ vs) {z : Str} (hl : XD C ρ tl sl (.dat (.str z))) (b : Nat → Bool) (hz : z.length < 1000000)
    (hs : ∀ c ∈ z.cps.toList, GD C ρ g ks (.dat (.str ⟨#[c]⟩)) (slW sl vs) fun s => TD C ρ tt s (b c) ∧ (b c = true → WX C ρ te s fun r => r.dz = some (.str ⟨#[c]⟩))) : XD C ρ (tLc (iStr tl) g tt te vs) sl (.own ((z.cps.toList.filter b).map fun c => .str ⟨#[c]⟩)) := fun S0 H0 S H σ gd Q q => by
  refine hl S0 H0 S H σ gd _ fun r S1 H1 v er a1 ok1 => ?_
  subst er; cases ok1
  refine ⟨z, rfl, fun D hD => ?_⟩
  refine lc_it walk_str (LcP C ρ S1 H1 D (LcD z.cps.toList b fun c => .str ⟨#[c]⟩)) (lc_start a1.ok hD rfl) (fun _ _ _ _ => trivial) ?_ (fun H' hp' => lc_end (K := (· = .own ((z.cps.toList.filter b).map fun c => .str ⟨#[c]⟩))) gd.k a1 hD q (fun acc iv => ?_) H' hp')
  · rintro i x Ha Hb hi hp3 ⟨e, c, hc, rfl⟩
    subst e
    have hc' : z.cps.toList[i]? = some c := by rw [Array.getElem?_toList]; exact hc
    exact lc_turn (Iv := LcD z.cps.toList b fun c => .str ⟨#[c]⟩) (i := i) (d := .str ⟨#[c]⟩) (gd.move a1) hD hk (fun S' ss => .str _) (fun acc iv => lcd_turn hc' hz (hs c (List.mem_of_getElem? hc')) acc iv) hp3
  · rw [LcD.all iv]
end
def FIG : Str := Str.ofString "0123456789"
/-- a word that writes no number of one or two figures -/
def badW0 (q : Str) : Bool := !(decide (1 ≤ q.length) && decide (q.length ≤ 2)) || (decide (q.cps.toList[0]? = some 48) && !decide (q = "0")) || q.cps.toList.any fun c => !decide (c ∈ FIG.cps.toList)
def badW (q : Str) : Bool := badW0 q && q.cps.toList.all fun c => decide (c < 1114112)
structure NX where
  good : List Nat
  bad : Str
  rest : List Str
  at' : Nat
def nxWs (x : NX) : List Str := x.good.map nS ++ x.bad :: x.rest
def nxEnc (x : NX) : List Dt := [.lst ((nxWs x).map Dt.str), .int (x.at' : Int)]
def erT (D : Addr) (i : Nat) : Er := ⟨D, some [("row", .int (i : Int))]⟩
def BadNs (x : NX) : Prop := (∀ k ∈ x.good, k < 100) ∧ x.good.length ≤ 1000 ∧ x.bad.length ≤ 1000 ∧ badW x.bad = true
def fn_p_numbers_of_x (D : Addr) := FnX nxEnc (fun x er => BadNs x ∧ er = erT D x.at')
/-- a row that isn't so -/
def RowBad (kind : Str) (cnt : Nat) (q : Str) : Prop := ∃ w0 wr, Txt.split q " " = w0 :: wr ∧
  (w0 ≠ kind ∨ wr.length + 1 ≠ cnt ∨ (w0 = kind ∧ wr.length + 1 = cnt ∧ ∃ good bad rest, wr = List.map nS good ++ bad :: rest ∧ (∀ k ∈ good, k < 100) ∧ good.length ≤ 1000 ∧ bad.length ≤ 1000 ∧ badW bad = true))
def P100 (ps : List Tie) : Prop := ∀ p ∈ ps, p.1 < 100 ∧ p.2 < 100
def RowsSz (qs : List Str) : Prop := qs.length ≤ 1000 ∧ ∀ q ∈ qs, 10 ∉ q.cps.toList ∧ q.length ≤ 20
def BadT (qs : List Str) (i : Nat) : Prop := (i = 0 ∧ ∃ q rest, qs = q :: rest ∧ RowBad "yard" 2 q) ∨ ∃ n ps q rest, n < 100 ∧ P100 ps ∧ i = ps.length + 1 ∧ qs = headS n :: (ps.map rowS ++ q :: rest) ∧ RowBad "tie" 3 q
def YardT (qs : List Str) (at' : Nat) (why : Str) : Prop := ∃ n ps, n < 100 ∧ P100 ps ∧ qs = headS n :: ps.map rowS ∧ BadY n (ps.map zt) at' why
def rxEnc (qs : List Str) : List Dt := [.str (Txt.join "\n" qs)]
def fn_p_read_x (D B : Addr) := FnX rxEnc (fun qs er => RowsSz qs ∧ ((∃ i, BadT qs i ∧ er = erT D i) ∨ (∃ at' why, YardT qs at' why ∧ er = erY B at' why)))
/-- what is told of rows: the word, and the thing -/
structure RfX where
  qs : List Str
  w : Str
  d : Dt
def rfEnc (x : RfX) : List Dt := [.lst (x.qs.map Dt.str), .str x.w, x.d]
def RfOk (x : RfX) : Prop := RowsSz x.qs ∧ ((∃ i, BadT x.qs i ∧ x.w = "text" ∧ x.d = .int (i : Int)) ∨ (∃ at' why, YardT x.qs at' why ∧ x.w = "yard" ∧ x.d = .tup [.int (at' : Int), .str why]))
def fn_l_refusedT := FnP rfEnc RfOk (fun _ K => K (.dat (.bl true)))
theorem rows_join {qs : List Str} (h : RowsSz qs) (hne : qs ≠ []) : Txt.split (Txt.join "\n" qs) "\n" = qs :=
  TL.split_join (s := 10) (S := []) (by decide +kernel) (by decide +kernel) hne fun q hq => (h.2 q hq).1
theorem rows_len1 {qs : List Str} (h : RowsSz qs) : (qs.map (·.length)).sum + qs.length * (Str.ofString "\n").length ≤ 30000 := by
  have h1 := sum_len _ (fun q hq => (h.2 q hq).2)
  have e1 : (Str.ofString "\n").length = 1 := by decide +kernel
  have := h.1
  rw [e1]; omega
theorem rows_join_len {qs : List Str} (h : RowsSz qs) : (Txt.join "\n" qs).length ≤ 30000 := by
  rw [TL.join_eq]
  exact Nat.le_trans (join_len _ _) (rows_len1 h)
theorem spl_head {n : Nat} (h : n < 100) : splD (headS n) = .lst [.str "yard", strD n] := by unfold splD; rw [head_split h]; rfl
theorem spl_row {p : Tie} (h1 : p.1 < 100) (h2 : p.2 < 100) : splD (rowS p) = rowD p := by unfold splD; rw [row_split h1 h2]; rfl
theorem spl_rows {ps : List Tie} (h : P100 ps) : (ps.map rowS).map splD = ps.map rowD := by
  rw [List.map_map]
  exact List.map_congr_left fun p hp => spl_row (h p hp).1 (h p hp).2
end Den
namespace Den
open PySem L2 D3
def sgD (c : Nat) : Dt := .str ⟨#[c]⟩
theorem eqD_sg (a b : Nat) : eqD (sgD a) (sgD b) = decide (a = b) := by
  unfold sgD
  rw [eqD_str]
  by_cases h : a = b
  · subst h; rw [decide_eq_true rfl, decide_eq_true rfl]
  · rw [decide_eq_false h, decide_eq_false (fun z => h (by
      have := congrArg TL.tl z
      exact (List.cons.inj this).1))]
theorem eqD_sgs (xs ys : List Nat) : eqD (.lst (xs.map sgD)) (.lst (ys.map sgD)) = decide (xs = ys) := eqD_lst_map sgD eqD_sg xs ys
theorem plD_sgs (xs : List Nat) (h : ∀ c ∈ xs, c < 1114112) : plD 64 (.lst (xs.map sgD)) = true := plD_lst_map fun p hp => by
  simp [sgD, plD, PyData.strOk]
  exact h p hp
end Den
namespace Den
open PySem L2 D3
theorem cut_tail (x : Dt) (ys : List Dt) : cutD (x :: ys) (some 1) none = ys := by
  have h : cutD (x :: ys) (some ((1 : Nat) : Int)) none = ys := by
    rw [cut_from, List.length_cons, Nat.min_eq_left (by omega)]; rfl
  exact h
end Den
namespace D3
open PySem PySem.Spec PyProof.Rows L2
theorem pe_bmK {X : Cx} (F : PySem.W.Frag) (h : X.K = F) {e : Expr} {T : String} {r : V → List V → Hp → VK → Prop} {to : TE} {t : TA} (p : PE X e (tBM X.K T r to t)) : PE X e (tBM F T r to t) := h ▸ p
end D3
namespace Den
open PySem L2 D3
theorem rowBad_first {kind : Str} {cnt : Nat} {q w0 : Str} {wr : List Str} (h : Txt.split q " " = w0 :: wr) (n : w0 ≠ kind) : RowBad kind cnt q := ⟨w0, wr, h, .inl n⟩
theorem rowBad_count {kind : Str} {cnt : Nat} {q w0 : Str} {wr : List Str} (h : Txt.split q " " = w0 :: wr) (n : wr.length + 1 ≠ cnt) : RowBad kind cnt q := ⟨w0, wr, h, .inr (.inl n)⟩
theorem rowBad_word {kind : Str} {cnt : Nat} {q : Str} (good : List Nat) (bad : Str) (rest : List Str) (h : Txt.split q " " = kind :: (good.map nS ++ bad :: rest)) (hc : (good.map nS ++ bad :: rest).length + 1 = cnt) (hg : ∀ k ∈ good, k < 100) (hl : good.length ≤ 1000) (hb : bad.length ≤ 1000) (hw : badW bad = true) : RowBad kind cnt q := ⟨kind, _, h, .inr (.inr ⟨rfl, hc, good, bad, rest, rfl, hg, hl, hb, hw⟩)⟩
/-- by a look: the first word, how many, or a bad word behind good ones -/
def chk (kind : Str) (cnt : Nat) (q : Str) (good : List Nat) (bad : Str) (rest : List Str) : Bool := match Txt.split q " " with
  | [] => false
  | w0 :: wr => !decide (w0 = kind) || !decide (wr.length + 1 = cnt) || (decide (wr = good.map nS ++ bad :: rest) && good.all (fun k => decide (k < 100)) && decide (good.length ≤ 1000) && decide (bad.length ≤ 1000) && badW bad)
theorem chk_bad {kind : Str} {cnt : Nat} {q : Str} {good : List Nat} {bad : Str} {rest : List Str} (h : chk kind cnt q good bad rest = true) : RowBad kind cnt q := by
  unfold chk at h
  split at h
  · cases h
  · rename_i w0 wr e
    by_cases h1 : w0 = kind
    · by_cases h2 : wr.length + 1 = cnt
      · rw [decide_eq_true h1, decide_eq_true h2] at h
        simp only [Bool.not_true, Bool.false_or, Bool.and_eq_true, decide_eq_true_eq, List.all_eq_true] at h
        obtain ⟨⟨⟨⟨a, b⟩, c⟩, d⟩, f⟩ := h
        exact ⟨w0, wr, e, .inr (.inr ⟨h1, h2, good, bad, rest, a, b, c, d, f⟩)⟩
      · exact ⟨w0, wr, e, .inr (.inl h2)⟩
    · exact ⟨w0, wr, e, .inl h1⟩
def oddS : List Str := ["", " ", "tie", "tie 0", "tie 0 1 2", "tie 00 1", "tie 0 01", "tie 0 x", "tie 0 -1", "tie  0 1", "tie 0 1 ", " tie 0 1", "Tie 0 1", "ties 0 1", "tie 0 100", "tie 0,1", "yard 3", "tie 0 1_0", "0 1", "tie 0 +1"]
def headsS : List Str := ["", "yard", "yard 03", "yard 3 3", "yard x", "yard -1", "yard 100", "Yard 3", "yard 3 ", " yard 3", "tie 0 1"]
def oddW : List (List Nat × Str × List Str) := [([], "", []), ([], "", []), ([], "", []), ([], "", []), ([], "", []), ([], "00", ["1"]), ([0], "01", []), ([0], "x", []), ([0], "-1", []), ([], "", []), ([], "", []), ([], "", []), ([], "", []), ([], "", []), ([0], "100", []), ([], "", []), ([], "", []), ([0], "1_0", []), ([], "", []), ([0], "+1", [])]
def headW : List (List Nat × Str × List Str) := [([], "", []), ([], "", []), ([], "03", []), ([], "", []), ([], "x", []), ([], "-1", []), ([], "100", []), ([], "", []), ([], "", []), ([], "", []), ([], "", [])]
def okS (q : Str) : Bool := !q.cps.toList.contains 10 && decide (q.length ≤ 20)
theorem okS_of {q : Str} (h : okS q = true) : 10 ∉ q.cps.toList ∧ q.length ≤ 20 := by
  unfold okS at h
  simpa using h
theorem odd_all : (List.zip oddS oddW).all (fun p => chk "tie" 3 p.1 p.2.1 p.2.2.1 p.2.2.2 && okS p.1) = true := by decide +kernel
theorem heads_all : (List.zip headsS headW).all (fun p => chk "yard" 2 p.1 p.2.1 p.2.2.1 p.2.2.2 && okS p.1) = true := by decide +kernel
theorem zip_fst {α β : Type} {xs : List α} {ys : List β} {x : α} (hl : xs.length ≤ ys.length) (h : x ∈ xs) : ∃ y, (x, y) ∈ List.zip xs ys := by
  have := List.map_fst_zip hl
  rw [← this] at h
  obtain ⟨p, hp, rfl⟩ := List.mem_map.mp h
  exact ⟨p.2, hp⟩
theorem odd_bad {q : Str} (h : q ∈ oddS) : RowBad "tie" 3 q ∧ 10 ∉ q.cps.toList ∧ q.length ≤ 20 := by
  obtain ⟨y, hy⟩ := zip_fst (ys := oddW) (by decide) h
  have := Bool.and_eq_true_iff.mp (List.all_eq_true.mp odd_all _ hy)
  exact ⟨chk_bad this.1, okS_of this.2⟩
theorem head_bad {q : Str} (h : q ∈ headsS) : RowBad "yard" 2 q ∧ 10 ∉ q.cps.toList ∧ q.length ≤ 20 := by
  obtain ⟨y, hy⟩ := zip_fst (ys := headW) (by decide) h
  have := Bool.and_eq_true_iff.mp (List.all_eq_true.mp heads_all _ hy)
  exact ⟨chk_bad this.1, okS_of this.2⟩
theorem x_bad : RowBad "tie" 3 "x" := chk_bad (good := []) (bad := "") (rest := []) (by decide +kernel)
theorem sz_cons {q : Str} {qs : List Str} (h : 10 ∉ q.cps.toList ∧ q.length ≤ 20) (h2 : ∀ q ∈ qs, 10 ∉ q.cps.toList ∧ q.length ≤ 20) : ∀ x ∈ q :: qs, 10 ∉ x.cps.toList ∧ x.length ≤ 20 := fun x hx => by
  rcases List.mem_cons.mp hx with rfl | hx
  · exact h
  · exact h2 x hx
theorem sz_app {ps qs : List Str} (h : ∀ q ∈ ps, 10 ∉ q.cps.toList ∧ q.length ≤ 20) (h2 : ∀ q ∈ qs, 10 ∉ q.cps.toList ∧ q.length ≤ 20) : ∀ x ∈ ps ++ qs, 10 ∉ x.cps.toList ∧ x.length ≤ 20 := fun x hx => by
  rcases List.mem_append.mp hx with hx | hx
  · exact h x hx
  · exact h2 x hx
theorem sz_rows {ps : List Tie} (h : P100 ps) : ∀ x ∈ ps.map rowS, 10 ∉ x.cps.toList ∧ x.length ≤ 20 := fun x hx => by
  obtain ⟨p, hp, rfl⟩ := List.mem_map.mp hx
  exact ⟨row_nl (h p hp).1 (h p hp).2, row_len (h p hp).1 (h p hp).2⟩
theorem sz_head {n : Nat} (h : n < 100) : 10 ∉ (headS n).cps.toList ∧ (headS n).length ≤ 20 := ⟨head_nl h, head_len h⟩
def laterS : List Str := ["", "x"]
theorem sz_later (r : Nat) : ∀ x ∈ laterS.take r, 10 ∉ x.cps.toList ∧ x.length ≤ 20 := fun x hx => by
  have := List.mem_of_mem_take hx
  exact okS_of (List.all_eq_true.mp (show List.all laterS okS = true by decide +kernel) x this)
theorem valid_p100 {n : Nat} {ts : List Tie} (hn : n ≤ 30) (hv : ValidY n ts) : P100 ts := fun p hp => by
  have := hv.2 p hp
  exact ⟨by omega, by omega⟩
end Den
namespace Den
open PySem L2 D3
def yD (qs : List Str) (at' : Nat) (why : Str) : Dt := .tup [.lst (qs.map Dt.str), .tup [.int (at' : Int), .str why]]
def YTk (qs : List Str) (at' : Nat) (why : Str) : Prop := YardT qs at' why ∧ RowsSz qs ∧ BadT (qs ++ [Str.ofString "x"]) qs.length ∧ RowsSz (qs ++ [Str.ofString "x"])
theorem yt_mk {n : Nat} {ps : List Tie} {at' : Nat} {why : Str} (hn : n < 100) (hp : P100 ps) (hl : ps.length ≤ 950) (hb : BadY n (ps.map zt) at' why) : YTk (headS n :: ps.map rowS) at' why := by
  have hs := sz_cons (sz_head hn) (sz_rows hp)
  refine ⟨⟨n, ps, hn, hp, rfl, hb⟩, ⟨by simp; omega, hs⟩, .inr ⟨n, ps, "x", [], hn, hp, by simp, by rw [List.cons_append], x_bad⟩, ⟨by simp; omega, sz_app hs (sz_cons (okS_of (q := Str.ofString "x") (by decide +kernel)) (qs := []) fun x h => by cases h)⟩⟩
theorem p100_app {ps qs : List Tie} (h1 : P100 ps) (h2 : P100 qs) : P100 (ps ++ qs) := fun p hp => by
  rcases List.mem_append.mp hp with hp | hp
  · exact h1 p hp
  · exact h2 p hp
theorem p100_sub {ps qs : List Tie} (h1 : P100 ps) (h : ∀ p ∈ qs, p ∈ ps) : P100 qs := fun p hp => h1 p (h p hp)
theorem e_y0 : (Str.ofString "yard 0") = headS 0 := by decide +kernel
theorem e_y31 : (Str.ofString "yard 31") = headS 31 := by decide +kernel
theorem e_y3 : (Str.ofString "yard 3") = headS 3 := by decide +kernel
theorem e_10 : (Str.ofString "tie 1 0") = rowS (1, 0) := by decide +kernel
theorem e_099 : (Str.ofString "tie 0 99") = rowS (0, 99) := by decide +kernel
theorem e_00 : (Str.ofString "tie 0 0") = rowS (0, 0) := by decide +kernel
theorem e_01 : (Str.ofString "tie 0 1") = rowS (0, 1) := by decide +kernel
theorem e_12 : (Str.ofString "tie 1 2") = rowS (1, 2) := by decide +kernel
end Den
namespace Den
open PySem L2 D3
theorem xtup2o {C : Addr} {ρ : Rsc} {sl : List Sl} {ta tb : TE} {ds : List Dt} {d2 : Dt} (h1 : XD C ρ ta sl (.own ds)) (h2 : XD C ρ tb sl (.dat d2)) : XD C ρ (tTup (tCons ta (tCons tb tNil))) sl (.dat (.tup [.lst ds, d2])) := xtup (ac h1 (ac h2 an)) rfl (Nat.le_of_ble_eq_true rfl)
end Den
/-! All rounds from 0 on, by trying. -/
namespace Den
open PySem L2 D3
/-- how a path goes on -/
def goN (n : Nat) (ts : List Tie) (r : List Nat) : List Nat := (List.range n).filter fun p => !decide (p ∈ r) && tieB ts (r.getLastD 0) p
def extN (n : Nat) (ts : List Tie) (r : List Nat) : List (List Nat) := (goN n ts r).map fun p => r ++ [p]
def pathsN (n : Nat) (ts : List Tie) : Nat → List (List Nat)
  | 0 => [[0]]
  | k + 1 => (pathsN n ts k).flatMap (extN n ts)
def roundL (n : Nat) (ts : List Tie) (r : List Nat) : Bool := decide (2 < n) && (decide (r.getD 1 0 < r.getLastD 0) && tieB ts (r.getLastD 0) 0)
def roundsN (n : Nat) (ts : List Tie) : List (List Nat) := (pathsN n ts (n - 1)).filter (roundL n ts)
/-- a path from 0 -/
structure PathN (n : Nat) (k : Nat) (r : List Nat) : Prop where
  len : r.length = k + 1
  nd : r.Nodup
  lt : ∀ x ∈ r, x < n
theorem pathsN_path {n : Nat} (hn : 1 ≤ n) (ts : List Tie) : ∀ k, ∀ r ∈ pathsN n ts k, PathN n k r
  | 0, r, h => by
    obtain rfl := List.mem_singleton.mp h
    exact ⟨rfl, by simp, fun x hx => by obtain rfl := List.mem_singleton.mp hx; omega⟩
  | k + 1, r, h => by
    obtain ⟨q, hq, hr⟩ := List.mem_flatMap.mp h
    obtain ⟨p, hp, rfl⟩ := List.mem_map.mp hr
    have ih := pathsN_path hn ts k q hq
    obtain ⟨hp1, hp2⟩ := List.mem_filter.mp hp
    have hpn := List.mem_range.mp hp1
    have hpq : p ∉ q := by
      rw [Bool.and_eq_true] at hp2
      simpa using hp2.1
    refine ⟨by rw [List.length_append, ih.len]; rfl, List.nodup_append.mpr ⟨ih.nd, by simp, fun a ha b hb => ?_⟩, fun x hx => ?_⟩
    · obtain rfl := List.mem_singleton.mp hb
      intro z; subst z; exact hpq ha
    · rcases List.mem_append.mp hx with h | h
      · exact ih.lt x h
      · obtain rfl := List.mem_singleton.mp h; exact hpn
theorem perm_sub : ∀ {xs ys : List Nat}, xs.Nodup → (∀ x ∈ xs, x ∈ ys) → ys.length ≤ xs.length → xs.Perm ys
  | [], ys, _, _, hl => by
    have : ys = [] := List.eq_nil_of_length_eq_zero (by simpa using hl)
    rw [this]
  | x :: xs, ys, nd, sub, hl => by
    have hx := sub x List.mem_cons_self
    obtain ⟨nx, nd'⟩ := List.nodup_cons.mp nd
    have hp := List.perm_cons_erase hx
    refine ((perm_sub (ys := ys.erase x) nd' (fun y hy => ?_) ?_).cons x).trans hp.symm
    · refine (List.mem_erase_of_ne fun z => ?_).mpr (sub y (List.mem_cons_of_mem _ hy))
      subst z; exact nx hy
    · rw [List.length_erase_of_mem hx]
      rw [List.length_cons] at hl
      omega
theorem perm_of_path {n : Nat} {r : List Nat} (hn : 1 ≤ n) (h : PathN n (n - 1) r) : r.Perm (List.range n) := by
  refine perm_sub h.nd (fun x hx => List.mem_range.mpr (h.lt x hx)) ?_
  rw [List.length_range, h.len]; omega
theorem roundsN_perm {n : Nat} (hn : 1 ≤ n) {ts : List Tie} {r : List Nat} (h : r ∈ roundsN n ts) : r.Perm (List.range n) := perm_of_path hn (pathsN_path hn ts _ r (List.mem_filter.mp h).1)
theorem goN_len (n : Nat) (ts : List Tie) (r : List Nat) : (goN n ts r).length ≤ n := by
  unfold goN
  exact Nat.le_trans (List.length_filter_le _ _) (by rw [List.length_range]; exact Nat.le_refl _)
theorem flatMap_len {α β : Type} {f : α → List β} {m : Nat} : ∀ {xs : List α}, (∀ x ∈ xs, (f x).length ≤ m) → (xs.flatMap f).length ≤ xs.length * m
  | [], _ => by simp
  | x :: xs, h => by
    have := flatMap_len (f := f) (m := m) (xs := xs) fun y hy => h y (List.mem_cons_of_mem _ hy)
    have := h x List.mem_cons_self
    rw [List.flatMap_cons, List.length_append, List.length_cons, Nat.succ_mul]; omega
theorem pathsN_len (n : Nat) (ts : List Tie) : ∀ k, (pathsN n ts k).length ≤ n ^ k
  | 0 => by simp [pathsN]
  | k + 1 => by
    refine Nat.le_trans (flatMap_len (m := n) fun r _ => ?_) ?_
    · unfold extN; rw [List.length_map]; exact goN_len n ts r
    · rw [Nat.pow_succ]
      exact Nat.mul_le_mul_right _ (pathsN_len n ts k)
theorem pathsN_7 {n k : Nat} {ts : List Tie} (hn : n ≤ 7) (hk : k ≤ 7) : (pathsN n ts k).length ≤ 823543 := by
  refine Nat.le_trans (pathsN_len n ts k) (Nat.le_trans (Nat.pow_le_pow_left hn k) ?_)
  exact Nat.pow_le_pow_right (by decide) hk
theorem tiesB_last {r : List Nat} (h : r ≠ []) : r[r.length - 1]? = some (r.getLastD 0) := by
  rw [← List.getLast?_eq_getElem?, List.getLastD_eq_getLast?]
  cases e : r.getLast? with
  | none => rw [List.getLast?_eq_none_iff] at e; exact absurd e h
  | some x => rfl
def fn_l_rounds := FnP tEnc (fun a => 1 ≤ a.1 ∧ a.1 ≤ 30 ∧ ValidY a.1 a.2 ∧ (∀ k, k < a.1 → (pathsN a.1 a.2 k).length ≤ 900000)) (fun a K => K (.own ((roundsN a.1 a.2).map ordD)))
end Den
namespace Den
open PySem L2 D3
theorem xlst1o {C : Addr} {ρ : Rsc} {sl : List Sl} {ta : TE} {ds : List Dt} (h1 : XD C ρ ta sl (.own ds)) : XD C ρ (tLst (tCons ta tNil)) sl (.own [.lst ds]) := xlst (ac h1 an) rfl (Nat.le_of_ble_eq_true rfl)
end Den
/-! d.pop(k) of a dict with pairs as keys; a pair (n, dict) of which keys are taken out in a loop. -/
namespace DTp
open PySem PySem.W PySem.Calls PyProof.Rows PyProof.V PySem.Spec DT
section
variable {K : Type} [DecidableEq K] {prog : Program} {w : World} {knd : HeapKind prog w K}
theorem meetsPop1 {d b : Addr} {k : K} :
    MeetsIn prog w (Builtin.«dict.pop» ⟨[.ref d, .ref b], []⟩) (fun A R s => ∃ xs p, knd.room A.in1 ∧ knd.is s.heap k b ∧ s.heap.DictOfH knd d xs ∧ xs.length ≤ sizeLine ∧ atKey xs k = some p ∧
      ∀ h' tk, h'.DictOfH knd d (dropH xs k) → Heap.SameBut d s.heap h' → R (.ok (.ret p.2)) { s with heap := h', toks := tk }) :=
  .of_wp fun A R s ⟨xs, p, hu, hkey, hm, hsz, hp, h⟩ => by
    obtain ⟨o, es, ep, ho, hc, hdat, he, his, hn⟩ := id hm
    have hes : es.size = xs.length := size_of_entries he
    have hpart : (keyPart (Value.ref b)).isSome = false := rfl
    unfold Builtin.«dict.pop»
    refine wpAny_bind ?_
    unfold Builtin.Dict.keyAndDefault
    refine wpAny_bind (wpAny_notOrdered_dict hm.typeIs ?_)
    show wpAny _ _ (pure (d, Value.ref b, none)) _ _ s
    refine wpAny_pure ?_
    simp only [hpart, Bool.false_eq_true, if_false]
    refine wpAny_bind (wpAny_dictEntries ho hdat (wpAny_bind (wpAny_pure ?_)))
    cases hem : es.isEmpty with
    | true =>
      have h0 : xs = [] := by
        have z : es.size = 0 := by simpa using hem
        exact List.length_eq_zero_iff.mp (by omega)
      rw [h0] at hp
      cases hp
    | false =>
      simp only [Bool.false_eq_true, if_false]
      refine wpAny_bind (takeH hu hkey hm hsz (fun hno => by rw [hno] at hp; cases hp) fun p2 e hp2 hev h' hm' hs' => ?_)
      rw [hp] at hp2
      cases hp2
      simp only [Option.isNone_some, Bool.false_eq_true, if_false]
      exact wpAny_bind (wpAny_letGo (wpAny_pure ⟨e.val, rfl, by rw [hev]; exact h h' _ hm' hs'⟩))
end
end DTp
namespace D3
open PySem PySem.Spec PyProof.Rows L2 L2.DX
section
variable {X : Cx}
def rPopT1 : V → List V → Hp → VK → Prop := fun x xs H Q => ∃ (a : Addr) (kvs : List (List L2.Key × V)) (k : List L2.Key) (b : Addr) (v : V), x = .ref a ∧ xs = [.ref b] ∧ H a = some (.dT kvs) ∧ H b = some (.tup (k.map kV)) ∧ valV kvs k = some v ∧ Q v (upd H a (.dT (dropK kvs k)))
theorem mt_popT1 (hu : X.A.units + 1 < cLine) : MtR X "dict.pop" rPopT1 := by
  intro pins s σ H x xs v us Q I rx rxs h
  obtain ⟨a, kvs, k, b, v0, rfl, rfl, ha, hb, ev, q1⟩ := h
  cases rx
  cases rxs with
  | cons r1 rr =>
    cases rr
    cases r1
    obtain ⟨z, hd, xs', rel, dd⟩ := dt_of I.hok ha
    have hz : xs'.length ≤ sizeLine := by rw [← Paired.length rel]; exact z
    have r := rel.val k
    rw [ev] at r
    cases hp : atKey xs' k with
    | none => rw [hp] at r; exact (show False from r).elim
    | some p =>
      rw [hp] at r
      have rv : RelV v0 p.2 := r
      refine call_meetsIn PySem.F.slot_dict_pop dd.typeIs PySem.F.entry_dict_pop (PySem.F.args_dict_pop_2 _ _) (DTp.meetsPop1 (knd := tupleKind (mixKind X.prog X.w)) (k := k))
        ⟨xs', p, tupleKind_room_in1 hu, key_of I.hok hb, dd, hz, hp, fun h' tk dd' hs => ?_⟩
      obtain ⟨o, es, ep, hq, h2, h3, h4, _, h5⟩ := dd'
      have I2 : Inv X pins σ (upd H a (.dT (dropK kvs k))) { s with heap := h', toks := tk } :=
        d_write I (by rw [ha]; exact True.intro) hs ⟨o, hq⟩ ⟨Nat.le_trans (dropK_le kvs k) z, hd, _, (KT_drop k rel).keeps (fun c ys ec => (by rw [upd_ne (ne_of ec ha (fun z => nomatch z))]; exact ec)), o, es, ep, hq, h2, h3, h4, h5⟩
      show EP X pins σ Q p.2 _
      exact ⟨v0, _, I2, rv, q1⟩
end
end D3
namespace Den
open PySem PyProof.Rows L2 D3
/-- a new pair of a number and a new dict of pairs -/
def tupDk (n : Nat) (ts : List Tie) : SemP where
  p Hs S H v := ∃ t q, v = .ref t ∧ (Hs t = none ∧ Hs q = none) ∧ (S t = none ∧ S q = none) ∧ H t = some (.tup [.int (n : Int), .ref q]) ∧ H q = some (.dT (ts.map ktV))
  mv := by
    rintro ρ S0 Hs S H S1 H1 v ks a0 ⟨t, q, e, ⟨h1, h2⟩, ⟨s1, s2⟩, ht, hq⟩ a
    exact ⟨t, q, e, ⟨h1, h2⟩, ⟨a.fr t s1 (by rw [ht]; simp), a.fr q s2 (by rw [hq]; simp)⟩, a.hh t _ (ks.nm h1) ht, a.hh q _ (ks.nm h2) hq⟩
  pre := by
    rintro Hs Hr S H v b ⟨t, q, e, ⟨h1, h2⟩, r⟩
    exact ⟨t, q, e, ⟨b t h1, b q h2⟩, r⟩
/-- .. as what is at hand -/
def ρw (t q : Addr) (n : Nat) (ts : List Tie) : Rsc where
  M b := b = t ∨ b = q
  R H := H t = some (.tup [.int (n : Int), .ref q]) ∧ H q = some (.dT (ts.map ktV))
  loc := fun H H' k ⟨h1, h2⟩ => ⟨k t _ (.inl (.inl rfl)) h1, k q _ (.inl (.inr rfl)) h2⟩
  A _ _ := True
section
variable {C : Addr} {S0 H0 Hs S H S1 H1 S2 H2 : Hp} {v : V} {r : Sl} {sl : List Sl} {σ : L2.St} {te ta tb tc : TE} {K : Sl → Prop} {F : PySem.W.Frag} {nx bk ct : List Sl → Prop} {rt : Sl → Prop} {i j n : Nat} {ts us : List Tie} {t q : Addr} {tr : TS}
/-- return (x, d), d a dict that is ours -/
theorem sd_retTupDk {tx : TE} (e : sl[i]? = some (dT ts)) (h : WX C ρ0 tx sl fun r => r = .dat (.int (n : Int)) ∧ rt (.bcell (tupDk n ts))) : SD C ρ0 (tRet (tTup (tCons tx (tCons (tVar i) tNil)))) sl nx rt bk ct := fun S0 H0 S H σ g D _ b _ _ => by
  refine h S0 H0 S H σ g _ fun r S1 H1 u ⟨er, k⟩ a1 ok1 => ?_
  subst er; cases ok1
  have g1 := g.move a1
  obtain ⟨q, ev, h0, hs, hq⟩ := g1.cellD e
  refine ⟨_, ev, Nat.le_trans (show 2 ≤ 100000 by decide) (by rw [sizeLine_eq]; decide), fun t ht => ?_⟩
  have mt := Mv.new g1.k ht (.tup [.int (n : Int), .ref q])
  have nt : q ≠ t := ne_of_none hq ht
  exact b _ S1 (upd H1 t (.tup [.int (n : Int), .ref q])) _ k (g1.mv.trans g1.k0 mt) ⟨t, q, rfl, ⟨g1.mv.back g1.k0 ht, h0⟩, ⟨g1.k.ns ht, hs⟩, upd_same, by rw [upd_ne nt]; exact hq⟩
/-- a def's rest that ends with a return, the pair being at hand -/
def SDr (C : Addr) (t q : Addr) (n : Nat) (ts : List Tie) (tr : TS) (sl : List Sl) (rt : Sl → Prop) : Prop := ∀ S0 H0 S H σ, Good C (ρw t q n ts) S0 H0 S H σ sl → ∀ D : Ends,
  (∀ r S' H' v us, rt r → Mv (ρw t q n us) S0 H0 S' H' → RvOk C ρ0 H0 S' H' v r → D.rt v H') → tr D σ H
theorem rv_w (h : RvOk C (ρw t q n ts) Hs S H v r) : RvOk C ρ0 Hs S H v r := by
  cases r with
  | bor d => obtain ⟨p, xs, e, m, h2, h3⟩ := h; exact ⟨p, xs, e, fun z => z, h2, h3⟩
  | _ => exact h
/-- x = f(..), the pair told -/
theorem sd_wayM (no : ∀ s ∈ sl, ¬ s.isOwn) (h : WX C ρ0 te sl fun r => r = .bcell (tupDk n ts)) (k : ∀ t q, SDr C t q n ts tr (sl.set i (.raw (.ref t))) rt) : SD C ρ0 (tSeq (tAsg te (gName i)) tr) sl nx rt bk ct := fun S0 H0 S H σ g D _ b _ _ => by
  refine h S0 H0 S H σ g _ fun r S1 H1 v er a1 ok1 => ?_
  subst er
  obtain ⟨t, q, rfl, ⟨h1, h2⟩, ⟨s1, s2⟩, ht, hq⟩ := ok1
  have okw : Ok (ρw t q n ts) S1 H1 := ⟨a1.ok.sh, fun b m => by rcases m with rfl | rfl <;> assumption, fun b m => by rcases m with rfl | rfl <;> simp [ht, hq], ⟨ht, hq⟩⟩
  have g1 := g.move a1
  have gw : Good C (ρw t q n ts) S1 H1 S1 H1 σ sl := by
    refine ⟨⟨okw.z, trivial⟩, Mv.refl okw, g1.len, fun i s e => ?_, fun i j s t p hij e1 _ o1 _ _ _ => no s (List.mem_of_getElem? e1) o1⟩
    have qq := g1.ok i s e
    have nn := no s (List.mem_of_getElem? e)
    cases s with
    | any => trivial
    | bor d => trivial
    | bcell d => trivial
    | dat d => exact qq
    | raw d => exact qq
    | own d => exact absurd trivial nn
    | cell d => exact absurd trivial nn
  have g2 := gw.set (i := i) (v := .ref t) (r := .raw (.ref t)) (Mv.refl okw) rfl
  refine k t q S1 H1 S1 H1 _ g2 _ fun r S2 H2 v us kr m rv => ?_
  have G := g.mv.trans g.k0 a1
  have keep : ∀ b o, H b = some o → H2 b = some o := fun b o e => m.hh b o (fun z => by rcases z with rfl | rfl <;> simp_all) (a1.hh b o (fun z => z) e)
  refine b r S2 H2 v kr ⟨⟨m.ok.sh, fun _ z => z.elim, fun _ z => z.elim, trivial⟩, G.ss.trans m.ss, fun b o _ e => keep b o (g.mv.hh b o (fun z => z) e), fun b e n => ?_⟩ (rv.pre fun p e => ?_)
  · cases hb : H0 b with
    | none => exact absurd hb n
    | some o =>
      have e1 := g.mv.hh b o (fun z => z) hb
      have e2 := a1.hh b o (fun z => z) e1
      exact m.fr b (G.fr b e n) (by rw [e2]; simp)
  · cases hb : H0 p with
    | none => rfl
    | some o => rw [a1.hh p o (fun z => z) (g.mv.hh p o (fun z => z) hb)] at e; cases e
/-- an expression in which the pair stands as data -/
theorem good_lendW (g : Good C (ρw t q n ts) S0 H0 S H σ sl) (e : sl[i]? = some (.raw (.ref t))) :
    ∃ S' H0', Good C ρ0 S0 H0' S' H σ (sl.set i (.dat (tD true n ts))) ∧ Same S S' ∧ S' t = some (.tup [.int (n : Int), .ref q]) ∧ S' q = some (.dT (ts.map ktV)) := by
  have hR := g.k.r
  obtain ⟨ht, hq⟩ := hR
  have st : S t = none := g.k.m t (.inl rfl)
  have sq : S q = none := g.k.m q (.inr rfl)
  have ntq : t ≠ q := ne_of ht hq (by intro z; cases z)
  have s0t : S0 t = none := g.k1.1.m t (.inl rfl)
  have s0q : S0 q = none := g.k1.1.m q (.inr rfl)
  have ss1 : Same S (upd (upd S q (.dT (ts.map ktV))) t (.tup [.int (n : Int), .ref q])) := (same_new sq).trans (same_new (by rw [upd_ne ntq]; exact st))
  have hi : i < sl.length := by
    rcases Nat.lt_or_ge i sl.length with h | h
    · exact h
    · rw [List.getElem?_eq_none h] at e; cases e
  refine ⟨_, (fun b => if b = t ∨ b = q then none else H0 b), ⟨⟨⟨fun b o e => ?_, fun _ z => z.elim, fun _ z => z.elim⟩, trivial⟩, ⟨⟨fun b o e => ?_, fun _ z => z.elim, fun _ z => z.elim, trivial⟩, g.mv.ss.trans ss1, fun b o _ e => ?_, fun b e nn => ?_⟩, ?_, fun j s ej => ?_, fun j k s u p hjk e1 e2 o1 o2 e3 e4 => ?_⟩, ss1, upd_same, by rw [upd_ne (Ne.symm ntq), upd_same]⟩
  · have nb : ¬ (b = t ∨ b = q) := fun z => by rcases z with rfl | rfl <;> simp_all
    show (if b = t ∨ b = q then none else H0 b) = some o
    rw [if_neg nb]; exact g.k1.1.sh b o e
  · by_cases hb : b = t
    · subst hb; rw [upd_same] at e; cases e; exact ht
    · rw [upd_ne hb] at e
      by_cases hb2 : b = q
      · subst hb2; rw [upd_same] at e; cases e; exact hq
      · rw [upd_ne hb2] at e; exact g.k.sh b o e
  · have e : (if b = t ∨ b = q then none else H0 b) = some o := e
    by_cases nb : b = t ∨ b = q
    · rw [if_pos nb] at e; cases e
    · rw [if_neg nb] at e; exact g.mv.hh b o nb e
  · have nn : (if b = t ∨ b = q then none else H0 b) ≠ none := nn
    by_cases nb : b = t ∨ b = q
    · rw [if_pos nb] at nn; exact absurd rfl nn
    · rw [if_neg nb] at nn
      rw [upd_ne (fun z => nb (.inl z)), upd_ne (fun z => nb (.inr z))]
      exact g.mv.fr b e nn
  · rw [List.length_set]; exact g.len
  · by_cases hj : i = j
    · subst hj
      rw [List.getElem?_set_self hi] at ej
      cases ej
      have := g.ok i _ e
      obtain ⟨v, ev, rv⟩ := this
      cases rv
      refine ⟨.ref t, ev, ?_⟩
      exact .tup upd_same (.cons (.int _) (.cons (.dkt (by rw [upd_ne (Ne.symm ntq), upd_same])) .nil))
    · rw [List.getElem?_set_ne hj] at ej
      have qq := g.ok j s ej
      have no0 : ∀ p, H0 p = none → p ≠ t ∧ p ≠ q := fun p hp => ⟨fun z => g.k1.1.t t (.inl rfl) (by rw [← z]; exact hp), fun z => g.k1.1.t q (.inr rfl) (by rw [← z]; exact hp)⟩
      cases s with
      | any => trivial
      | bor d => trivial
      | bcell d => trivial
      | dat d => obtain ⟨v, ev, rv⟩ := qq; exact ⟨v, ev, Rp.mono ss1 rv⟩
      | raw d => exact qq
      | own d =>
        obtain ⟨v, ev, p, xs, e1, z0, z1, z2, z3⟩ := qq
        obtain ⟨n1, n2⟩ := no0 p z0
        exact ⟨v, ev, p, xs, e1, by show (if p = t ∨ p = q then none else H0 p) = none; rw [if_neg (by simp [n1, n2])]; exact z0, by rw [upd_ne n1, upd_ne n2]; exact z1, z2, z3.mono ss1⟩
      | cell d =>
        obtain ⟨v, ev, p, u, e1, z0, z1, z2, z3⟩ := qq
        obtain ⟨n1, n2⟩ := no0 p z0
        exact ⟨v, ev, p, u, e1, by show (if p = t ∨ p = q then none else H0 p) = none; rw [if_neg (by simp [n1, n2])]; exact z0, by rw [upd_ne n1, upd_ne n2]; exact z1, z2, d.mono ss1 z3⟩
  · have f : ∀ {m : Nat} {x : Sl}, (sl.set i (.dat (tD true n ts)))[m]? = some x → x.isOwn → sl[m]? = some x := fun {m x} em ox => by
      by_cases hm : i = m
      · subst hm; rw [List.getElem?_set_self hi] at em; cases em; exact ox.elim
      · rw [List.getElem?_set_ne hm] at em; exact em
    exact g.ne j k s u p hjk (f e1 o1) (f e2 o2) o1 o2 e3 e4
theorem lentW_mv (g : Good C (ρw t q n ts) S0 H0 S H σ sl) (ss : Same S S1) (ht : S1 t = some (.tup [.int (n : Int), .ref q])) (hq : S1 q = some (.dT (ts.map ktV))) (a : Mv ρ0 S1 H S2 H2) : Mv (ρw t q n ts) S H S H2 :=
  ⟨⟨fun b o e => a.ok.sh b o (a.ss b o (ss b o e)), g.k.m, fun b m => by
    rcases m with rfl | rfl
    · rw [a.ok.sh _ _ (a.ss _ _ ht)]; simp
    · rw [a.ok.sh _ _ (a.ss _ _ hq)]; simp, ⟨a.ok.sh _ _ (a.ss _ _ ht), a.ok.sh _ _ (a.ss _ _ hq)⟩⟩, Same.refl S, fun b o _ e => a.hh b o (fun z => z) e, fun b e _ => e⟩
theorem xlendW {d : Dt} (e : sl[i]? = some (.raw (.ref t))) (f : flatD d = true) (h : XD C ρ0 te (sl.set i (.dat (tD true n ts))) (.dat d)) : XD C (ρw t q n ts) te sl (.dat d) := fun S0 H0 S H σ g Q k => by
  obtain ⟨S', H0', g', ss, ht, hq⟩ := good_lendW g e
  refine h S0 H0' S' H σ g' _ fun r S1 H1 v er a1 ok1 => ?_
  subst er
  exact k _ S H1 v rfl (lentW_mv g ss ht hq a1) (flat_any f ok1)
theorem xlendWO {ds : List Dt} (e : sl[i]? = some (.raw (.ref t))) (f : ∀ d ∈ ds, flatD d = true) (h : XD C ρ0 te (sl.set i (.dat (tD true n ts))) (.own ds)) : XD C (ρw t q n ts) te sl (.own ds) := fun S0 H0 S H σ g Q k => by
  obtain ⟨S', H0', g', ss, ht, hq⟩ := good_lendW g e
  refine h S0 H0' S' H σ g' _ fun r S1 H1 v er a1 ok1 => ?_
  subst er
  obtain ⟨p, xs, e, h0, h1, h2, h3⟩ := ok1
  exact k _ S H1 v rfl (lentW_mv g ss ht hq a1) ⟨p, xs, e, h0, g.k.ns h0, h2, flats_any f h3⟩
theorem dropK_kt (p : Tie) : ∀ ts : List Tie, dropK (ts.map ktV) [Sum.inl (p.1 : Int), Sum.inl (p.2 : Int)] = (ts.filter fun x => decide (x ≠ p)).map ktV
  | [] => rfl
  | x :: r => by
    have ih := dropK_kt p r
    unfold dropK at ih ⊢
    by_cases h : x = p
    · rw [List.map_cons, List.filter_cons_of_neg (by simp [ktV, h]), ih, List.filter_cons_of_neg (by simp [h])]
    · have hk : (ktV x).1 ≠ [Sum.inl (p.1 : Int), Sum.inl (p.2 : Int)] := fun z => h (by
        have z : ([Sum.inl (x.1 : Int), Sum.inl (x.2 : Int)] : List Key) = [Sum.inl (p.1 : Int), Sum.inl (p.2 : Int)] := z
        simp only [List.cons.injEq, Sum.inl.injEq, and_true] at z
        exact Prod.ext (by omega) (by omega))
      rw [List.map_cons, List.filter_cons_of_pos (by simpa using hk), ih, List.filter_cons_of_pos (by simpa using h), List.map_cons]
/-- before[1].pop(p) -/
theorem pop_W {p : Tie} {D : Ends} (g : Good C (ρw t q n ts) S0 H0 S H σ sl) (e : sl[i]? = some (.raw (.ref t))) (hx : XD C (ρw t q n ts) te sl (.dat (tieD p))) (hp : p ∈ ts)
    (k : ∀ S' H', Same S S' → Good C (ρw t q n (ts.filter fun x => decide (x ≠ p))) S0 H0 S' H' σ sl → D.nx σ H') : tDrop (tBM F "dict" rPopT1 (tOp (rIxA F) (tVar i) (tC (.int 1))) (tCons te tNil)) D σ H := by
  obtain ⟨v, ev, rv⟩ := g.ok i _ e
  cases rv
  have ev : σ[i]? = some (some (.ref t)) := by
    cases z : σ[i]? with
    | none => rw [z] at ev; cases ev
    | some w => rw [z] at ev; exact congrArg some ev
  obtain ⟨ht, hq⟩ := g.k.r
  refine ⟨_, ev, .inl (.inr (.inl ⟨t, _, 1, .ref q, rfl, rfl, SqT.of ht, atI_nat (j := 1) rfl, .inr (.inr (.inl ⟨rfl, .inr ⟨_, hq⟩⟩)), ?_⟩))⟩
  refine hx S0 H0 S H σ g _ fun r S1 H1 w er a1 ok1 => ?_
  subst er
  have g1 := g.move a1
  obtain ⟨ht1, hq1⟩ := g1.k.r
  obtain ⟨b, xs, rfl, _, hb, ra⟩ := ok1.tupD a1.ok
  have hb2 : H1 b = some (.tup (([Sum.inl (p.1 : Int), Sum.inl (p.2 : Int)] : List Key).map kV)) := by
    rw [hb]
    cases ra with
    | cons r1 rr => cases rr with
      | cons r2 rr => cases rr; cases r1; cases r2; rfl
  refine ⟨q, ts.map ktV, [Sum.inl (p.1 : Int), Sum.inl (p.2 : Int)], b, .bl true, rfl, rfl, hq1, hb2, by rw [valV_kt, if_pos hp], ?_⟩
  rw [dropK_kt]
  have ntq : t ≠ q := ne_of ht1 hq1 (by intro z; cases z)
  refine k S1 _ a1.ss ⟨⟨⟨g1.k1.1.sh, g1.k1.1.m, g1.k1.1.t⟩, trivial⟩, ⟨⟨fun b o e => ?_, g1.k.m, fun b m => ?_, ⟨by rw [upd_ne ntq]; exact ht1, upd_same⟩⟩, g1.mv.ss, fun b o m e => ?_, g1.mv.fr⟩, g1.len, fun j s ej => ?_, g1.ne⟩
  · have nb : b ≠ q := fun z => by subst z; rw [g1.k.m b (.inr rfl)] at e; cases e
    rw [upd_ne nb]; exact g1.k.sh b o e
  · rcases m with rfl | rfl
    · rw [upd_ne ntq, ht1]; simp
    · rw [upd_same]; simp
  · rw [upd_ne (fun z => m (.inr z))]; exact g1.mv.hh b o m e
  · have qq := g1.ok j s ej
    have no0 : ∀ p, H0 p = none → p ≠ q := fun p hp z => g1.k1.1.t q (.inr rfl) (by rw [← z]; exact hp)
    cases s with
    | any => trivial
    | bor d => trivial
    | bcell d => trivial
    | dat d => exact qq
    | raw d => exact qq
    | own d =>
      obtain ⟨v, ev, p, xs, e1, z0, z1, z2, z3⟩ := qq
      exact ⟨v, ev, p, xs, e1, z0, z1, by rw [upd_ne (no0 p z0)]; exact z2, z3⟩
    | cell d =>
      obtain ⟨v, ev, p, u, e1, z0, z1, z2, z3⟩ := qq
      exact ⟨v, ev, p, u, e1, z0, z1, by rw [upd_ne (no0 p z0)]; exact z2, z3⟩
/-- for k in range(m - 1, -1, -1), a key taken out in each turn -/
theorem for_W {m : Nat} {k : Nat} {body : TS} {D : Ends} (tsf : Nat → List Tie) (g : Good C (ρw t q n (tsf 0)) S0 H0 S H σ sl) (hm : m ≤ 1000000) (h1 : XD C (ρw t q n (tsf 0)) ta sl (.dat (.int ((m : Int) - 1)))) (h2 : XD C (ρw t q n (tsf 0)) tb sl (.dat (.int (-1)))) (h3 : XD C (ρw t q n (tsf 0)) tc sl (.dat (.int (-1))))
    (Iv : Nat → List Sl → Prop) (h0 : Iv 0 sl)
    (hs : ∀ i sl' S1 H1 σ1, i < m → Iv i sl' → Good C (ρw t q n (tsf i)) S0 H0 S1 H1 σ1 (sl'.set k (.dat (.int ((m : Int) - 1 - i)))) → ∀ D1 : Ends, (∀ sl2 S' H' σ', Iv (i + 1) sl2 → Same S1 S' → Good C (ρw t q n (tsf (i + 1))) S0 H0 S' H' σ' sl2 → D1.nx σ' H') → body D1 σ1 H1)
    (hd : ∀ sl' S' H' σ', Iv m sl' → Same S S' → Good C (ρw t q n (tsf m)) S0 H0 S' H' σ' sl' → D.nx σ' H') : tFor (iRng3 (tCons ta (tCons tb (tCons tc tNil)))) (gName k) body D σ H := by
  unfold tFor iRng3
  refine (ac h1 (ac h2 (ac h3 an))) S0 H0 S H σ g _ fun rs S1 H1 vs er a1 ok1 => ?_
  subst er
  match vs, ok1 with
  | [v1, v2, v3], ok1 =>
    obtain ⟨o1, o2, o3, _⟩ := ok1
    cases o1; cases o2; cases o3
    have rg := RgC.neg (i := (m : Int) - 1) (j := -1) (by omega) (by omega) (by decide) (by decide)
    rw [show ((m : Int) - 1 - (-1)).toNat = m by omega] at rg
    refine ⟨_, _, _, m, rfl, rg, ?_⟩
    refine for_rangeC (fun i σ' H' => ∃ S' sl', Iv i sl' ∧ Good C (ρw t q n (tsf i)) S0 H0 S' H' σ' sl' ∧ Same S S') ⟨S1, sl, h0, g.move a1, a1.ss⟩ ?_ ?_
    · rintro i σ3 H3 hi ⟨S3, sl3, i3, g3, ss⟩
      have g4 := g3.set (i := k) (v := .int ((m : Int) - 1 + (i : Int) * -1)) (r := .dat (.int ((m : Int) - 1 - i))) (Mv.refl g3.k) (by rw [show (m : Int) - 1 - i = (m : Int) - 1 + (i : Int) * -1 by omega]; exact .int _)
      exact hs i sl3 S3 H3 _ hi i3 g4 _ fun sl2 S' H' σ' hv sx gg => ⟨S', sl2, hv, gg, ss.trans sx⟩
    · rintro σ3 H3 ⟨S3, sl3, i3, g3, ss⟩
      exact hd sl3 S3 H3 σ3 i3 ss g3
end
end Den
namespace Den
open PySem PyProof.Rows L2 D3
def fn_l_quickO := FnP tEnc (fun a => a.1 ≤ 30 ∧ ValidY a.1 a.2) (fun a K => K (.bcell (tupDk a.1 a.2)))
def fn_l_way := FnP toEnc (fun x => x.q = false ∧ x.Ok ∧ x.ks.Perm (List.range x.n) ∧ 3 ≤ x.n ∧ gapsN (clN x.n x.ts) x.ks = []) (fun x K => K (.own ((openW x.n x.ks x.ts).map ordD)))
theorem addN_none {n : Nat} {us : List Tie} (h : nextP n us = none) : addN n us = [] := by
  unfold addN; rw [clN_none h]; simp
theorem addN_some {n : Nat} {us : List Tie} {p : Tie} (h : nextP n us = some p) : addN n us = p :: addN n (us ++ [p]) := by
  have h1 := clN_eq n (us ++ [p])
  unfold addN
  rw [clN_some h, h1, List.append_assoc, List.drop_left]
  rw [← List.append_assoc, List.drop_left]; rfl
theorem add_chain {n : Nat} : ∀ us, ∀ (j : Nat) (p : Tie), (addN n us)[j]? = some p → nextP n (us ++ (addN n us).take j) = some p :=
  closing_ind (fun us h j p e => by rw [addN_none h] at e; simp at e) fun us p0 h ih j p e => by
    rw [addN_some h] at e ⊢
    cases j with
    | zero =>
      simp at e ⊢
      subst e; exact h
    | succ j =>
      rw [List.getElem?_cons_succ] at e
      rw [List.take_succ_cons]
      have := ih j p e
      rw [List.append_assoc] at this
      exact this
theorem filter_last {us : List Tie} {p : Tie} (h : p ∉ us) : ((us ++ [p]).filter fun x => decide (x ≠ p)) = us := by
  have h1 : (us.filter fun x => decide (x ≠ p)) = us := List.filter_eq_self.mpr fun x hx => decide_eq_true (show x ≠ p from fun z => h (by rw [← z]; exact hx))
  rw [List.filter_append, h1]
  simp
end Den
namespace D3
open PySem L2
theorem SD.run {C : Addr} {ρ : Rsc} {t : TS} {sl : List Sl} {nx : List Sl → Prop} {S0 H0 S H : Hp} {σ : L2.St} {D : Ends} (g : Good C ρ S0 H0 S H σ sl) (h : SD C ρ t sl nx (fun _ => False) (fun _ => False) (fun _ => False)) (k : ∀ sl' S' H' σ', nx sl' → Same S S' → Good C ρ S0 H0 S' H' σ' sl' → D.nx σ' H') : t D σ H :=
  h S0 H0 S H σ g D k (fun _ _ _ _ z => z.elim) (fun _ _ _ _ z => z.elim) (fun _ _ _ _ z => z.elim)
end D3
/-! A new list of new lists of numbers. -/
namespace Den
open PySem PyProof.Rows L2 D3
open Classical in
def rowV (ks : List Nat) : List V := ks.map fun (k : Nat) => V.int (k : Int)
/-- a list of numbers, not empty -/
def intL (o : HO) : Prop := ∃ ks : List Nat, ks ≠ [] ∧ o = .lst (rowV ks)
open Classical in
noncomputable def noI (S : Hp) : Hp := fun b => match S b with
  | none => none
  | some o => if intL o then none else some o
section
variable {C : Addr} {S : Hp} {v : V} {o : HO} {b : Addr}
theorem noI_of (h : S b = some o) (n : ¬ intL o) : noI S b = some o := by
  unfold noI; rw [h]; simp [n]
theorem noI_some (h : noI S b = some o) : S b = some o ∧ ¬ intL o := by
  unfold noI at h
  cases e : S b with
  | none => rw [e] at h; cases h
  | some o' =>
    rw [e] at h
    by_cases hi : intL o'
    · simp [hi] at h
    · simp [hi] at h; subst h; exact ⟨rfl, hi⟩
theorem noI_sub : Same (noI S) S := fun b o e => (noI_some e).1
theorem not_int {xs : List V} {ds : List Dt} (r : RpAll C S xs ds) (h : ∀ d ∈ ds, ∀ v, Rp C S v d → ∃ a, v = .ref a) : ¬ intL (.lst xs) := by
  rintro ⟨ks, hne, e⟩
  cases e
  cases ks with
  | nil => exact hne rfl
  | cons k ks =>
    cases r with
    | cons r1 rr =>
      obtain ⟨a, ea⟩ := h _ List.mem_cons_self _ r1
      cases ea
theorem ref_tie {p : Tie} (h : Rp C S v (tieD p)) : ∃ a, v = .ref a := by cases h; exact ⟨_, rfl⟩
theorem ref_dki {ks : List Nat} (h : Rp C S v (.dki ks)) : ∃ a, v = .ref a := by cases h; exact ⟨_, rfl⟩
theorem ref_yard {n : Nat} {ts : List Tie} (h : Rp C S v (.yard n ts)) : ∃ a, v = .ref a := by cases h; exact ⟨_, rfl⟩
theorem not_lst {o : HO} (h : ∀ xs, o ≠ .lst xs) : ¬ intL o := fun ⟨ks, _, e⟩ => h _ e
theorem noI_ints {xs : List V} {is : List Int} (r : RpAll C S xs (is.map Dt.int)) : RpAll C (noI S) xs (is.map Dt.int) := flats_any (fun d hd => by obtain ⟨i, _, rfl⟩ := List.mem_map.mp hd; rfl) r
theorem noI_tie {p : Tie} (h : Rp C S v (tieD p)) : Rp C (noI S) v (tieD p) := by
  cases h with
  | tup a r => exact .tup (noI_of a (not_lst fun xs z => by cases z)) (noI_ints (is := [(p.1 : Int), (p.2 : Int)]) r)
theorem noI_ties : ∀ {vs : List V} {ts : List Tie}, RpAll C S vs (ts.map tieD) → RpAll C (noI S) vs (ts.map tieD)
  | _, [], .nil => .nil
  | _, _ :: _, .cons h r => .cons (noI_tie h) (noI_ties r)
theorem noI_dkis {f : Nat → List Nat} : ∀ {vs : List V} {xs : List Nat}, RpAll C S vs (xs.map fun x => .dki (f x)) → RpAll C (noI S) vs (xs.map fun x => .dki (f x))
  | _, [], .nil => .nil
  | _, _ :: _, .cons h r => .cons (by cases h with | dki a => exact .dki (noI_of a (not_lst fun xs z => by cases z))) (noI_dkis r)
theorem noI_yard {n : Nat} {ts : List Tie} (h : Rp C S v (.yard n ts)) : Rp C (noI S) v (.yard n ts) := by
  cases h with
  | yard h1 h2 h3 r1 r2 e1 e2 =>
    subst e1 e2
    refine .yard (noI_of h1 (not_lst fun xs z => by cases z)) (noI_of h2 (not_int r1 fun d hd v r => ?_)) (noI_of h3 (not_int r2 fun d hd v r => ?_)) (noI_ties r1) (noI_dkis r2) rfl rfl
    · obtain ⟨p, _, rfl⟩ := List.mem_map.mp hd; exact ref_tie r
    · obtain ⟨p, _, rfl⟩ := List.mem_map.mp hd; exact ref_dki r
theorem noI_ally {n : Nat} : ∀ {vs : List V} {ws : List (List Tie)}, RpAll C S vs (ws.map (Dt.yard n)) → RpAll C (noI S) vs (ws.map (Dt.yard n))
  | _, [], .nil => .nil
  | _, _ :: _, .cons h r => .cons (noI_yard h) (noI_ally r)
theorem noI_yards {n : Nat} {ws : List (List Tie)} (h : Rp C S v (.lst (ws.map (Dt.yard n)))) : Rp C (noI S) v (.lst (ws.map (Dt.yard n))) := by
  cases h with
  | lst a r => exact .lst (noI_of a (not_int r fun d hd v rr => by obtain ⟨p, _, rfl⟩ := List.mem_map.mp hd; exact ref_yard rr)) (noI_ally r)
end
/-- a new list of new lists of numbers -/
def lstNew (rows : List (List Nat)) : SemP where
  p Hs S H v := ∃ (l : Addr) (ps : List Addr), v = .ref l ∧ Hs l = none ∧ S l = none ∧ H l = some (.lst (ps.map V.ref)) ∧ ps.length = rows.length ∧ ∀ (i : Nat) (p : Addr) (row : List Nat), ps[i]? = some p → rows[i]? = some row → Hs p = none ∧ S p = none ∧ row ≠ [] ∧ row.length ≤ 1000 ∧ H p = some (.lst (rowV row))
  mv := by
    rintro ρ S0 Hs S H S1 H1 v ks a0 ⟨l, ps, e, h1, h2, h3, h4, h5⟩ a
    refine ⟨l, ps, e, h1, a.fr l h2 (by rw [h3]; simp), a.hh l _ (ks.nm h1) h3, h4, fun i p row e1 e2 => ?_⟩
    obtain ⟨z1, z2, z3, z4, z5⟩ := h5 i p row e1 e2
    exact ⟨z1, a.fr p z2 (by rw [z5]; simp), z3, z4, a.hh p _ (ks.nm z1) z5⟩
  pre := by
    rintro Hs Hr S H v b ⟨l, ps, e, h1, h2, h3, h4, h5⟩
    refine ⟨l, ps, e, b l h1, h2, h3, h4, fun i p row e1 e2 => ?_⟩
    obtain ⟨z1, z⟩ := h5 i p row e1 e2
    exact ⟨b p z1, z⟩
section
variable {C : Addr} {ρ : Rsc} {S0 H0 Hs S H S1 H1 S2 H2 : Hp} {v : V} {r : Sl} {sl sl2 : List Sl} {σ : L2.St} {te ta tb tc t1 : TE} {K : Sl → Prop} {F : PySem.W.Frag} {nx bk ct : List Sl → Prop} {rt : Sl → Prop} {i j : Nat} {tr : TS} {rows : List (List Nat)} {ks : List Nat}
theorem rows_rp : ∀ {vs : List V} {rows : List (List Nat)}, RpAll C S vs (rows.map ordD) → ∃ ps : List Addr, vs = ps.map V.ref ∧ ps.length = rows.length ∧ ∀ (i : Nat) (p : Addr) (row : List Nat), ps[i]? = some p → rows[i]? = some row → S p = some (.lst (rowV row))
  | _, [], .nil => ⟨[], rfl, rfl, fun i p row e => by simp at e⟩
  | _, row :: rows, .cons h r => by
    obtain ⟨ps, e1, e2, e3⟩ := rows_rp r
    cases h with
    | lst a rr =>
      rename_i p xs
      have ex : xs = rowV row := by
        have := flats_V rr fun d hd => by obtain ⟨k, _, rfl⟩ := List.mem_map.mp hd; rfl
        rw [this, List.map_map]; rfl
      subst ex
      refine ⟨p :: ps, by rw [e1]; rfl, by simp [e2], fun i q rw' h1 h2 => ?_⟩
      cases i with
      | zero => simp at h1 h2; subst h1 h2; exact a
      | succ i => exact e3 i q rw' (by simpa using h1) (by simpa using h2)
theorem rowV_rp : ∀ {ks : List Nat}, RpAll C S (rowV ks) (ks.map natD)
  | [] => .nil
  | k :: ks => .cons (.int _) rowV_rp
/-- xs = [f(..)], the row new; from here on lists of numbers that were are left alone -/
theorem sd_rowsN (no : ∀ s ∈ sl, ¬ s.isOwn) (hlen : sl2.length = sl.length) (hsl : ∀ (j : Nat) (s : Sl), sl2[j]? = some s → s = .any ∨ (sl[j]? = some s ∧ ∃ d, s = .dat d ∧ ∀ (S : Hp) (v : V), Rp C S v d → Rp C (noI S) v d)) (h : XD C ρ0 t1 sl (.own (ks.map natD))) (hks : ks ≠ [])
    (k : SD C ρ0 tr (sl2.set i (.own [ordD ks])) (fun _ => False) (fun r => ∃ rows : List (List Nat), r = .own (rows.map ordD) ∧ (∀ row ∈ rows, row ≠ [] ∧ row.length ≤ 1000) ∧ rt (.bcell (lstNew rows))) (fun _ => False) (fun _ => False)) :
    SD C ρ0 (tSeq (tAsg (tLst (tCons t1 tNil)) (gName i)) tr) sl nx rt bk ct := fun S0 H0 S H σ g D _ b _ _ => by
  refine h S0 H0 S H σ g _ fun r S1 H1 v er a1 ok1 => ?_
  subst er
  obtain ⟨p, xs, rfl, h0, h1, h2, h3⟩ := ok1
  refine ⟨by rw [sizeLine_eq]; simp, fun l hl => ?_⟩
  have ex : xs = rowV ks := by
    have := flats_V h3 fun d hd => by obtain ⟨k, _, rfl⟩ := List.mem_map.mp hd; rfl
    rw [this, List.map_map]; rfl
  subst ex
  have nlp : p ≠ l := ne_of_none h2 hl
  have keep1 : ∀ b o, H b = some o → H1 b = some o := fun b o e => a1.hh b o (fun z => z) e
  have hHl : H l = none := by
    cases e : H l with
    | none => rfl
    | some o => rw [keep1 l o e] at hl; cases hl
  have g0 : Good C ρ0 (noI S) H (noI S) H σ sl2 := by
    have ok0 : Ok ρ0 (noI S) H := ⟨fun b o e => g.k.sh b o (noI_sub b o e), fun _ z => z.elim, fun _ z => z.elim, trivial⟩
    have getd : ∀ (j : Nat) (s : Sl), sl2[j]? = some s → SlOk C ρ0 H (noI S) H (σ[j]?.getD none) s := fun j s e => by
      rcases hsl j s e with rfl | ⟨e1, d, rfl, hd⟩
      · trivial
      · obtain ⟨v, ev, rv⟩ := g.ok j _ e1
        exact ⟨v, ev, hd S v rv⟩
    have nown : ∀ (j : Nat) (s : Sl), sl2[j]? = some s → ¬ s.isOwn := fun j s e => by
      rcases hsl j s e with rfl | ⟨e1, d, rfl, hd⟩
      · exact fun z => z
      · exact fun z => z
    exact ⟨⟨ok0.z, trivial⟩, Mv.refl ok0, by rw [hlen]; exact g.len, getd, fun i j s t p hij e1 _ o1 _ _ _ => nown i s e1 o1⟩
  have hnp : noI S p = none := by
    cases e : noI S p with
    | none => rfl
    | some o => rw [g.k.sh p o (noI_sub p o e)] at h0; cases h0
  have hnl : noI S l = none := by
    cases e : noI S l with
    | none => rfl
    | some o => rw [g.k.sh l o (noI_sub l o e)] at hHl; cases hHl
  have m2 : Mv ρ0 (noI S) H (upd (noI S) p (.lst (rowV ks))) (upd H1 l (.lst [.ref p])) := by
    refine ⟨⟨fun b o e => ?_, fun _ z => z.elim, fun _ z => z.elim, trivial⟩, same_new hnp, fun b o _ e => ?_, fun b e n => ?_⟩
    · by_cases hb : b = p
      · subst hb; rw [upd_same] at e; cases e; rw [upd_ne nlp]; exact h2
      · rw [upd_ne hb] at e
        have := keep1 b o (g.k.sh b o (noI_sub b o e))
        rw [upd_ne (ne_of_none this hl)]; exact this
    · have := keep1 b o e
      rw [upd_ne (ne_of_none this hl)]; exact this
    · rw [upd_ne (fun z => by subst z; exact n h0)]; exact e
  have g2 := g0.set (i := i) (v := .ref l) (r := .own [ordD ks]) m2 ⟨l, [.ref p], rfl, hHl, by rw [upd_ne (Ne.symm nlp)]; exact hnl, upd_same, .cons (.lst upd_same rowV_rp) .nil⟩
  refine k _ _ _ _ _ g2 _ (fun _ _ _ _ z => z.elim) (fun r S3 H3 v ⟨rows, er, hr, kr⟩ m rv => ?_) (fun _ _ _ _ z => z.elim) (fun _ _ _ _ z => z.elim)
  subst er
  obtain ⟨q, ys, rfl, q0, q1, q2, q3⟩ := rv
  obtain ⟨ps, rfl, ep, hp⟩ := rows_rp q3
  have keep : ∀ b o, H0 b = some o → H b = some o := fun b o e => g.mv.hh b o (fun z => z) e
  have back : ∀ {b}, H b = none → H0 b = none := fun {b} e => by
    cases e0 : H0 b with
    | none => rfl
    | some o => rw [keep b o e0] at e; cases e
  have s0 : ∀ {b}, H0 b = none → S0 b = none := fun {b} e => g.k1.1.ns e
  refine b _ S0 H3 _ kr ⟨⟨fun b o e => m.hh b o (fun z => z) (keep b o (g.k1.1.sh b o e)), fun _ z => z.elim, fun _ z => z.elim, trivial⟩, Same.refl _, fun b o _ e => m.hh b o (fun z => z) (keep b o e), fun b e _ => e⟩ ⟨q, ps, rfl, back q0, s0 (back q0), q2, ep, fun i p row e1 e2 => ?_⟩
  have hpS := hp i p row e1 e2
  obtain ⟨hne, hle⟩ := hr row (List.mem_of_getElem? e2)
  have hHp : H p = none := by
    cases e : H p with
    | none => rfl
    | some o =>
      cases e3 : noI S p with
      | none =>
        have := m.fr p e3 (by rw [e]; simp)
        rw [this] at hpS; cases hpS
      | some o' =>
        have z := m.ss p o' e3
        rw [hpS] at z
        cases z
        exact absurd ⟨row, hne, rfl⟩ (noI_some e3).2
  exact ⟨back hHp, s0 (back hHp), hne, hle, m.ok.sh p _ hpS⟩
end
end Den
namespace Den
open PySem PyProof.Rows L2 D3
section
variable {C : Addr} {ρ : Rsc} {S0 H0 Hs S H S1 H1 S2 H2 : Hp} {v : V} {r : Sl} {sl sl2 : List Sl} {σ : L2.St} {te ta tb tc t1 : TE} {K : Sl → Prop} {F F2 : PySem.W.Frag} {nx bk ct : List Sl → Prop} {rt : Sl → Prop} {i j : Nat} {tr : TS} {rows : List (List Nat)} {ks : List Nat}
theorem rp_rows : ∀ {ps : List Addr} {rows : List (List Nat)}, ps.length = rows.length → (∀ (i : Nat) (p : Addr) (row : List Nat), ps[i]? = some p → rows[i]? = some row → S p = some (.lst (rowV row))) → RpAll C S (ps.map V.ref) (rows.map ordD)
  | [], [], _, _ => .nil
  | [], _ :: _, h, _ => by simp at h
  | _ :: _, [], h, _ => by simp at h
  | p :: ps, row :: rows, h, k => .cons (.lst (k 0 p row rfl rfl) rowV_rp) (rp_rows (by simpa using h) fun i p row e1 e2 => k (i + 1) p row (by simpa using e1) (by simpa using e2))
theorem new_ne {l : Addr} {ps : List Addr} (hl : H l = some (.lst (ps.map V.ref))) (hlen : ps.length = rows.length) (hp : ∀ (i : Nat) (p : Addr) (row : List Nat), ps[i]? = some p → rows[i]? = some row → Hs p = none ∧ S p = none ∧ row ≠ [] ∧ row.length ≤ 1000 ∧ H p = some (.lst (rowV row))) : ∀ p ∈ ps, ∃ row, row.length ≤ 1000 ∧ Hs p = none ∧ S p = none ∧ H p = some (.lst (rowV row)) ∧ p ≠ l := fun p hm => by
  obtain ⟨i, hi⟩ := List.getElem?_of_mem hm
  have hi2 : i < rows.length := by
    rw [← hlen]
    rcases Nat.lt_or_ge i ps.length with h | h
    · exact h
    · rw [List.getElem?_eq_none h] at hi; cases hi
  obtain ⟨z1, z2, z3, z4, z5⟩ := hp i p _ hi (List.getElem?_eq_getElem hi2)
  refine ⟨_, z4, z1, z2, z5, fun z => ?_⟩
  subst z
  rw [hl] at z5
  cases ps with
  | nil => cases hm
  | cons q ps =>
    cases hrow : rows[i] with
    | nil => exact z3 hrow
    | cons k ks => rw [hrow] at z5; cases z5
/-- .. as data -/
theorem frzN (k : Ok ρ S H) (a1 : Mv ρ S H S1 H1) (P : (lstNew rows).p H S1 H1 v) : ∃ (l : Addr) (ps : List Addr) (S3 : Hp), v = .ref l ∧ H l = none ∧ H1 l = some (.lst (ps.map V.ref)) ∧ (∀ p ∈ ps, ∃ row : List Nat, row.length ≤ 1000 ∧ H p = none ∧ H1 p = some (.lst (rowV row)) ∧ p ≠ l) ∧ ps.length = rows.length ∧ Mv ρ S H S3 H1 ∧ Rp C S3 v (.lst (rows.map ordD)) := by
  obtain ⟨l, ps, rfl, h1, h2, h3, h4, h5⟩ := P
  have hne := new_ne h3 h4 h5
  refine ⟨l, ps, (fun b => if b = l ∨ b ∈ ps then H1 b else S1 b), rfl, h1, h3, fun p hp => let ⟨row, a, b, _, c, d⟩ := hne p hp; ⟨row, a, b, c, d⟩, h4, ⟨⟨fun b o e => ?_, fun b m => ?_, a1.ok.t, a1.ok.r⟩, fun b o e => ?_, a1.hh, fun b e n => ?_⟩, ?_⟩
  · have e : (if b = l ∨ b ∈ ps then H1 b else S1 b) = some o := e
    by_cases hb : b = l ∨ b ∈ ps
    · rw [if_pos hb] at e; exact e
    · rw [if_neg hb] at e; exact a1.ok.sh b o e
  · show (if b = l ∨ b ∈ ps then H1 b else S1 b) = none
    have hb : ¬ (b = l ∨ b ∈ ps) := fun z => by
      rcases z with rfl | z
      · exact k.nm h1 m
      · obtain ⟨_, _, z1, _⟩ := hne b z; exact k.nm z1 m
    rw [if_neg hb]; exact a1.ok.m b m
  · show (if b = l ∨ b ∈ ps then H1 b else S1 b) = some o
    have e1 := a1.ss b o e
    by_cases hb : b = l ∨ b ∈ ps
    · rw [if_pos hb]; exact a1.ok.sh b o e1
    · rw [if_neg hb]; exact e1
  · show (if b = l ∨ b ∈ ps then H1 b else S1 b) = none
    have hb : ¬ (b = l ∨ b ∈ ps) := fun z => by
      rcases z with rfl | z
      · exact n h1
      · obtain ⟨_, _, z1, _⟩ := hne b z; exact n z1
    rw [if_neg hb]; exact a1.fr b e n
  · refine .lst (xs := ps.map V.ref) ?_ (rp_rows h4 fun i p row e1 e2 => ?_)
    · show (if l = l ∨ l ∈ ps then H1 l else S1 l) = _
      rw [if_pos (.inl rfl)]; exact h3
    · show (if p = l ∨ p ∈ ps then H1 p else S1 p) = _
      rw [if_pos (.inr (List.mem_of_getElem? e1))]; exact (h5 i p row e1 e2).2.2.2.2
theorem xtoldN (h : XD C ρ te sl (.bcell (lstNew rows))) : XD C ρ te sl (.dat (.lst (rows.map ordD))) := fun S0 H0 S H σ g Q q => by
  refine h S0 H0 S H σ g _ fun r S1 H1 v er a1 ok1 => ?_
  subst er
  obtain ⟨l, ps, S3, rfl, _, _, _, _, m, rp⟩ := frzN (C := C) g.k a1 ok1
  exact q _ S3 H1 _ rfl m rp
/-- x = f(..), looked at twice; then for y in x: y.append(0) -/
theorem sd_tellN {tt1 tt2 : TT} {tu1 tu2 : TS} (h : WX C ρ te sl fun r => r = .bcell (lstNew rows)) (hi : i < sl.length) (hj : j < sl.length) (hij : i ≠ j) (hrl : rows.length ≤ 1000)
    (c1 : TD C ρ tt1 (sl.set i (.dat (.lst (rows.map ordD)))) false) (c2 : TD C ρ tt2 (sl.set i (.dat (.lst (rows.map ordD)))) false) (hr : SD C ρ tr ((sl.set i .any).set j .any) nx rt bk ct) :
    SD C ρ (tSeq (tAsg te (gName i)) (tSeq (tIfS tt1 tu1 tNext) (tSeq (tIfS tt2 tu2 tNext) (tSeq (tFor (iList F (tVar i)) (gName j) (tDrop (tBM F2 "list" rAppend (tVar j) (tCons (tC (.int 0)) tNil)))) tr)))) sl nx rt bk ct := fun S0 H0 S H σ g D a b c d => by
  refine h S0 H0 S H σ g _ fun r S1 H1 v er a1 ok1 => ?_
  subst er
  obtain ⟨l, ps, S3, rfl, h1, h3, hne, hlen, m, rp⟩ := frzN (C := C) g.k a1 ok1
  have g2 := g.set (i := i) m (r := .dat (.lst (rows.map ordD))) rp
  refine c1 S0 H0 _ H1 _ g2 _ fun bb S4 H4 eb a3 => ?_
  subst eb
  rw [if_neg (by decide)]
  refine c2 S0 H0 _ H4 _ (g2.move a3) _ fun bb S5 H5 eb a4 => ?_
  subst eb
  rw [if_neg (by decide)]
  have A := (m.trans g.k a3).trans g.k a4
  have kp : ∀ b o, H b = none → H1 b = some o → H5 b = some o := fun b o hb e => a4.hh b o (g.k.nm hb) (a3.hh b o (g.k.nm hb) e)
  have hl5 := kp l _ h1 h3
  have hli : i < σ.length := by rw [g.len]; exact hi
  have hlj : j < σ.length := by rw [g.len]; exact hj
  have hσ : (σ.set i (some (V.ref l)))[i]? = some (some (V.ref l)) := List.getElem?_set_self hli
  refine ⟨_, hσ, l, rfl, ⟨_, SqL.of hl5⟩, ?_⟩
  refine for_list (K := F) (a := l) (xs := ps.map V.ref) (fun k σ' H' => (∃ o, σ' = (σ.set i (some (V.ref l))).set j o) ∧ Mv ρ S H S H' ∧ H' l = some (.lst (ps.map V.ref)) ∧ ∀ p ∈ ps, ∃ xs, H' p = some (.lst xs) ∧ xs.length ≤ 1000 + k) ⟨⟨(σ.set i (some (V.ref l)))[j]?.getD none, ?_⟩, Mv.shrink g.k A, hl5, fun p hp => ?_⟩ (fun k σ' H' _ ⟨_, _, hl, _⟩ => SqL.of hl) ?_ ?_
  · refine List.ext_getElem? fun m => ?_
    by_cases hm : j = m
    · subst hm
      rw [List.getElem?_set_self (by rw [List.length_set]; exact hlj)]
      rw [List.getElem?_eq_getElem (by rw [List.length_set]; exact hlj)]; rfl
    · rw [List.getElem?_set_ne hm]
  · obtain ⟨row, z1, z2, z3, _⟩ := hne p hp
    exact ⟨_, kp p _ z2 z3, by unfold rowV; rw [List.length_map]; omega⟩
  · rintro k x σ' H' hx ⟨⟨o, rfl⟩, mv, hl, hps⟩
    have hk : k < ps.length := by
      rcases Nat.lt_or_ge k ps.length with h | h
      · exact h
      · rw [List.getElem?_map, List.getElem?_eq_none h] at hx; cases hx
    rw [List.getElem?_map, List.getElem?_eq_getElem hk] at hx
    cases hx
    have hpm : ps[k] ∈ ps := List.getElem_mem _
    generalize ps[k] = p at hpm
    obtain ⟨row, z1, z2, z3, z4⟩ := hne p hpm
    obtain ⟨xs, hp, hxl⟩ := hps p hpm
    have ev : (((σ.set i (some (V.ref l))).set j o).set j (some (V.ref p)))[j]? = some (some (V.ref p)) := List.getElem?_set_self (by rw [List.length_set, List.length_set]; exact hlj)
    refine ⟨_, ev, .inl ⟨rfl, _, .inl (.inl hp)⟩, p, xs, .int 0, rfl, rfl, hp, by rw [sizeLine_eq]; omega, ⟨some (.ref p), by rw [List.set_set]⟩, Mv.mut g.k mv z2 (g.k.ns z2) (nt_lst hp), by rw [upd_ne (Ne.symm z4)]; exact hl, fun p' hp' => ?_⟩
    by_cases e : p' = p
    · subst e; exact ⟨_, upd_same, by rw [List.length_append]; simp; omega⟩
    · obtain ⟨ys, y1, y2⟩ := hps p' hp'
      exact ⟨ys, by rw [upd_ne e]; exact y1, by omega⟩
  · rintro σ' H' ⟨⟨o, rfl⟩, mv, hl, hps⟩
    show tr D _ H'
    exact sd_from hr (((g.move mv).setAny i (some (V.ref l))).setAny j o) (Same.refl S) a b c d
end
end Den
namespace Den
open PySem PyProof.Rows L2 D3
theorem stepO_mem {us : List Tie} {fs : List (List Nat)} {r : List Nat} (h : r ∈ stepO us fs) : r ∈ fs ∨ ∃ q ∈ fs, ∃ a b, r = turnN q a b := by
  unfold stepO at h
  split at h
  · exact .inl h
  · rename_i a l e
    rcases List.mem_append.mp h with h | h
    · exact .inl h
    · obtain rfl := List.mem_singleton.mp h
      cases fs with
      | nil => cases e
      | cons f fs =>
        refine .inr ⟨_, ?_, _, _, rfl⟩
        rw [List.getLastD_eq_getLast?, List.getLast?_eq_some_getLast (by simp)]
        exact List.getLast_mem _
theorem openW_perm {n : Nat} {ks : List Nat} (hk : ks.Perm (List.range n)) : ∀ us, ∀ r ∈ openW n ks us, r.Perm (List.range n) :=
  closing_ind (fun us h r hr => by rw [openW_none h] at hr; obtain rfl := List.mem_singleton.mp hr; exact hk) fun us p h ih r hr => by
    rw [openW_some h] at hr
    rcases stepO_mem hr with h | ⟨q, hq, a, b, rfl⟩
    · exact ih r h
    · exact (turnN_perm _ _ _).trans (ih q hq)
def fn_p_openedN := FnP yoEnc (fun x => x.Ok ∧ x.ks.Perm (List.range x.n) ∧ 3 ≤ x.n ∧ gapsN (clN x.n x.ts) x.ks = []) (fun x K => K (.bcell (lstNew (openW x.n x.ks x.ts))))
def BadBack (x : YX) : Prop := 1 ≤ x.n ∧ x.n ≤ 30 ∧ ValidY x.n x.ts ∧ ∃ ks : List Nat, ks.Perm (List.range x.n) ∧ x.ks = (ks.map fun (k : Nat) => (k : Int)) ∧ (x.n < 3 ∨ gapsN (clN x.n x.ts) ks ≠ [])
def fn_p_opened_x (D : Addr) := FnX yxEnc (fun x er => (NoOrder x ∨ BadBack x) ∧ er = erO D)
def fn_l_refusedB := FnP yxEnc (fun x => NoOrder x ∨ BadBack x) (fun _ K => K (.dat (.bl true)))
theorem srt_perm {n : Nat} {ks : List Int} (h : srtZ ks = rngZ n) : ks.Perm (rngZ n) := by
  rw [← h]; exact (srtZ_perm ks).symm
/-- what is no order of all places -/
theorem no_order {n : Nat} {ts : List Tie} {ks : List Int} {a b : Int} (hn : n ≤ 30) (hv : ValidY n ts) (hl : ks.length ≤ 1000) (h : ¬ ks.Perm (rngZ n)) : NoOrder ⟨n, ts, ks, a, b⟩ := ⟨hn, hv, hl, fun e => h (srt_perm e)⟩
end Den
namespace Den
open PySem PyProof.Rows L2 D3
theorem eqD_ord (a b : List Nat) : eqD (ordD a) (ordD b) = decide (a = b) := eqD_nats a b
theorem eqD_ords (xs ys : List (List Nat)) : eqD (.lst (xs.map ordD)) (.lst (ys.map ordD)) = decide (xs = ys) := eqD_lst_map ordD eqD_ord xs ys
theorem plD_ord (n : Nat) (a : List Nat) : plD (n + 1) (ordD a) = true := plD_lst_map fun p _ => plD_natD _ p
theorem plD_ords (xs : List (List Nat)) : plD 64 (.lst (xs.map ordD)) = true := plD_lst_map fun p _ => plD_ord _ p
theorem alD_rows {k : Nat} {xs : List (List Nat)} (h : xs.length ≤ 100000) (h2 : ∀ x ∈ xs, x.length ≤ 100000) : alD (k + 3) (.lst (xs.map ordD)) = true := by
  rw [alD, Bool.and_eq_true]
  refine ⟨by simpa using h, List.all_eq_true.mpr fun x hx => ?_⟩
  obtain ⟨r, hr, rfl⟩ := List.mem_map.mp hx
  exact alD_nats (h2 r hr)
theorem cut1 (ks : List Nat) : cutD (ks.map natD) (some 1) none = (ks.drop 1).map natD := by
  have h : cutD (ks.map natD) (some ((1 : Nat) : Int)) none = (ks.drop 1).map natD := by
    rw [cut_from, List.map_drop]
    by_cases h : 1 ≤ (ks.map natD).length
    · rw [Nat.min_eq_left h]
    · have : ks.map natD = [] := List.eq_nil_of_length_eq_zero (by omega)
      rw [this]; simp
  exact h
theorem castN_mem {k : Nat} {ks : List Nat} : ((k : Int) ∈ ks.map fun (x : Nat) => (x : Int)) ↔ k ∈ ks := by
  rw [List.mem_map]
  exact ⟨fun ⟨a, h, e⟩ => by have : a = k := by omega
                             rw [← this]; exact h, fun h => ⟨k, h, rfl⟩⟩
theorem not_perm_in {n : Nat} {ks : List Nat} (h : n ∈ ks) : ¬ (ks.map fun (x : Nat) => (x : Int)).Perm (rngZ n) := fun p => by
  have := p.subset (castN_mem.mpr h)
  have := castN_mem.mp this
  rw [List.mem_range] at this; omega
theorem not_perm_len {n : Nat} {ks : List Nat} (h : ks.length ≠ n) : ¬ (ks.map fun (x : Nat) => (x : Int)).Perm (rngZ n) := fun p => by
  have := p.length_eq
  unfold rngZ at this
  simp at this; exact h this
theorem not_perm_nd {n : Nat} {ks : List Nat} (h : ¬ ks.Nodup) : ¬ (ks.map fun (x : Nat) => (x : Int)).Perm (rngZ n) := fun p => by
  have h1 : (rngZ n).Nodup := by
    unfold rngZ
    exact List.Pairwise.map _ (fun a b hab z => hab (by omega)) List.nodup_range
  have h2 := p.nodup_iff.mpr h1
  refine h ?_
  have := List.pairwise_map.mp h2
  exact this.imp fun hab z => hab (by rw [z])
theorem cut12 (ks : List Nat) : cutD (ks.map natD) (some 1) (some 2) = ((ks.drop 1).take 1).map natD := by
  have h : D3.cutD (ks.map natD) (some ((1 : Nat) : Int)) (some ((2 : Nat) : Int)) = ((ks.drop 1).take 1).map natD := by
    match ks with
    | [] => rfl
    | [a] => rfl
    | a :: b :: r =>
      unfold D3.cutD
      rw [HT.sIx_nat, HT.sIx_nat, Nat.min_eq_left (by simp), Nat.min_eq_left (by simp)]
      rfl
  exact h
end Den
/-! Lambdas without parameters that are kept in a list and called by another def. -/
namespace LamK
open PySem PySem.Spec PyProof.Rows L2 LamX NdefX
/-- the made lambda: its words, the cells that it captured, its code object -/
structure LF where
  qual : Str
  params : Arguments
  body : Expr
  scope : Scope
  cl : List (Str × Addr)
  c : Addr
/-- the object at f is the lambda F -/
def LamO (f : Addr) (F : LF) : HO := .ext fun h => ∃ pm ctv : Value, h.get? f = some (PySem.W.kla_obj "<lambda>" F.qual F.params F.body F.scope F.cl pm F.c ctv)
theorem lamO_at {P : Program} {w : World} {H : Hp} {h : Heap} {f : Addr} {F : LF} (hok : HOk P w H h) (e : H f = some (LamO f F)) : ∃ pm ctv : Value, h.get? f = some (PySem.W.kla_obj "<lambda>" F.qual F.params F.body F.scope F.cl pm F.c ctv) := by
  obtain ⟨z, _, _⟩ := hok f _ e
  exact z
section
variable {X : Cx} {pins : List (Addr × Obj)} {σ : L2.St} {H : Hp} {s : Shared}
theorem inv_lamO {F : LF} {t' : Nat} {pm ctv : Value} (I : Inv X pins σ H s) :
    Inv X pins σ (upd H s.heap.objs.size (LamO s.heap.objs.size F)) { s with heap := s.heap.push (PySem.W.kla_obj "<lambda>" F.qual F.params F.body F.scope F.cl pm F.c ctv), toks := t' } := by
  refine I.laid (a := s.heap.objs.size) (fun b u e => Heap.get?_push_of_some _ e) (Nat.le_refl _) ?_
  have e : (s.heap.push (PySem.W.kla_obj "<lambda>" F.qual F.params F.body F.scope F.cl pm F.c ctv)).get? s.heap.objs.size = some (PySem.W.kla_obj "<lambda>" F.qual F.params F.body F.scope F.cl pm F.c ctv) := Heap.get?_push_size _ rfl
  exact ⟨⟨pm, ctv, e⟩, ⟨_, e⟩, fun h1 h2 ⟨p, t, z⟩ st => ⟨p, t, st _ z⟩⟩
/-- the lambda is made and known from now on -/
theorem lam_makeO {T : List (Addr × Str)} {c P : Addr} {params : Arguments} {body : Expr} {scope : Scope} {pos : Pos} {E : Value → Shared → Prop} {Q : Value → Shared → Prop} (I : Inv X pins σ H s) (TB : TabB X.base X.mg c P) (hcode : X.env.code = .ref c)
    (hm : (P, X.env.qual ++ "<lambda>") ∈ T) (hu : ∀ p ∈ T, p.1 = P → p.2 = X.env.qual ++ "<lambda>") (hT : Tabs T H) (hdef : defaultsOf params X.env = ([], [])) (hfree : ∀ y ∈ scope.names, y.2 = .free → ∃ c, X.env.cells.lookup y.1 = some c)
    (h : ∀ (f c' : Addr) (H1 : Hp) (s' : Shared), Inv X pins σ H1 s' → (∀ b o, H b = some o → b ≠ P → H1 b = some o) → (∀ b, H1 b = none → H b = none) → Tabs T H1 → H f = none → H1 f = some (LamO f ⟨X.env.qual ++ "<lambda>", params, body, scope, cloFrom X.env.cells scope.names [], c'⟩) → H1 c' = some (CodeO c' (X.env.qual ++ "<lambda>")) → Q (.ref f) s') :
    wpAny (model X.prog X.w) X.A (eval (.Lambda params body scope pos) X.env) Q E s := by
  obtain ⟨ps, hP, ht, ha⟩ := hT _ hm
  refine PySem.W.kla_eval hdef ?_
  have bP : s.heap.BuiltinsAt X.mg P := TB.bm.keeps I.bk
  have hP' : s.heap.get? P = some { cls := .none, data := .fields ps } := I.hok P _ hP
  cases hc : codeAmong pos ps.toList with
  | none =>
    refine PySem.W.kla_makeFunction (mg := X.mg) (c := c) (P := P) (ps := ps) (closure_ok hfree) I.ok.glob (I.mod.glob.keeps I.bk) hcode (TB.code.keeps I.bk) hP' ht hc TB.gP bP fun c' ctv h' tk hx hge hlt hrec htb => ?_
    obtain ⟨c2, oc, vs, t, e2, hoc, hd, hv⟩ := hrec
    cases e2
    have nC : H c' = none := I.hok.fresh hge
    have I1 := inv_table (t' := tk) (more := #[rawInt pos.line, rawInt pos.col, .ref c']) (h' := h') I hP (fun b o hb e => hx b o hb e) htb hge ⟨oc, vs, t, hoc, hd, hv⟩
    have hE : ExtN H (upd (upd H P (.tbl (ps ++ #[rawInt pos.line, rawInt pos.col, .ref c']))) c' (CodeO c' (X.env.qual ++ "<lambda>"))) := fun b o e n => by
      rw [upd_ne (ne_of_none e nC), upd_ne (fun z => n ps (Option.some.inj (e.symm.trans (by rw [z]; exact hP))))]
      exact e
    have eL : (ps ++ #[rawInt pos.line, rawInt pos.col, .ref c']).toList = ps.toList ++ [rawInt pos.line, rawInt pos.col, .ref c'] := by simp
    have T1 : Tabs T (upd (upd H P (.tbl (ps ++ #[rawInt pos.line, rawInt pos.col, .ref c']))) c' (CodeO c' (X.env.qual ++ "<lambda>"))) := fun p hp => by
      by_cases hb : p.1 = P
      · rw [hu p hp hb, hb]
        refine ⟨_, by rw [upd_ne (ne_of_none hP nC), upd_same], by rw [eL]; exact PySem.TriplesOk_snoc _ _ _ _ ht, fun p' cv hcv => ?_⟩
        rw [eL] at hcv
        rcases among_app _ ht hcv with z | z
        · obtain ⟨c0, e1, e2⟩ := ha p' cv z
          exact ⟨c0, e1, hE _ _ e2 codeO_ne⟩
        · exact ⟨c', z, upd_same⟩
      · obtain ⟨ps', a1, a2, a3⟩ := hT p hp
        refine ⟨ps', by rw [upd_ne (ne_of_none a1 nC), upd_ne hb]; exact a1, a2, fun p' cv hcv => ?_⟩
        obtain ⟨c0, e1, e2⟩ := a3 p' cv hcv
        exact ⟨c0, e1, hE _ _ e2 codeO_ne⟩
    have nF := I1.hok.fresh (Nat.le_refl _)
    have I2 := inv_lamO (F := ⟨X.env.qual ++ "<lambda>", params, body, scope, cloFrom X.env.cells scope.names [], c'⟩) (t' := tk) (pm := (X.mg "__name__").getD .none) (ctv := ctv) I1
    refine h h'.objs.size c' _ _ I2 (fun b o e n => ?_) (fun b e => upd_none (upd_none (upd_none e))) (T1.ext fun b o e => ?_) (I.hok.fresh (Nat.le_trans hge (Nat.le_of_lt hlt))) upd_same ?_
    · have e1 : upd (upd H P (.tbl (ps ++ #[rawInt pos.line, rawInt pos.col, .ref c']))) c' (CodeO c' (X.env.qual ++ "<lambda>")) b = some o := by
        rw [upd_ne (ne_of_none e nC), upd_ne n]; exact e
      exact (upd_ne (ne_of_none e1 nF)).trans e1
    · exact (upd_ne (ne_of_none e nF)).trans e
    · exact (upd_ne (Nat.ne_of_lt hlt)).trans upd_same
  | some cv =>
    obtain ⟨c', e, hco⟩ := ha pos cv hc
    subst e
    refine PySem.W.kla_makeFunctionHit (mg := X.mg) (c := c) (P := P) (ps := ps) (closure_ok hfree) I.ok.glob (I.mod.glob.keeps I.bk) hcode (TB.code.keeps I.bk) hP' ht hc bP fun ctv h' tk hx hsz => ?_
    have I1 : Inv X pins σ H { s with heap := h', toks := tk } := I.kept hx
    have nF : H h'.objs.size = none := I1.hok.fresh (Nat.le_refl _)
    have I2 := inv_lamO (F := ⟨X.env.qual ++ "<lambda>", params, body, scope, cloFrom X.env.cells scope.names [], c'⟩) (t' := tk) (pm := (X.mg "__name__").getD .none) (ctv := ctv) I1
    refine h h'.objs.size c' _ _ I2 (fun b o e n => ?_) (fun b e => upd_none e) (hT.ext fun b o e => ?_) nF upd_same ?_
    · exact (upd_ne (ne_of_none e nF)).trans e
    · exact (upd_ne (ne_of_none e nF)).trans e
    · exact (upd_ne (ne_of_none hco nF)).trans hco
end
/-- the reading of «lambda: ..» -/
def tLamE (T : List (Addr × Str)) (P : Addr) (mk : Addr → LF) : TE := fun σ H Q => Tabs T H ∧ ∀ (f c' : Addr) (H1 : Hp), (∀ b o, H b = some o → b ≠ P → H1 b = some o) → (∀ b, H1 b = none → H b = none) → Tabs T H1 → H f = none → H1 f = some (LamO f (mk c')) → H1 c' = some (CodeO c' (mk c').qual) → Q (.ref f) H1
theorem pe_lam {X : Cx} {T : List (Addr × Str)} {c P : Addr} {params : Arguments} {body : Expr} {scope : Scope} {pos : Pos} (TB : TabB X.base X.mg c P) (hcode : X.env.code = .ref c) (hm : (P, X.env.qual ++ "<lambda>") ∈ T) (hu : ∀ p ∈ T, p.1 = P → p.2 = X.env.qual ++ "<lambda>") (hdef : defaultsOf params X.env = ([], [])) (L : LamS X.env.scope scope) :
    PE X (.Lambda params body scope pos) (tLamE T P fun c' => ⟨X.env.qual ++ "<lambda>", params, body, scope, cloFrom X.env.cells scope.names [], c'⟩) := by
  refine ⟨fun pins s σ H Q I h => ?_⟩
  obtain ⟨hT, h⟩ := h
  exact lam_makeO I TB hcode hm hu hT hdef (L.has I.ok) fun f c' H1 s' I1 eN nn T1 f0 f1 c1 => ⟨.ref f, H1, I1, rfl, h f c' H1 eN nn T1 f0 f1 c1⟩
end LamK
namespace LamK
open PySem PySem.Spec PyProof.Rows L2 LamX NdefX
abbrev LF.nf (F : LF) : NF := ⟨"<lambda>", F.qual, F.params, [], F.scope, F.cl, F.c⟩
/-- what a lambda promises; ws: what its captured cells hold at the call -/
structure LOk (P : Program) (w : World) (K : PySem.W.Frag) (mg : Str → Option Value) (base : Heap) (CX : CXT) (k : Nat) (f : Addr) (F : LF) (fr : List Str) (sp : List (Option V) → Sp) : Prop where
  run : ∀ (A : Around) (outer : List Env) (s : Shared) (H : Hp) (ws : List (Option V)) (Q : VK) (E : XK), Room k A → Env0 P w K mg base A outer s H → H f = some (LamO f F) → H F.c = some (CodeO F.c F.qual) →
    CellsAt F.cl fr ws s.heap H → sp ws [] H Q E → codeAny (model P w) A (.call (.ref f) ⟨[], []⟩) (CR CX outer P w H s Q E) s
section
variable {CX : CXT} {P : Program} {w : World} {K : PySem.W.Frag} {mg : Str → Option Value} {base : Heap} {fr : List Str} {F : LF} {f : Addr} {k j : Nat} {sp sp' : List (Option V) → Sp}
theorem LOk.mono (o : LOk P w K mg base CX j f F fr sp) (h : j ≤ k) : LOk P w K mg base CX k f F fr sp := ⟨fun A outer s H ws Q E hr => o.run A outer s H ws Q E (hr.mono h)⟩
theorem lok_of (S : NScope fr [] fr F.scope) (hb : ∀ (pm ctv : Value), bindArgs (PySem.W.kla_fn "<lambda>" F.qual F.params F.body F.scope F.cl pm (.ref F.c) ctv) ⟨[], []⟩ = pure [])
    (hbody : ∀ (A : Around) (outer : List Env) (s : Shared) (H : Hp) (ws : List (Option V)) (Q : VK) (E : XK), Room k (A.deeper (envF F.nf f s.heap.objs.size)) → ws.length = fr.length → sp ws [] H Q E →
      ∃ t, PE (ncx CX P w K mg base fr F.nf f A outer s H E) F.body t ∧ t (startF fr [] ws) H Q) :
    LOk P w K mg base CX (k + 1) f F fr sp := by
  refine ⟨fun A outer s H ws Q E hr e0 hf hc C hsp => ?_⟩
  have lim : s.heap.NoLimit := e0.mod.nolimit.keeps fun b o e => (e0.bs b o e).1
  obtain ⟨pm, ctv, ho⟩ := lamO_at e0.hok hf
  refine PySem.W.kla_callFunE hr.depth ho rfl S.co S.gen rfl (codeO_at e0.hok hc) ?_
  rw [hb pm ctv]
  refine wpAny_pure (wpAny_newFunctionEnv S.nocell (fun y hy => absurd hy (by simp)) (fun h₁ hns hsb => ⟨lim.fresh _ hsb, ?_⟩) S.kind)
  show codeAny _ _ (.expr F.body (envF F.nf f s.heap.objs.size)) _ _
  have kp : ∀ b o, s.heap.get? b = some o → h₁.get? b = some o := fun b o e => hsb.extBut b o (Nat.ne_of_lt (Heap.lt_size e)) (Heap.get?_push_of_some _ e)
  obtain ⟨t, ht, hq⟩ := hbody A outer s H ws Q E (hr.deeper _) C.len hsp
  have I : Inv (ncx CX P w K mg base fr F.nf f A outer s H E) [] (startF fr [] ws) H { s with heap := h₁, toks := s.toks + ([] : List (Str × Value)).length } :=
    inv_startN (ps := []) (us := []) (vs := []) S hr.hd e0 rfl .nil C hns kp
  refine PySem.W.kla_codeExpr (wpAny_mono (ht.run [] _ _ H Q I hq) (fun v s' hq => ?_) fun e s' hq => hq)
  obtain ⟨w', H', J', rv, q⟩ := hq
  exact ⟨w', H', J'.os, J'.bare, J'.base, J'.hok, rv, q⟩
end
end LamK
namespace LamK
open PySem PySem.Spec PyProof.Rows L2 LamX NdefX
section
variable {X : Cx} {CX : CXT} {fr : List Str} {F : LF} {f : Addr} {k i : Nat} {sp : List (Option V) → Sp} {E : L2.St → XK} {x : Str} {p pos : Pos} {ws : List (Option V)}
/-- x(), x a name that holds a lambda whose cells are not ours; what goes wrong is told to a try -/
theorem pe_workS (Lk : LOk X.prog X.w X.K X.mg X.base CX k f F fr sp) (hr : Room k X.A) (hx : ∀ σ, PassesAt CX X σ (E σ)) (hN : X.N[i]? = some x) (hv : Vis X.env.scope x) (C : CellsAt F.cl fr ws X.s_0.heap X.H_0) (nf : ∀ y c, F.cl.lookup y = some c → c ∉ X.fs) (nx : ∀ y c, F.cl.lookup y = some c → c ∉ X.ex)
    (hdb : (x == ("__debug__" : Str)) = false := by decide) (hcd : (x == ("__classdict__" : Str)) = false := by decide) :
    PE X (.Call (.Name x p) [] [] pos) (fun σ H Q => σ[i]? = some (some (.ref f)) ∧ H f = some (LamO f F) ∧ H F.c = some (CodeO F.c F.qual) ∧ sp ws [] H Q (E σ)) := by
  refine ⟨fun pins s σ H Q I h => ?_⟩
  obtain ⟨hs, hf, hc, q⟩ := h
  refine wpAny_Call_Name_kw (thn ((pe_var (pos := p) hN hv hdb hcd).run pins s σ H (fun v H1 => v = .ref f ∧ H1 = H) I ⟨.ref f, hs, rfl, rfl⟩) fun u s1 ⟨v, H1, I1, r1, q1⟩ => ?_)
  obtain ⟨ev, eH⟩ := q1
  subst ev
  rw [eH] at I1
  obtain rfl : u = Value.ref f := r1
  obtain ⟨pm, ctv, ho⟩ := lamO_at I1.hok hf
  refine PySem.W.callWith_F0 (first := []) ⟨_, _, _, _, ho⟩ ?_
  show wpAny _ _ (call (.ref f) []) _ _ _
  refine wpAny_call (codeAny_mono (Lk.run X.A X.stack s1 H ws Q (E σ) hr I1.env0 hf hc (C.later nf nx I1) q) fun r s' hq => ?_)
  cases r with
  | error e => exact hx σ pins _ _ e s' I1 hq
  | ok fl =>
    cases fl with
    | ret u => exact I1.after hq
    | next => exact False.elim hq
    | brk => exact False.elim hq
    | cont => exact False.elim hq
end
end LamK
namespace LamK
open PySem PySem.Spec PyProof.Rows L2 LamX NdefX
section
variable {X : Cx} {pins : List (Addr × Obj)} {σ : L2.St} {H : Hp} {s : Shared}
theorem cells_nf (I : Inv X pins σ H s) (hfn : ∀ y, X.fn y = true) {y : Str} {c : Addr} (e : X.env.cells.lookup y = some c) : c ∉ frs X.stack := fun z => by
  rcases List.mem_cons.mp (I.stkSub c z) with h | h
  · exact I.cne y c e h
  · obtain ⟨_, o, ho, _⟩ := I.ok.funs.mem h
    exact absurd (Nat.lt_of_lt_of_le (Heap.lt_size ho) (I.ok.cab y c (hfn y) e)) (Nat.lt_irrefl _)
end
/-- a def that is handed a lambda and calls it -/
structure CallC (P : Program) (w : World) (K : PySem.W.Frag) (mg : Str → Option Value) (base : Heap) (k : Nat) (g : Addr) (fd : FuncData) (ps : List Str) (f : Addr) (F : LF) (fr : List Str) (sp : List (Option V) → Hp → VK → Prop) : Prop where
  run : ∀ (A : Around) (outer : List Env) (s : Shared) (H : Hp) (args : Args) (us : List Value) (ws : List (Option V)) (Q : VK), Room k A → Env0 P w K mg base A outer s H → BindsTo s fd args (ps.zip us) → us = [.ref f] → H f = some (LamO f F) → H F.c = some (CodeO F.c F.qual) →
    CellsAt F.cl fr ws s.heap H → (∀ y c, F.cl.lookup y = some c → c ∉ frs outer) → sp ws H Q → codeAny (model P w) A (.call (.ref g) args) (CR C8.CX0 outer P w H s Q C8.E0) s
section
variable {X : Cx} {g : Addr} {fd : FuncData} {ps fr : List Str} {k : Nat} {mk : Nat → Addr → LF} {cl : List (Str × Addr)} {js : List Nat} {sp : Nat → Addr → Addr → List (Option V) → Hp → VK → Prop} {x : Str} {p pos : Pos} {e : Expr} {t : TA}
/-- g(e), e a lambda that was made in this frame -/
def tCallC (mk : Nat → Addr → LF) (js : List Nat) (sp : Nat → Addr → Addr → List (Option V) → Hp → VK → Prop) (t : TA) : TE := fun σ H Q => t σ H fun vs H1 => ∃ (m : Nat) (f c' : Addr), vs = [.ref f] ∧ H1 f = some (LamO f (mk m c')) ∧ H1 (mk m c').c = some (CodeO (mk m c').c (mk m c').qual) ∧ sp m f c' (js.map (slotAt σ)) H1 Q
theorem pe_callC (F : ∀ m f c', CallC X.prog X.w X.K X.mg X.base k g fd ps f (mk m c') fr (sp m f c')) (hcl : ∀ m c', (mk m c').cl = cl) (cp : X.Ok → Caps X cl fr js) (hfn : ∀ y, X.fn y = true) (hr : Room k X.A) (hg : Gl X x) (hm : X.mg x = some (.ref g)) (hk : PySem.W.keepIn X.K (.ref g) = true) (hb : Binds X.K fd ps []) (hlen : ps.length = 1)
    (ha : PA X [e] t) (hdb : (x == ("__debug__" : Str)) = false := by decide) (he : starEach [e] X.env = (false, eval e X.env) :: starEach [] X.env := by rfl) (hpl : (backTo pos (starEach [] X.env)).any (·.1) = false := by rfl) :
    PE X (.Call (.Name x p) [e] [] pos) (tCallC mk js sp t) := by
  refine ⟨fun pins s σ H Q I h => ?_⟩
  refine wpAny_Call_Name_kw (ld_glob I hg hm ?_ hdb)
  refine PySem.W.callWith_K (h₀ := X.base) I.ok.mod.kin hk (thn (ha.run pos pins s σ H _ I h) fun us s1 ⟨vs, H1, I1, r, q⟩ => ⟨I1.kIn, ?_⟩) he hpl
  obtain ⟨m, f, c', ev, hf, hc, q⟩ := q
  subst ev
  obtain ⟨rfl⟩ : us = [.ref f] := by
    cases r with
    | cons r1 rr => cases rr; cases r1; rfl
  have C : CellsAt (mk m c').cl fr (js.map (slotAt σ)) s1.heap H1 := by rw [hcl m c']; exact cells_of I1 (cp I1.ok)
  refine wpAny_call (codeAny_mono ((F m f c').run X.A X.stack s1 H1 _ [.ref f] _ Q hr I1.env0 ?_ rfl hf hc C (fun y c e => ?_) q) fun r s' hq => ?_)
  · have b := hb s1 [.ref f] I1.kIn (by rw [List.append_nil, hlen]; rfl)
    rw [List.append_nil] at b
    exact b
  · rw [hcl m c'] at e
    exact cells_nf I1 hfn ((cp I1.ok).sub y c e)
  · cases r with
    | error e => exact (show False from hq).elim
    | ok fl =>
      cases fl with
      | ret u => exact I1.after hq
      | next => exact False.elim hq
      | brk => exact False.elim hq
      | cont => exact False.elim hq
end
end LamK
namespace LamK
open PySem PySem.Spec PyProof.Rows L2 LamX NdefX
theorem callC_of {P : Program} {w : World} {K : PySem.W.Frag} {mg : Str → Option Value} {base : Heap} {k : Nat} {x qual a : Str} {st : Stmt} {g : Addr} {fd : FuncData} {N : List Str} {f : Addr} {F : LF} {fr : List Str} {sp : List (Option V) → Hp → VK → Prop} (Fn : L2.Fun K x qual st g fd) (S : FnScope N [a] (L2.defScope st))
    (hbody : ∀ (cdv : Value) (A : Around) (outer : List Env) (s : Shared) (H : Hp) (ws : List (Option V)) (Q : VK), Room k (A.deeper (envOfC qual (L2.defScope st) s.heap.objs.size g cdv)) → H f = some (LamO f F) → H F.c = some (CodeO F.c F.qual) → CellsAt F.cl fr ws s.heap H → (∀ y c, F.cl.lookup y = some c → c ∉ frs outer) → sp ws H Q →
      ∃ t, PSs (cxOf C8.CX0 P w K mg base N qual (L2.defScope st) g cdv A outer s H C8.E0) (L2.defBody st) t ∧ t { nx := fun _ H' => Q .non H', rt := Q } (L2.start N [.ref f]) H) :
    CallC P w K mg base (k + 1) g fd [a] f F fr sp := by
  obtain ⟨oc, od, kV, doc, pm, an, cdv, ct, osl, rfl, lk, hcd⟩ := Fn.ex
  refine ⟨fun A outer s H args us ws Q hr e0 hb eu hf hc C nf q => ?_⟩
  subst eu
  exact run_ofS (vs := [.ref f]) lk hcd S hr e0 hb (.cons rfl .nil) rfl fun hr' => hbody cdv A outer s H ws Q hr' hf hc C nf q
end LamK
namespace Den
open PySem PyProof.Rows L2 D3
/-- a lambda that hands a yard and what is no order of it on -/
def spLam (C D : Addr) : List (Option V) → Sp := fun ws vs H Q E => ∃ v1 v2, ws = [some v1, some v2] ∧ vs = [] ∧ spX C (FnX yxEnc (fun x er => NoOrder x ∧ er = erO D)) [v1, v2] H Q E
def spRef (C : Addr) : List (Option V) → Hp → VK → Prop := fun ws H Q => ∃ S v1 v2 x, ws = [some v1, some v2] ∧ Ok ρ0 S H ∧ RpAll C S [v1, v2] (yxEnc x) ∧ NoOrder x ∧ ∀ S' H', Mv ρ0 S H S' H' → Q (.bl true) H'
end Den
namespace D3
open PySem PyProof.Rows L2
section
variable {C : Addr} {ρ : Rsc} {B : Hp → Hp → Prop} {S0 H0 S H : Hp} {σ : L2.St} {sl : List Sl} {te : TE} {K : Sl → Prop}
theorem Good.unA (g : Good C (ρ.wA B) S0 H0 S H σ sl) (a : ρ.A S0 H0) : Good C ρ S0 H0 S H σ sl := by
  refine ⟨⟨⟨g.k1.1.sh, g.k1.1.m, g.k1.1.t⟩, a⟩, g.mv.un, g.len, fun i s e => ?_, g.ne⟩
  have q := g.ok i s e
  cases s with
  | any => trivial
  | bor d => trivial
  | bcell d => trivial
  | dat d => exact q
  | raw d => exact q
  | own d => exact q
  | cell d => exact q
/-- what holds without an assumption of the start holds with it -/
theorem WX.lift (ha : ∀ S0 H0, ρ.A S0 H0) (h : WX C ρ te sl K) : WX C (ρ.wA B) te sl K := fun S0 H0 S H σ g Q q =>
  h S0 H0 S H σ (g.unA (ha _ _)) Q fun r S1 H1 v kr m ok => q r S1 H1 v kr m.re ok.re
end
end D3
namespace Den
open PySem PyProof.Rows L2 D3
def spLawT (F : PySem.W.Frag) (P : Addr) : Sp := fun vs H Q _ => ∃ (a : Addr) (ns : List Int), vs = [.ref a] ∧ SqL F H a (ns.map V.int) ∧ ns.length ≤ 63 ∧ H P = some (.tbl #[]) ∧ ∀ H', Q (.bl true) H'
def HasT (P : Addr) : Hp → Hp → Prop := fun S0 H0 => S0 P = none ∧ H0 P = some (.tbl #[])
section
variable {C : Addr} {F : PySem.W.Frag} {P : Addr} {vs : List V} {H : Hp} {Q : VK} {E E' : XK} {rest : TS} {n0 n1 : Str} {N : List Str}
theorem law_startT (h : ∀ p, p ≠ P → SD C ((ρd p).wA (HasT P)) rest (.any :: .raw (.ref p) :: List.replicate N.length .any) (fun _ => False) (· = .dat (.bl true)) (fun _ => False) (fun _ => False)) (hs : spLawT F P vs H Q E) :
    (tSeq (tAsg (tCall (spDice F) [] E' (tCons (tVar 0) (tCons (tC (.int 0)) tNil))) (gName 1)) rest) { nx := fun _ H' => Q .non H', rt := Q } (L2.start (n0 :: n1 :: N) vs) H := by
  obtain ⟨a, ns, rfl, hS, hl, hP, k⟩ := hs
  refine ⟨_, rfl, a, ns, rfl, hS, hl, fun p H' xs hp ss hx die => ?_⟩
  have ok : Ok (ρd p) (fun _ => none) H' := ⟨fun b o e => (by cases e), fun b m => rfl, fun b m => (by
    obtain rfl : b = p := m
    rw [hx]; simp), ⟨xs, hx, die⟩⟩
  have okB : Ok ((ρd p).wA (HasT P)) (fun _ => none) H' := ok.re
  have g := good_start (C := C) (N := n0 :: n1 :: N) (rs := [.any, .raw (.ref p)]) (vs := [.ref a, .ref p]) okB ⟨trivial, rfl, trivial⟩ (by simp) (by
    intro s hs
    rcases List.mem_cons.mp hs with rfl | hs
    · intro z; exact z
    · obtain rfl := List.mem_singleton.mp hs
      intro z; exact z) ⟨rfl, ss P _ hP⟩
  exact h p (fun z => by rw [z] at hp; rw [hp] at hP; cases hP) _ H' _ H' _ g _ (fun s S' H' σ' kk _ g' => kk.elim) (fun r S' H' v kr m rv => by subst kr; cases rv; exact k _) (fun _ _ _ _ z => z.elim) (fun _ _ _ _ z => z.elim)
end
end Den
namespace LamK
open PySem
/-- the lambda that a statement holds: xs = [lambda: ..] or xs.append(lambda: ..) -/
def lamA : Stmt → Arguments
  | .Assign _ (.List [.Lambda a _ _ _] _) _ => a
  | .Expr (.Call _ [.Lambda a _ _ _] _ _) _ => a
  | _ => ⟨[], [], none, [], [], none, []⟩
def lamB : Stmt → Expr
  | .Assign _ (.List [.Lambda _ b _ _] _) _ => b
  | .Expr (.Call _ [.Lambda _ b _ _] _ _) _ => b
  | _ => .List [] ⟨0, 0, 0, 0⟩
def lamS : Stmt → Scope
  | .Assign _ (.List [.Lambda _ _ s _] _) _ => s
  | .Expr (.Call _ [.Lambda _ _ s _] _ _) _ => s
  | _ => ⟨.function, [], false, false, []⟩
end LamK

namespace LamK
open PySem PySem.Spec PyProof.Rows L2 LamX NdefX
/-- [elt for target in iter if ..], whose test leans on the cells of this frame: js, their slots -/
def tLcC (wi : TI) (g : TG) (tt : List (Option V) → TT) (te : TE) (vs js : List Nat) : TE := fun σ H Q => tLc wi g (tt (js.map (slotAt σ))) te vs σ H Q
section
variable {X : Cx}
theorem pe_lcC {cl0 : List (Str × Addr)} {fr : List Str} {js : List Nat} {elt tg iter : Expr} {ifs : List Expr} {scope : Scope} {own : List (Str × Nat)} {pos : Pos} {wi : TI} {g : TG} {tt : List (Option V) → TT} {te : TE} (hc : X.calm = true) (cp : X.Ok → Caps X cl0 fr js) (hfn : ∀ y, X.fn y = true) (hN : X.N.Nodup) (hi : PI X tg iter wi) (ok : BlkOk X.N X.env.scope scope own)
    (hg : ∀ (s : Shared) (H : Hp) (C : Addr) (cl : List (Str × Addr)) (fp : List Addr), PG (X.blk s H scope (compEnvC scope cl C X.env) fp) tg g) (ht : ∀ (ws : List (Option V)) (s : Shared) (H : Hp) (C : Addr) (cl : List (Str × Addr)) (fp : List Addr), CellsAt cl0 fr ws s.heap H → (∀ y c, cl0.lookup y = some c → c ∉ frs X.stack) → (∀ y c, cl0.lookup y = some c → c ∉ fp) → PTs (X.blk s H scope (compEnvC scope cl C X.env) fp) ifs (tt ws))
    (he : ∀ (s : Shared) (H : Hp) (C : Addr) (cl : List (Str × Addr)) (fp : List Addr), PE (X.blk s H scope (compEnvC scope cl C X.env) fp) elt te) (hs : ∀ x, foldedSetIterable iter X.env x = pure x := by intro _; rfl) :
    PE X (.ListComp elt [⟨tg, iter, ifs, 0⟩] scope pos) (tLcC wi g tt te (own.map (·.2)) js) := by
  refine ⟨fun pins s σ H Q I h => ?_⟩
  rw [eval_ListComp]
  replace h : tLc wi g (tt (js.map (slotAt σ))) te (own.map (·.2)) σ H Q := h
  have hRR : ∀ D C s' m H', Inv X pins σ H' s' → Q (.ref D) H' → s'.heap.Ns C m → FpOk X pins H' C → compPost (model X.prog X.w) X.A X.xe none (EP X pins σ Q) (.ref D) C (.ok .next) s' := fun D C s' m H' I' q hn f => ⟨m, hn, fun h'' sb => by
    obtain ⟨f0, f1, f2, f3, f4, f5⟩ := f
    exact ⟨.ref D, H', I'.turned (t' := s'.toks) (fun b o hb e => (sb.2 b hb).trans e) f0 f1 f3 f4 f5, rfl, q⟩⟩
  have hfree : ∀ y ∈ scope.names, y.2 = .free → ∃ c, X.env.cells.lookup y.1 = some c := fun y hy e => by
    rcases ok.free y hy e with k | k
    · exact I.ok.has _ (.inl k)
    · exact I.ok.has _ (.inr k)
  refine wpAny_comprehension_free (use := none) rfl hs (closure_ok hfree) ok.kind (fun y hy e => by rw [ok.uniq y hy, e])
    (thn (hi.run pins s σ H _ I h) fun xv s1 hx => thn hx fun itv s2 h2 => ?_)
  obtain ⟨it, fp, tn, J, H2, e, I2, T, st2, f2, q⟩ := h2
  subst e
  refine wpAny_newObj_type (newEnv_comp ?_) (by show 0 ≤ sizeLine; decide)
  generalize hD : s2.heap.objs.size = D
  have hDn : H2 D = none := I2.hok.fresh (Nat.le_of_eq hD)
  obtain ⟨W, ⟨m0, w0⟩, turn⟩ := q D hDn
  generalize hs3 : ({ s2 with heap := s2.heap.push { cls := .type "list", data := .seq ([] : List Value).toArray } } : Shared) = s3
  have I3 : Inv X pins σ (upd H2 D (.lst [])) s3 := by
    rw [← hs3]
    refine I2.laid (t' := s2.toks) (fun b o e => Heap.get?_push_of_some _ e) (Nat.le_of_eq hD) ⟨Nat.zero_le _, [], 0, .nil, ?_⟩
    rw [← hD]
    exact Heap.get?_push_size _ rfl
  have h3 : s3.heap = s2.heap.push { cls := .type "list", data := .seq ([] : List Value).toArray } := by rw [← hs3]
  have sz : ∀ b ∈ fp, b < s2.heap.objs.size := fun b hb => by
    obtain ⟨o, e, _⟩ := T.obj _ _ st2 b hb
    exact Heap.lt_size e
  have f3 : ∀ b ∈ fp, FpOk X pins (upd H2 D (.lst [])) b ∧ b < s3.heap.objs.size := fun b hb => by
    have hlt := sz b hb
    refine ⟨⟨?_, (f2 b hb).2⟩, by rw [h3, Heap.size_push]; exact Nat.lt_succ_of_lt hlt⟩
    rw [upd_ne (by rw [← hD]; exact Nat.ne_of_lt hlt)]
    exact (f2 b hb).1
  have st3 : tn 0 s3.heap := T.keep _ _ _ st2 fun b _ o e => by rw [h3]; exact Heap.get?_push_of_some _ e
  have I4 := block_start I3 ok hN f3
  have cA := cells_of I3 (cp I3.ok)
  have nf0 : ∀ y c, cl0.lookup y = some c → c ∉ frs X.stack := fun y c e => cells_nf I3 hfn ((cp I3.ok).sub y c e)
  have nx0 : ∀ y c, cl0.lookup y = some c → c ∉ fp := fun y c e m => (f3 c m).1.2.2.2.2.1 y c ((cp I3.ok).sub y c e) rfl
  have pg := hg s3 (upd H2 D (.lst [])) s3.heap.objs.size (cellsFrom (s3.heap.objs.size + 1) scope.names (cloFrom X.env.cells scope.names [])) fp
  have pt := ht _ s3 (upd H2 D (.lst [])) s3.heap.objs.size (cellsFrom (s3.heap.objs.size + 1) scope.names (cloFrom X.env.cells scope.names [])) fp cA nf0 nx0
  have pe := he s3 (upd H2 D (.lst [])) s3.heap.objs.size (cellsFrom (s3.heap.objs.size + 1) scope.names (cloFrom X.env.cells scope.names [])) fp
  show codeAny _ _ (.compStart (.ListComp elt [⟨tg, iter, ifs, 0⟩] scope pos) 0 (.ref it) (.ref D) (compEnvC scope (cellsFrom (s3.heap.objs.size + 1) scope.names (cloFrom X.env.cells scope.names [])) s3.heap.objs.size X.env)) (compPost (model X.prog X.w) X.A X.xe none (EP X pins σ Q) (.ref D) s3.heap.objs.size) { s3 with heap := pushCells (s3.heap.push { cls := .type "dict", data := .dict #[] }) scope.names }
  have nfp : ∀ b ∈ fp, (upd H2 D (.lst [])) b = none := fun b hb => (f3 b hb).1.1
  generalize hce : compEnvC scope (cellsFrom (s3.heap.objs.size + 1) scope.names (cloFrom X.env.cells scope.names [])) s3.heap.objs.size X.env = ce at I4 pg pt pe ⊢
  have cL : ce.locals = s3.heap.objs.size := by subst hce; rfl
  generalize hH3 : upd H2 D (.lst []) = H3 at I3 I4 pg pt pe w0 nfp f3 cA
  generalize hs4 : ({ s3 with heap := pushCells (s3.heap.push { cls := .type "dict", data := .dict #[] }) scope.names } : Shared) = s4 at I4 ⊢
  have st4 : tn 0 s4.heap := T.keep _ _ _ st3 fun b _ o e => by rw [← hs4]; exact pushCells_keeps _ _ _ _ (Heap.get?_push_of_some _ e)
  have stat : ∀ {σ' : L2.St} {H' : Hp} {s' : Shared}, Inv (X.blk s3 H3 scope ce fp) [] σ' H' s' → (∀ b ∈ fp, H' b = none) → ∀ b ∈ fp, FpOk (X.blk s3 H3 scope ce fp) [] H' b := fun {σ' H' s'} I' hn b hb =>
    ⟨hn b hb, (I'.ok.exf b hb).1, I'.ok.exfs b hb, .inl hb, fun x c e => (I'.ok.exf b hb).2 x c e, fun p hp => absurd (show p ∈ ([] : List (Addr × Obj)) ++ [] from hp) (by simp)⟩
  have loop : codeAny (model X.prog X.w) X.A (.compLoop (.ListComp elt [⟨tg, iter, ifs, 0⟩] scope pos) 0 (.ref it) (.ref D) ce) (compPost (model X.prog X.w) X.A X.xe none (EP X pins σ Q) (.ref D) s3.heap.objs.size) s4 := by
    refine compLoop_any (fun n s' => ∃ i H', Inv (X.blk s3 H3 scope ce fp) [] (wipe σ (own.map (·.2))) H' s' ∧ tn i s'.heap ∧ (∀ b ∈ fp, H' b = none) ∧ W i n H') ?_ m0 ⟨0, H3, I4, st4, nfp, w0⟩
    rintro n s5 ⟨i, H5, I5, st5, n5, w5⟩
    rcases turn i n H5 w5 with ⟨stop, qq⟩ | ⟨go, Nx, hNx, step⟩
    · have td := T.done (X.blk s3 H3 scope ce fp) rfl rfl rfl hc i [] s5 _ H5 (fun _ _ => False) I5 (stat I5 n5) st5 stop
      refine thnF td fun r s6 ⟨hr, I6⟩ => ?_
      subst hr
      have I7 : Inv X pins σ H5 s6 := I3.call' (ch := fp) I6.os I6.base I6.hok I6.bare fun b hb => ⟨(f3 b hb).1.2.2.2.1, (f3 b hb).1.2.1, (f3 b hb).1.2.2.2.2.1, (f3 b hb).1.2.2.2.2.2⟩
      have nC : H5 s3.heap.objs.size = none := by
        have z : H5 ce.locals = none := I6.free
        rw [cL] at z
        exact z
      obtain ⟨m, hn, _⟩ := I6.loc
      have hn : s6.heap.Ns ce.locals m := hn
      rw [cL] at hn
      exact hRR D s3.heap.objs.size s6 m H5 I7 qq hn (I3.fpOk (Nat.le_refl _) nC)
    · have ti := T.item (X.blk s3 H3 scope ce fp) rfl rfl rfl hc i [] s5 _ H5 (fun _ _ => False) I5 (stat I5 n5) st5 go
      refine thnF ti fun r s6 ⟨u, hr, h6⟩ => ?_
      subst hr
      refine thnF h6 fun _ s7 ⟨x, H7, I7, r7, y7, st7, n7⟩ => ?_
      have I7' := I7.pinned (stat I7 n7) (T.obj _ _ st7)
      refine thnF (pg.run _ s7 _ H7 x u _ I7' r7 (step x H7 y7)) fun _ s8 ⟨σ8, H8, I8, hw8, q8⟩ => ?_
      refine thnF (pt.run _ s8 σ8 H8 _ I8 q8) fun b s9 ⟨H9, I9, q9⟩ => ?_
      have fin : ∀ {s' : Shared} {H' : Hp}, Inv (X.blk s3 H3 scope ce fp) ([] ++ pinsAt fp s7.heap) σ8 H' s' → Nx H' → ∃ m, m < n ∧ ∃ i H', Inv (X.blk s3 H3 scope ce fp) [] (wipe σ (own.map (·.2))) H' s' ∧ tn i s'.heap ∧ (∀ b ∈ fp, H' b = none) ∧ W i m H' := fun {s' H'} I' nx => by
        obtain ⟨m', hm, w'⟩ := hNx H' nx
        have pin' : ∀ b ∈ fp, ∀ o, s7.heap.get? b = some o → s'.heap.get? b = some o ∧ H' b = none := fun b hb o e =>
          let z := I'.pin (b, o) (List.mem_append_right _ (List.mem_append_right _ (mem_pinsAt hb e)))
          ⟨z.1, z.2.1⟩
        have hl : (wipe σ (own.map (·.2))).length = σ8.length := by rw [← hw8, wipe_length]
        refine ⟨m', hm, i + 1, H', (I'.unpinned (pins := [])).weak hl (fun j v e => ?_), T.keep _ _ _ st7 fun b hb o e => (pin' b hb o e).1, fun b hb => ?_, w'⟩
        · rw [← hw8] at e
          exact (wipe_some e).1
        · obtain ⟨o, e, _⟩ := T.obj _ _ st7 b hb
          exact (pin' b hb o e).2
      cases b with
      | false =>
        simp only [Bool.false_eq_true, if_false] at q9 ⊢
        exact fin I9 q9
      | true =>
        simp only [if_true] at q9 ⊢
        refine thnF (pe.run _ s9 σ8 H9 _ I9 q9) fun z s10 ⟨yv, H10, I10, r10, acc, hD10, hz10, nx⟩ => ?_
        exact app_ok (X := X.blk s3 H3 scope ce fp) I10 hD10 hz10 r10 fun s11 I11 => fin I11 nx
  exact codeAny_compStart_list loop (T.self X.A 0 _ _ _ st4 loop)
end
section
variable {X : Cx} {g : Addr} {fd : FuncData} {ps fr : List Str} {k : Nat} {mk : Nat → Addr → LF} {cl : List (Str × Addr)} {ws : List (Option V)} {sp : Nat → Addr → Addr → List (Option V) → Hp → VK → Prop} {x : Str} {p pos : Pos} {e : Expr} {t : TA}
/-- g(e), e a lambda whose cells hold ws -/
def tCallW (mk : Nat → Addr → LF) (ws : List (Option V)) (sp : Nat → Addr → Addr → List (Option V) → Hp → VK → Prop) (t : TA) : TE := fun σ H Q => t σ H fun vs H1 => ∃ (m : Nat) (f c' : Addr), vs = [.ref f] ∧ H1 f = some (LamO f (mk m c')) ∧ H1 (mk m c').c = some (CodeO (mk m c').c (mk m c').qual) ∧ sp m f c' ws H1 Q
theorem pe_callW (F : ∀ m f c', CallC X.prog X.w X.K X.mg X.base k g fd ps f (mk m c') fr (sp m f c')) (hcl : ∀ m c', (mk m c').cl = cl) (C : CellsAt cl fr ws X.s_0.heap X.H_0) (nf : ∀ y c, cl.lookup y = some c → c ∉ X.fs) (nx : ∀ y c, cl.lookup y = some c → c ∉ X.ex) (ns : ∀ y c, cl.lookup y = some c → c ∉ frs X.stack) (hr : Room k X.A) (hg : Gl X x) (hm : X.mg x = some (.ref g)) (hk : PySem.W.keepIn X.K (.ref g) = true) (hb : Binds X.K fd ps []) (hlen : ps.length = 1)
    (ha : PA X [e] t) (hdb : (x == ("__debug__" : Str)) = false := by decide) (he : starEach [e] X.env = (false, eval e X.env) :: starEach [] X.env := by rfl) (hpl : (backTo pos (starEach [] X.env)).any (·.1) = false := by rfl) :
    PE X (.Call (.Name x p) [e] [] pos) (tCallW mk ws sp t) := by
  refine ⟨fun pins s σ H Q I h => ?_⟩
  refine wpAny_Call_Name_kw (ld_glob I hg hm ?_ hdb)
  refine PySem.W.callWith_K (h₀ := X.base) I.ok.mod.kin hk (thn (ha.run pos pins s σ H _ I h) fun us s1 ⟨vs, H1, I1, r, q⟩ => ⟨I1.kIn, ?_⟩) he hpl
  obtain ⟨m, f, c', ev, hf, hc, q⟩ := q
  subst ev
  obtain ⟨rfl⟩ : us = [.ref f] := by
    cases r with
    | cons r1 rr => cases rr; cases r1; rfl
  have C' : CellsAt (mk m c').cl fr ws s1.heap H1 := by rw [hcl m c']; exact C.later nf nx I1
  refine wpAny_call (codeAny_mono ((F m f c').run X.A X.stack s1 H1 _ [.ref f] ws Q hr I1.env0 ?_ rfl hf hc C' (fun y c e => ?_) q) fun r s' hq => ?_)
  · have b := hb s1 [.ref f] I1.kIn (by rw [List.append_nil, hlen]; rfl)
    rw [List.append_nil] at b
    exact b
  · rw [hcl m c'] at e
    exact ns y c e
  · cases r with
    | error e => exact (show False from hq).elim
    | ok fl =>
      cases fl with
      | ret u => exact I1.after hq
      | next => exact False.elim hq
      | brk => exact False.elim hq
      | cont => exact False.elim hq
/-- a def whose code object is known, by its body -/
theorem okT {P : Program} {w : World} {K : PySem.W.Frag} {mg : Str → Option Value} {base : Heap} {x qual : Str} {st : Stmt} {f c : Addr} {fd : FuncData} {N ps : List Str} {k : Nat} {sp : Sp} (F : Fun K x qual st f fd) (hcode : fd.code = .ref c) (S : FnScope N ps (L2.defScope st)) (len : ∀ vs H Q E, sp vs H Q E → vs.length = ps.length)
    (hbody : ∀ (A : Around) (outer : List Env) (s : Shared) (H : Hp) (vs : List V) (Q : VK) (E : XK), Room k (A.deeper (envOfC qual (L2.defScope st) s.heap.objs.size f (.ref c))) → sp vs H Q E →
      ∃ t, PSs (cxOf CX0 P w K mg base N qual (L2.defScope st) f (.ref c) A outer s H E).nox (L2.defBody st) t ∧ t { nx := fun _ H' => Q .non H', rt := Q } (L2.start N vs) H) : FnOk P w K mg base CX0 (k + 1) f fd ps sp := by
  obtain ⟨oc, od, kV, doc, pm, an, cdv, ct, osl, rfl, lk, hcd⟩ := F.ex
  obtain rfl : cdv = .ref c := hcode
  refine L2.fn_of lk hcd S len fun A outer s H vs Q E hr hsp => ?_
  obtain ⟨t, h, q⟩ := hbody A outer s H vs Q E hr hsp
  exact ⟨t, h.nox, q⟩
end
end LamK
namespace Den
open PySem PyProof.Rows L2 D3
/-- some lambdas are made, and lie in the list at l -/
structure Made (T : List (Addr × Str)) (P : Addr) (mk : Nat → Addr → LamK.LF) (q : Str) (H0 : Hp) (m : Nat) (l : Addr) (H' : Hp) : Prop where
  keep : ∀ b o, H0 b = some o → b ≠ P → H' b = some o
  back : ∀ b, H' b = none → H0 b = none
  tabs : LamX.Tabs T H'
  fs : ∃ fs : List Addr, H' l = some (.lst (fs.map V.ref)) ∧ fs.length = m ∧ ∀ (i : Nat) (f : Addr), fs[i]? = some f → ∃ c', H' f = some (LamK.LamO f (mk i c')) ∧ H' c' = some (LamX.CodeO c' q) ∧ f ≠ l ∧ f ≠ P ∧ c' ≠ l ∧ c' ≠ P
  new : H0 l = none
section
variable {T : List (Addr × Str)} {P l : Addr} {mk : Nat → Addr → LamK.LF} {q : Str} {H H1 : Hp} {σ : L2.St} {i m : Nat} {D : Ends} {F : PySem.W.Frag}
theorem lam_ne_lst {f : Addr} {G : LamK.LF} {xs : List V} : LamK.LamO f G ≠ .lst xs := fun z => by unfold LamK.LamO at z; cases z
theorem lam_ne_tbl {f : Addr} {G : LamK.LF} {ps : Array Value} : LamK.LamO f G ≠ .tbl ps := fun z => by unfold LamK.LamO at z; cases z
theorem code_ne_lst {c : Addr} {xs : List V} : LamX.CodeO c q ≠ .lst xs := fun z => by unfold LamX.CodeO at z; cases z
theorem made_first (hq : ∀ m c', (mk m c').qual = q) (hT : LamX.Tabs T H) (hP : (P, q) ∈ T) (k : ∀ l H', Made T P mk q H 1 l H' → D.nx (σ.set i (some (.ref l))) H') : (tAsg (tLst (tCons (LamK.tLamE T P (mk 0)) tNil)) (gName i)) D σ H := by
  refine ⟨hT, fun f c' H1 e nn T1 f0 hf hc => ⟨by rw [sizeLine_eq]; simp, fun l hl => ?_⟩⟩
  obtain ⟨ps, hPt, _⟩ := T1 _ hP
  rw [hq] at hc
  have nf : f ≠ l := ne_of_none hf hl
  have nc : c' ≠ l := ne_of_none hc hl
  have nP : P ≠ l := ne_of_none hPt hl
  refine k l _ ⟨fun b o e1 n => ?_, fun b e1 => ?_, T1.ext fun b o e1 => by rw [upd_ne (ne_of_none e1 hl)]; exact e1, ⟨[f], upd_same, rfl, fun i f' e1 => ?_⟩, nn l hl⟩
  · have := e b o e1 n
    rw [upd_ne (ne_of_none this hl)]; exact this
  · refine nn b ?_
    by_cases hb : b = l
    · subst hb; exact hl
    · rw [upd_ne hb] at e1; exact e1
  · cases i with
    | zero =>
      simp at e1; subst e1
      exact ⟨c', by rw [upd_ne nf]; exact hf, by rw [upd_ne nc]; exact hc, nf, ne_of hf hPt lam_ne_tbl, nc, ne_of hc hPt (LamX.codeO_ne _)⟩
    | succ i => simp at e1
theorem made_more (hq : ∀ m c', (mk m c').qual = q) (M : Made T P mk q H m l H1) (hP : (P, q) ∈ T) (hs : σ[i]? = some (some (.ref l))) (hm : m < 100) (k : ∀ H', Made T P mk q H (m + 1) l H' → D.nx σ H') : (tDrop (tBM F "list" rAppend (tVar i) (tCons (LamK.tLamE T P (mk m)) tNil))) D σ H1 := by
  obtain ⟨fs, hl, hlen, hfs⟩ := M.fs
  refine ⟨_, hs, .inl ⟨rfl, _, .inl (.inl hl)⟩, M.tabs, fun f c' H2 e nn T2 f0 hf hc => ?_⟩
  obtain ⟨ps, hPt, _⟩ := M.tabs _ hP
  obtain ⟨ps2, hPt2, _⟩ := T2 _ hP
  rw [hq] at hc
  have nlP : l ≠ P := ne_of hl hPt (fun z => by cases z)
  have hl2 := e l _ hl nlP
  have nf : f ≠ l := fun z => by rw [z] at f0; rw [f0] at hl; cases hl
  have nc : c' ≠ l := ne_of hc hl2 code_ne_lst
  refine ⟨l, fs.map V.ref, .ref f, rfl, rfl, hl2, by rw [List.length_map, sizeLine_eq]; omega, k _ ⟨fun b o e1 n => ?_, fun b e1 => ?_, fun p hp => ?_, ⟨fs ++ [f], by rw [upd_same, List.map_append]; rfl, by rw [List.length_append, hlen]; rfl, fun j f' e1 => ?_⟩, M.new⟩⟩
  · have nb : b ≠ l := fun z => by subst z; rw [M.new] at e1; cases e1
    rw [upd_ne nb]; exact e b o (M.keep b o e1 n) n
  · have nb : b ≠ l := fun z => by subst z; rw [upd_same] at e1; cases e1
    rw [upd_ne nb] at e1
    exact M.back b (nn b e1)
  · obtain ⟨ps', a1, a2, a3⟩ := T2 p hp
    have n1 : p.1 ≠ l := ne_of a1 hl2 (fun z => by cases z)
    refine ⟨ps', by rw [upd_ne n1]; exact a1, a2, fun pos cv hcv => ?_⟩
    obtain ⟨c, z1, z2⟩ := a3 pos cv hcv
    have n2 : c ≠ l := ne_of z2 hl2 (fun z => by unfold LamX.CodeO at z; cases z)
    exact ⟨c, z1, by rw [upd_ne n2]; exact z2⟩
  · by_cases hj : j < fs.length
    · rw [List.getElem?_append_left hj] at e1
      obtain ⟨c0, z1, z2, z3, z4, z5, z6⟩ := hfs j f' e1
      exact ⟨c0, by rw [upd_ne z3]; exact e _ _ z1 z4, by rw [upd_ne z5]; exact e _ _ z2 z6, z3, z4, z5, z6⟩
    · rw [List.getElem?_append_right (by omega)] at e1
      have hj0 : j - fs.length = 0 := by
        rcases Nat.eq_zero_or_pos (j - fs.length) with h | h
        · exact h
        · rw [List.getElem?_eq_none (by simp; omega)] at e1; cases e1
      rw [hj0] at e1
      cases e1
      have : j = m := by omega
      subst this
      exact ⟨c', by rw [upd_ne nf]; exact hf, by rw [upd_ne nc]; exact hc, nf, ne_of hf hPt2 lam_ne_tbl, nc, ne_of hc hPt2 (LamX.codeO_ne _)⟩
/-- [work for work in works if not refused(work)], each one refused -/
theorem lc_ref {j : Nat} {js : List Nat} {sp : Nat → Addr → Addr → List (Option V) → Hp → VK → Prop} {Q : VK} (M : Made T P mk q H m l H1) (hσ : σ[i]? = some (some (.ref l))) (hj : j < σ.length) (hcc : ∀ m c', (mk m c').c = c') (hq : ∀ m c', (mk m c').qual = q)
    (hsp : ∀ m f c' H2, (∀ b o, H1 b = some o → H2 b = some o) → ∀ Qb : VK, (∀ H3, (∀ b o, H2 b = some o → H3 b = some o) → Qb (.bl true) H3) → sp m f c' (js.map (NdefX.slotAt σ)) H2 Qb)
    (hQ : ∀ D H2, H2 D = some (.lst []) → Q (.ref D) H2) :
    LamK.tLcC (iList F (tVar i)) (gName j) (fun ws => tNot (tB (LamK.tCallW mk ws sp (tCons (tVar j) tNil)))) (tVar j) [j] js σ H1 Q := by
  obtain ⟨fs, hl, hlen, hfs⟩ := M.fs
  refine ⟨_, hσ, l, rfl, ⟨_, SqL.of hl⟩, fun D hD => ?_⟩
  refine lc_list (K := F) (a := l) (xs := fs.map V.ref) (fun _ H' => (∀ b o, H1 b = some o → H' b = some o) ∧ H' D = some (.lst [])) ⟨fun b o e => by rw [upd_ne (ne_of_none e hD)]; exact e, upd_same⟩ (fun _ H' _ ⟨k, _⟩ => SqL.of (k _ _ hl)) ?_ (fun H' ⟨_, k⟩ => hQ D H' k)
  rintro r x H2 hx ⟨keep, hD2⟩
  have hk : r < fs.length := by
    rcases Nat.lt_or_ge r fs.length with h | h
    · exact h
    · rw [List.getElem?_map, List.getElem?_eq_none h] at hx; cases hx
  rw [List.getElem?_map, List.getElem?_eq_getElem hk] at hx
  cases hx
  obtain ⟨c', z1, z2, _⟩ := hfs r _ (List.getElem?_eq_getElem hk)
  refine ⟨wipe_ext (ks := [j]) (by simp [wipe_length]) (by simp) (fun k hk => by rw [List.getElem?_set_ne]; intro e; exact hk (by simp [e])), ?_⟩
  refine ⟨_, List.getElem?_set_self (by rw [wipe_length]; exact hj), r, _, c', rfl, keep _ _ z1, by rw [hcc, hq]; exact keep _ _ z2, ?_⟩
  refine hsp _ _ _ H2 keep _ fun H3 k3 => ⟨true, rfl, ?_⟩
  exact ifn rfl ⟨fun b o e => k3 b o (keep b o e), k3 D _ hD2⟩
end
end Den
namespace D3
open PySem PyProof.Rows L2
section
variable {C : Addr} {ρ : Rsc} {sl : List Sl} {tu tv : TS} {te : TE}
/-- a judgement of the law alone: it ends with True, whatever becomes of the heap -/
def SDz (C : Addr) (ρ : Rsc) (t : TS) (sl : List Sl) : Prop := ∀ S0 H0 S H σ, Good C ρ S0 H0 S H σ sl → ∀ D : Ends, (∀ H', D.rt (.bl true) H') → t D σ H
theorem sdz_seq (h : SD C ρ tu sl (fun s => SDz C ρ tv s) (fun _ => False) (fun _ => False) (fun _ => False)) : SDz C ρ (tSeq tu tv) sl := fun S0 H0 S H σ g D k =>
  h S0 H0 S H σ g { D with nx := tv D } (fun s S' H' σ' kk _ g' => kk S0 H0 S' H' σ' g' D k) (fun _ _ _ _ z => z.elim) (fun _ _ _ _ z => z.elim) (fun _ _ _ _ z => z.elim)
theorem sdz_set {i : Nat} (h : WX C ρ te sl fun r => SDz C ρ tv (sl.set i r)) : SDz C ρ (tSeq (tAsg te (gName i)) tv) sl := sdz_seq (sd_set h)
theorem sdz_setF {i : Nat} (h : WX C ρ te sl fun r => SDz C ρ tv (sl.set i (fz r))) : SDz C ρ (tSeq (tAsg te (gName i)) tv) sl := sdz_seq (sd_setF h)
theorem sdz_ifW {tt : TT} {ts : TS} (h : WT C ρ tt sl fun w => if w = true then SDz C ρ (tSeq tu ts) sl else SDz C ρ (tSeq tv ts) sl) : SDz C ρ (tSeq (tIfS tt tu tv) ts) sl := fun S0 H0 S H σ g D k => by
  refine h S0 H0 S H σ g _ fun w' S1 H1 kk a1 => ?_
  cases w' with
  | true => rw [if_pos rfl] at kk ⊢; exact kk S0 H0 S1 H1 σ (g.move a1) D k
  | false => rw [if_neg (by decide)] at kk ⊢; exact kk S0 H0 S1 H1 σ (g.move a1) D k
theorem sdz_if {tt : TT} {w : Bool} {ts : TS} (h : TD C ρ tt sl w) (h1 : w = true → SDz C ρ (tSeq tu ts) sl) (h2 : w = false → SDz C ρ (tSeq tv ts) sl) : SDz C ρ (tSeq (tIfS tt tu tv) ts) sl := sdz_ifW (h.w (by
  cases w with
  | true => rw [if_pos rfl]; exact h1 rfl
  | false => rw [if_neg (by decide)]; exact h2 rfl))
theorem sdz_next (h : SDz C ρ tv sl) : SDz C ρ (tSeq tNext tv) sl := sdz_seq (sd_next h)
theorem sdz_lend {d0 : Dt} {i : Nat} {t : TS} (l : Lends C sl i d0) (h : SDz C ρ t (sl.set i (.dat d0))) : SDz C ρ t sl := fun S0 H0 S H σ g D k => by
  obtain ⟨S', g', ss⟩ := l ρ S0 H0 S H σ g
  exact h S0 H0 S' H σ g' D k
theorem good_any {H : Hp} {σ : L2.St} : Good C ρ0 (fun _ => none) H (fun _ => none) H σ (List.replicate σ.length .any) := by
  have ok : Ok ρ0 (fun _ => none) H := ⟨(fun b u e => by cases e), fun _ z => z.elim, fun _ z => z.elim, trivial⟩
  refine ⟨⟨ok.z, trivial⟩, Mv.refl ok, by simp, fun i s e => ?_, fun i j s t p _ e1 _ o1 => ?_⟩
  · obtain rfl := (List.mem_replicate.mp (List.mem_of_getElem? e)).2
    trivial
  · obtain rfl := (List.mem_replicate.mp (List.mem_of_getElem? e1)).2
    exact o1.elim
end
end D3
namespace Den
open PySem PyProof.Rows L2 D3
section
variable {C : Addr} {F : PySem.W.Frag} {P : Addr} {vs : List V} {H : Hp} {Q : VK} {E E' : XK} {rest : TS} {n0 n1 : Str} {N : List Str}
theorem law_startZ (h : ∀ p, p ≠ P → SDz C ((ρd p).wA (HasT P)) rest (.any :: .raw (.ref p) :: List.replicate N.length .any)) (hs : spLawT F P vs H Q E) :
    (tSeq (tAsg (tCall (spDice F) [] E' (tCons (tVar 0) (tCons (tC (.int 0)) tNil))) (gName 1)) rest) { nx := fun _ H' => Q .non H', rt := Q } (L2.start (n0 :: n1 :: N) vs) H := by
  obtain ⟨a, ns, rfl, hS, hl, hP, k⟩ := hs
  refine ⟨_, rfl, a, ns, rfl, hS, hl, fun p H' xs hp ss hx die => ?_⟩
  have ok : Ok (ρd p) (fun _ => none) H' := ⟨fun b o e => (by cases e), fun b m => rfl, fun b m => (by
    obtain rfl : b = p := m
    rw [hx]; simp), ⟨xs, hx, die⟩⟩
  have okB : Ok ((ρd p).wA (HasT P)) (fun _ => none) H' := ok.re
  have g := good_start (C := C) (N := n0 :: n1 :: N) (rs := [.any, .raw (.ref p)]) (vs := [.ref a, .ref p]) okB ⟨trivial, rfl, trivial⟩ (by simp) (by
    intro s hs
    rcases List.mem_cons.mp hs with rfl | hs
    · intro z; exact z
    · obtain rfl := List.mem_singleton.mp hs
      intro z; exact z) ⟨rfl, ss P _ hP⟩
  exact h p (fun z => by rw [z] at hp; rw [hp] at hP; cases hP) _ H' _ H' _ g _ k
end
section
variable {T : List (Addr × Str)} {P l : Addr} {mk : Nat → Addr → LamK.LF} {q : Str} {H H1 : Hp} {σ : L2.St} {i m : Nat} {D : Ends} {F F1 : PySem.W.Frag}
/-- [work for work in works if not refused(work)] == [] -/
theorem ref_eq {j : Nat} {js : List Nat} {sp : Nat → Addr → Addr → List (Option V) → Hp → VK → Prop} {Q : VK} (M : Made T P mk q H m l H1) (hσ : σ[i]? = some (some (.ref l))) (hj : j < σ.length) (hcc : ∀ m c', (mk m c').c = c') (hq : ∀ m c', (mk m c').qual = q)
    (hsp : ∀ m f c' H2, (∀ b o, H1 b = some o → H2 b = some o) → ∀ Qb : VK, (∀ H3, (∀ b o, H2 b = some o → H3 b = some o) → Qb (.bl true) H3) → sp m f c' (js.map (NdefX.slotAt σ)) H2 Qb)
    (hQ : ∀ H', Q (.bl true) H') :
    tOp (rEqA F1) (LamK.tLcC (iList F (tVar i)) (gName j) (fun ws => tNot (tB (LamK.tCallW mk ws sp (tCons (tVar j) tNil)))) (tVar j) [j] js) (tLst tNil) σ H1 Q := by
  refine lc_ref M hσ hj hcc hq hsp fun Dl H6 hD6 => ⟨by rw [sizeLine_eq]; simp, fun e he => ?_⟩
  have nDe : Dl ≠ e := ne_of_none hD6 he
  refine od_eq (C := P) (ρ := ρ0) (r1 := .own []) (r2 := .own []) (d1 := .lst []) (d2 := .lst []) (K := fun r => r = .dat (.bl true)) rfl rfl (plD_nats []) (plD_nats []) (by show Sl.dat (.bl (eqD (.lst ([].map natD)) (.lst ([].map natD)))) = _; rw [eqD_nats]; rfl) (fun _ => none) (fun _ => none) (upd H6 e (.lst [])) (.ref Dl) (.ref e) (fun _ _ => rfl) ⟨(fun _ _ z => by cases z), fun _ z => z.elim, fun _ z => z.elim, trivial⟩ ⟨Dl, [], rfl, rfl, rfl, by rw [upd_ne nDe]; exact hD6, .nil⟩ ⟨e, [], rfl, rfl, rfl, upd_same, .nil⟩ _ fun r S' H' v er m rv => ?_
  subst er; cases rv
  exact hQ H'
end
/-- four lambdas over a yard and what is no order of it, each refused -/
theorem sdz_lams4 {C die P : Addr} {mk : Nat → Addr → LamK.LF} {q : Str} {F F1 F2 F3 F4 : PySem.W.Frag} {sl : List Sl} {n : Nat} {ts : List Tie} {zs : List Int} {i j a b : Nat} (hdP : die ≠ P) (hq : ∀ m c', (mk m c').qual = q) (hcc : ∀ m c', (mk m c').c = c') (hno : NoOrder ⟨n, ts, zs, 0, 0⟩) (h3 : sl[a]? = some (.dat (.yard n ts))) (h10 : sl[b]? = some (.dat (.lst (zs.map Dt.int)))) (hi : i < sl.length) (hj : j < sl.length) (hai : a ≠ i) (hbi : b ≠ i) :
    SDz C ((ρd die).wA (HasT P)) (tSeq (tAsg (tLst (tCons (LamK.tLamE [(P, q)] P (mk 0)) tNil)) (gName i)) (tSeq (tDrop (tBM F1 "list" rAppend (tVar i) (tCons (LamK.tLamE [(P, q)] P (mk 1)) tNil))) (tSeq (tDrop (tBM F2 "list" rAppend (tVar i) (tCons (LamK.tLamE [(P, q)] P (mk 2)) tNil))) (tSeq (tDrop (tBM F3 "list" rAppend (tVar i) (tCons (LamK.tLamE [(P, q)] P (mk 3)) tNil)))
      (tRet (tOp (rEqA F) (LamK.tLcC (iList F4 (tVar i)) (gName j) (fun ws => tNot (tB (LamK.tCallW mk ws (fun _ _ _ => spRef C) (tCons (tVar j) tNil)))) (tVar j) [j] [a, b]) (tLst tNil))))))) sl := fun S0 H0 S H σ g D kr => by
  have hP : H P = some (.tbl #[]) := g.mv.hh P _ (fun z => hdP z.symm) g.k1.2.2
  have sP : S P = none := g.mv.fr P g.k1.2.1 (by rw [g.k1.2.2]; simp)
  have hT : LamX.Tabs [(P, q)] H := fun p hp => by obtain rfl := List.mem_singleton.mp hp; exact LamX.TabS.nil hP
  have hm : (P, q) ∈ [(P, q)] := List.mem_singleton.mpr rfl
  obtain ⟨v1, e1, r1⟩ := g.ok a _ h3
  obtain ⟨v2, e2, r2⟩ := g.ok b _ h10
  have li : i < σ.length := by rw [g.len]; exact hi
  have lj : j < σ.length := by rw [g.len]; exact hj
  refine made_first (mk := mk) hq hT hm fun l HA M1 => ?_
  have hs : (σ.set i (some (V.ref l)))[i]? = some (some (V.ref l)) := List.getElem?_set_self li
  refine made_more hq M1 hm hs (by decide) fun HB M2 => ?_
  refine made_more hq M2 hm hs (by decide) fun HC M3 => ?_
  refine made_more hq M3 hm hs (by decide) fun HD M4 => ?_
  have sl1 : NdefX.slotAt (σ.set i (some (V.ref l))) a = some v1 := by
    unfold NdefX.slotAt
    rw [List.getElem?_set_ne (Ne.symm hai)]
    cases z : σ[a]? with
    | none => rw [z] at e1; cases e1
    | some o => rw [z] at e1; exact e1
  have sl2 : NdefX.slotAt (σ.set i (some (V.ref l))) b = some v2 := by
    unfold NdefX.slotAt
    rw [List.getElem?_set_ne (Ne.symm hbi)]
    cases z : σ[b]? with
    | none => rw [z] at e2; cases e2
    | some o => rw [z] at e2; exact e2
  refine ref_eq M4 hs (by rw [List.length_set]; exact lj) hcc hq (fun m f c' H2 kp Qb k => ?_) kr
  refine ⟨S, v1, v2, ⟨n, ts, zs, 0, 0⟩, by rw [List.map_cons, List.map_cons, List.map_nil, sl1, sl2], ⟨fun b o eb => ?_, fun _ z => z.elim, fun _ z => z.elim, trivial⟩, .cons r1 (.cons r2 .nil), hno, fun S' H' mv => k H' fun b o e => mv.hh b o (fun z => z) e⟩
  have nb : b ≠ P := fun z => by subst z; rw [sP] at eb; cases eb
  exact kp b o (M4.keep b o (g.k.sh b o eb) nb)
end Den
namespace D3
open PySem PyProof.Rows L2
section
variable {C : Addr} {ρ : Rsc} {B : Hp → Hp → Prop} {sl : List Sl} {tu tv : TS} {tt : TT} {KB : Bool → Prop}
theorem WT.lift (ha : ∀ S0 H0, ρ.A S0 H0) (h : WT C ρ tt sl KB) : WT C (ρ.wA B) tt sl KB := fun S0 H0 S H σ g Q q =>
  h S0 H0 S H σ (g.unA (ha _ _)) Q fun r S1 H1 kr m => q r S1 H1 kr m.re
theorem sdz_cut (J : List Sl → Prop) (h : SD C ρ tu sl J (fun _ => False) (fun _ => False) (fun _ => False)) (k : ∀ s, J s → SDz C ρ tv s) : SDz C ρ (tSeq tu tv) sl :=
  sdz_seq (sd_imp h k (fun _ z => z) (fun _ z => z) fun _ z => z)
end
end D3
/-! Groups of places, partings. -/
namespace Den
open PySem PyProof.Rows L2 D3
/-- q is reached from p by ties between places that stay -/
inductive Cn (n : Nat) (ts : List Tie) (gone : List Nat) : Nat → Nat → Prop
  | refl {p : Nat} : p < n → p ∉ gone → Cn n ts gone p p
  | step {p q r : Nat} : Cn n ts gone p q → r < n → r ∉ gone → tieB ts q r = true → Cn n ts gone p r
section
variable {n : Nat} {ts : List Tie} {gone : List Nat} {p q r : Nat}
theorem Cn.left (h : Cn n ts gone p q) : p < n ∧ p ∉ gone := by
  induction h with
  | refl a b => exact ⟨a, b⟩
  | step _ _ _ _ ih => exact ih
theorem Cn.right (h : Cn n ts gone p q) : q < n ∧ q ∉ gone := by
  cases h with
  | refl a b => exact ⟨a, b⟩
  | step _ a b _ => exact ⟨a, b⟩
theorem Cn.trans (a : Cn n ts gone p q) (b : Cn n ts gone q r) : Cn n ts gone p r := by
  induction b with
  | refl => exact a
  | step _ h1 h2 h3 ih => exact .step ih h1 h2 h3
theorem Cn.one (hp : p < n ∧ p ∉ gone) (hq : q < n ∧ q ∉ gone) (t : tieB ts p q = true) : Cn n ts gone p q := .step (.refl hp.1 hp.2) hq.1 hq.2 t
theorem Cn.symm (a : Cn n ts gone p q) : Cn n ts gone q p := by
  induction a with
  | refl h1 h2 => exact .refl h1 h2
  | step a h1 h2 h3 ih => exact (Cn.one ⟨h1, h2⟩ a.right (by rw [tieB_comm]; exact h3)).trans ih
end
open Classical in
/-- all that is reached from p, rising -/
noncomputable def compN (n : Nat) (ts : List Tie) (gone : List Nat) (p : Nat) : List Nat := (List.range n).filter fun q => decide (Cn n ts gone p q)
open Classical in
noncomputable def offN (n : Nat) (ts : List Tie) (gone : List Nat) (p : Nat) (l : List Nat) : List Nat := l.filter fun q => !decide (Cn n ts gone p q)
theorem offN_le (n : Nat) (ts : List Tie) (gone : List Nat) (p : Nat) (l : List Nat) : (offN n ts gone p l).length ≤ l.length := List.length_filter_le _ _
noncomputable def groupsL (n : Nat) (ts : List Tie) (gone : List Nat) : List Nat → List (List Nat)
  | [] => []
  | p :: l => compN n ts gone p :: groupsL n ts gone (offN n ts gone p l)
termination_by l => l.length
decreasing_by exact Nat.lt_succ_of_le (offN_le n ts gone p l)
def stayN (n : Nat) (gone : List Nat) : List Nat := (List.range n).filter fun q => !decide (q ∈ gone)
/-- the groups of the others, by their least places -/
noncomputable def groupsN (n : Nat) (ts : List Tie) (gone : List Nat) : List (List Nat) := groupsL n ts gone (stayN n gone)
theorem groupsL_nil (n : Nat) (ts : List Tie) (gone : List Nat) : groupsL n ts gone [] = [] := by rw [groupsL]
theorem groupsL_cons (n : Nat) (ts : List Tie) (gone : List Nat) (p : Nat) (l : List Nat) : groupsL n ts gone (p :: l) = compN n ts gone p :: groupsL n ts gone (offN n ts gone p l) := by rw [groupsL]
theorem groupsL_len (n : Nat) (ts : List Tie) (gone : List Nat) : ∀ (k : Nat) (l : List Nat), l.length ≤ k → (groupsL n ts gone l).length ≤ l.length
  | _, [], _ => by rw [groupsL_nil]; exact Nat.le_refl _
  | 0, p :: l, h => by simp at h
  | k + 1, p :: l, h => by
    rw [groupsL_cons, List.length_cons, List.length_cons]
    have h1 := offN_le n ts gone p l
    have h2 := groupsL_len n ts gone k (offN n ts gone p l) (by simp at h; omega)
    omega
theorem stayN_len (n : Nat) (gone : List Nat) : (stayN n gone).length ≤ n := Nat.le_trans (List.length_filter_le _ _) (by rw [List.length_range]; exact Nat.le_refl _)
theorem groupsN_len (n : Nat) (ts : List Tie) (gone : List Nat) : (groupsN n ts gone).length ≤ n := Nat.le_trans (groupsL_len n ts gone _ _ (Nat.le_refl _)) (stayN_len n gone)
theorem compN_len (n : Nat) (ts : List Tie) (gone : List Nat) (p : Nat) : (compN n ts gone p).length ≤ n := Nat.le_trans (List.length_filter_le _ _) (by rw [List.length_range]; exact Nat.le_refl _)
theorem mem_compN {n : Nat} {ts : List Tie} {gone : List Nat} {p q : Nat} : q ∈ compN n ts gone p ↔ Cn n ts gone p q := by
  unfold compN
  rw [List.mem_filter, List.mem_range]
  classical
  exact ⟨fun h => of_decide_eq_true h.2, fun h => ⟨h.right.1, decide_eq_true h⟩⟩
theorem groupsL_mem (n : Nat) (ts : List Tie) (gone : List Nat) : ∀ (k : Nat) (l : List Nat), l.length ≤ k → ∀ g ∈ groupsL n ts gone l, g.length ≤ n
  | _, [], _, g, hg => by rw [groupsL_nil] at hg; cases hg
  | 0, p :: l, h, _, _ => by simp at h
  | k + 1, p :: l, h, g, hg => by
    rw [groupsL_cons] at hg
    rcases List.mem_cons.mp hg with rfl | hg
    · exact compN_len n ts gone p
    · exact groupsL_mem n ts gone k _ (by have := offN_le n ts gone p l; simp at h; omega) g hg
theorem groupsN_mem {n : Nat} {ts : List Tie} {gone : List Nat} : ∀ g ∈ groupsN n ts gone, g.length ≤ n := groupsL_mem n ts gone _ _ (Nat.le_refl _)
/-- two lists of numbers with the same members, one rising, the other without doubles -/
theorem sort_as {ks l : List Nat} (hk : ks.Nodup) (hl : l.Pairwise (· < ·)) (hm : ∀ x, x ∈ ks ↔ x ∈ l) : (srtZ (ks.map fun (k : Nat) => (k : Int))).map Dt.int = l.map natD := by
  have hp : ks.Perm l := (List.perm_ext_iff_of_nodup hk (hl.imp fun h => by omega)).mpr hm
  have e : srtZ (ks.map fun (k : Nat) => (k : Int)) = l.map fun (k : Nat) => (k : Int) := by
    refine sorted_uniq ((srtZ_perm _).trans (hp.map _)) (srtZ_sorted _) ?_
    rw [List.pairwise_map]
    exact hl.imp fun h => by omega
  rw [e, List.map_map]; rfl
theorem range_filter_lt (n : Nat) (P : Nat → Bool) : ((List.range n).filter P).Pairwise (· < ·) := (List.pairwise_lt_range (n := n)).sublist List.filter_sublist
/-- the neighbours of x, rising -/
def nbN (n : Nat) (ts : List Tie) (x : Nat) : List Nat := (List.range n).filter fun y => tieB ts x y
theorem mem_nbN {n : Nat} {ts : List Tie} (hv : ValidY n ts) {x y : Nat} : y ∈ nbN n ts x ↔ tieB ts x y = true := by
  unfold nbN
  rw [List.mem_filter, List.mem_range]
  exact ⟨fun h => h.2, fun h => ⟨(near_lt hv ((near_mem hv).mpr h)).1, h⟩⟩
theorem sort_near {n : Nat} {ts : List Tie} (hv : ValidY n ts) (x : Nat) : (srtZ ((nearOf ts x).map fun (k : Nat) => (k : Int))).map Dt.int = (nbN n ts x).map natD :=
  sort_as (nearOf_nodup hv x) (range_filter_lt n _) fun y => (near_mem hv).trans (mem_nbN hv).symm
theorem near_perm {n : Nat} {ts : List Tie} (hv : ValidY n ts) (x : Nat) : (nearOf ts x).Perm (nbN n ts x) :=
  (List.perm_ext_iff_of_nodup (nearOf_nodup hv x) ((range_filter_lt n _).imp fun h => by omega)).mpr fun y => (near_mem hv).trans (mem_nbN hv).symm
theorem nbN_len (n : Nat) (ts : List Tie) (x : Nat) : (nbN n ts x).length ≤ n := Nat.le_trans (List.length_filter_le _ _) (by rw [List.length_range]; exact Nat.le_refl _)
theorem near_len {n : Nat} {ts : List Tie} (hv : ValidY n ts) (x : Nat) : (nearOf ts x).length ≤ n := by rw [(near_perm hv x).length_eq]; exact nbN_len n ts x
section
variable {C : Addr} {ρ : Rsc} {sl : List Sl} {ta : TE} {K : Sl → Prop} {r1 : Sl}
def rSortD : List V → Hp → VK → Prop := fun xs H Q => ∃ (a : Addr) (kvs : List (L2.Key × V)) (ks : List Int), xs = [.ref a] ∧ Rd H a (.dK kvs) ∧ kvs.map (·.1) = ks.map Sum.inl ∧ ks.length < 64 ∧ ∀ (ys : List Int) (p : Addr), ys.Perm ks → ys.Pairwise (· ≤ ·) → H p = none → Q (.ref p) (upd H p (.lst (ys.map V.int)))
theorem k_sortD {X : Cx} (h : X.calm = true) : CallR X (.builtin "sorted") rSortD := call_sortedDI h
/-- sorted(d), d a dict of numbers -/
theorem cd_sortD {ks : List Nat} (hl : ks.length < 64) (k : K (.own ((srtZ (ks.map fun (k : Nat) => (k : Int))).map Dt.int))) : CD C ρ rSortD [.dat (.dki ks)] K := CD1 fun Hs S H v b ok rv Q q => by
  cases rv with
  | dki hp =>
    refine ⟨_, _, ks.map fun (k : Nat) => (k : Int), rfl, .inl (ok.sh _ _ hp), ?_, by rw [List.length_map]; exact hl, fun ys d h1 h2 hd => ?_⟩
    · rw [List.map_map, List.map_map]; rfl
    · have e2 : ys = srtZ (ks.map fun (k : Nat) => (k : Int)) := sorted_uniq (h1.trans (srtZ_perm _).symm) h2 (srtZ_sorted _)
      subst e2
      exact fin_new ok q k (RpAll.of_ints _) d hd
theorem xsortD {n : Nat} {ts : List Tie} {x : Nat} (hv : ValidY n ts) (hn : n ≤ 30) (h : XD C ρ ta sl (.dat (.dki (nearOf ts x)))) : XD C ρ (tCB rSortD (tCons ta tNil)) sl (.own ((nbN n ts x).map natD)) :=
  xcb (ac h an) (cd_sortD (by have := near_len hv x; omega) (congrArg Sl.own (sort_near hv x)))
end

/-! ### the program's search -/
theorem nodup_le {xs : List Nat} {n : Nat} (h : xs.Nodup) (hb : ∀ x ∈ xs, x < n) : xs.length ≤ n := by
  have p : xs.Perm ((List.range n).filter fun x => decide (x ∈ xs)) := (List.perm_ext_iff_of_nodup h ((range_filter_lt n _).imp fun h => by omega)).mpr fun x => by
    rw [List.mem_filter, List.mem_range]
    exact ⟨fun m => ⟨hb x m, decide_eq_true m⟩, fun m => of_decide_eq_true m.2⟩
  rw [p.length_eq]
  exact Nat.le_trans (List.length_filter_le _ _) (by rw [List.length_range]; exact Nat.le_refl _)
theorem nodup_le_of {xs ys : List Nat} (h : xs.Nodup) (hy : ys.Nodup) (hb : ∀ x ∈ xs, x ∈ ys) : xs.length ≤ ys.length := by
  have p : xs.Perm (ys.filter fun x => decide (x ∈ xs)) := (List.perm_ext_iff_of_nodup h (hy.sublist List.filter_sublist)).mpr fun x => by
    rw [List.mem_filter]
    exact ⟨fun m => ⟨hb x m, decide_eq_true m⟩, fun m => of_decide_eq_true m.2⟩
  rw [p.length_eq]
  exact List.length_filter_le _ _
def leftN (n i : Nat) (sv : List Nat) : List Nat := ((List.range n).drop i).filter fun q => !decide (q ∈ sv)
theorem range_drop {n i : Nat} (h : i < n) : (List.range n).drop i = i :: (List.range n).drop (i + 1) := by
  rw [List.drop_eq_getElem_cons (by rw [List.length_range]; exact h), List.getElem_range]
theorem leftN_in {n i : Nat} {sv : List Nat} (h : i < n) (m : i ∈ sv) : leftN n i sv = leftN n (i + 1) sv := by
  unfold leftN
  rw [range_drop h, List.filter_cons, if_neg (by rw [decide_eq_true m]; decide)]
theorem leftN_out {n i : Nat} {sv : List Nat} (h : i < n) (m : i ∉ sv) : leftN n i sv = i :: leftN n (i + 1) sv := by
  unfold leftN
  rw [range_drop h, List.filter_cons, if_pos (by rw [decide_eq_false m]; rfl)]
theorem leftN_end (n : Nat) (sv : List Nat) : leftN n n sv = [] := by
  unfold leftN
  rw [List.drop_eq_nil_of_le (by rw [List.length_range]; exact Nat.le_refl _)]; rfl
theorem leftN_off {n i p : Nat} {ts : List Tie} {gone sv g : List Nat} (h : ∀ q, q ∈ g ↔ Cn n ts gone p q) : offN n ts gone p (leftN n i sv) = leftN n i (sv ++ g) := by
  classical
  unfold offN leftN
  rw [List.filter_filter]
  refine List.filter_congr fun q _ => ?_
  have : decide (Cn n ts gone p q) = decide (q ∈ g) := decide_eq_decide.mpr (h q).symm
  rw [this]
  by_cases h1 : q ∈ sv <;> by_cases h2 : q ∈ g <;> simp [h1, h2]
theorem leftN_start {n : Nat} {sv gone : List Nat} (h : ∀ q, q ∈ sv ↔ q ∈ gone) : leftN n 0 sv = stayN n gone := by
  unfold leftN stayN
  rw [List.drop_zero]
  exact List.filter_congr fun q _ => by rw [decide_eq_decide.mpr (h q)]
/-- while a group grows: p its least place, sv what was seen ahead, a: how many of g were looked at -/
structure Grow (n : Nat) (ts : List Tie) (gone sv : List Nat) (p : Nat) (g : List Nat) (a : Nat) : Prop where
  nd : g.Nodup
  conn : ∀ q ∈ g, Cn n ts gone p q
  out : ∀ q ∈ g, q ∉ sv
  has : p ∈ g
  done : ∀ k < a, ∀ x, g[k]? = some x → ∀ q, tieB ts x q = true → q < n → q ∈ sv ++ g
  le : a ≤ g.length
section
variable {n : Nat} {ts : List Tie} {gone sv g : List Nat} {p a x : Nat}
def moreN (n : Nat) (ts : List Tie) (s : List Nat) (x : Nat) : List Nat := (nbN n ts x).filter fun q => !decide (q ∈ s)
theorem mem_moreN (hv : ValidY n ts) {s : List Nat} {q : Nat} : q ∈ moreN n ts s x ↔ tieB ts x q = true ∧ q ∉ s := by
  unfold moreN
  rw [List.mem_filter, mem_nbN hv]
  simp
theorem moreN_nd (n : Nat) (ts : List Tie) (s : List Nat) (x : Nat) : (moreN n ts s x).Nodup := ((range_filter_lt n _).imp fun h => by omega).sublist List.filter_sublist
theorem moreN_len (n : Nat) (ts : List Tie) (s : List Nat) (x : Nat) : (moreN n ts s x).length ≤ n := Nat.le_trans (List.length_filter_le _ _) (nbN_len n ts x)
theorem Grow.start (hp : p < n) (h1 : p ∉ gone) (h2 : p ∉ sv) : Grow n ts gone sv p [p] 0 :=
  ⟨by simp, fun q hq => by obtain rfl := List.mem_singleton.mp hq; exact .refl hp h1, fun q hq => by obtain rfl := List.mem_singleton.mp hq; exact h2, by simp, fun k hk => absurd hk (by omega), by simp⟩
theorem Grow.len (G : Grow n ts gone sv p g a) : g.length ≤ n := nodup_le G.nd fun q hq => (G.conn q hq).right.1
theorem Grow.next (hv : ValidY n ts) (hg : ∀ q ∈ gone, q ∈ sv) (G : Grow n ts gone sv p g a) (hx : g[a]? = some x) : Grow n ts gone sv p (g ++ moreN n ts (sv ++ g) x) (a + 1) := by
  have hxg := List.mem_of_getElem? hx
  have ha : a < g.length := (List.getElem?_eq_some_iff.mp hx).1
  refine ⟨?_, fun q hq => ?_, fun q hq => ?_, List.mem_append_left _ G.has, fun k hk y hy q ht hq => ?_, by rw [List.length_append]; omega⟩
  · refine List.nodup_append.mpr ⟨G.nd, moreN_nd _ _ _ _, fun q h1 r h2 e => ?_⟩
    subst e
    exact ((mem_moreN hv).mp h2).2 (List.mem_append_right _ h1)
  · rcases List.mem_append.mp hq with h | h
    · exact G.conn q h
    · obtain ⟨h1, h2⟩ := (mem_moreN hv).mp h
      have := near_lt hv ((near_mem hv).mpr h1)
      exact .step (G.conn x hxg) this.1 (fun z => h2 (List.mem_append_left _ (hg q z))) h1
  · rcases List.mem_append.mp hq with h | h
    · exact G.out q h
    · exact fun z => ((mem_moreN hv).mp h).2 (List.mem_append_left _ z)
  · by_cases h : q ∈ sv ++ g
    · rw [← List.append_assoc]; exact List.mem_append_left _ h
    · rcases Nat.lt_or_ge k a with h1 | h1
      · rw [List.getElem?_append_left (by omega)] at hy
        exact absurd (G.done k h1 y hy q ht hq) h
      · obtain rfl : k = a := by omega
        rw [List.getElem?_append_left ha, hx] at hy
        cases hy
        rw [← List.append_assoc]
        exact List.mem_append_right _ ((mem_moreN hv).mpr ⟨ht, h⟩)
theorem Grow.fin (hc : ∀ u ∈ sv, u ∉ gone → ∀ b, Cn n ts gone u b → b ∈ sv) (hs : p ∉ sv) (G : Grow n ts gone sv p g g.length) (q : Nat) : q ∈ g ↔ Cn n ts gone p q := by
  refine ⟨G.conn q, fun c => ?_⟩
  induction c with
  | refl => exact G.has
  | step c h1 h2 h3 ih =>
    rename_i y z
    obtain ⟨k, hk, e⟩ := List.mem_iff_getElem.mp (ih)
    have := G.done k hk y (by rw [List.getElem?_eq_getElem hk, e]) z h3 h1
    rcases List.mem_append.mp this with m | m
    · exact absurd (hc z m h2 p (Cn.step c h1 h2 h3).symm) hs
    · exact m
/-! ### the law's search -/
structure Lead (n : Nat) (ts : List Tie) (gone l : List Nat) : Prop where
  up : l.Pairwise (· < ·)
  ok : ∀ q ∈ l, q < n ∧ q ∉ gone
  cl : ∀ u ∈ l, ∀ b, Cn n ts gone u b → b ∈ l
theorem Lead.start : Lead n ts gone (stayN n gone) := by
  refine ⟨range_filter_lt n _, fun q hq => ?_, fun u hu b c => ?_⟩
  · unfold stayN at hq
    rw [List.mem_filter, List.mem_range] at hq
    exact ⟨hq.1, by simpa using hq.2⟩
  · unfold stayN
    rw [List.mem_filter, List.mem_range]
    exact ⟨c.right.1, by simpa using c.right.2⟩
theorem Lead.off {l : List Nat} (L : Lead n ts gone (p :: l)) (h : ∀ q, q ∈ g ↔ Cn n ts gone p q) : ((p :: l).filter fun q => !decide (q ∈ g)) = offN n ts gone p l ∧ Lead n ts gone (offN n ts gone p l) := by
  classical
  have hp : p ∈ g := (h p).mpr (.refl (L.ok p (by simp)).1 (L.ok p (by simp)).2)
  have e : ((p :: l).filter fun q => !decide (q ∈ g)) = offN n ts gone p l := by
    rw [List.filter_cons, if_neg (by rw [decide_eq_true hp]; decide)]
    unfold offN
    exact List.filter_congr fun q _ => by rw [decide_eq_decide.mpr (h q)]
  refine ⟨e, ?_⟩
  rw [← e]
  refine ⟨L.up.sublist List.filter_sublist, fun q hq => L.ok q ((List.mem_filter.mp hq).1), fun u hu b c => ?_⟩
  rw [List.mem_filter] at hu ⊢
  refine ⟨L.cl u hu.1 b c, ?_⟩
  have hu2 : u ∉ g := by simpa using hu.2
  have : b ∉ g := fun z => hu2 ((h u).mpr (((h b).mp z).trans c.symm))
  simp [this]
def nearB (ts : List Tie) (p : Nat) (g : List Nat) : Bool := g.any fun o => tieB ts p o
/-- one turn of the law's growing -/
def growL (ts : List Tie) (l g : List Nat) : List Nat := g ++ l.filter fun q => !decide (q ∈ g) && nearB ts q g
structure LG (n : Nat) (ts : List Tie) (gone l : List Nat) (p : Nat) (g : List Nat) (t : Nat) : Prop where
  nd : g.Nodup
  mem : ∀ q ∈ g, q ∈ l ∧ Cn n ts gone p q
  has : p ∈ g
  grow : (∀ q ∈ l, q ∉ g → nearB ts q g = false) ∨ t + 1 ≤ g.length
theorem LG.start {l : List Nat} (hm : p ∈ l) (L : Lead n ts gone l) : LG n ts gone l p [p] 0 :=
  ⟨by simp, fun q hq => by obtain rfl := List.mem_singleton.mp hq; exact ⟨hm, .refl (L.ok _ hm).1 (L.ok _ hm).2⟩, by simp, .inr (by simp)⟩
theorem LG.next {l : List Nat} {t : Nat} (L : Lead n ts gone l) (G : LG n ts gone l p g t) : LG n ts gone l p (growL ts l g) (t + 1) := by
  have hl : l.Nodup := L.up.imp fun h => by omega
  refine ⟨?_, fun q hq => ?_, List.mem_append_left _ G.has, ?_⟩
  · refine List.nodup_append.mpr ⟨G.nd, hl.sublist List.filter_sublist, fun q h1 r h2 e => ?_⟩
    subst e
    have := (List.mem_filter.mp h2).2
    simp [h1] at this
  · rcases List.mem_append.mp hq with h | h
    · exact G.mem q h
    · obtain ⟨h1, h2⟩ := List.mem_filter.mp h
      rw [Bool.and_eq_true] at h2
      obtain ⟨o, ho, ht⟩ := List.any_eq_true.mp h2.2
      exact ⟨h1, .step (G.mem o ho).2 (L.ok q h1).1 (L.ok q h1).2 (by rw [tieB_comm]; exact ht)⟩
  · by_cases hc : ∀ q ∈ l, q ∉ g → nearB ts q g = false
    · left
      have e : growL ts l g = g := by
        unfold growL
        rw [List.filter_eq_nil_iff.mpr fun q hq => ?_, List.append_nil]
        by_cases h : q ∈ g
        · simp [h]
        · simp [h, hc q hq h]
      rw [e]; exact hc
    · right
      rcases G.grow with h | h
      · exact absurd h hc
      · have : 1 ≤ (l.filter fun q => !decide (q ∈ g) && nearB ts q g).length := by
          refine List.length_pos_iff.mpr fun z => hc fun q hq hn => ?_
          have := List.filter_eq_nil_iff.mp z q hq
          simpa [hn] using this
        unfold growL
        rw [List.length_append]; omega
theorem LG.fin {l : List Nat} (L : Lead n ts gone l) (G : LG n ts gone l p g l.length) (q : Nat) : q ∈ g ↔ Cn n ts gone p q := by
  have hl : l.Nodup := L.up.imp fun h => by omega
  have hle := nodup_le_of G.nd hl fun x hx => (G.mem x hx).1
  have hc : ∀ q ∈ l, q ∉ g → nearB ts q g = false := by
    rcases G.grow with h | h
    · exact h
    · omega
  refine ⟨fun m => (G.mem q m).2, fun c => ?_⟩
  induction c with
  | refl => exact G.has
  | step c h1 h2 h3 ih =>
    rename_i y z
    have hy := ih
    refine Classical.byContradiction fun hz => ?_
    have := hc z (L.cl y (G.mem y hy).1 z (Cn.one (L.ok y (G.mem y hy).1) ⟨h1, h2⟩ h3)) hz
    unfold nearB at this
    rw [List.any_eq_false] at this
    exact this y hy (by rw [tieB_comm]; exact h3)
theorem growL_len {l : List Nat} : (growL ts l g).length ≤ g.length + l.length := by
  unfold growL
  rw [List.length_append]
  have := List.length_filter_le (fun q => !decide (q ∈ g) && nearB ts q g) l
  omega
end
/-! ### partings -/
def nxtN (r : List Nat) : Nat := if r = [] then 0 else r.getLastD 0 + 1
def setRow (n : Nat) (r : List Nat) : List (List Nat) := (List.range' (nxtN r) (n - nxtN r)).map fun p => r ++ [p]
/-- all rising lists of k places, the least first -/
def setsN (n : Nat) : Nat → List (List Nat)
  | 0 => [[]]
  | k + 1 => (setsN n k).flatMap (setRow n)
theorem setsN_len {n k : Nat} (hn : n ≤ 12) (hk : k ≤ 12) : (setsN n k).length ≤ 4096 := by
  have h : ∀ n < 13, ∀ k < 13, (setsN n k).length ≤ 4096 := by decide +kernel
  exact h n (by omega) k (by omega)
structure SetOk (n k : Nat) (r : List Nat) : Prop where
  len : r.length = k
  up : r.Pairwise (· < ·)
  lt : ∀ x ∈ r, x < n
theorem setsN_ok (n : Nat) : ∀ k, ∀ r ∈ setsN n k, SetOk n k r
  | 0, r, h => by
    obtain rfl := List.mem_singleton.mp h
    exact ⟨rfl, .nil, fun _ h => absurd h (by simp)⟩
  | k + 1, r, h => by
    obtain ⟨q, hq, hr⟩ := List.mem_flatMap.mp h
    obtain ⟨p, hp, rfl⟩ := List.mem_map.mp hr
    have Q := setsN_ok n k q hq
    rw [List.mem_range'_1] at hp
    refine ⟨by rw [List.length_append, Q.len]; rfl, ?_, fun x hx => ?_⟩
    · refine List.pairwise_append.mpr ⟨Q.up, by simp, fun a ha b hb => ?_⟩
      obtain rfl := List.mem_singleton.mp hb
      have hne : q ≠ [] := fun z => by rw [z] at ha; cases ha
      have h1 := hp.1
      unfold nxtN at h1
      rw [if_neg hne] at h1
      have e : q = q.dropLast ++ [q.getLastD 0] := by
        rw [List.getLastD_eq_getLast?, List.getLast?_eq_some_getLast hne]
        exact (List.dropLast_concat_getLast hne).symm
      rw [e] at ha
      rcases List.mem_append.mp ha with m | m
      · have := Q.up
        rw [e] at this
        have := (List.pairwise_append.mp this).2.2 a m _ (List.mem_singleton.mpr rfl)
        omega
      · obtain rfl := List.mem_singleton.mp m
        omega
    · rcases List.mem_append.mp hx with m | m
      · exact Q.lt x m
      · obtain rfl := List.mem_singleton.mp m
        omega
noncomputable def partB (n : Nat) (ts : List Tie) (r : List Nat) : Bool := decide (r.length < (groupsN n ts r).length)
noncomputable def partK (n : Nat) (ts : List Tie) (k : Nat) : Option (List Nat) := (setsN n k).find? (partB n ts)
/-- the fewest places, of these the least list, without which there are more groups than they are -/
noncomputable def partN (n : Nat) (ts : List Tie) : Option (List Nat) := (List.range' 1 (n - 1)).findSome? (partK n ts)
def optL : Option (List Nat) → Dt
  | none => .non
  | some r => ordD r

/-! ### promises -/
theorem mem_insU {xs : List Nat} {x z : Nat} : z ∈ insU xs x ↔ z ∈ xs ∨ z = x := by
  unfold insU
  split
  · rename_i h
    exact ⟨.inl, fun z => z.elim id fun e => e ▸ h⟩
  · simp
theorem insU_len (xs : List Nat) (x : Nat) : (insU xs x).length ≤ xs.length + 1 := by
  unfold insU
  split <;> simp
structure GX where
  q : Bool
  n : Nat
  ts : List Tie
  gone : List Nat
structure GX.Ok (x : GX) : Prop where
  n30 : x.n ≤ 30
  v : ValidY x.n x.ts
  len : x.gone.length ≤ 1000
def gEnc (x : GX) : List Dt := [.yard x.n x.ts, .lst (x.gone.map natD)]
def gtEnc (x : GX) : List Dt := [tD x.q x.n x.ts, .lst (x.gone.map natD)]
def fn_p_groups_without := FnP gEnc GX.Ok (fun x K => K (.own ((groupsN x.n x.ts x.gone).map ordD)))
def fn_l_groups := FnP gtEnc GX.Ok (fun x K => K (.own ((groupsN x.n x.ts x.gone).map ordD)))
def tpgEnc (x : GX × Nat) : List Dt := [tD x.1.q x.1.n x.1.ts, .int (x.2 : Int), .lst (x.1.gone.map natD)]
def fn_l_is_near := FnP tpgEnc (fun x => x.1.gone.length ≤ 1000) (fun x K => K (.dat (.bl (nearB x.1.ts x.2 x.1.gone))))
def mkEnc (a : Nat × Nat) : List Dt := [.int (a.1 : Int), .int (a.2 : Int)]
def fn_p_sets_of := FnP mkEnc (fun a => a.1 ≤ 12 ∧ a.2 ≤ 12) (fun a K => K (.dat (.lst ((setsN a.1 a.2).map ordD))))
def fn_p_need_few := FnP yEnc (fun a => a.1 ≤ 12) (fun _ K => K (.dat .non))
def fn_p_parting := FnP yEnc (fun a => 1 ≤ a.1 ∧ a.1 ≤ 12 ∧ ValidY a.1 a.2) (fun a K => K (.dat (optL (partN a.1 a.2))))
def fn_l_parting := FnP tEnc (fun a => 1 ≤ a.1 ∧ a.1 ≤ 12 ∧ ValidY a.1 a.2) (fun a K => K (.dat (optL (partN a.1 a.2))))
section
variable {C : Addr} {ρ : Rsc} {sl : List Sl} {ta tb : TE} {F : PySem.W.Frag}
theorem xninK {ks : List Nat} {k : Nat} {i : Int} (h1 : XD C ρ ta sl (.dat (.int i))) (h2 : XD C ρ tb sl (.dat (.dki ks))) (e : i = (k : Int)) : XD C ρ (tOp (rNotInA F) ta tb) sl (.dat (.bl (!decide (k ∈ ks)))) := xop h1 h2 (od_notin_dki e rfl)
end
theorem groupsN_done {n : Nat} {ts : List Tie} {gone sv : List Nat} {acc : List (List Nat)} (h : acc ++ groupsL n ts gone (leftN n n sv) = groupsN n ts gone) : acc = groupsN n ts gone := by
  rw [leftN_end, groupsL_nil, List.append_nil] at h; exact h
theorem near_filter (ts : List Tie) (p : Nat) (g : List Nat) : (!decide ((g.filter fun o => tieB ts p o) = [])) = nearB ts p g := by
  unfold nearB
  cases h : g.any fun o => tieB ts p o with
  | true =>
    obtain ⟨o, ho, ht⟩ := List.any_eq_true.mp h
    rw [decide_eq_false (fun z => by have := List.filter_eq_nil_iff.mp z o ho; exact this ht)]; rfl
  | false =>
    rw [decide_eq_true (List.filter_eq_nil_iff.mpr fun o ho => List.any_eq_false.mp h o ho)]; rfl
theorem at_lastD {row : List Nat} (hne : row ≠ []) : atI (row.map natD) (-1) = some (natD (row.getLastD 0)) := by
  have e : row = row.dropLast ++ [row.getLastD 0] := by
    rw [List.getLastD_eq_getLast?, List.getLast?_eq_some_getLast hne]
    exact (List.dropLast_concat_getLast hne).symm
  rw [e, List.map_append]
  simp only [List.map_cons, List.map_nil]
  rw [← e]
  exact at_last _ _
theorem getLastD_mem {row : List Nat} (hne : row ≠ []) : row.getLastD 0 ∈ row := by
  rw [List.getLastD_eq_getLast?, List.getLast?_eq_some_getLast hne]
  exact List.getLast_mem hne
theorem nxtN_le {n k : Nat} {row : List Nat} (h : SetOk n k row) : nxtN row ≤ n := by
  unfold nxtN
  split
  · exact Nat.zero_le _
  · rename_i hne
    exact h.lt _ (getLastD_mem hne)
theorem partN_none {n : Nat} {ts : List Tie} {i : Nat} {xs : List Nat} {x : Nat} (e : xs[i]? = some x) (h : (xs.take i).findSome? (partK n ts) = none) (h2 : partK n ts x = none) : (xs.take (i + 1)).findSome? (partK n ts) = none := by
  rw [take_succ e, List.findSome?_append, h]
  simp [h2]
theorem partN_some {n : Nat} {ts : List Tie} {i : Nat} {xs : List Nat} {x : Nat} {r : List Nat} (e : xs[i]? = some x) (h : (xs.take i).findSome? (partK n ts) = none) (h2 : partK n ts x = some r) : xs.findSome? (partK n ts) = some r := by
  obtain ⟨ys, e2⟩ : ∃ ys, xs = xs.take (i + 1) ++ ys := ⟨_, (List.take_append_drop _ _).symm⟩
  rw [e2, List.findSome?_append, take_succ e, List.findSome?_append, h]
  simp [h2]
theorem find_some_at {α : Type} {xs : List α} {b : α → Bool} {i : Nat} {x : α} (e : xs[i]? = some x) (h : (xs.take i).find? b = none) (hb : b x = true) : xs.find? b = some x := by
  obtain ⟨ys, e2⟩ : ∃ ys, xs = xs.take (i + 1) ++ ys := ⟨_, (List.take_append_drop _ _).symm⟩
  rw [e2, List.find?_append, take_succ e, List.find?_append, h]
  simp [hb]

/-! ### what is refused; papers -/
def erM (D : Addr) : Er := ⟨D, none⟩
def fn_p_need_few_x (D : Addr) := FnX yEnc (fun a er => 12 < a.1 ∧ er = erM D)
theorem pss_none {X : Cx} {sts : List Stmt} : PSs X sts tNever := ⟨fun _ _ _ _ _ _ h => h.elim⟩
section
variable {C : Addr} {ρ : Rsc} {sl : List Sl} {ta tb : TE} {F : PySem.W.Frag} {K : Sl → Prop} {r1 : Sl}
theorem k_lenSet {X : Cx} (F : PySem.W.Frag) (h : X.K = F) {a : Expr} {ta : TE} {p p2 q pos : Pos} (hg : Gl X "len") (hm : X.mg "len" = none) (hg2 : Gl X "set") (hm2 : X.mg "set" = none) (he : PE X a ta) (hc : X.calm = true := by rfl)
    (na : starEach [a] X.env = (false, eval a X.env) :: starEach [] X.env := by rfl) : PE X (.Call (.Name "len" p) [.Call (.Name "set" p2) [a] [] q] [] pos) (RZ.tLenSetI F ta) := by
  subst h; exact RZ.pe_lenSetI hg hm hg2 hm2 he hc na
/-- len(set(xs)), no number twice -/
theorem xlenSet {ns : List Int} (h : XD C ρ ta sl r1) (e : r1.ls = some (ns.map Dt.int)) (nd : ns.Nodup) (hl : ns.length ≤ 4000) : XD C ρ (RZ.tLenSetI F ta) sl (.dat (.int (ns.length : Int))) := fun S0 H0 S H σ g Q q => by
  refine h S0 H0 S H σ g _ fun r S1 H1 x er a1 ok1 => ?_
  subst er
  obtain ⟨l, xs, rfl, hl1, ra⟩ := ok1.lsD a1.ok e
  obtain rfl := ra.ints
  exact ⟨l, ns, rfl, SqL.of hl1, nd, hl, q _ S1 H1 _ rfl a1 (.int _)⟩
/-- the greatest of a list -/
theorem xmaxL {ns : List Int} {m : Int} (h : XD C ρ ta sl r1) (e : (fz r1).ls = some (ns.map Dt.int)) (hm : m ∈ ns) (hb : ∀ y ∈ ns, y ≤ m) : XD C ρ (tCB (rMax2 F) (tCons ta tNil)) sl (.dat (.int m)) :=
  xcb (ac h an) (CD1 fun Hs S H v b ok rv Q q => by
    obtain ⟨p, xs, rfl, hp, ra⟩ := rv.lsD ok e
    obtain rfl := ra.ints
    refine .inr ⟨p, ns, rfl, SqL.of hp, List.length_pos_of_mem hm, fun m' h1 h2 => ?_⟩
    obtain rfl : m' = m := Int.le_antisymm (hb m' h1) (h2 m hm)
    exact fin_dat ok q rfl (.int _))
end
theorem max_row {n k : Nat} {row : List Nat} (h : SetOk n k row) : ((nxtN row : Int) - 1) ∈ ((-1 : Int) :: row.map fun (k : Nat) => (k : Int)) ∧ ∀ y ∈ ((-1 : Int) :: row.map fun (k : Nat) => (k : Int)), y ≤ (nxtN row : Int) - 1 := by
  unfold nxtN
  split
  · rename_i e
    subst e
    simp
  · rename_i hne
    have hm := getLastD_mem hne
    refine ⟨List.mem_cons_of_mem _ (List.mem_map.mpr ⟨_, hm, by omega⟩), fun y hy => ?_⟩
    rcases List.mem_cons.mp hy with rfl | hy
    · omega
    · obtain ⟨x, hx, rfl⟩ := List.mem_map.mp hy
      have e : row = row.dropLast ++ [row.getLastD 0] := by
        rw [List.getLastD_eq_getLast?, List.getLast?_eq_some_getLast hne]
        exact (List.dropLast_concat_getLast hne).symm
      have hup := h.up
      rw [e] at hup hx
      rcases List.mem_append.mp hx with z | z
      · have := (List.pairwise_append.mp hup).2.2 x z _ (List.mem_singleton.mpr rfl)
        omega
      · obtain rfl := List.mem_singleton.mp z
        omega
/-- a paper that tells places -/
def pgEnc (x : GX) : List Dt := [.yard x.n x.ts, .tup [.str "parted", .lst (x.gone.map natD)]]
def fn_p_is_shown := FnP pgEnc (fun x => x.n ≤ 30 ∧ ValidY x.n x.ts ∧ x.gone.Nodup ∧ ∀ q ∈ x.gone, q < x.n) (fun x K => K (.dat (.bl (decide (0 < x.gone.length) && partB x.n x.ts x.gone))))
/-- a lambda that hands a yard of too many places on -/
def spLamM (C D : Addr) : List (Option V) → Sp := fun ws vs H Q E => ∃ v1, ws = [some v1] ∧ vs = [] ∧ spX C (FnX yEnc (fun a er => 12 < a.1 ∧ er = erM D)) [v1] H Q E
def spRefM (C : Addr) : List (Option V) → Hp → VK → Prop := fun ws H Q => ∃ S v1 a, ws = [some v1] ∧ Ok ρ0 S H ∧ RpAll C S [v1] (yEnc a) ∧ 12 < a.1 ∧ ∀ S' H', Mv ρ0 S H S' H' → Q (.bl true) H'

/-- three lambdas over a yard of too many places, each refused; and one thing more -/
theorem sdz_lams3 {C die P : Addr} {mk : Nat → Addr → LamK.LF} {q : Str} {F F1 F2 F4 : PySem.W.Frag} {sl : List Sl} {n : Nat} {ts : List Tie} {i j a : Nat} {t2 : TE} (hdP : die ≠ P) (hq : ∀ m c', (mk m c').qual = q) (hcc : ∀ m c', (mk m c').c = c') (hno : 12 < n) (h3 : sl[a]? = some (.dat (.yard n ts))) (hi : i < sl.length) (hj : j < sl.length) (hai : a ≠ i)
    (htail : ∀ N, XD C ρ0 t2 (List.replicate N .any) (.dat (.bl true))) :
    SDz C ((ρd die).wA (HasT P)) (tSeq (tAsg (tLst (tCons (LamK.tLamE [(P, q)] P (mk 0)) tNil)) (gName i)) (tSeq (tDrop (tBM F1 "list" rAppend (tVar i) (tCons (LamK.tLamE [(P, q)] P (mk 1)) tNil))) (tSeq (tDrop (tBM F2 "list" rAppend (tVar i) (tCons (LamK.tLamE [(P, q)] P (mk 2)) tNil)))
      (tRet (tAndV (tOp (rEqA F) (LamK.tLcC (iList F4 (tVar i)) (gName j) (fun ws => tNot (tB (LamK.tCallW mk ws (fun _ _ _ => spRefM C) (tCons (tVar j) tNil)))) (tVar j) [j] [a]) (tLst tNil)) t2))))) sl := fun S0 H0 S H σ g D kr => by
  have hP : H P = some (.tbl #[]) := g.mv.hh P _ (fun z => hdP z.symm) g.k1.2.2
  have sP : S P = none := g.mv.fr P g.k1.2.1 (by rw [g.k1.2.2]; simp)
  have hT : LamX.Tabs [(P, q)] H := fun p hp => by obtain rfl := List.mem_singleton.mp hp; exact LamX.TabS.nil hP
  have hm : (P, q) ∈ [(P, q)] := List.mem_singleton.mpr rfl
  obtain ⟨v1, e1, r1⟩ := g.ok a _ h3
  have li : i < σ.length := by rw [g.len]; exact hi
  have lj : j < σ.length := by rw [g.len]; exact hj
  refine made_first (mk := mk) hq hT hm fun l HA M1 => ?_
  have hs : (σ.set i (some (V.ref l)))[i]? = some (some (V.ref l)) := List.getElem?_set_self li
  refine made_more hq M1 hm hs (by decide) fun HB M2 => ?_
  refine made_more hq M2 hm hs (by decide) fun HC M3 => ?_
  have sl1 : NdefX.slotAt (σ.set i (some (V.ref l))) a = some v1 := by
    unfold NdefX.slotAt
    rw [List.getElem?_set_ne (Ne.symm hai)]
    cases z : σ[a]? with
    | none => rw [z] at e1; cases e1
    | some o => rw [z] at e1; exact e1
  refine ref_eq M3 hs (by rw [List.length_set]; exact lj) hcc hq (fun m f c' H2 kp Qb k => ?_) fun H' => ⟨true, rfl, ?_⟩
  · refine ⟨S, v1, (n, ts), by rw [List.map_cons, List.map_nil, sl1], ⟨fun b o eb => ?_, fun _ z => z.elim, fun _ z => z.elim, trivial⟩, .cons r1 .nil, hno, fun S' H' mv => k H' fun b o e => mv.hh b o (fun z => z) e⟩
    have nb : b ≠ P := fun z => by subst z; rw [sP] at eb; cases eb
    exact kp b o (M3.keep b o (g.k.sh b o eb) nb)
  · rw [if_pos rfl]
    exact htail _ _ _ _ _ _ good_any _ fun r S' H'' v er m rv => by subst er; cases rv; exact kr _
theorem partN_ok {n : Nat} {ts : List Tie} {r : List Nat} (h : partN n ts = some r) : ∃ k, 1 ≤ k ∧ k < n ∧ SetOk n k r ∧ partB n ts r = true := by
  unfold partN at h
  obtain ⟨k, hk, e⟩ := List.exists_of_findSome?_eq_some h
  rw [List.mem_range'_1] at hk
  unfold partK at e
  exact ⟨k, hk.1, by omega, setsN_ok n k r (List.mem_of_find?_eq_some e), List.find?_some e⟩
theorem alD_opt {n : Nat} {ts : List Tie} (hn : n ≤ 30) : alD 8 (optL (partN n ts)) = true := by
  cases h : partN n ts with
  | none => rfl
  | some r =>
    obtain ⟨k, _, h2, h3, _⟩ := partN_ok h
    exact alD_nats (k := 6) (by have := h3.len; omega)
/-- where the places that stay have no ties each is a group -/
theorem groupsL_lone {n : Nat} {ts : List Tie} {gone : List Nat} (h : ∀ p q, p ∉ gone → q ∉ gone → tieB ts p q = false) : ∀ (k : Nat) (l : List Nat), l.length ≤ k → l.Nodup → (∀ q ∈ l, q < n ∧ q ∉ gone) → groupsL n ts gone l = l.map fun p => [p]
  | _, [], _, _, _ => by rw [groupsL_nil]; rfl
  | 0, p :: l, hl, _, _ => by simp at hl
  | k + 1, p :: l, hl, nd, ok => by
    have hc : ∀ q, Cn n ts gone p q ↔ q = p := fun q => by
      refine ⟨fun c => ?_, fun e => by rw [e]; exact .refl (ok p (by simp)).1 (ok p (by simp)).2⟩
      cases c with
      | refl => rfl
      | step c h1 h2 h3 => rw [h _ _ c.right.2 h2] at h3; cases h3
    have e1 : compN n ts gone p = [p] := by
      have hup : (compN n ts gone p).Pairwise (· < ·) := range_filter_lt n _
      refine uniqG (r := fun a b => a < b) (fun a b h1 h2 => by omega) ((List.perm_ext_iff_of_nodup (hup.imp fun h => by omega) (by simp)).mpr fun q => ?_) hup (by simp)
      rw [mem_compN, hc, List.mem_singleton]
    have e2 : offN n ts gone p l = l := by
      classical
      unfold offN
      refine List.filter_eq_self.mpr fun q hq => ?_
      have : ¬ Cn n ts gone p q := fun c => (List.nodup_cons.mp nd).1 (((hc q).mp c) ▸ hq)
      simp [this]
    rw [groupsL_cons, e1, e2, groupsL_lone h k l (by simp at hl; omega) (List.nodup_cons.mp nd).2 fun q hq => ok q (List.mem_cons_of_mem _ hq)]
    rfl
theorem groupsN_lone {n : Nat} {ts : List Tie} {gone : List Nat} (h : ∀ p q, p ∉ gone → q ∉ gone → tieB ts p q = false) : groupsN n ts gone = (stayN n gone).map fun p => [p] :=
  groupsL_lone h _ _ (Nat.le_refl _) ((range_filter_lt n _).imp fun h => by omega) fun q hq => (Lead.start (ts := ts)).ok q hq
theorem stayN_0 {n : Nat} (hn : 1 ≤ n) : stayN n [0] = List.range' 1 (n - 1) := by
  unfold stayN
  rw [List.range_eq_range', show n = 1 + (n - 1) by omega, ← List.range'_append_1 (s := 0), List.filter_append, show 1 + (n - 1) - 1 = n - 1 by omega]
  have e1 : (List.range' 0 1).filter (fun q => !decide (q ∈ [0])) = [] := by decide
  rw [e1, List.nil_append, Nat.zero_add]
  refine List.filter_eq_self.mpr fun q hq => ?_
  rw [List.mem_range'_1] at hq
  have : q ≠ 0 := by omega
  simp [this]
theorem groups_great {n : Nat} (hn : 1 ≤ n) : groupsN n [(0, 1)] [0] = (List.range' 1 (n - 1)).map fun p => [p] := by
  rw [groupsN_lone (fun p q hp hq => ?_), stayN_0 hn]
  unfold tieB
  refine decide_eq_false fun m => ?_
  have := List.mem_singleton.mp m
  have h1 : min p q = 0 := congrArg Prod.fst this
  have : p = 0 ∨ q = 0 := by omega
  rcases this with rfl | rfl
  · exact hp (by simp)
  · exact hq (by simp)
theorem part_great {n : Nat} (hn : 3 ≤ n) : partB n [(0, 1)] [0] = true := by
  unfold partB
  rw [groups_great (by omega)]
  refine decide_eq_true ?_
  simp; omega
theorem groups_none {n : Nat} (hn : 1 ≤ n) : groupsN n [] [0] = (List.range' 1 (n - 1)).map fun p => [p] := by
  rw [groupsN_lone (fun p q hp hq => by unfold tieB; exact decide_eq_false fun m => nomatch m), stayN_0 hn]
theorem part_none : partN 12 [] = some [0] := by
  have e1 : partK 12 [] 1 = some [0] := by
    unfold partK
    have e2 : setsN 12 1 = [0] :: (setsN 12 1).tail := by decide +kernel
    rw [e2, List.find?_cons]
    have : partB 12 [] [0] = true := by
      unfold partB
      rw [groups_none (by omega)]
      exact decide_eq_true (by simp)
    rw [this]
  unfold partN
  have e3 : List.range' 1 (12 - 1) = 1 :: List.range' 2 10 := by decide
  rw [e3, List.findSome?_cons, e1]
theorem valid01 {n : Nat} (hn : 2 ≤ n) : ValidY n [(0, 1)] := ⟨by simp, fun p hp => by obtain rfl := List.mem_singleton.mp hp; exact ⟨by decide, by show 1 < n; omega⟩⟩
def NsI (us : List Nat) (i : Nat) (acc : List Dt) : Prop := ∃ l : List Nat, acc = l.map natD ∧ l.Sublist (us.take i)
theorem singles (n : Nat) : (((List.range' 1 (n - 1)).filter fun _ => true).map fun p => Dt.lst [natD p]) = ((List.range' 1 (n - 1)).map fun p => [p]).map ordD := by
  rw [filter_true, List.map_map]; rfl
end Den
/-! Dicts whose keys are pairs (a tuple of numbers, a number). -/
namespace Den
open PySem PyProof.Rows L2 D3
abbrev NK := List Nat × Nat
abbrev NE := NK × Addr × V
def nkey (k : NK) : NestedKey := .tup [.tup (k.1.map fun (p : Nat) => .num (p : Int)), .num (k.2 : Int)]
theorem nums_inj : ∀ {a b : List Nat}, (a.map fun (p : Nat) => NestedKey.num (p : Int)) = b.map (fun (p : Nat) => NestedKey.num (p : Int)) → a = b
  | [], [], _ => rfl
  | [], _ :: _, h => by simp at h
  | _ :: _, [], h => by simp at h
  | x :: a, y :: b, h => by
    rw [List.map_cons, List.map_cons, List.cons.injEq, NestedKey.num.injEq] at h
    rw [nums_inj h.2, Int.natCast_inj.mp h.1]
theorem nkey_inj {a b : NK} (h : nkey a = nkey b) : a = b := by
  unfold nkey at h
  rw [NestedKey.tup.injEq, List.cons.injEq, NestedKey.tup.injEq, List.cons.injEq, NestedKey.num.injEq] at h
  exact Prod.ext (nums_inj h.1) (Int.natCast_inj.mp h.2.1)
/-- the tuple at a is the key k -/
def KeyAt (H : Hp) (a : Addr) (k : NK) : Prop := ∃ b, H a = some (.tup [.ref b, .int (k.2 : Int)]) ∧ H b = some (.tup (k.1.map fun (p : Nat) => V.int (p : Int)))
theorem KeyAt.mono {H H' : Hp} {a : Addr} {k : NK} (h : KeyAt H a k) (e : ∀ b xs, H b = some (.tup xs) → H' b = some (.tup xs)) : KeyAt H' a k := by
  obtain ⟨b, h1, h2⟩ := h
  exact ⟨b, e _ _ h1, e _ _ h2⟩
theorem depth_nums : ∀ ks : List Nat, NestedKey.depthAll (ks.map fun (p : Nat) => .num (p : Int)) = 0
  | [] => rfl
  | k :: ks => by rw [List.map_cons, NestedKey.depthAll, depth_nums ks]; rfl
theorem depth_nkey (k : NK) : (nkey k).depth ≤ 8 := by
  unfold nkey
  simp [NestedKey.depth, NestedKey.depthAll, depth_nums]
theorem nested_nums {h : Heap} : ∀ {ks : List Nat} {us : List Value}, Vals (ks.map fun (p : Nat) => V.int (p : Int)) us → NestedAll h (ks.map fun (p : Nat) => .num (p : Int)) us
  | [], _, r => by cases r; exact .nil
  | k :: ks, _, r => by
    cases r with
    | cons h t =>
      obtain ⟨tk, rfl⟩ := h
      exact .cons (.int _ _) (nested_nums t)
theorem KeyAt.is {P : Program} {w : World} {H : Hp} {h : Heap} {a : Addr} {k : NK} (hok : HOk P w H h) (e : KeyAt H a k) : (nestedKind P w).is h (nkey k) a := by
  obtain ⟨b, h1, h2⟩ := e
  obtain ⟨_, its, r, o, g1, g2, n, g3⟩ := (show ObjOk P w H h a (.tup [.ref b, .int (k.2 : Int)]) from hok a _ h1)
  obtain ⟨_, jts, r', o', f1, f2, n', f3⟩ := (show ObjOk P w H h b (.tup (k.1.map fun (p : Nat) => V.int (p : Int))) from hok b _ h2)
  refine ⟨?_, depth_nkey k⟩
  refine .tup g1 g2 g3 ?_
  cases r with
  | cons r1 r =>
    cases r with
    | cons r2 r =>
      cases r
      cases r1
      obtain ⟨tk, rfl⟩ := r2
      exact .cons (.tup f1 f2 f3 (nested_nums (by simpa using r'))) (.cons (.int _ _) .nil)
def NP : List NE → List (NestedKey × Addr × Value) → Prop := Paired fun p q => q.1 = nkey p.1 ∧ q.2.1 = p.2.1 ∧ RelV p.2.2 q.2.2
def atE (xs : List NE) (k : NK) : Option (Addr × V) := (xs.find? fun x => decide (x.1 = k)).map (·.2)
def putE (k : NK) (v : V) (x : NE) : NE := if x.1 = k then (x.1, x.2.1, v) else x
def putN (xs : List NE) (k : NK) (a : Addr) (v : V) : List NE := if (atE xs k).isSome then xs.map (putE k v) else xs ++ [(k, a, v)]
theorem NP.at {xs : List NE} {ys : List (NestedKey × Addr × Value)} (h : NP xs ys) (k : NK) : (atE xs k = none ∧ atKey ys (nkey k) = none) ∨ ∃ a v u, atE xs k = some (a, v) ∧ atKey ys (nkey k) = some (a, u) ∧ RelV v u := by
  unfold NP at h
  induction h with
  | nil => exact .inl ⟨rfl, rfl⟩
  | @cons p q ps qs hp t ih =>
    obtain ⟨p1, p2, p3⟩ := p
    obtain ⟨q1, q2, q3⟩ := q
    obtain ⟨e1, e2, e3⟩ := hp
    dsimp only at e1 e2 e3
    subst e1 e2
    by_cases hk : p1 = k
    · subst hk
      refine .inr ⟨q2, p3, q3, ?_, ?_, e3⟩
      · unfold atE; rw [List.find?_cons]; simp
      · unfold atKey; rw [List.find?_cons]; simp
    · have hk2 : ¬ nkey p1 = nkey k := fun z => hk (nkey_inj z)
      have a1 : atE ((p1, q2, p3) :: ps) k = atE ps k := by unfold atE; rw [List.find?_cons]; simp [hk]
      have a2 : atKey ((nkey p1, q2, q3) :: qs) (nkey k) = atKey qs (nkey k) := by unfold atKey; rw [List.find?_cons]; simp [hk2]
      rw [a1, a2]
      exact ih
theorem NP.put {xs : List NE} {ys : List (NestedKey × Addr × Value)} (h : NP xs ys) (k : NK) (a : Addr) {v : V} {u : Value} (r : RelV v u) : NP (putN xs k a v) (storedH ys (nkey k) a u) := by
  have hm : NP (xs.map (putE k v)) (ys.map (putAt (nkey k) u)) := by
    unfold NP at h ⊢
    induction h with
    | nil => exact .nil
    | @cons p q ps qs hp t ih =>
      rw [List.map_cons, List.map_cons]
      refine .cons ?_ ih
      unfold putE putAt
      by_cases hk : p.1 = k
      · rw [if_pos hk, if_pos (by rw [hp.1, hk])]
        exact ⟨hp.1, hp.2.1, r⟩
      · rw [if_neg hk, if_neg (fun z => hk (nkey_inj (hp.1.symm.trans z)))]
        exact hp
  have ha : NP (xs ++ [(k, a, v)]) (ys ++ [(nkey k, a, u)]) := by
    clear hm
    unfold NP at h ⊢
    induction h with
    | nil => exact .cons ⟨rfl, rfl, r⟩ .nil
    | cons hp t ih => exact .cons hp ih
  unfold putN storedH
  rcases h.at k with ⟨h1, h2⟩ | ⟨b, v', u', h1, h2, _⟩
  · rw [h1, h2]; exact ha
  · rw [h1, h2]; exact hm
theorem putN_len (xs : List NE) (k : NK) (a : Addr) (v : V) : (putN xs k a v).length ≤ xs.length + 1 := by
  unfold putN
  split <;> simp
theorem putN_mem {xs : List NE} {k : NK} {a : Addr} {v : V} {x : NE} (h : x ∈ putN xs k a v) : (∃ y ∈ xs, x.1 = y.1 ∧ x.2.1 = y.2.1) ∨ (x.1 = k ∧ x.2.1 = a) := by
  unfold putN at h
  split at h
  · obtain ⟨y, hy, rfl⟩ := List.mem_map.mp h
    refine .inl ⟨y, hy, ?_⟩
    unfold putE
    split <;> exact ⟨rfl, rfl⟩
  · rcases List.mem_append.mp h with h | h
    · exact .inl ⟨x, h, rfl, rfl⟩
    · obtain rfl := List.mem_singleton.mp h
      exact .inr ⟨rfl, rfl⟩
def ObjO (d : Addr) (o : Obj) : HO := .ext fun h => h.get? d = some o
structure NdRel (P : Program) (w : World) (o : Obj) (xs : List NE) : Prop where
  ex : o.ExactDict
  ys : ∃ (ys : List (NestedKey × Addr × Value)) (es : Array DictEntry) (ep : Nat), NP xs ys ∧ o.data = .dict es ep ∧ es.toList = ys.map (entryOfKey (nestedKind P w)) ∧ (ys.map (·.1)).Nodup
/-- at d stands a dict with these keys and values -/
structure NdAt (P : Program) (w : World) (H : Hp) (d : Addr) (xs : List NE) : Prop where
  ob : ∃ o, H d = some (ObjO d o) ∧ NdRel P w o xs
  sm : (d == sysModules) = false
  ks : ∀ x ∈ xs, KeyAt H x.2.1 x.1
  len : xs.length ≤ 1000000
theorem objO_at {P : Program} {w : World} {H : Hp} {h : Heap} {d : Addr} {o : Obj} (hok : HOk P w H h) (e : H d = some (ObjO d o)) : h.get? d = some o := by
  obtain ⟨z, _, _⟩ := hok d _ e
  exact z
section
variable {X : Cx} {pins : List (Addr × Obj)} {σ : L2.St} {H : Hp} {s : Shared} {d a : Addr} {xs : List NE} {k : NK}
theorem nd_rd (I : Inv X pins σ H s) (h : NdAt X.prog X.w H d xs) : ∃ ys, NP xs ys ∧ s.heap.DictOfH (nestedKind X.prog X.w) d ys := by
  obtain ⟨⟨o, ho, ⟨ex, ys, es, ep, np, hd, he, hn⟩⟩, sm, ks, _⟩ := h
  refine ⟨ys, np, o, es, ep, objO_at I.hok ho, ex, hd, he, fun y hy => ?_, hn⟩
  have key : ∀ {xs : List NE} {ys : List (NestedKey × Addr × Value)}, NP xs ys → (∀ x ∈ xs, KeyAt H x.2.1 x.1) → ∀ y ∈ ys, (nestedKind X.prog X.w).is s.heap y.1 y.2.1 := by
    intro xs ys np
    unfold NP at np
    induction np with
    | nil => intro _ y hy; exact nomatch hy
    | @cons p q ps qs hp t ih =>
      intro hk y hy
      rcases List.mem_cons.mp hy with rfl | hy
      · rw [hp.1, hp.2.1]; exact (hk p (by simp)).is I.hok
      · exact ih (fun x hx => hk x (List.mem_cons_of_mem _ hx)) y hy
  exact key np ks y hy
theorem nd_room {A : Around} (hu : A.units + 64 < cLine) : (nestedKind X.prog X.w).room A.in1 := by
  show A.units + 1 + 8 < cLine
  omega
/-- an object of a dict changes -/
theorem nd_write {o' : Obj} {h' : Heap} {t' : Nat} (I : Inv X pins σ H s) (h : NdAt X.prog X.w H d xs) (hs : Heap.SameBut d s.heap h') (e : h'.get? d = some o') : Inv X pins σ (upd H d (ObjO d o')) { s with heap := h', toks := t' } := by
  obtain ⟨⟨o, ho, _⟩, _⟩ := h
  refine L2.d_write I (by rw [ho]; exact True.intro) hs ⟨_, e⟩ ?_
  exact ⟨e, ⟨_, e⟩, fun h1 h2 p st => st _ p⟩
/-! ### k in d, k not in d, d[k], d.get(k, x), d[k] = v, {} -/
def rNIn (P : Program) (w : World) : R2 := fun y x H Q => ∃ a d xs k, y = .ref a ∧ x = .ref d ∧ NdAt P w H d xs ∧ KeyAt H a k ∧ Q (.bl (atE xs k).isSome) H
def rNIx (P : Program) (w : World) : R2 := fun x y H Q => ∃ a d xs k b v, x = .ref d ∧ y = .ref a ∧ NdAt P w H d xs ∧ KeyAt H a k ∧ atE xs k = some (b, v) ∧ Q v H
def rNGet (P : Program) (w : World) : V → List V → Hp → VK → Prop := fun x vs H Q => ∃ a d xs k z, x = .ref d ∧ vs = [.ref a, z] ∧ NdAt P w H d xs ∧ KeyAt H a k ∧ Q (((atE xs k).map (·.2)).getD z) H
def rNSet (P : Program) (w : World) : TSet := fun x i v H Q => ∃ a d xs k, x = .ref d ∧ i = .ref a ∧ NdAt P w H d xs ∧ KeyAt H a k ∧ xs.length < 1000000 ∧ ∀ o, NdRel P w o (putN xs k a v) → Q (upd H d (ObjO d o))
theorem op_nin (hu : X.A.units + 64 < cLine) : OpR X (compareOp .In) (rNIn X.prog X.w) := by
  intro pins s σ H x y v u Q I rx ry h
  obtain ⟨a, d, xs, k, rfl, rfl, nd, ka, q⟩ := h
  obtain rfl : v = Value.ref a := rx
  obtain rfl : u = Value.ref d := ry
  obtain ⟨ys, np, dd⟩ := nd_rd I nd
  have e : (atKey ys (nkey k)).isSome = (atE xs k).isSome := by
    rcases np.at k with ⟨h1, h2⟩ | ⟨b, v', u', h1, h2, _⟩
    · rw [h1, h2]; rfl
    · rw [h1, h2]; rfl
  exact wpAny_in_heap (nd_room hu) (ka.is I.hok) nd.sm dd ⟨.bl (atE xs k).isSome, H, I.tok _, congrArg Value.bool e, q⟩
theorem ix_nd (hu : X.A.units + 64 < cLine) : IxR X (rNIx X.prog X.w) := by
  intro value slice pins s σ H x y v u Q I rx ry h hs
  obtain ⟨a, d, xs, k, b, v0, rfl, rfl, nd, ka, e, q⟩ := h
  obtain rfl : v = Value.ref d := rx
  obtain rfl : u = Value.ref a := ry
  obtain ⟨ys, np, dd⟩ := nd_rd I nd
  have hT := dd.typeIs
  have get : ∀ (A' : Around) (E' : Value → Shared → Prop) (R : Value → Shared → Prop), A'.units = X.A.units → (∀ w' s3, Inv X pins σ H s3 → L2.RelV v0 w' → R w' s3) → wpAny (model X.prog X.w) A' (getItem (.ref d) (.ref a)) R E' s := fun A' E' R hA hR => by
    rcases np.at k with ⟨h1, h2⟩ | ⟨b', v', u', h1, h2, r⟩
    · rw [h1] at e; cases e
    · rw [h1] at e; cases e
      exact wpAny_getItem_heap (show (nestedKind X.prog X.w).room A'.in1 by show A'.units + 1 + 8 < cLine; omega) (ka.is I.hok) dd h2 (hR _ _ (I.tok _) r)
  unfold subscriptTail
  refine wpAny_bind ?_
  rw [getitemInPython_of_ne hT.not_modules]
  refine wpAny_bind (wpAny_specialOf hT PySem.F.slot_dict_getitem.lookup ?_)
  have fin : wpAny (model X.prog X.w) X.A (subscripted slice false (.ref d) (.ref a)) (fun r s₃ => wpAny (model X.prog X.w) X.A (letTemporaryGo value (.ref d) r >>= fun _ => pure r) (EP X pins σ Q) X.xe s₃) X.xe s := by
    rw [hs]
    exact wpAny_operating (wpAny_mono (get _ (fun _ _ => False) _ rfl fun w' s3 I3 rw' => (⟨v0, H, I3, rw', q⟩ : EP X pins σ Q w' s3)) (fun r s₃ h₃ => wpAny_bind (wpAny_letTemporaryGo (wpAny_pure h₃))) fun _ _ x => x.elim)
  first
    | exact wpAny_pure (wpAny_bind fin)
    | exact wpAny_bind (wpAny_pure (wpAny_bind fin))
    | exact wpAny_bind fin
/-- a[b], whatever a is -/
theorem mt_nget (hu : X.A.units + 64 < cLine) : MtR X "dict.get" (rNGet X.prog X.w) := by
  intro pins s σ H x vs v us Q I rx rv h
  obtain ⟨a, d, xs, k, z, rfl, rfl, nd, ka, q⟩ := h
  cases rx
  cases rv with
  | cons r1 rr =>
    cases rr with
    | cons r2 rr =>
      cases rr
      cases r1
      obtain ⟨ys, np, dd⟩ := nd_rd I nd
      refine call_meetsIn PySem.F.slot_dict_get dd.typeIs PySem.F.entry_dict_get (PySem.F.args_dict_get_3 _ _ _) (meetsH_dict_get_default (nestedKind X.prog X.w) d a nd.sm _) ⟨nd_room hu, nkey k, ys, ka.is I.hok, dd, ((atE xs k).map (·.2)).getD z, H, I.tok _, ?_, q⟩
      rcases np.at k with ⟨h1, h2⟩ | ⟨b', v', u', h1, h2, r⟩
      · rw [h1, h2]; exact r2
      · rw [h1, h2]; exact r
theorem set_nd (hu : X.A.units + 64 < cLine) : PSet X (rNSet X.prog X.w) := by
  intro pins s σ H o i v ov iv u Q I ro ri rv h
  obtain ⟨a, d, xs, k, rfl, rfl, nd, ka, hl, q⟩ := h
  obtain rfl : ov = Value.ref d := ro
  obtain rfl : iv = Value.ref a := ri
  obtain ⟨ys, np, dd⟩ := nd_rd I nd
  have hz : ys.length ≤ sizeLine := by rw [← Paired.length np, sizeLine_eq]; omega
  refine wpAny_setItem_heap (hsz := hz) (nd_room hu) (ka.is I.hok) dd fun h' dd' hs => ?_
  obtain ⟨o', es, ep, ho', ex', hd', he', _, hn'⟩ := dd'
  exact ⟨_, nd_write I nd hs ho', q o' ⟨ex', _, es, ep, np.put k a rv, hd', he', hn'⟩⟩
def tDNewN (P : Program) (w : World) : TE := fun σ H Q => ∀ p o, (p == sysModules) = false → H p = none → NdRel P w o [] → Q (.ref p) (upd H p (ObjO p o))
theorem pe_dnewN {pos : Pos} : PE X (.Dict [] [] pos) (tDNewN X.prog X.w) := ⟨fun pins s σ H Q I h =>
  wpAny_Dict_empty ⟨.ref s.heap.objs.size, _, I.laid (a := s.heap.objs.size) (o := ObjO s.heap.objs.size { cls := .type "dict", data := .dict #[] }) (t' := s.toks) (fun _ _ q => Heap.get?_push_of_some _ q) (Nat.le_refl _) ⟨Heap.get?_push_size _ rfl, ⟨_, Heap.get?_push_size _ rfl⟩, fun h1 h2 p st => st _ p⟩, rfl, h _ _ (dk_empty s.heap I.big (P := X.prog) (w := X.w) (H := fun _ => none)).2.1 (I.hok.fresh (Nat.le_refl _)) ⟨⟨rfl, rfl, rfl⟩, [], #[], _, .nil, rfl, rfl, .nil⟩⟩⟩
end

section
variable {X : Cx} {o e f k v : Expr} {apos cpos pos : Pos} {td ty tx tk tv : TE}
/-- d.get(k, x) -/
def tNGet2 (P : Program) (w : World) (td ty tx : TE) : TE := fun σ H Q => td σ H fun x H1 => ∃ d xs, x = .ref d ∧ NdAt P w H1 d xs ∧ ty σ H1 fun y H2 => tx σ H2 fun z H3 => ∃ a k xs', y = .ref a ∧ NdAt P w H3 d xs' ∧ KeyAt H3 a k ∧ Q (((atE xs' k).map (·.2)).getD z) H3
theorem pe_nget2 (hu : X.A.units + 64 < cLine) (ho : PE X o td) (he : PE X e ty) (hf : PE X f tx) (m : M2 X o "get" apos e f cpos) : PE X (.Call (.Attribute o "get" apos) [e, f] [] cpos) (tNGet2 X.prog X.w td ty tx) := by
  refine ⟨fun pins s σ H Q I h => ?_⟩
  refine wpAny_Call_method m.base m.few m.line PySem.F.plainAttrs_dict PySem.F.slot_dict_get PySem.F.type_dict_get (thn (ho.run pins s σ H _ I h) fun u s1 ⟨x, H1, I1, rx, d, xs, ex, nd, q1⟩ => ?_)
  subst ex
  obtain rfl : u = Value.ref d := rx
  obtain ⟨ys, np, dd⟩ := nd_rd I1 nd
  refine ⟨dd.typeIs, fun b q => ?_, ?_⟩
  · cases q
    obtain ⟨ob, _, _, h1, h2, _⟩ := dd
    exact ⟨ob, h1, h2.2.1⟩
  rw [m.trees]
  refine Calls.callWith_builtin rfl (Calls.evalArgs_plain (Calls.spliced_cons (thn (he.run pins s1 σ H1 _ I1 q1) fun iv s2 ⟨y, H2, I2, ry, q2⟩ =>
    Calls.spliced_cons (thn (hf.run pins s2 σ H2 _ I2 q2) fun fv s3 ⟨z, H3, I3, rz, a, k, xs', ey, nd', ka, q3⟩ => Calls.spliced_nil ?_))))
  subst ey
  exact mt_nget hu pins s3 σ H3 (.ref d) [.ref a, z] (.ref d) [iv, fv] Q I3 rfl (.cons ry (.cons rz .nil)) ⟨a, d, xs', k, z, rfl, rfl, nd', ka, q3⟩
/-- {k: v} -/
def tDisp1 (P : Program) (w : World) (tk tv : TE) : TE := fun σ H Q => ∀ p o0, (p == sysModules) = false → H p = none → NdRel P w o0 [] → tk σ (upd H p (ObjO p o0)) fun x H1 => tv σ H1 fun y H2 => H2 p = some (ObjO p o0) ∧ ∃ a k, x = .ref a ∧ KeyAt H2 a k ∧ ∀ o, NdRel P w o [(k, a, y)] → Q (.ref p) (upd H2 p (ObjO p o))
theorem pe_disp1 (hu : X.A.units + 64 < cLine) (hk : PE X k tk) (hv : PE X v tv) : PE X (.Dict [some k] [v] pos) (tDisp1 X.prog X.w tk tv) := by
  refine ⟨fun pins s σ H Q I q => ?_⟩
  have hn := I.hok.fresh (Nat.le_refl s.heap.objs.size)
  have nr : NdRel X.prog X.w { cls := .type "dict", data := .dict #[] } [] := ⟨⟨rfl, rfl, rfl⟩, [], #[], _, .nil, rfl, rfl, .nil⟩
  have sm : (s.heap.objs.size == sysModules) = false := (dk_empty s.heap I.big (P := X.prog) (w := X.w) (H := fun _ => none)).2.1
  have I1 := I.laid (a := s.heap.objs.size) (o := ObjO s.heap.objs.size { cls := .type "dict", data := .dict #[] }) (h' := s.heap.push { cls := .type "dict", data := .dict #[] }) (t' := s.toks) (fun _ _ q => Heap.get?_push_of_some _ q) (Nat.le_refl _) ⟨Heap.get?_push_size _ rfl, ⟨_, Heap.get?_push_size _ rfl⟩, fun h1 h2 p st => st _ p⟩
  rw [arm_eval_Dict, show (evalEachOpt [some k] X.env).zip ((evalEach [v] X.env).map fun v => do let x ← v; standAt pos; pure x) = (pairTrees [some k] [v] X.env pos).map (fun p => (some p.1, p.2)) from rfl, dictDisplay_pairs (pairTrees [some k] [v] X.env pos) (by show [_] ≠ []; simp) (by show 1 < 17; decide)]
  refine wpAny_bind (wpAny_standAt (wpAny_bind (wpAny_subDictH (knd := nestedKind X.prog X.w) (Q := fun d s' => wpAny (model X.prog X.w) X.A (pure (Value.ref d)) (EP X pins σ Q) X.xe s') (show X.A.units + 8 < cLine by omega) (by show 1 ≤ 15; decide) ?_)))
  refine pairTrees_cons_walk (thn (hk.run pins _ σ _ _ I1 (q _ _ sm hn nr)) fun u s1 ⟨x, H1, J1, rx, q1⟩ => thn (hv.run pins s1 σ H1 _ J1 q1) fun u2 s2 ⟨y, H2, J2, ry, hp, a, kk, ex, ka, q2⟩ => pairTrees_nil_walk ?_)
  subst ex
  obtain rfl : u = Value.ref a := rx
  have hd0 := objO_at J2.hok hp
  have nd : NdAt X.prog X.w H2 s.heap.objs.size [] := ⟨⟨_, hp, nr⟩, sm, fun _ h => absurd h (by simp), by simp⟩
  refine ⟨[(nkey kk, a, u2)], ⟨rfl, rfl, ka.is J2.hok, trivial⟩, ⟨_, #[], _, hd0, ⟨rfl, rfl, rfl⟩, rfl, rfl, fun _ h => absurd h (by simp), .nil⟩, fun h' tk' dk hs => wpAny_pure ?_⟩
  obtain ⟨o', es, ep, ho', ex', hd', he', _, hn'⟩ := dk
  exact ⟨.ref s.heap.objs.size, _, nd_write J2 nd hs ho', rfl, q2 o' ⟨ex', _, es, ep, .cons ⟨rfl, rfl, ry⟩ .nil, hd', he', hn'⟩⟩
/-! ### for k in d -/
def Itn (d : Addr) (o : Obj) (xs : List NE) : It := ⟨fun i H => H d = some (ObjO d o) ∧ i < xs.length, fun i H x H' => H' = H ∧ ∃ e : NE, xs[i]? = some e ∧ x = .ref e.2.1, fun i H => H d = some (ObjO d o) ∧ xs.length ≤ i⟩
theorem turn_nd {P : Program} {w : World} {K : PySem.W.Frag} {tg : Expr} {d : Addr} {ob : Obj} {es : Array DictEntry} {ep : Nat} {xs : List NE} (it : Addr) (hod : ob.data = .dict es ep) (hsz : es.size = xs.length) (ent : ∀ (i : Nat) (e : NE), xs[i]? = some e → ∃ en : DictEntry, es[i]? = some en ∧ en.key = .ref e.2.1) :
    Turn P w K tg (Itn d ob xs) [it] it (fun i h => h.IsKeyIter it d i xs.length ep) where
  mem := by simp
  obj := fun i h st b hb => by
    have eb : b = it := by simpa using hb
    subst eb
    obtain ⟨oi, e1, c, dd⟩ := st
    exact ⟨oi, e1, fun v z => by rw [dd] at z; cases z⟩
  keep := fun i h h' st kp => st.at fun oi e1 => kp it (by simp) oi e1
  item := by
    intro X hP hw hK hc i pins s σ H E I hf st hg
    subst hP hw hK
    obtain ⟨hd, hi⟩ := hg
    obtain ⟨f0, f1, f2, f3, f4, f5⟩ := hf it (by simp)
    have hgd := objO_at I.hok hd
    obtain ⟨e1, he1⟩ : ∃ p, xs[i]? = some p := ⟨xs[i], List.getElem?_eq_getElem hi⟩
    obtain ⟨en, hen, hkey⟩ := ent i e1 he1
    refine next_key_item st hgd hod hsz hen fun h' st' sb => ?_
    have I1 : Inv X pins σ H { s with heap := h' } := I.turned (t' := s.toks) (fun b ob hb e => (sb.2 b hb).trans e) f0 f1 f3 f4 f5
    obtain ⟨oi, e2, c, dd⟩ := id st'
    exact ⟨en.key, rfl, go_of (s := { s with heap := h' }) e2 c dd (by decide) ⟨.ref e1.2.1, H, I1, hkey, ⟨rfl, e1, he1, rfl⟩, st', fun b hb => (hf b hb).1⟩⟩
  done := by
    intro X hP hw hK hc i pins s σ H E I hf st hg
    subst hP hw hK
    obtain ⟨hd, hi⟩ := hg
    obtain ⟨f0, f1, f2, f3, f4, f5⟩ := hf it (by simp)
    exact next_key_end (I.ok.hd hc) st (objO_at I.hok hd) hod hsz hi fun h' eb => ⟨rfl, I.turned (t' := s.toks) (fun b ob hb e => eb b ob hb e) f0 f1 f3 f4 f5⟩
  self := fun A i s Q E st h => by
    refine wpAny_pyIter_slot st.typeIs PySem.F.slot_dict_keyiterator_iter (wpAny_call_entry PySem.F.slot_dict_keyiterator_iter st.typeIs PySem.F.entry_dict_keyiterator_iter ?_ (PySem.F.args_dict_keyiterator_iter_1 _))
    show wpAny _ _ (ret (.ref it)) _ _ s
    exact wpAny_pure ⟨_, rfl, "dict_keyiterator", _, st.typeIs, PySem.F.slot_dict_keyiterator_next.lookup, h⟩
def iNKeys (P : Program) (w : World) (td : TE) : TI := fun σ H R => td σ H fun x H1 => ∃ d o xs, x = .ref d ∧ (d == sysModules) = false ∧ H1 d = some (ObjO d o) ∧ NdRel P w o xs ∧ R (Itn d o xs) H1
theorem np_entry {P : Program} {w : World} {xs : List NE} {ys : List (NestedKey × Addr × Value)} {es : Array DictEntry} (np : NP xs ys) (he : es.toList = ys.map (entryOfKey (nestedKind P w))) : es.size = xs.length ∧ ∀ (i : Nat) (e : NE), xs[i]? = some e → ∃ en : DictEntry, es[i]? = some en ∧ en.key = .ref e.2.1 := by
  refine ⟨by rw [size_of_entries he]; exact (Paired.length np).symm, fun i e hx => ?_⟩
  obtain ⟨b, hb, h1, h2, _⟩ := paired_get np hx
  have q := entry_at he i
  rw [hb] at q
  exact ⟨_, q, congrArg Value.ref h2⟩
theorem pi_nkeys {tg : Expr} (he : PE X e td) : PI X tg e (iNKeys X.prog X.w td) := by
  refine ⟨fun pins s σ H R I h => ?_⟩
  refine thn (he.run pins s σ H _ I h) fun u s1 ⟨x, H1, I1, rx, d, ob, xs, ex, sm, hd, ⟨xd, ys, es, ep, np, hdt, hes, _⟩, q⟩ => ?_
  subst ex
  obtain rfl : u = Value.ref d := rx
  obtain ⟨hsz, ent⟩ := np_entry np hes
  refine iter_keys sm (objO_at I1.hok hd) xd hdt (pi_one (tk := s1.toks) I1 _ (turn_nd _ hdt hsz ent) ⟨_, Heap.get?_push_size _ rfl, rfl, ?_⟩ q)
  rw [hsz] <;> rfl
end

/-! ### over slots -/
abbrev KVs := List (NK × V)
def kvOf (x : NE) : NK × V := (x.1, x.2.2)
def lookV (kvs : KVs) (k : NK) : Option V := (kvs.find? fun x => decide (x.1 = k)).map (·.2)
def putW (k : NK) (v : V) (x : NK × V) : NK × V := if x.1 = k then (x.1, v) else x
def putV (kvs : KVs) (k : NK) (v : V) : KVs := if (lookV kvs k).isSome then kvs.map (putW k v) else kvs ++ [(k, v)]
theorem at_look (k : NK) : ∀ xs : List NE, (atE xs k).map (·.2) = lookV (xs.map kvOf) k
  | [] => rfl
  | x :: xs => by
    have ih := at_look k xs
    unfold atE lookV at ih ⊢
    rw [List.map_cons, List.find?_cons, List.find?_cons]
    show Option.map _ (Option.map _ (match decide (x.1 = k) with | true => some x | false => _)) = Option.map _ (match decide (x.1 = k) with | true => some (kvOf x) | false => _)
    cases decide (x.1 = k) with
    | true => rfl
    | false => exact ih
theorem put_look (k : NK) (a : Addr) (v : V) (xs : List NE) : (putN xs k a v).map kvOf = putV (xs.map kvOf) k v := by
  unfold putN putV
  have e : (lookV (xs.map kvOf) k).isSome = (atE xs k).isSome := by rw [← at_look, Option.isSome_map]
  rw [e]
  split
  · rw [List.map_map, List.map_map]
    refine List.map_congr_left fun x _ => ?_
    show kvOf (putE k v x) = putW k v (kvOf x)
    unfold putE putW kvOf
    split <;> rfl
  · rw [List.map_append]; rfl
theorem putV_len (kvs : KVs) (k : NK) (v : V) : (putV kvs k v).length ≤ kvs.length + 1 := by
  unfold putV
  split <;> simp
structure NdX (P : Program) (w : World) (p : Addr) (o : Obj) (xs : List NE) (S : Hp) : Prop where
  nr : NdRel P w o xs
  sm : (p == sysModules) = false
  ks : ∀ x ∈ xs, KeyAt S x.2.1 x.1
  len : xs.length ≤ 1000000
def ndX (P : Program) (w : World) (d : Addr) (o : Obj) (xs : List NE) : CellP where
  q p ho S := p = d ∧ ho = ObjO d o ∧ NdX P w d o xs S
  mono := fun ss ⟨e1, e2, n⟩ => ⟨e1, e2, n.nr, n.sm, fun x hx => (n.ks x hx).mono fun b _ e => ss b _ e, n.len⟩
  nt := fun ⟨_, e, _⟩ => by unfold ObjO at e; cases e
def ndC (P : Program) (w : World) (kvs : KVs) : CellP where
  q p ho S := ∃ (o : Obj) (xs : List NE), ho = ObjO p o ∧ kvs = xs.map kvOf ∧ NdX P w p o xs S
  mono := fun ss ⟨o, xs, e1, e2, n⟩ => ⟨o, xs, e1, e2, n.nr, n.sm, fun x hx => (n.ks x hx).mono fun b _ e => ss b _ e, n.len⟩
  nt := fun ⟨_, _, e, _⟩ => by unfold ObjO at e; cases e
theorem ndX_sub {P : Program} {w : World} {d : Addr} {o : Obj} {xs : List NE} {p : Addr} {ho : HO} {S : Hp} (h : (ndX P w d o xs).q p ho S) : (ndC P w (xs.map kvOf)).q p ho S := by
  obtain ⟨rfl, e, n⟩ := h
  exact ⟨o, xs, e, rfl, n⟩
def keyD (k : NK) : Dt := .tup [.tup (k.1.map natD), natD k.2]
theorem rp_key {C : Addr} {S : Hp} {v : V} {k : NK} (h : Rp C S v (keyD k)) : ∃ a, v = .ref a ∧ KeyAt S a k := by
  cases h with
  | tup h1 h2 =>
    cases h2 with
    | cons a1 r =>
      cases r with
      | cons a2 r =>
        cases r
        cases a1 with
        | tup g1 g2 =>
          cases a2
          have : ∀ {xs : List V} {ks : List Nat}, RpAll C S xs (ks.map natD) → xs = ks.map fun (p : Nat) => V.int (p : Int) := by
            intro xs ks
            induction ks generalizing xs with
            | nil => intro r; cases r; rfl
            | cons k ks ih => intro r; cases r with | cons c r => cases c; rw [ih r]; rfl
          rw [this g2] at g1
          exact ⟨_, rfl, _, h1, g1⟩
theorem key_rp {C : Addr} {S : Hp} {a : Addr} {k : NK} (h : KeyAt S a k) : Rp C S (.ref a) (keyD k) := by
  obtain ⟨b, h1, h2⟩ := h
  refine .tup h1 (.cons (.tup h2 ?_) (.cons (.int _) .nil))
  generalize k.1 = ks
  induction ks with
  | nil => exact .nil
  | cons k ks ih => exact .cons (.int _) ih
section
variable {C : Addr} {ρ : Rsc} {S0 H0 Hs S H S1 H1 : Hp} {sl : List Sl} {σ : L2.St} {te ta tk tz tv : TE} {K : Sl → Prop} {F : PySem.W.Frag} {nx bk ct : List Sl → Prop} {rt : Sl → Prop} {P : Program} {w : World} {i : Nat} {kvs : KVs} {k : NK} {c : CellP}
def SubN (P : Program) (w : World) (c : CellP) (kvs : KVs) : Prop := ∀ p o S, c.q p o S → (ndC P w kvs).q p o S
theorem subC : SubN P w (ndC P w kvs) kvs := fun _ _ _ h => h
theorem subX {d : Addr} {o : Obj} {xs : List NE} : SubN P w (ndX P w d o xs) (xs.map kvOf) := fun _ _ _ h => ndX_sub h
theorem _root_.D3.Good.nd (g : Good C ρ S0 H0 S H σ sl) (e : sl[i]? = some (.cell c)) (hc : SubN P w c kvs) : ∃ p xs, σ[i]? = some (some (.ref p)) ∧ H0 p = none ∧ S p = none ∧ kvs = xs.map kvOf ∧ NdAt P w H p xs ∧ ∀ x ∈ xs, KeyAt S x.2.1 x.1 := by
  obtain ⟨v, ev, p, o, rfl, z0, z1, z2, z3⟩ := g.at e (by intro h; cases h) (by intro d h; cases h) (by intro d h; cases h)
  obtain ⟨o', xs, rfl, e2, n⟩ := hc _ _ _ z3
  exact ⟨p, xs, ev, z0, z1, e2, ⟨⟨o', z2, n.nr⟩, n.sm, fun x hx => (n.ks x hx).mono fun b _ e => g.k.sh b _ e, n.len⟩, n.ks⟩
theorem NdAt.mv {H' : Hp} {d : Addr} {xs : List NE} (h : NdAt P w H d xs) (hd : ∀ o, H d = some o → H' d = some o) (hk : ∀ x ∈ xs, KeyAt H' x.2.1 x.1) : NdAt P w H' d xs := by
  obtain ⟨⟨o, e, nr⟩, sm, _, len⟩ := h
  exact ⟨⟨o, hd _ e, nr⟩, sm, hk, len⟩
theorem wx_dnewN (kk : K (.cell (ndC P w []))) : WX C ρ (tDNewN P w) sl K := fun S0 H0 S H σ g Q q p o sm hp nr =>
  q _ S _ _ kk (Mv.new g.k hp _) ⟨p, _, rfl, hp, g.k.ns hp, upd_same, o, [], rfl, rfl, nr, sm, fun _ h => absurd h (by simp), by simp⟩
/-- {k: v} -/
theorem wx_disp1 {v : V} {d : Dt} (hv : V.dt v = some d) (h : XD C ρ tk sl (.dat (keyD k))) (hd : XD C ρ tv sl (.dat d)) (kk : K (.cell (ndC P w [(k, v)]))) : WX C ρ (tDisp1 P w tk tv) sl K := fun S0 H0 S H σ g Q q p o0 sm hp nr => by
  have m0 := Mv.new g.k hp (ObjO p o0)
  refine h S0 H0 S _ σ (g.move m0) _ fun r S1 H1 x er a1 ok1 => ?_
  subst er
  have m1 := m0.trans g.k a1
  refine hd S0 H0 S1 H1 σ (g.move m1) _ fun r S2 H2 y er a2 ok2 => ?_
  subst er
  have m2 := m1.trans g.k a2
  obtain ⟨a, rfl, ka⟩ := rp_key (Rp.mono a2.ss ok1)
  have ey : y = v := by
    cases v <;> simp [V.dt] at hv <;> subst hv <;> cases ok2 <;> rfl
  subst ey
  have nm : ¬ ρ.M p := fun m => g.k.t p m hp
  have hp2 : H2 p = some (ObjO p o0) := a2.hh p _ nm (a1.hh p _ nm upd_same)
  have sp2 : S2 p = none := a2.fr p (a1.fr p (g.k.ns hp) (by rw [upd_same]; simp)) (by rw [a1.hh p _ nm upd_same]; simp)
  refine ⟨hp2, a, k, rfl, ka.mono fun b _ e => m2.ok.sh b _ e, fun o nr' => ?_⟩
  refine q _ S2 _ _ kk (m2.mut g.k hp sp2 (fun xs z => by rw [hp2] at z; unfold ObjO at z; cases z)) ⟨p, _, rfl, hp, sp2, upd_same, o, [(k, a, y)], rfl, rfl, nr', sm, fun x hx => ?_, by simp⟩
  obtain rfl := List.mem_singleton.mp hx
  exact ka
/-- d[k] = v -/
theorem sd_putN (e : sl[i]? = some (.cell (ndC P w kvs))) (hl : kvs.length < 1000000) (h : WX C ρ te sl fun r => ∃ v d, V.dt v = some d ∧ r = .dat d ∧ WX C ρ tk sl fun r2 => ∃ k, r2 = .dat (keyD k) ∧ nx (sl.set i (.cell (ndC P w (putV kvs k v))))) :
    SD C ρ (tAsg te (gSub (tVar i) tk (rNSet P w))) sl nx rt bk ct := fun S0 H0 S H σ g D a _ _ _ => by
  refine h S0 H0 S H σ g _ fun r S1 H1 y ⟨v, d, hv, er, h2⟩ a1 ok1 => ?_
  subst er
  have ey : y = v := by
    cases v <;> simp [V.dt] at hv <;> subst hv <;> cases ok1 <;> rfl
  subst ey
  have g1 := g.move a1
  obtain ⟨p, xs0, ev, z0, z1, _, _, _⟩ := g1.nd e subC
  refine ⟨_, ev, ?_⟩
  refine h2 S0 H0 S1 H1 σ g1 _ fun r2 S2 H2 z ⟨k, e2, kk⟩ a2 ok2 => ?_
  subst e2
  obtain ⟨b, rfl, ka⟩ := rp_key ok2
  have g2 := g1.move a2
  obtain ⟨p', xs, ev', w0, w1, ek, nd, ks⟩ := g2.nd e subC
  rw [ev] at ev'; cases ev'
  subst ek
  refine ⟨b, p, xs, k, rfl, rfl, nd, ka.mono fun c _ e => g2.k.sh c _ e, by simpa using hl, fun o nr => ?_⟩
  refine a _ S2 _ σ kk (a1.ss.trans a2.ss) (g2.mutAt e trivial ev _ _ trivial ⟨p, _, rfl, z0, w1, upd_same, o, putN xs k b y, rfl, put_look k b y xs ▸ rfl, nr, nd.sm, fun x hx => ?_, ?_⟩)
  · rcases putN_mem hx with ⟨u, hu, e1, e2⟩ | ⟨e1, e2⟩
    · rw [e1, e2]; exact ks u hu
    · rw [e1, e2]; exact ka
  · have := putN_len xs k b y
    simp at hl; omega
/-- d[k] -/
theorem xnix {v : V} {d : Dt} (e : sl[i]? = some (.cell c)) (hc : SubN P w c kvs) (hk : XD C ρ tk sl (.dat (keyD k))) (hl : lookV kvs k = some v) (hv : V.dt v = some d) : XD C ρ (tOp (rNIx P w) (tVar i) tk) sl (.dat d) := fun S0 H0 S H σ g Q q => by
  obtain ⟨p, xs0, ev, _, _, _, _, _⟩ := g.nd e hc
  refine ⟨_, ev, ?_⟩
  refine hk S0 H0 S H σ g _ fun r S1 H1 y er a1 ok1 => ?_
  subst er
  obtain ⟨b, rfl, ka⟩ := rp_key ok1
  have g1 := g.move a1
  obtain ⟨p', xs, ev', w0, w1, ek, nd, ks⟩ := g1.nd e hc
  rw [ev] at ev'; cases ev'
  subst ek
  rw [← at_look] at hl
  obtain ⟨⟨b', v'⟩, h1, rfl⟩ := Option.map_eq_some_iff.mp hl
  refine ⟨b, p, xs, k, b', v', rfl, rfl, nd, ka.mono fun c _ e => g1.k.sh c _ e, h1, q _ S1 H1 _ rfl a1 ?_⟩
  cases v' <;> simp [V.dt] at hv <;> subst hv
  · exact .non
  · exact .bl _
  · exact .int _
  · exact .str _
/-- d.get(k, n) -/
theorem xnget {n : Int} {m : Int} (e : sl[i]? = some (.cell c)) (hc : SubN P w c kvs) (hk : XD C ρ tk sl (.dat (keyD k))) (hz : XD C ρ tz sl (.dat (.int n))) (hl : (lookV kvs k).getD (.int n) = .int m) : XD C ρ (tNGet2 P w (tVar i) tk tz) sl (.dat (.int m)) := fun S0 H0 S H σ g Q q => by
  obtain ⟨p, xs0, ev, _, _, _, nd0, _⟩ := g.nd e hc
  refine ⟨_, ev, p, xs0, rfl, nd0, ?_⟩
  refine hk S0 H0 S H σ g _ fun r S1 H1 y er a1 ok1 => ?_
  subst er
  refine hz S0 H0 S1 H1 σ (g.move a1) _ fun r S2 H2 z er a2 ok2 => ?_
  subst er; cases ok2
  obtain ⟨b, rfl, ka⟩ := rp_key (Rp.mono a2.ss ok1)
  have a12 := a1.trans g.k a2
  have g2 := g.move a12
  obtain ⟨p', xs, ev', w0, w1, ek, nd, ks⟩ := g2.nd e hc
  rw [ev] at ev'; cases ev'
  subst ek
  rw [← at_look] at hl
  refine ⟨b, k, xs, rfl, nd, ka.mono fun c _ e => g2.k.sh c _ e, ?_⟩
  rw [hl]
  exact q _ S2 H2 _ rfl a12 (.int _)
/-- for t in d -/
theorem sd_forN {g : TG} {ks : List Nat} {tb : TS} (e : sl[i]? = some (.cell (ndC P w kvs))) (h : ∀ d o xs, kvs = xs.map kvOf → ∃ Iv : Nat → List Sl → Prop, Iv 0 (sl.set i (.cell (ndX P w d o xs))) ∧ (∀ j sl', Iv j sl' → sl'[i]? = some (.cell (ndX P w d o xs))) ∧
      (∀ j kv sl', kvs[j]? = some kv → Iv j sl' → GD C ρ g ks (.dat (keyD kv.1)) sl' fun s => SD C ρ tb s (Iv (j + 1)) rt nx (Iv (j + 1))) ∧ ∀ sl', Iv kvs.length sl' → nx sl') :
    SD C ρ (tFor (iNKeys P w (tVar i)) g tb) sl nx rt bk ct := fun S0 H0 S H σ gd D a b c dd => by
  obtain ⟨v, ev, p, o, rfl, z0, z1, z2, z3⟩ := gd.at e (by intro h; cases h) (by intro d h; cases h) (by intro d h; cases h)
  obtain ⟨o', xs, rfl, ek, n⟩ := z3
  obtain ⟨Iv, h0, hX, hs, hd⟩ := h p o' xs ek
  refine ⟨_, ev, p, o', xs, rfl, n.sm, z2, n.nr, ?_⟩
  have gX : Good C ρ S0 H0 S H σ (sl.set i (.cell (ndX P w p o' xs))) := by
    have hi : i < sl.length := (List.getElem?_eq_some_iff.mp e).1
    refine ⟨gd.k1, gd.mv, by simp [gd.len], fun j s ej => ?_, fun j k s t q hjk e1 e2 o1 o2 e3 e4 => ?_⟩
    · by_cases hj : j = i
      · subst hj
        rw [List.getElem?_set_self hi] at ej
        cases ej
        exact ⟨.ref p, by rw [ev]; rfl, p, _, rfl, z0, z1, z2, rfl, rfl, n⟩
      · rw [List.getElem?_set_ne (Ne.symm hj)] at ej
        exact gd.ok j s ej
    · have orig : ∀ (m : Nat) (u : Sl), (sl.set i (.cell (ndX P w p o' xs)))[m]? = some u → u.isOwn → ∃ u', sl[m]? = some u' ∧ u'.isOwn := fun m u em ou => by
        by_cases hm : m = i
        · subst hm; exact ⟨_, e, trivial⟩
        · rw [List.getElem?_set_ne (Ne.symm hm)] at em; exact ⟨u, em, ou⟩
      obtain ⟨u1, a1, b1⟩ := orig j s e1 o1
      obtain ⟨u2, a2, b2⟩ := orig k t e2 o2
      exact gd.ne j k u1 u2 q hjk a1 a2 b1 b2 e3 e4
  have at_ : ∀ {j : Nat} {σ' : L2.St} {S' H' : Hp} {sl' : List Sl}, Iv j sl' → Good C ρ S0 H0 S' H' σ' sl' → H' p = some (ObjO p o') ∧ ∀ x ∈ xs, KeyAt S' x.2.1 x.1 := fun {j σ' S' H' sl'} iv g' => by
    obtain ⟨v, _, p2, u, _, _, _, y2, e1, e2, n2⟩ := g'.at (hX j sl' iv) (by intro h; cases h) (by intro d h; cases h) (by intro d h; cases h)
    rw [e1, e2] at y2
    exact ⟨y2, n2.ks⟩
  refine ⟨fun j m σ' H' => m = xs.length - j ∧ j ≤ xs.length ∧ ∃ S' sl', Iv j sl' ∧ Good C ρ S0 H0 S' H' σ' sl' ∧ Same S S', ⟨xs.length, by simp, Nat.zero_le _, S, _, h0, gX, Same.refl _⟩, ?_⟩
  rintro j m σ3 H3 ⟨rfl, hj, S3, sl3, i3, g3, ss⟩
  obtain ⟨hp3, hk3⟩ := at_ i3 g3
  by_cases hlt : j < xs.length
  · refine .inr ⟨⟨hp3, hlt⟩, fun σ' H' => ∃ S' sl', Iv (j + 1) sl' ∧ Good C ρ S0 H0 S' H' σ' sl' ∧ Same S S', fun σ' H' ⟨S', sl', iv, g', s'⟩ => ⟨xs.length - (j + 1), by omega, rfl, hlt, S', sl', iv, g', s'⟩, fun x H' y => ?_⟩
    obtain ⟨rfl, en, hen, rfl⟩ := y
    have hkv : kvs[j]? = some (kvOf en) := by rw [ek, List.getElem?_map, hen]; rfl
    refine hs j _ sl3 hkv i3 S0 H0 S3 H' S3 H' σ3 _ g3 (Mv.refl g3.k) (key_rp (hk3 en (List.mem_of_getElem? hen))) _ fun sl4 S4 H4 σ4 k4 m4 g4 _ _ => ?_
    exact sd_from k4 g4 (ss.trans m4.ss) (fun s S' H' σ' k q g' => ⟨S', s, k, g', q⟩) b (fun s S' H' σ' k q g' => a s S' H' σ' k q g') (fun s S' H' σ' k q g' => ⟨S', s, k, g', q⟩)
  · have ej : j = xs.length := by omega
    subst ej
    refine .inl ⟨⟨hp3, Nat.le_refl _⟩, a sl3 S3 H3 σ3 (hd sl3 ?_) ss g3⟩
    rw [ek, List.length_map]; exact i3
/-- [e for t in d if ..] -/
theorem wx_lcN {g : TG} {tt : TT} {vs ks : List Nat} (hk : ∀ j ∈ ks, j ∈ vs) (e : sl[i]? = some (.cell c)) (hc : SubN P w c kvs) (Iv : Nat → List Dt → Prop) (h0 : Iv 0 [])
    (hs : ∀ j kv acc, kvs[j]? = some kv → Iv j acc → GD C ρ g ks (.dat (keyD kv.1)) (slW sl vs) fun s => WT C ρ tt s fun b => if b = true then WX C ρ te s fun r => ∃ d', r.dz = some d' ∧ acc.length < 1000000 ∧ Iv (j + 1) (acc ++ [d']) else Iv (j + 1) acc)
    (hd : ∀ acc, Iv kvs.length acc → K (.own acc)) : WX C ρ (tLc (iNKeys P w (tVar i)) g tt te vs) sl K := fun S0 H0 S H σ gd Q q => by
  obtain ⟨p, xs, ev, z0, z1, ek, ⟨⟨o, hp, nr⟩, sm, _, _⟩, hks⟩ := gd.nd e hc
  have nm : ¬ ρ.M p := gd.k0.nm z0
  refine ⟨_, ev, p, o, xs, rfl, sm, hp, nr, fun D hD => ?_⟩
  refine ⟨fun j m H' => m = xs.length - j ∧ j ≤ xs.length ∧ LcP C ρ S H D Iv j H', ⟨xs.length, by simp, Nat.zero_le _, lc_start gd.k hD h0⟩, ?_⟩
  rintro j m H3 ⟨rfl, hj, hp3⟩
  have hH3 : H3 p = some (ObjO p o) := by
    obtain ⟨S', _, _, _, mv, _⟩ := hp3
    exact mv.hh p _ nm hp
  by_cases hlt : j < xs.length
  · refine .inr ⟨⟨hH3, hlt⟩, LcP C ρ S H D Iv (j + 1), fun H' p' => ⟨xs.length - (j + 1), by omega, rfl, hlt, p'⟩, fun x H' y => ?_⟩
    obtain ⟨rfl, en, hen, rfl⟩ := y
    have hkv : kvs[j]? = some (kvOf en) := by rw [ek, List.getElem?_map, hen]; rfl
    have hke := hks en (List.mem_of_getElem? hen)
    exact lc_turn gd hD hk (fun S' ss => key_rp (hke.mono fun b _ e => ss b _ e)) (fun acc iv => hs j _ acc hkv iv) hp3
  · have ej : j = xs.length := by omega
    subst ej
    refine .inl ⟨⟨hH3, Nat.le_refl _⟩, lc_end gd.k (Mv.refl gd.k) hD q (by rw [ek, List.length_map] at hd; exact hd) H3 hp3⟩
end
end Den
/-! Counting rounds. -/
namespace Den
open PySem PyProof.Rows L2 D3
section
variable {X : Cx}
def rSortT (K : PySem.W.Frag) : List V → Hp → VK → Prop := fun xs H Q => ∃ (a : Addr) (ks : List Int), xs = [.ref a] ∧ SqT K H a (ks.map V.int) ∧ ks.length < 64 ∧ ∀ (ys : List Int) (p : Addr), ys.Perm ks → ys.Pairwise (· ≤ ·) → H p = none → Q (.ref p) (upd H p (.lst (ys.map V.int)))
/-- sorted(t), t a tuple of fewer than 64 numbers -/
theorem k_sortT (F : PySem.W.Frag) (hF : X.K = F) : CallR X (.builtin "sorted") (rSortT F) := by
  subst hF
  intro pins s σ H xs us Q I r q
  obtain ⟨a, ks, ex, hd, h64, q⟩ := q
  subst ex
  obtain ⟨u, eu, rx⟩ := vals1 r
  subst eu
  cases rx
  obtain ⟨its, rv, ⟨o, ho, hc, n, hdat⟩, hz⟩ := I.tuple hd
  have hS : IntsAre its ks := rv.ints
  have hal : its.length = ks.length := by rw [← rv.length, List.length_map]
  refine Calls.call_function_entry PyProof.Rows.kind_sorted PyProof.Rows.plain_sorted PyProof.Rows.entry_sorted (PyProof.Rows.args_sorted1 _) ?_
  unfold Builtin.«sorted»
  refine wpAny_bind (m := checkCount "sorted" 1 1 _) (wpAny_pure ?_)
  refine wpAny_bind (wpAny_collect_seq (A := X.A.in1) a (T := "tuple") (.inr rfl) ho hc hdat (fun h' hk => ?_) (by rw [List.size_toArray, hal, sizeLine_eq]; omega))
  rw [show its.toArray.toList = its from rfl]
  have I1 : Inv X pins σ H { s with heap := h', toks := s.toks } := I.kept hk
  refine wpAny_bind (wpAny_newList ?_ (by rw [hal, sizeLine_eq]; omega))
  have hoL : (h'.push (seqObj "list" its.toArray 0)).get? h'.objs.size = some (seqObj "list" its.toArray 0) := Heap.get?_push_size _ rfl
  show wpAny _ _ _ _ _ { s with heap := h'.push (seqObj "list" its.toArray 0) }
  refine wpAny_bind (wpAny_holding (wpAny_call_entry PyProof.Rows.slot_list_sort ⟨_, hoL, rfl⟩ PyProof.Rows.entry_list_sort
    (PyProof.Rows.list_sort_tree (s := { s with heap := h'.push (seqObj "list" its.toArray 0) }) hoL hS (by rw [hal]; exact h64) fun out ys g1 g2 g3 => ⟨_, rfl, ?_⟩) (PyProof.Rows.args_list_sort _)))
  obtain ⟨e', he'⟩ := PyProof.Rows.sortedHeap_at (vs := its) (out := out) hoL
  have hlen : (ys.map V.int).length ≤ sizeLine := by
    rw [List.length_map, g2.length_eq]
    exact Nat.le_trans (Nat.le_of_lt h64) (by decide)
  refine wpAny_pure ⟨_, rfl, .ref h'.objs.size, upd H h'.objs.size (.lst (ys.map V.int)), I1.laid (t' := s.toks) (fun b u e => ?_) (Nat.le_refl _)
    (show ObjOk X.prog X.w _ _ _ (.lst (ys.map V.int)) from ⟨hlen, out.toList, e', vals_of_ints g1, by rw [Array.toArray_toList]; exact he'⟩), rfl, q ys _ g2 g3 (I1.hok.fresh (Nat.le_refl _))⟩
  have hb : b < h'.objs.size := Heap.lt_size e
  rw [PyProof.Rows.sortedHeap_old (Nat.ne_of_lt hb) (by rw [size_push']; exact Nat.lt_succ_of_lt hb)]
  exact Heap.get?_push_of_some _ e
end
section
variable {C : Addr} {ρ : Rsc} {sl : List Sl} {ta : TE} {F : PySem.W.Frag}
theorem xsortT {ns : List Int} (h : XD C ρ ta sl (.dat (.tup (ns.map Dt.int)))) (hl : ns.length < 64) : XD C ρ (tCB (rSortT F) (tCons ta tNil)) sl (.own ((srtZ ns).map Dt.int)) :=
  xcb (ac h an) (CD1 fun Hs S H v b ok rv Q q => by
    obtain ⟨a, xs, rfl, sp, hp, ra⟩ := rv.tupD ok
    obtain rfl := ra.ints
    refine ⟨a, ns, rfl, .inl (.inl hp), hl, fun ys d h1 h2 hd => ?_⟩
    obtain rfl : ys = srtZ ns := sorted_uniq (h1.trans (srtZ_perm _).symm) h2 (srtZ_sorted _)
    exact fin_new ok q rfl (RpAll.of_ints _) d hd)
end

/-! ### for place in yard.near[last] -/
def cutH (S : Hp) (d : Addr) : Hp := fun b => if b = d then none else S b
theorem cut_sub {S : Hp} {d : Addr} : Same (cutH S d) S := fun b o e => by
  unfold cutH at e
  split at e
  · cases e
  · exact e
theorem cut_ne {S : Hp} {d b : Addr} (h : b ≠ d) : cutH S d b = S b := if_neg h
theorem cut_at {S : Hp} {d : Addr} : cutH S d d = none := if_pos rfl
mutual
/-- no dict in it -/
def noDk : Dt → Bool
  | .lst xs => noDks xs
  | .tup xs => noDks xs
  | .dki _ => false
  | .dkt _ => false
  | .yard _ _ => false
  | .ext _ => false
  | _ => true
def noDks : List Dt → Bool
  | [] => true
  | x :: xs => noDk x && noDks xs
end
mutual
theorem rp_cut {C : Addr} {S : Hp} {d : Addr} {kvs : List (L2.Key × V)} (hd : S d = some (.dK kvs)) : ∀ {v : V} {x : Dt}, noDk x = true → Rp C S v x → Rp C (cutH S d) v x
  | _, .non, _, h => by cases h; exact .non
  | _, .bl _, _, h => by cases h; exact .bl _
  | _, .int _, _, h => by cases h; exact .int _
  | _, .str _, _, h => by cases h; exact .str _
  | _, .lst xs, n, h => by
    cases h with
    | lst h1 h2 => exact .lst (by rw [cut_ne (ne_of h1 hd (fun z => by cases z))]; exact h1) (rps_cut hd (by simpa [noDk] using n) h2)
  | _, .tup xs, n, h => by
    cases h with
    | tup h1 h2 => exact .tup (by rw [cut_ne (ne_of h1 hd (fun z => by cases z))]; exact h1) (rps_cut hd (by simpa [noDk] using n) h2)
  | _, .dki _, n, _ => by simp [noDk] at n
  | _, .dkt _, n, _ => by simp [noDk] at n
  | _, .yard _ _, n, _ => by simp [noDk] at n
  | _, .ext _, n, _ => by simp [noDk] at n
theorem rps_cut {C : Addr} {S : Hp} {d : Addr} {kvs : List (L2.Key × V)} (hd : S d = some (.dK kvs)) : ∀ {vs : List V} {xs : List Dt}, noDks xs = true → RpAll C S vs xs → RpAll C (cutH S d) vs xs
  | _, [], _, h => by cases h; exact .nil
  | _, x :: xs, n, h => by
    rw [noDks, Bool.and_eq_true] at n
    cases h with
    | cons h1 h2 => exact .cons (rp_cut hd n.1 h1) (rps_cut hd n.2 h2)
end
/-- a slot that doesn't lean on a dict of numbers -/
def Stay : Sl → Prop
  | .any => True
  | .dat d => noDk d = true
  | .own ds => noDks ds = true
  | .cell c => ∀ p o (S : Hp) d kvs, S d = some (.dK kvs) → c.q p o S → c.q p o (cutH S d)
  | .raw _ => True
  | .bor _ => True
  | .bcell _ => True
theorem key_cut {S : Hp} {d a : Addr} {k : NK} {kvs : List (L2.Key × V)} (hd : S d = some (.dK kvs)) (h : KeyAt S a k) : KeyAt (cutH S d) a k := h.mono fun b xs e => by rw [cut_ne (ne_of e hd (fun z => by cases z))]; exact e
theorem stay_ndC {P : Program} {w : World} {kvs : KVs} : Stay (.cell (ndC P w kvs)) := fun p o S d ks hd ⟨ob, xs, e1, e2, n⟩ => ⟨ob, xs, e1, e2, n.nr, n.sm, fun x hx => key_cut hd (n.ks x hx), n.len⟩
theorem stay_ndX {P : Program} {w : World} {d : Addr} {o : Obj} {xs : List NE} : Stay (.cell (ndX P w d o xs)) := fun p ho S d ks hd ⟨e1, e2, n⟩ => ⟨e1, e2, n.nr, n.sm, fun x hx => key_cut hd (n.ks x hx), n.len⟩
section
variable {C : Addr} {S0 H0 S H : Hp} {sl : List Sl} {σ : L2.St} {F : PySem.W.Frag} {nx : List Sl → Prop} {n : Nat} {ts : List Tie}
theorem good_lock {d : Addr} {u : HO} {kvs : List (L2.Key × V)} {i : Nat} {v : V} (g : Good C ρ0 S0 H0 S H σ sl) (hd : S d = some (.dK kvs)) (hy : σ[i]? = some (some v)) (hst : ∀ (j : Nat) (s : Sl), j ≠ i → sl[j]? = some s → Stay s) (hno : ∀ s, sl[i]? = some s → ¬ s.isOwn) :
    Good C ρ0 (cutH S0 d) (upd H0 d u) (cutH S d) (upd H d u) σ (sl.set i (.raw v)) := by
  have sm : ∀ (S H : Hp), Same S H → Same (cutH S d) (upd H d u) := fun S H ss b o e => by
    have nb : b ≠ d := fun z => by subst z; rw [cut_at] at e; cases e
    rw [cut_ne nb] at e; rw [upd_ne nb]; exact ss b o e
  refine ⟨⟨⟨sm _ _ g.k0.sh, fun _ z => z.elim, fun _ z => z.elim⟩, trivial⟩, ⟨⟨sm _ _ g.k.sh, fun _ z => z.elim, fun _ z => z.elim, trivial⟩, fun b o e => ?_, fun b o m e => ?_, fun b e ne => ?_⟩, by simp [g.len], fun j s ej => ?_, fun j k s t q hjk e1 e2 o1 o2 e3 e4 => ?_⟩
  · have nb : b ≠ d := fun z => by subst z; rw [cut_at] at e; cases e
    rw [cut_ne nb] at e ⊢; exact g.mv.ss b o e
  · by_cases hb : b = d
    · subst hb; rw [upd_same] at e ⊢; exact e
    · rw [upd_ne hb] at e ⊢; exact g.mv.hh b o m e
  · by_cases hb : b = d
    · subst hb; exact cut_at
    · rw [upd_ne hb] at ne; rw [cut_ne hb] at e ⊢; exact g.mv.fr b e ne
  · by_cases hj : j = i
    · subst hj
      rw [List.getElem?_set_self (by have := (List.getElem?_eq_some_iff.mp ej).1; simpa using this)] at ej
      cases ej
      exact ⟨v, by rw [hy]; rfl, rfl⟩
    · rw [List.getElem?_set_ne (Ne.symm hj)] at ej
      have q := g.ok j s ej
      have st := hst j s hj ej
      have nd : ∀ p : Addr, S p = none → p ≠ d := fun p h z => by rw [z, hd] at h; cases h
      cases s with
      | any => trivial
      | bor d => trivial
      | bcell d => trivial
      | raw d => exact q
      | dat x => obtain ⟨w, ew, h⟩ := q; exact ⟨w, ew, rp_cut hd st h⟩
      | own ds => obtain ⟨w, ew, p, xs, rfl, z0, z1, z2, z3⟩ := q; exact ⟨_, ew, p, xs, rfl, by rw [upd_ne (nd p z1)]; exact z0, by rw [cut_ne (nd p z1)]; exact z1, by rw [upd_ne (nd p z1)]; exact z2, rps_cut hd st z3⟩
      | cell c => obtain ⟨w, ew, p, o, rfl, z0, z1, z2, z3⟩ := q; exact ⟨_, ew, p, o, rfl, by rw [upd_ne (nd p z1)]; exact z0, by rw [cut_ne (nd p z1)]; exact z1, by rw [upd_ne (nd p z1)]; exact z2, st p o S d kvs hd z3⟩
  · have orig : ∀ (m : Nat) (x : Sl), (sl.set i (.raw v))[m]? = some x → x.isOwn → sl[m]? = some x := fun m x em ox => by
      by_cases hm : m = i
      · subst hm
        rw [List.getElem?_set_self (by have := (List.getElem?_eq_some_iff.mp em).1; simpa using this)] at em
        cases em; exact ox.elim
      · rw [List.getElem?_set_ne (Ne.symm hm)] at em; exact em
    exact g.ne j k s t q hjk (orig j s e1 o1) (orig k t e2 o2) o1 o2 e3 e4
theorem good_unlock {S' H' : Hp} {σ' : L2.St} {sl' : List Sl} {d : Addr} {u : HO} {kvs : List (L2.Key × V)} {i : Nat} {v : V} {x : Dt} (g : Good C ρ0 S0 H0 S H σ sl) (hd : S d = some (.dK kvs)) (hyv : Rp C S v x)
    (g' : Good C ρ0 (cutH S0 d) (upd H0 d u) S' H' σ' sl') (ss : Same (cutH S d) S') (hi : sl'[i]? = some (.raw v)) : H' d = some u ∧ ∃ S'', Same S S'' ∧ Good C ρ0 S0 H0 S'' (upd H' d (.dK kvs)) σ' (sl'.set i (.dat x)) := by
  have hH' : H' d = some u := g'.mv.hh d u (fun z => z) upd_same
  have hS' : S' d = none := g'.mv.fr d cut_at (by rw [upd_same]; simp)
  have hHd : H d = some (.dK kvs) := g.k.sh d _ hd
  have ss' : Same S' (upd S' d (.dK kvs)) := same_new hS'
  have sS : Same S (upd S' d (.dK kvs)) := fun b o e => by
    by_cases hb : b = d
    · subst hb; rw [upd_same]; rw [hd] at e; exact e
    · rw [upd_ne hb]; exact ss b o (by rw [cut_ne hb]; exact e)
  obtain ⟨w, ew, hw⟩ := g'.at hi (by intro h; cases h) (by intro d h; cases h) (by intro d h; cases h)
  cases hw
  refine ⟨hH', upd S' d (.dK kvs), sS, ⟨g.k1, ⟨⟨fun b o e => ?_, fun _ z => z.elim, fun _ z => z.elim, trivial⟩, fun b o e => sS b o (g.mv.ss b o e), fun b o m e => ?_, fun b e ne => ?_⟩, by simp [g'.len], fun j s ej => ?_, fun j k s t q hjk e1 e2 o1 o2 e3 e4 => ?_⟩⟩
  · by_cases hb : b = d
    · subst hb; rw [upd_same] at e ⊢; exact e
    · rw [upd_ne hb] at e ⊢; exact g'.k.sh b o e
  · by_cases hb : b = d
    · subst hb
      have := g.mv.hh b o m e
      rw [hHd] at this; rw [upd_same]; exact this
    · rw [upd_ne hb]
      exact g'.mv.hh b o (fun z => z) (by rw [upd_ne hb]; exact e)
  · by_cases hb : b = d
    · subst hb
      have := g.mv.fr b e ne
      rw [hd] at this; cases this
    · rw [upd_ne hb]
      exact g'.mv.fr b (by rw [cut_ne hb]; exact e) (by rw [upd_ne hb]; exact ne)
  · by_cases hj : j = i
    · subst hj
      rw [List.getElem?_set_self (by have := (List.getElem?_eq_some_iff.mp ej).1; simpa using this)] at ej
      cases ej
      exact ⟨v, by rw [ew]; rfl, Rp.mono sS hyv⟩
    · rw [List.getElem?_set_ne (Ne.symm hj)] at ej
      have q := g'.ok j s ej
      have nd : ∀ p : Addr, upd H0 d u p = none → p ≠ d := fun p h z => by rw [z, upd_same] at h; cases h
      cases s with
      | any => trivial
      | bor d => trivial
      | bcell d => trivial
      | raw d => exact q
      | dat x => obtain ⟨w, ew, h⟩ := q; exact ⟨w, ew, Rp.mono ss' h⟩
      | own ds => obtain ⟨w, ew, p, xs, rfl, z0, z1, z2, z3⟩ := q; exact ⟨_, ew, p, xs, rfl, by have := z0; rw [upd_ne (nd p z0)] at this; exact this, by rw [upd_ne (nd p z0)]; exact z1, by rw [upd_ne (nd p z0)]; exact z2, z3.mono ss'⟩
      | cell c => obtain ⟨w, ew, p, o, rfl, z0, z1, z2, z3⟩ := q; exact ⟨_, ew, p, o, rfl, by have := z0; rw [upd_ne (nd p z0)] at this; exact this, by rw [upd_ne (nd p z0)]; exact z1, by rw [upd_ne (nd p z0)]; exact z2, c.mono ss' z3⟩
  · have orig : ∀ (m : Nat) (y : Sl), (sl'.set i (.dat x))[m]? = some y → y.isOwn → sl'[m]? = some y := fun m y em ox => by
      by_cases hm : m = i
      · subst hm
        rw [List.getElem?_set_self (by have := (List.getElem?_eq_some_iff.mp em).1; simpa using this)] at em
        cases em; exact ox.elim
      · rw [List.getElem?_set_ne (Ne.symm hm)] at em; exact em
    exact g'.ne j k s t q hjk (orig j s e1 o1) (orig k t e2 o2) o1 o2 e3 e4
/-- for place in yard.near[last]: the yard's dict is locked the while; slot i: the yard, slot l: last -/
theorem sd_forNear {i l : Nat} {x : Nat} {z : Int} {g : TG} {ks : List Nat} {tb : TS} (cl : Cls F C) (nN : NoAttr F C "near") (ei : sl[i]? = some (.dat (.yard n ts))) (el : sl[l]? = some (.dat (.int z))) (ez : z = (x : Int)) (hx : x < n) (hst : ∀ (j : Nat) (s : Sl), j ≠ i → sl[j]? = some s → Stay s)
    (h : ∀ v, ∃ Iv : Nat → List Sl → Prop, Iv 0 (sl.set i (.raw v)) ∧ (∀ j s, Iv j s → s[i]? = some (.raw v)) ∧
      (∀ (j q : Nat) s, (nearOf ts x)[j]? = some q → Iv j s → GD C ρ0 g ks (.dat (.int (q : Int))) s fun s => SD C ρ0 tb s (Iv (j + 1)) (fun _ => False) (fun _ => False) (Iv (j + 1))) ∧ ∀ s, Iv (nearOf ts x).length s → nx (s.set i (.dat (.yard n ts)))) :
    SD C ρ0 (tLock (tFor (iKeys (tOp (rIxA F) (tFld F (tVar i) "near") (tVar l))) g tb)) sl nx (fun _ => False) (fun _ => False) (fun _ => False) := fun S0 H0 S H σ gd D a _ _ _ => by
  subst ez
  obtain ⟨v, ev, hv⟩ := gd.at ei (by intro h; cases h) (by intro d h; cases h) (by intro d h; cases h)
  obtain ⟨w, ew, hw⟩ := gd.at el (by intro h; cases h) (by intro d h; cases h) (by intro d h; cases h)
  cases hw
  have hv' : Rp C S v (.yard n ts) := hv
  cases hv with
  | @yard y dx kp nr kx nx' _ _ kd nd h1 h2 h3 r1 r2 e1 e2 =>
  obtain ⟨ux, hux, rux⟩ := atI_rp (i := (x : Int)) r2 (by rw [e2]; exact near_at ts hx)
  cases rux with
  | @dki d _ hd =>
  have hHd : H d = some (.dK ((nearOf ts x).map kiV)) := gd.k.sh _ _ hd
  have nyd : y ≠ d := ne_of (gd.k.sh _ _ h1) hHd (fun z => by cases z)
  have nrd : nr ≠ d := ne_of (gd.k.sh _ _ h3) hHd (fun z => by cases z)
  refine ⟨d, .dK ((nearOf ts x).map kiV), hHd, trivial, fun od => ?_⟩
  obtain ⟨Iv, hI0, hIr, hs, hend⟩ := h (.ref y)
  have gl := good_lock (u := .frz od (.dK ((nearOf ts x).map kiV))) gd hd ev hst (fun s e => by rw [ei] at e; cases e; exact fun z => z)
  refine ⟨_, ev, y, C, _, _, _, rfl, by rw [upd_ne nyd]; exact gd.k.sh _ _ h1, cl, nN, (by unfold yardFs; rfl), _, ew, .inl (.inl ⟨nr, nx', _, .ref d, rfl, rfl, SqL.of (by rw [upd_ne nrd]; exact gd.k.sh _ _ h3), hux, d, od, rfl, .inl ⟨_, upd_same, ?_⟩⟩)⟩
  have lk : ((nearOf ts x).map kiV).length = (nearOf ts x).length := List.length_map _
  refine ⟨fun j m σ' H' => m = (nearOf ts x).length - j ∧ j ≤ (nearOf ts x).length ∧ ∃ S' s, Iv j s ∧ Good C ρ0 (cutH S0 d) (upd H0 d (.frz od (.dK ((nearOf ts x).map kiV)))) S' H' σ' s ∧ Same (cutH S d) S', ⟨_, rfl, Nat.zero_le _, _, _, hI0, gl, Same.refl _⟩, ?_⟩
  rintro j m σ3 H3 ⟨rfl, hj, S3, s3, i3, g3, ss⟩
  obtain ⟨u1, S4, u2, u3⟩ := good_unlock gd hd hv' g3 ss (hIr j s3 i3)
  by_cases hlt : j < (nearOf ts x).length
  · refine .inr ⟨⟨u1, by rw [lk]; exact hlt⟩, fun σ' H' => ∃ S' s, Iv (j + 1) s ∧ Good C ρ0 (cutH S0 d) (upd H0 d (.frz od (.dK ((nearOf ts x).map kiV)))) S' H' σ' s ∧ Same (cutH S d) S', fun σ' H' ⟨S', s, iv, g', s'⟩ => ⟨_, by omega, rfl, hlt, S', s, iv, g', s'⟩, fun vx H' yl => ?_⟩
    obtain ⟨rfl, kk, vv, ek, rfl⟩ := yl
    rw [List.getElem?_map] at ek
    have eq : (nearOf ts x)[j]? = some ((nearOf ts x)[j]'hlt) := List.getElem?_eq_getElem hlt
    rw [eq] at ek
    cases ek
    refine hs j _ s3 eq i3 _ _ S3 H' S3 H' σ3 _ g3 (Mv.refl g3.k) (.int _) _ fun s4 S5 H5 σ5 k5 m5 g5 _ _ => ?_
    exact sd_from k5 g5 (ss.trans m5.ss) (fun s S' H' σ' k q g' => ⟨S', s, k, g', q⟩) (fun _ _ _ _ z => z.elim) (fun _ _ _ _ z => z.elim) (fun s S' H' σ' k q g' => ⟨S', s, k, g', q⟩)
  · have ej : j = (nearOf ts x).length := by omega
    subst ej
    exact .inl ⟨⟨u1, by rw [lk]; exact Nat.le_refl _⟩, u1, a _ S4 _ σ3 (hend s3 i3) u2 u3⟩
end

/-! ### sums over dicts -/
abbrev CIs := List (NK × Int)
def encV (cs : CIs) : KVs := cs.map fun p => (p.1, V.int p.2)
def sumI (f : NK → Int) (cs : CIs) : Int := (cs.map fun p => f p.1 * p.2).sum
def hasI (cs : CIs) (k : NK) : Bool := cs.any fun p => decide (p.1 = k)
def addE (k : NK) (c : Int) (p : NK × Int) : NK × Int := if p.1 = k then (p.1, p.2 + c) else p
def addI (cs : CIs) (k : NK) (c : Int) : CIs := if hasI cs k then cs.map (addE k c) else cs ++ [(k, c)]
def getI (cs : CIs) (k : NK) : Int := ((cs.find? fun p => decide (p.1 = k)).map (·.2)).getD 0
theorem look_enc (k : NK) : ∀ cs : CIs, lookV (encV cs) k = (cs.find? fun p => decide (p.1 = k)).map fun p => V.int p.2
  | [] => rfl
  | p :: cs => by
    have ih := look_enc k cs
    unfold encV lookV at ih ⊢
    rw [List.map_cons, List.find?_cons, List.find?_cons]
    dsimp only
    cases decide (p.1 = k) with
    | true => rfl
    | false => exact ih
theorem look_getD (k : NK) (cs : CIs) : (lookV (encV cs) k).getD (.int 0) = .int (getI cs k) := by
  rw [look_enc]
  unfold getI
  cases cs.find? fun p => decide (p.1 = k) with
  | none => rfl
  | some p => rfl
theorem has_look (k : NK) (cs : CIs) : (lookV (encV cs) k).isSome = hasI cs k := by
  rw [look_enc, Option.isSome_map]
  unfold hasI
  induction cs with
  | nil => rfl
  | cons p cs ih =>
    rw [List.find?_cons, List.any_cons]
    cases decide (p.1 = k) with
    | true => rfl
    | false => exact ih
theorem getI_mem : ∀ {cs : CIs} {p : NK × Int}, (cs.map (·.1)).Nodup → p ∈ cs → getI cs p.1 = p.2
  | q :: cs, p, nd, h => by
    rw [List.map_cons, List.nodup_cons] at nd
    unfold getI
    rw [List.find?_cons]
    rcases List.mem_cons.mp h with rfl | h
    · rw [decide_eq_true rfl]; rfl
    · have : q.1 ≠ p.1 := fun z => nd.1 (z ▸ List.mem_map.mpr ⟨p, h, rfl⟩)
      rw [decide_eq_false this]
      exact getI_mem nd.2 h
theorem put_enc {cs : CIs} (k : NK) (c : Int) (nd : (cs.map (·.1)).Nodup) : putV (encV cs) k (.int (getI cs k + c)) = encV (addI cs k c) := by
  unfold putV addI
  rw [has_look]
  split
  · unfold encV
    rw [List.map_map, List.map_map]
    refine List.map_congr_left fun p hp => ?_
    show putW k _ (p.1, V.int p.2) = _
    unfold putW
    show _ = ((addE k c p).1, V.int (addE k c p).2)
    unfold addE
    dsimp only
    by_cases h : p.1 = k
    · rw [if_pos h, if_pos h, ← h, getI_mem nd hp]
    · rw [if_neg h, if_neg h]
  · rename_i h
    unfold encV
    rw [List.map_append]
    have : getI cs k = 0 := by
      unfold getI
      unfold hasI at h
      have hf : hasI cs k = false := by unfold hasI; exact (Bool.eq_false_iff).mpr h
      rw [List.find?_eq_none.mpr fun p hp => List.any_eq_false.mp hf p hp]
      rfl
    rw [this, Int.zero_add]; rfl
theorem hasI_mem {cs : CIs} {k : NK} : hasI cs k = true ↔ k ∈ cs.map (·.1) := by
  unfold hasI
  rw [List.any_eq_true, List.mem_map]
  exact ⟨fun ⟨p, h, e⟩ => ⟨p, h, of_decide_eq_true e⟩, fun ⟨p, h, e⟩ => ⟨p, h, decide_eq_true e⟩⟩
theorem addI_keys (cs : CIs) (k : NK) (c : Int) : (addI cs k c).map (·.1) = if hasI cs k then cs.map (·.1) else cs.map (·.1) ++ [k] := by
  unfold addI
  split
  · rw [List.map_map]
    refine List.map_congr_left fun p _ => ?_
    show (addE k c p).1 = p.1
    unfold addE; split <;> rfl
  · rw [List.map_append]; rfl
theorem addI_nodup {cs : CIs} (k : NK) (c : Int) (nd : (cs.map (·.1)).Nodup) : ((addI cs k c).map (·.1)).Nodup := by
  rw [addI_keys]
  split
  · exact nd
  · rename_i h
    refine List.nodup_append.mpr ⟨nd, by simp, fun a ha b hb e => ?_⟩
    obtain rfl := List.mem_singleton.mp hb
    subst e
    exact h (hasI_mem.mpr ha)
theorem addI_mem {cs : CIs} {k : NK} {c : Int} {p : NK × Int} (h : p ∈ addI cs k c) : p.1 = k ∨ p.1 ∈ cs.map (·.1) := by
  have h2 : p.1 ∈ (addI cs k c).map (·.1) := List.mem_map.mpr ⟨p, h, rfl⟩
  rw [addI_keys] at h2
  split at h2
  · exact .inr h2
  · rcases List.mem_append.mp h2 with h | h
    · exact .inr h
    · exact .inl (List.mem_singleton.mp h)
theorem addI_sum (f : NK → Int) (k : NK) (c : Int) : ∀ {cs : CIs}, (cs.map (·.1)).Nodup → sumI f (addI cs k c) = sumI f cs + f k * c := by
  intro cs nd
  have none_ : ∀ cs : CIs, k ∉ cs.map (·.1) → cs.map (addE k c) = cs := fun cs h => by
    have : cs.map (addE k c) = cs.map id := List.map_congr_left fun p hp => by
      unfold addE
      have hne : ¬ p.1 = k := fun z => h (z ▸ List.mem_map.mpr ⟨p, hp, rfl⟩)
      rw [if_neg hne]; rfl
    rw [this, List.map_id]
  have some_ : ∀ cs : CIs, (cs.map (·.1)).Nodup → k ∈ cs.map (·.1) → sumI f (cs.map (addE k c)) = sumI f cs + f k * c := by
    intro cs
    induction cs with
    | nil => intro _ h; cases h
    | cons p cs ih =>
      intro nd h
      rw [List.map_cons, List.nodup_cons] at nd
      unfold sumI at ih ⊢
      rw [List.map_cons, List.map_cons, List.sum_cons, List.map_cons, List.sum_cons]
      by_cases hp : p.1 = k
      · have hn : k ∉ cs.map (·.1) := hp ▸ nd.1
        rw [none_ cs hn]
        unfold addE
        rw [if_pos hp]
        dsimp only
        rw [Int.mul_add, hp]; omega
      · rw [List.map_cons] at h
        have hm : k ∈ cs.map (·.1) := (List.mem_cons.mp h).elim (fun z => absurd z.symm hp) id
        rw [ih nd.2 hm]
        unfold addE
        rw [if_neg hp]; omega
  unfold addI
  split
  · rename_i h
    exact some_ cs nd (hasI_mem.mp h)
  · unfold sumI
    rw [List.map_append, List.sum_append]; simp
theorem sumI_append (f : NK → Int) (a b : CIs) : sumI f (a ++ b) = sumI f a + sumI f b := by
  unfold sumI
  rw [List.map_append, List.sum_append]
/-! ### keys of paths -/
def srtN (l : List Nat) : List Nat := l.mergeSort fun a b => decide (a ≤ b)
theorem srtN_perm (l : List Nat) : (srtN l).Perm l := List.mergeSort_perm _ _
theorem srtN_sorted (l : List Nat) : (srtN l).Pairwise (· ≤ ·) := by
  have := List.pairwise_mergeSort (le := fun a b : Nat => decide (a ≤ b)) (fun a b c h1 h2 => by simp at *; omega) (fun a b => by simp; omega) l
  exact this.imp fun h => by simpa using h
theorem srtN_uniq {l m : List Nat} (h : l.Perm m) : srtN l = srtN m :=
  uniqG (r := fun a b => a ≤ b) (fun a b h1 h2 => Nat.le_antisymm h1 h2) ((srtN_perm l).trans (h.trans (srtN_perm m).symm)) (srtN_sorted l) (srtN_sorted m)
theorem srtZ_nat (l : List Nat) : (srtZ (l.map fun (k : Nat) => (k : Int))).map Dt.int = (srtN l).map natD := by
  have e : srtZ (l.map fun (k : Nat) => (k : Int)) = (srtN l).map fun (k : Nat) => (k : Int) := by
    refine sorted_uniq ((srtZ_perm _).trans ((srtN_perm l).symm.map _)) (srtZ_sorted _) ?_
    rw [List.pairwise_map]
    exact (srtN_sorted l).imp fun h => by omega
  rw [e, List.map_map]; rfl
def keyR (r : List Nat) : NK := (srtN r, r.getLastD 0)
def extK (k : NK) (p : Nat) : NK := (srtN (k.1 ++ [p]), p)
theorem keyR_ext (r : List Nat) (p : Nat) : keyR (r ++ [p]) = extK (keyR r) p := by
  unfold keyR extK
  refine Prod.ext (srtN_uniq ((srtN_perm r).symm.append_right [p])) ?_
  simp
theorem setsN_all {n : Nat} : ∀ {k : Nat} {r : List Nat}, SetOk n k r → r ∈ setsN n k
  | 0, r, h => by
    have := h.len
    cases r with
    | nil => simp [setsN]
    | cons a r => simp at this
  | k + 1, r, h => by
    have hne : r ≠ [] := fun z => by have := h.len; rw [z] at this; simp at this
    have e : r = r.dropLast ++ [r.getLastD 0] := by
      rw [List.getLastD_eq_getLast?, List.getLast?_eq_some_getLast hne]
      exact (List.dropLast_concat_getLast hne).symm
    have hup := h.up
    have hlt := h.lt
    have hl := h.len
    rw [e] at hup hlt hl ⊢
    generalize r.getLastD 0 = x at hup hlt hl ⊢
    generalize r.dropLast = q at hup hlt hl ⊢
    have Q : SetOk n k q := ⟨by simp at hl; exact hl, (List.pairwise_append.mp hup).1, fun y hy => hlt y (List.mem_append_left _ hy)⟩
    refine List.mem_flatMap.mpr ⟨q, setsN_all Q, List.mem_map.mpr ⟨x, ?_, rfl⟩⟩
    have hx := hlt x (by simp)
    rw [List.mem_range'_1]
    have : nxtN q ≤ x := by
      unfold nxtN
      split
      · exact Nat.zero_le _
      · rename_i hq
        exact (List.pairwise_append.mp hup).2.2 _ (getLastD_mem hq) x (by simp)
    omega
structure KOk (n k : Nat) (q : NK) : Prop where
  set : SetOk n k q.1
  mem : q.2 ∈ q.1
def keysAll (n k : Nat) : List NK := (setsN n k).flatMap fun s => (List.range n).map fun l => (s, l)
theorem nodup_le_any {α : Type} [DecidableEq α] : ∀ {xs ys : List α}, xs.Nodup → (∀ x ∈ xs, x ∈ ys) → xs.length ≤ ys.length
  | [], _, _, _ => Nat.zero_le _
  | x :: xs, ys, nd, h => by
    rw [List.nodup_cons] at nd
    have hx := h x (by simp)
    have h2 : ∀ y ∈ xs, y ∈ ys.erase x := fun y hy => by
      have ne : y ≠ x := fun z => nd.1 (z ▸ hy)
      exact (List.mem_erase_of_ne ne).mpr (h y (List.mem_cons_of_mem _ hy))
    have := nodup_le_any nd.2 h2
    rw [List.length_erase_of_mem hx] at this
    have := List.length_pos_of_mem hx
    rw [List.length_cons]; omega
theorem keys_len {n k : Nat} {cs : CIs} (hn : n ≤ 12) (hk : k ≤ 12) (nd : (cs.map (·.1)).Nodup) (h : ∀ p ∈ cs, KOk n k p.1) : cs.length ≤ 50000 := by
  have h1 : (cs.map (·.1)).length ≤ (keysAll n k).length := nodup_le_any nd fun q hq => by
    obtain ⟨p, hp, rfl⟩ := List.mem_map.mp hq
    have K := h p hp
    exact List.mem_flatMap.mpr ⟨p.1.1, setsN_all K.set, List.mem_map.mpr ⟨p.1.2, List.mem_range.mpr (K.set.lt _ K.mem), rfl⟩⟩
  rw [List.length_map] at h1
  have h2 : (keysAll n k).length ≤ (setsN n k).length * n := by
    unfold keysAll
    exact flatMap_len fun s _ => by rw [List.length_map, List.length_range]; exact Nat.le_refl _
  have h3 := setsN_len hn hk
  have : (setsN n k).length * n ≤ 4096 * 12 := Nat.mul_le_mul h3 hn
  omega
theorem extK_ok {n k p : Nat} {q : NK} (h : KOk n k q) (hp : p < n) (hn : p ∉ q.1) : KOk n (k + 1) (extK q p) := by
  have pm := srtN_perm (q.1 ++ [p])
  refine ⟨⟨by show (srtN _).length = _; rw [pm.length_eq, List.length_append, h.set.len]; rfl, ?_, fun x hx => ?_⟩, pm.mem_iff.mpr (List.mem_append_right _ (List.mem_singleton.mpr rfl))⟩
  · have nd : (srtN (q.1 ++ [p])).Nodup := pm.nodup_iff.mpr (List.nodup_append.mpr ⟨h.set.up.imp fun h => by omega, by simp, fun a ha b hb e => by
      obtain rfl := List.mem_singleton.mp hb
      subst e; exact hn ha⟩)
    exact (srtN_sorted _).and nd |>.imp fun ⟨h1, h2⟩ => by omega
  · rcases List.mem_append.mp (pm.mem_iff.mp hx) with m | m
    · exact h.set.lt x m
    · obtain rfl := List.mem_singleton.mp m
      exact hp
/-- what a turn adds for a key -/
def nxtP (ts : List Tie) (k : NK) : List Nat := (nearOf ts k.2).filter fun p => !decide (p ∈ k.1)
def stepF (ts : List Tie) (f : NK → Int) (k : NK) : Int := ((nxtP ts k).map fun p => f (extK k p)).sum
structure DPok (n : Nat) (ts : List Tie) (t : Nat) (cs : CIs) : Prop where
  nd : (cs.map (·.1)).Nodup
  ok : ∀ p ∈ cs, KOk n (t + 1) p.1
  sum : ∀ f, sumI f cs = ((pathsN n ts t).map fun r => f (keyR r)).sum
theorem DPok.start {n : Nat} {ts : List Tie} (hn : 1 ≤ n) : DPok n ts 0 [(([0], 0), 1)] := by
  refine ⟨by simp, fun p hp => ?_, fun f => ?_⟩
  · obtain rfl := List.mem_singleton.mp hp
    exact ⟨⟨rfl, by simp, fun x hx => by obtain rfl := List.mem_singleton.mp hx; omega⟩, by simp⟩
  · have : keyR [0] = ([0], 0) := by unfold keyR srtN; rw [List.mergeSort_singleton]; rfl
    simp [sumI, pathsN, this]
theorem sum_perm {α : Type} {f : α → Int} {l m : List α} (h : l.Perm m) : (l.map f).sum = (m.map f).sum := by
  induction h with
  | nil => rfl
  | cons x _ ih => rw [List.map_cons, List.map_cons, List.sum_cons, List.sum_cons, ih]
  | swap x y l => simp only [List.map_cons, List.sum_cons]; omega
  | trans _ _ h1 h2 => exact h1.trans h2
theorem sum_flat {α β : Type} (g : α → List β) (f : β → Int) : ∀ l : List α, ((l.flatMap g).map f).sum = (l.map fun a => ((g a).map f).sum).sum
  | [] => rfl
  | a :: l => by rw [List.flatMap_cons, List.map_append, List.sum_append, List.map_cons, List.sum_cons, sum_flat g f l]
theorem step_path {n : Nat} {ts : List Tie} (hv : ValidY n ts) (f : NK → Int) (r : List Nat) : stepF ts f (keyR r) = ((extN n ts r).map fun r' => f (keyR r')).sum := by
  unfold stepF extN
  rw [List.map_map]
  have hp : (nxtP ts (keyR r)).Perm (goN n ts r) := by
    refine (List.perm_ext_iff_of_nodup ((nearOf_nodup hv _).sublist List.filter_sublist) (((range_filter_lt n _).imp fun h => by omega))).mpr fun x => ?_
    rw [List.mem_filter, near_mem hv, List.mem_filter, List.mem_range]
    have e1 : (x ∈ (keyR r).1) ↔ x ∈ r := (srtN_perm r).mem_iff
    show tieB ts (r.getLastD 0) x = true ∧ (!decide (x ∈ (keyR r).1)) = true ↔ x < n ∧ (!decide (x ∈ r) && tieB ts (r.getLastD 0) x) = true
    rw [Bool.and_eq_true, decide_eq_decide.mpr e1]
    exact ⟨fun ⟨a, b⟩ => ⟨(near_lt hv ((near_mem hv).mpr a)).1, b, a⟩, fun ⟨_, b, a⟩ => ⟨a, b⟩⟩
  rw [sum_perm hp]
  refine congrArg List.sum (List.map_congr_left fun p _ => ?_)
  show f (extK (keyR r) p) = f (keyR (r ++ [p]))
  rw [keyR_ext]
theorem DPok.next {n : Nat} {ts : List Tie} {t : Nat} {cs ms : CIs} (hv : ValidY n ts) (D : DPok n ts t cs) (nd : (ms.map (·.1)).Nodup) (ok : ∀ p ∈ ms, KOk n (t + 2) p.1) (hs : ∀ f, sumI f ms = sumI (stepF ts f) cs) : DPok n ts (t + 1) ms := by
  refine ⟨nd, ok, fun f => ?_⟩
  rw [hs, D.sum]
  show _ = (((pathsN n ts t).flatMap (extN n ts)).map fun r => f (keyR r)).sum
  rw [sum_flat]
  exact congrArg List.sum (List.map_congr_left fun r _ => step_path hv f r)
/-- all rounds from 0 on, both ways round -/
def dirN (n : Nat) (ts : List Tie) : List (List Nat) := (pathsN n ts (n - 1)).filter fun r => tieB ts (r.getLastD 0) 0
def countZ (n : Nat) (ts : List Tie) : Int := if n < 3 then 0 else ((dirN n ts).length : Int) / 2
theorem sum_ones {α : Type} (b : α → Bool) : ∀ l : List α, (l.map fun a => if b a = true then (1 : Int) else 0).sum = ((l.filter b).length : Int)
  | [] => rfl
  | a :: l => by
    rw [List.map_cons, List.sum_cons, sum_ones b l, List.filter_cons]
    split <;> simp; omega
theorem sumI_ones {cs : CIs} (b : NK → Bool) : ((cs.filter fun p => b p.1).map (·.2)).sum = sumI (fun k => if b k = true then 1 else 0) cs := by
  unfold sumI
  induction cs with
  | nil => rfl
  | cons p cs ih =>
    rw [List.filter_cons, List.map_cons, List.sum_cons, ← ih]
    show _ = (if b p.1 = true then (1 : Int) else 0) * p.2 + _
    split
    · rw [List.map_cons, List.sum_cons]; omega
    · omega
theorem DPok.fin {n : Nat} {ts : List Tie} {cs : CIs} (D : DPok n ts (n - 1) cs) : ((cs.filter fun p => tieB ts p.1.2 0).map (·.2)).sum = ((dirN n ts).length : Int) := by
  rw [sumI_ones (fun k => tieB ts k.2 0), D.sum]
  exact sum_ones (fun r : List Nat => tieB ts (r.getLastD 0) 0) _
def fn_p_counted := FnP yEnc (fun a => 1 ≤ a.1 ∧ a.1 ≤ 12 ∧ ValidY a.1 a.2) (fun a K => K (.dat (.int (countZ a.1 a.2))))
section
variable {X : Cx} {o e f k v : Expr} {apos cpos pos : Pos} {td ty tx tk tv : TE} (P : Program) (w : World)
theorem k_nin (hP : X.prog = P) (hw : X.w = w) (hu : X.A.units + 64 < cLine) : OpR X (compareOp .In) (rNIn P w) := by subst hP hw; exact op_nin hu
theorem k_nix (hP : X.prog = P) (hw : X.w = w) (hu : X.A.units + 64 < cLine) : IxR X (rNIx P w) := by subst hP hw; exact ix_nd hu
theorem k_nset (hP : X.prog = P) (hw : X.w = w) (hu : X.A.units + 64 < cLine) : PSet X (rNSet P w) := by subst hP hw; exact set_nd hu
theorem k_nget (hP : X.prog = P) (hw : X.w = w) (hu : X.A.units + 64 < cLine) (ho : PE X o td) (he : PE X e ty) (hf : PE X f tx) (m : M2 X o "get" apos e f cpos) : PE X (.Call (.Attribute o "get" apos) [e, f] [] cpos) (tNGet2 P w td ty tx) := by subst hP hw; exact pe_nget2 hu ho he hf m
theorem k_ndisp (hP : X.prog = P) (hw : X.w = w) (hu : X.A.units + 64 < cLine) (hk : PE X k tk) (hv : PE X v tv) : PE X (.Dict [some k] [v] pos) (tDisp1 P w tk tv) := by subst hP hw; exact pe_disp1 hu hk hv
theorem k_nnew (hP : X.prog = P) (hw : X.w = w) : PE X (.Dict [] [] pos) (tDNewN P w) := by subst hP hw; exact pe_dnewN
theorem k_nkeys {tg : Expr} (hP : X.prog = P) (hw : X.w = w) (he : PE X e td) : PI X tg e (iNKeys P w td) := by subst hP hw; exact pi_nkeys he
end
theorem look_mem {cs : CIs} {p : NK × Int} (nd : (cs.map (·.1)).Nodup) (h : p ∈ cs) : lookV (encV cs) p.1 = some (.int p.2) := by
  have h1 := look_getD p.1 cs
  rw [getI_mem nd h] at h1
  have h2 : (lookV (encV cs) p.1).isSome = true := by rw [has_look]; exact hasI_mem.mpr (List.mem_map.mpr ⟨p, h, rfl⟩)
  cases e : lookV (encV cs) p.1 with
  | none => rw [e] at h2; cases h2
  | some v => rw [e] at h1; exact congrArg some h1
section
variable {C : Addr} {ρ : Rsc} {sl : List Sl} {nx bk ct : List Sl → Prop} {rt : Sl → Prop} {c : CellP}
/-- i = j, where j's own thing goes over to i -/
theorem sd_mvCell {i j : Nat} (hij : i ≠ j) (e : sl[j]? = some (.cell c)) (hi : i < sl.length) (k : nx ((sl.set j .any).set i (.cell c))) : SD C ρ (tAsg (tVar j) (gName i)) sl nx rt bk ct := fun S0 H0 S H σ g D a _ _ _ => by
  obtain ⟨v, ev, p, o, rfl, z0, z1, z2, z3⟩ := g.at e (by intro h; cases h) (by intro d h; cases h) (by intro d h; cases h)
  refine ⟨_, ev, a _ S H _ k (Same.refl S) ⟨g.k1, g.mv, by simp [g.len], fun m s em => ?_, fun m l s t q hml e1 e2 o1 o2 e3 e4 => ?_⟩⟩
  · by_cases hm : m = i
    · subst hm
      rw [List.getElem?_set_self (by simpa using hi)] at em
      cases em
      rw [List.getElem?_set_self (by rw [g.len]; exact hi)]
      exact ⟨.ref p, rfl, p, o, rfl, z0, z1, z2, z3⟩
    · rw [List.getElem?_set_ne (Ne.symm hm)] at em ⊢
      by_cases hj : m = j
      · subst hj
        rw [List.getElem?_set_self (List.getElem?_eq_some_iff.mp e).1] at em
        cases em; trivial
      · rw [List.getElem?_set_ne (Ne.symm hj)] at em
        exact g.ok m s em
  · have orig : ∀ (m : Nat) (x : Sl), m ≠ i → ((sl.set j .any).set i (.cell c))[m]? = some x → x.isOwn → m ≠ j ∧ sl[m]? = some x := fun m x hm em ox => by
      rw [List.getElem?_set_ne (Ne.symm hm)] at em
      by_cases hj : m = j
      · subst hj
        rw [List.getElem?_set_self (List.getElem?_eq_some_iff.mp e).1] at em
        cases em; exact ox.elim
      · rw [List.getElem?_set_ne (Ne.symm hj)] at em; exact ⟨hj, em⟩
    by_cases hm : m = i
    · subst hm
      rw [List.getElem?_set_self (by rw [g.len]; exact hi)] at e3
      cases e3
      obtain ⟨hlj, el⟩ := orig l t (Ne.symm hml) e2 o2
      rw [List.getElem?_set_ne hml] at e4
      exact g.ne j l _ t p (Ne.symm hlj) e el trivial o2 ev e4
    · obtain ⟨hmj, em⟩ := orig m s hm e1 o1
      rw [List.getElem?_set_ne (Ne.symm hm)] at e3
      by_cases hl : l = i
      · subst hl
        rw [List.getElem?_set_self (by rw [g.len]; exact hi)] at e4
        cases e4
        exact g.ne m j s _ p hmj em e o1 trivial e3 ev
      · obtain ⟨hlj, el⟩ := orig l t hl e2 o2
        rw [List.getElem?_set_ne (Ne.symm hl)] at e4
        exact g.ne m l s t q hml em el o1 o2 e3 e4
end
theorem noDks_nats : ∀ ks : List Nat, noDks (ks.map natD) = true
  | [] => rfl
  | k :: ks => by rw [List.map_cons, noDks, noDks_nats ks]; rfl
theorem noDk_key (k : NK) : noDk (keyD k) = true := by
  unfold keyD
  rw [noDk, noDks, noDk, noDks_nats]; rfl
end Den
/-! How many rounds: by paths, both ways round, renamed, with a tie more, of all ties. -/
namespace Den
open PySem PyProof.Rows L2 D3
section
variable {n : Nat} {ts : List Tie}
theorem g1_zero {x y : Nat} : g1 ts x y = 0 ↔ tieB ts x y = true := by
  unfold g1
  cases tieB ts x y <;> simp
theorem cG_snoc {r : List Nat} (hne : r ≠ []) (p : Nat) : cG ts (r ++ [p]) = cG ts r + g1 ts (r.getLastD 0) p := by
  obtain ⟨xs, x, rfl⟩ := snoc_of hne
  rw [cG_app, cG_one]; simp
theorem PathN.ne {k : Nat} {r : List Nat} (h : PathN n k r) : r ≠ [] := fun z => by have := h.len; rw [z] at this; simp at this
theorem mem_pathsN (hn : 1 ≤ n) : ∀ (k : Nat) (r : List Nat), r ∈ pathsN n ts k ↔ PathN n k r ∧ r.headD 0 = 0 ∧ cG ts r = 0
  | 0, r => by
    constructor
    · intro h
      have hp := pathsN_path hn ts 0 r h
      obtain rfl := List.mem_singleton.mp h
      exact ⟨hp, rfl, rfl⟩
    · rintro ⟨hp, h0, _⟩
      have hl := hp.len
      match r, hl, h0 with
      | [a], _, h0 => obtain rfl : a = 0 := h0; exact List.mem_singleton.mpr rfl
  | k + 1, r => by
    constructor
    · intro h
      have hp := pathsN_path hn ts (k + 1) r h
      obtain ⟨q, hq, hr⟩ := List.mem_flatMap.mp h
      obtain ⟨p, hpp, rfl⟩ := List.mem_map.mp hr
      obtain ⟨hq1, hq2, hq3⟩ := (mem_pathsN hn k q).mp hq
      have hne := hq1.ne
      refine ⟨hp, ?_, ?_⟩
      · cases q with
        | nil => exact absurd rfl hne
        | cons a q => exact hq2
      · have := (List.mem_filter.mp hpp).2
        rw [Bool.and_eq_true] at this
        rw [cG_snoc hne, hq3, g1_zero.mpr this.2]
    · rintro ⟨hp, h0, hc⟩
      obtain ⟨q, p, rfl⟩ := snoc_of hp.ne
      have hl := hp.len
      rw [List.length_append, List.length_singleton] at hl
      have hne : q ≠ [] := fun z => by rw [z] at hl; simp at hl
      have hnd := List.nodup_append.mp hp.nd
      rw [cG_snoc hne] at hc
      have hq : q ∈ pathsN n ts k := (mem_pathsN hn k q).mpr ⟨⟨by omega, hnd.1, fun x hx => hp.lt x (List.mem_append_left _ hx)⟩, by cases q with
        | nil => exact absurd rfl hne
        | cons a q => exact h0, by omega⟩
      refine List.mem_flatMap.mpr ⟨q, hq, List.mem_map.mpr ⟨p, List.mem_filter.mpr ⟨List.mem_range.mpr (hp.lt p (by simp)), ?_⟩, rfl⟩⟩
      have hpq : p ∉ q := fun z => hnd.2.2 p z p (by simp) rfl
      have ht : tieB ts (q.getLastD 0) p = true := g1_zero.mp (by omega)
      rw [Bool.and_eq_true]
      exact ⟨by simp [hpq], ht⟩
theorem pathsN_nodup (n : Nat) (ts : List Tie) : ∀ k, (pathsN n ts k).Nodup
  | 0 => by simp [pathsN]
  | k + 1 => by
    show ((pathsN n ts k).flatMap (extN n ts)).Nodup
    unfold List.Nodup
    rw [List.pairwise_flatMap]
    refine ⟨fun r _ => ?_, (pathsN_nodup n ts k).imp fun {a b} hab x hx y hy e => ?_⟩
    · unfold extN
      rw [List.pairwise_map]
      have nd : (goN n ts r).Pairwise fun a b => a ≠ b := (show (goN n ts r).Pairwise (· < ·) from range_filter_lt n _).imp fun h => by omega
      exact nd.imp fun {a b} h z => h (by simpa using z)
    · obtain ⟨p, _, rfl⟩ := List.mem_map.mp hx
      obtain ⟨q, _, rfl⟩ := List.mem_map.mp hy
      exact hab (List.append_inj' e rfl).1
theorem dirN_nodup (n : Nat) (ts : List Tie) : (dirN n ts).Nodup := (pathsN_nodup n ts _).sublist List.filter_sublist
theorem mem_dirN (hn : 1 ≤ n) {r : List Nat} : r ∈ dirN n ts ↔ r.Perm (List.range n) ∧ r.headD 0 = 0 ∧ rG ts r = 0 := by
  unfold dirN
  rw [List.mem_filter, mem_pathsN hn]
  unfold rG
  constructor
  · rintro ⟨⟨h1, h2, h3⟩, h4⟩
    exact ⟨perm_of_path hn h1, h2, by rw [h2, h3, g1_zero.mpr h4]⟩
  · rintro ⟨h1, h2, h3⟩
    have h4 : cG ts r = 0 := by omega
    have h5 : g1 ts (r.getLastD 0) (r.headD 0) = 0 := by omega
    rw [h2] at h5
    refine ⟨⟨⟨by rw [h1.length_eq, List.length_range]; omega, h1.nodup_iff.mpr List.nodup_range, fun x hx => List.mem_range.mp (h1.mem_iff.mp hx)⟩, h2, h4⟩, g1_zero.mp h5⟩
theorem inj_len {α β : Type} [DecidableEq β] {l : List α} {m : List β} (f : α → β) (nd : l.Nodup) (hm : ∀ a ∈ l, f a ∈ m) (hi : ∀ a ∈ l, ∀ b ∈ l, f a = f b → a = b) : l.length ≤ m.length := by
  rw [← List.length_map (f := f) (as := l)]
  refine nodup_le_any ?_ fun x hx => by obtain ⟨a, ha, rfl⟩ := List.mem_map.mp hx; exact hm a ha
  unfold List.Nodup
  rw [List.pairwise_map]
  exact List.Pairwise.imp_of_mem (fun ha hb h z => h (hi _ ha _ hb z)) nd
theorem filter_two {α : Type} (p : α → Bool) : ∀ l : List α, (l.filter p).length + (l.filter fun x => !p x).length = l.length
  | [] => rfl
  | a :: l => by
    have := filter_two p l
    rw [List.filter_cons, List.filter_cons, List.length_cons]
    cases h : p a <;> simp [h] <;> omega
/-! ### both ways round -/
theorem headD_rev (l : List Nat) : l.reverse.headD 0 = l.getLastD 0 := by
  cases h : l.getLast? with
  | none =>
    rw [List.getLast?_eq_none_iff] at h
    subst h; rfl
  | some a =>
    have : l.reverse.head? = some a := by rw [List.head?_reverse]; exact h
    rw [List.getLastD_eq_getLast?, h, List.headD_eq_head?_getD, this]
theorem getLastD_rev (l : List Nat) : l.reverse.getLastD 0 = l.headD 0 := by
  have := headD_rev l.reverse
  rw [List.reverse_reverse] at this
  exact this.symm
theorem rG_rev (ts : List Tie) (l : List Nat) : rG ts l.reverse = rG ts l := by
  unfold rG
  rw [cG_rev, headD_rev, getLastD_rev, g1_comm]
def revR : List Nat → List Nat
  | [] => []
  | a :: t => a :: t.reverse
theorem revR_rG (ts : List Tie) (l : List Nat) : rG ts (revR l) = rG ts l := by
  cases l with
  | nil => rfl
  | cons a t =>
    show rG ts ([a] ++ t.reverse) = _
    rw [rG_rot, ← rG_rev ts (a :: t), List.reverse_cons]
theorem revR_perm (l : List Nat) : (revR l).Perm l := by
  cases l with
  | nil => exact .nil
  | cons a t => exact (List.reverse_perm t).cons a
theorem revR_revR (l : List Nat) : revR (revR l) = l := by
  cases l with
  | nil => rfl
  | cons a t => show a :: t.reverse.reverse = _; rw [List.reverse_reverse]
theorem cons_lastD (a : Nat) {l : List Nat} (h : l ≠ []) : (a :: l).getLastD 0 = l.getLastD 0 := by
  obtain ⟨xs, x, rfl⟩ := snoc_of h
  rw [← List.cons_append]
  simp only [List.getLastD_eq_getLast?, List.getLast?_append, List.getLast?_singleton]; rfl
theorem revR_ends {l : List Nat} (h : 2 ≤ l.length) : (revR l).getD 1 0 = l.getLastD 0 ∧ (revR l).getLastD 0 = l.getD 1 0 := by
  match l, h with
  | a :: b :: t, _ =>
    have e1 : (revR (a :: b :: t)).getD 1 0 = ((b :: t).reverse).headD 0 := by
      show (a :: (b :: t).reverse).getD 1 0 = _
      rw [← getD_headD]; rfl
    have e2 : (revR (a :: b :: t)).getLastD 0 = ((b :: t).reverse).getLastD 0 := by
      show (a :: (b :: t).reverse).getLastD 0 = _
      have : (b :: t).reverse ≠ [] := by simp
      exact cons_lastD _ this
    rw [e1, e2, headD_rev, getLastD_rev]
    exact ⟨(cons_lastD _ (by simp)).symm, rfl⟩
theorem second_last {r : List Nat} (h3 : 3 ≤ n) (h : r.Perm (List.range n)) : r.getD 1 0 ≠ r.getLastD 0 := by
  have hl : r.length = n := by rw [h.length_eq, List.length_range]
  have nd : r.Nodup := h.nodup_iff.mpr List.nodup_range
  rw [← getD_lastD]
  intro e
  have e1 : r[1]? = some (r.getD 1 0) := get_some (by omega)
  have e2 : r[r.length - 1]? = some (r.getD (r.length - 1) 0) := get_some (by omega)
  rw [← e] at e2
  have := (List.getElem?_inj (i := 1) (by omega) nd).mp (e1.trans e2.symm)
  omega
theorem dir_rounds (h3 : 3 ≤ n) : (dirN n ts).length = 2 * (roundsN n ts).length := by
  have e1 : roundsN n ts = (dirN n ts).filter fun r => decide (r.getD 1 0 < r.getLastD 0) := by
    unfold roundsN dirN
    rw [List.filter_filter]
    refine List.filter_congr fun r _ => ?_
    unfold roundL
    rw [decide_eq_true (show 2 < n by omega), Bool.true_and]
  have h := filter_two (fun r : List Nat => decide (r.getD 1 0 < r.getLastD 0)) (dirN n ts)
  have key : ∀ {r : List Nat}, r ∈ dirN n ts → revR r ∈ dirN n ts ∧ (decide ((revR r).getD 1 0 < (revR r).getLastD 0) = !decide (r.getD 1 0 < r.getLastD 0)) := fun {r} hr => by
    obtain ⟨p1, p2, p3⟩ := (mem_dirN (by omega)).mp hr
    refine ⟨(mem_dirN (by omega)).mpr ⟨(revR_perm r).trans p1, by cases r <;> exact p2, by rw [revR_rG]; exact p3⟩, ?_⟩
    obtain ⟨q1, q2⟩ := revR_ends (l := r) (by rw [p1.length_eq, List.length_range]; omega)
    rw [q1, q2]
    have := second_last h3 p1
    by_cases hlt : r.getD 1 0 < r.getLastD 0
    · rw [decide_eq_true hlt, decide_eq_false (by omega)]; rfl
    · rw [decide_eq_false hlt, decide_eq_true (by omega)]; rfl
  have inj : ∀ {r s : List Nat}, revR r = revR s → r = s := fun {r s} e => by rw [← revR_revR r, e, revR_revR]
  have l1 : ((dirN n ts).filter fun r => decide (r.getD 1 0 < r.getLastD 0)).length ≤ ((dirN n ts).filter fun r => !decide (r.getD 1 0 < r.getLastD 0)).length :=
    inj_len revR ((dirN_nodup n ts).sublist List.filter_sublist) (fun r hr => by
      obtain ⟨h1, h2⟩ := List.mem_filter.mp hr
      obtain ⟨k1, k2⟩ := key h1
      exact List.mem_filter.mpr ⟨k1, by rw [k2, h2]; rfl⟩) fun a _ b _ e => inj e
  have l2 : ((dirN n ts).filter fun r => !decide (r.getD 1 0 < r.getLastD 0)).length ≤ ((dirN n ts).filter fun r => decide (r.getD 1 0 < r.getLastD 0)).length :=
    inj_len revR ((dirN_nodup n ts).sublist List.filter_sublist) (fun r hr => by
      obtain ⟨h1, h2⟩ := List.mem_filter.mp hr
      obtain ⟨k1, k2⟩ := key h1
      exact List.mem_filter.mpr ⟨k1, by rw [k2]; simpa using h2⟩) fun a _ b _ e => inj e
  rw [e1]; omega
theorem count_rounds (n : Nat) (ts : List Tie) : countZ n ts = ((roundsN n ts).length : Int) := by
  unfold countZ
  split
  · rename_i h
    have : roundsN n ts = [] := by
      unfold roundsN
      refine List.filter_eq_nil_iff.mpr fun r _ => ?_
      unfold roundL
      rw [decide_eq_false (show ¬ 2 < n by omega)]; simp
    rw [this]; rfl
  · rw [dir_rounds (by omega)]; omega
/-! ### a tie more -/
theorem tieB_mono {us : List Tie} (h : ∀ p ∈ ts, p ∈ us) {x y : Nat} (t : tieB ts x y = true) : tieB us x y = true := decide_eq_true (h _ (of_decide_eq_true t))
theorem g1_mono {us : List Tie} (h : ∀ p ∈ ts, p ∈ us) {x y : Nat} (e : g1 ts x y = 0) : g1 us x y = 0 := g1_zero.mpr (tieB_mono h (g1_zero.mp e))
theorem cG_mono {us : List Tie} (h : ∀ p ∈ ts, p ∈ us) : ∀ {l : List Nat}, cG ts l = 0 → cG us l = 0
  | [], _ => rfl
  | [_], _ => rfl
  | x :: y :: r, e => by
    rw [cG_cons] at e ⊢
    have h1 := g1_mono (us := us) h (x := x) (y := y) (by omega)
    have h2 := cG_mono h (l := y :: r) (by omega)
    omega
theorem rG_mono {us : List Tie} (h : ∀ p ∈ ts, p ∈ us) {l : List Nat} (e : rG ts l = 0) : rG us l = 0 := by
  unfold rG at e ⊢
  have h1 := cG_mono h (l := l) (by omega)
  have h2 := g1_mono h (x := l.getLastD 0) (y := l.headD 0) (by omega)
  omega
theorem dir_mono (hn : 1 ≤ n) {us : List Tie} (h : ∀ p ∈ ts, p ∈ us) : (dirN n ts).length ≤ (dirN n us).length :=
  nodup_le_any (dirN_nodup n ts) fun r hr => by
    obtain ⟨p1, p2, p3⟩ := (mem_dirN hn).mp hr
    exact (mem_dirN hn).mpr ⟨p1, p2, rG_mono h p3⟩
theorem count_mono (hn : 1 ≤ n) {us : List Tie} (h : ∀ p ∈ ts, p ∈ us) : countZ n ts ≤ countZ n us := by
  unfold countZ
  split
  · exact Int.le_refl _
  · have := dir_mono hn h
    omega
/-! ### renamed -/
def rotB (b : Nat) (l : List Nat) : List Nat := l.dropWhile (fun x => decide (x ≠ b)) ++ l.takeWhile fun x => decide (x ≠ b)
theorem rotB_at {b : Nat} {p q : List Nat} (h : b ∉ p) : rotB b (p ++ b :: q) = b :: q ++ p := by
  unfold rotB
  have hp : ∀ x ∈ p, decide (x ≠ b) = true := fun x hx => decide_eq_true fun z => h (z ▸ hx)
  rw [List.dropWhile_append_of_pos hp, List.takeWhile_append_of_pos hp, List.dropWhile_cons, List.takeWhile_cons]
  simp
theorem split_at {b : Nat} {l : List Nat} (nd : l.Nodup) (h : b ∈ l) : ∃ p q, l = p ++ b :: q ∧ b ∉ p := by
  obtain ⟨p, q, rfl⟩ := List.append_of_mem h
  exact ⟨p, q, rfl, fun z => (List.nodup_append.mp nd).2.2 b z b (by simp) rfl⟩
theorem rotB_ok {b : Nat} {l : List Nat} (nd : l.Nodup) (h : b ∈ l) : (rotB b l).Perm l ∧ (rotB b l).headD 0 = b ∧ rG ts (rotB b l) = rG ts l ∧ rotB (l.headD 0) (rotB b l) = l := by
  obtain ⟨p, q, rfl, hb⟩ := split_at nd h
  rw [rotB_at hb]
  refine ⟨List.perm_append_comm, rfl, rG_rot ts (b :: q) p, ?_⟩
  cases p with
  | nil =>
    show rotB b (b :: q ++ []) = b :: q
    rw [List.append_nil]
    have := rotB_at (b := b) (p := []) (q := q) (by simp)
    rw [List.append_nil] at this
    exact this
  | cons a p =>
    show rotB a ((b :: q) ++ a :: p) = a :: p ++ b :: q
    refine rotB_at fun z => ?_
    exact (List.nodup_append.mp nd).2.2 a (by simp) a z rfl
theorem cG_ren {us : List Tie} {f : Nat → Nat} (h : ∀ x y, x < n → y < n → tieB us (f x) (f y) = tieB ts x y) : ∀ {l : List Nat}, (∀ x ∈ l, x < n) → cG us (l.map f) = cG ts l
  | [], _ => rfl
  | [_], _ => rfl
  | x :: y :: r, hl => by
    have ih := cG_ren h (l := y :: r) fun z hz => hl z (List.mem_cons_of_mem _ hz)
    rw [List.map_cons] at ih
    rw [List.map_cons, List.map_cons, cG_cons, cG_cons, ih]
    unfold g1
    rw [h x y (hl x (by simp)) (hl y (by simp))]
theorem rG_ren {us : List Tie} {f : Nat → Nat} (h : ∀ x y, x < n → y < n → tieB us (f x) (f y) = tieB ts x y) {l : List Nat} (hne : l ≠ []) (hl : ∀ x ∈ l, x < n) : rG us (l.map f) = rG ts l := by
  unfold rG
  rw [cG_ren h hl]
  have e1 : (l.map f).getLastD 0 = f (l.getLastD 0) := by
    obtain ⟨xs, x, rfl⟩ := snoc_of hne
    simp
  have e2 : (l.map f).headD 0 = f (l.headD 0) := by
    cases l with
    | nil => exact absurd rfl hne
    | cons a l => rfl
  rw [e1, e2]
  unfold g1
  rw [h _ _ (hl _ (getLastD_mem hne)) (hl _ (by cases l with
    | nil => exact absurd rfl hne
    | cons a l => exact List.mem_cons_self))]
theorem map_inj_on {f : Nat → Nat} : ∀ {r s : List Nat}, (∀ x ∈ r, ∀ y ∈ s, f x = f y → x = y) → r.map f = s.map f → r = s
  | [], [], _, _ => rfl
  | [], _ :: _, _, e => by simp at e
  | _ :: _, [], _, e => by simp at e
  | x :: r, y :: s, h, e => by
    rw [List.map_cons, List.map_cons, List.cons.injEq] at e
    rw [h x (by simp) y (by simp) e.1, map_inj_on (fun a ha b hb => h a (List.mem_cons_of_mem _ ha) b (List.mem_cons_of_mem _ hb)) e.2]
theorem dir_ren {us : List Tie} {f : Nat → Nat} (hn : 1 ≤ n) (h : ∀ x y, x < n → y < n → tieB us (f x) (f y) = tieB ts x y) (hf : ((List.range n).map f).Perm (List.range n)) : (dirN n ts).length ≤ (dirN n us).length := by
  have fi : ∀ x y, x < n → y < n → f x = f y → x = y := fun x y hx hy e => by
    have nd : ((List.range n).map f).Nodup := hf.nodup_iff.mpr List.nodup_range
    have e1 : ((List.range n).map f)[x]? = some (f x) := by rw [List.getElem?_map, List.getElem?_range hx]; rfl
    have e2 : ((List.range n).map f)[y]? = some (f y) := by rw [List.getElem?_map, List.getElem?_range hy]; rfl
    rw [← e] at e2
    exact (List.getElem?_inj (i := x) (by rw [List.length_map, List.length_range]; exact hx) nd).mp (e1.trans e2.symm)
  have pm : ∀ {r : List Nat}, r.Perm (List.range n) → (r.map f).Perm (List.range n) := fun h => (h.map f).trans hf
  have z0 : ∀ {r : List Nat}, r.Perm (List.range n) → 0 ∈ r.map f ∧ (r.map f).Nodup := fun h => ⟨(pm h).mem_iff.mpr (List.mem_range.mpr hn), (pm h).nodup_iff.mpr List.nodup_range⟩
  have ne : ∀ {r : List Nat}, r.Perm (List.range n) → r ≠ [] := fun h z => by
    have := h.length_eq
    rw [z, List.length_range] at this; simp at this; omega
  refine inj_len (fun r => rotB 0 (r.map f)) (dirN_nodup n ts) (fun r hr => ?_) fun r hr s hs e => ?_
  · obtain ⟨p1, p2, p3⟩ := (mem_dirN hn).mp hr
    obtain ⟨q1, q2, q3, _⟩ := rotB_ok (ts := us) (z0 p1).2 (z0 p1).1
    refine (mem_dirN hn).mpr ⟨q1.trans (pm p1), q2, ?_⟩
    rw [q3, rG_ren h (ne p1) fun x hx => List.mem_range.mp (p1.mem_iff.mp hx)]
    exact p3
  · obtain ⟨p1, p2, p3⟩ := (mem_dirN hn).mp hr
    obtain ⟨s1, s2, s3⟩ := (mem_dirN hn).mp hs
    obtain ⟨_, _, _, q4⟩ := rotB_ok (ts := us) (z0 p1).2 (z0 p1).1
    obtain ⟨_, _, _, t4⟩ := rotB_ok (ts := us) (z0 s1).2 (z0 s1).1
    have hh : ∀ {r : List Nat}, r.Perm (List.range n) → r.headD 0 = 0 → (r.map f).headD 0 = f 0 := fun {r} h1 h2 => by
      cases r with
      | nil => exact absurd rfl (ne h1)
      | cons a r => obtain rfl : a = 0 := h2; rfl
    rw [hh p1 p2] at q4
    rw [hh s1 s2] at t4
    have e : rotB 0 (r.map f) = rotB 0 (s.map f) := e
    have em : r.map f = s.map f := by rw [← q4, ← t4, e]
    refine map_inj_on (fun x hx y hy => fi x y ?_ ?_) em
    · exact List.mem_range.mp (p1.mem_iff.mp hx)
    · exact List.mem_range.mp (s1.mem_iff.mp hy)
end
end Den
/-! Renamed yards; all ties; how many paths few ties have. -/
namespace Den
open PySem PyProof.Rows L2 D3
section
variable {n : Nat} {ts us : List Tie} {ks : List Nat}
def renP (ks : List Nat) (p : Tie) : Tie := (min (ks.getD p.1 0) (ks.getD p.2 0), max (ks.getD p.1 0) (ks.getD p.2 0))
def renT (ks : List Nat) (ts : List Tie) : List Tie := ts.map (renP ks)
theorem ren_inj (hk : ks.Perm (List.range n)) {x y : Nat} (hx : x < n) (hy : y < n) (e : ks.getD x 0 = ks.getD y 0) : x = y := by
  have hl : ks.length = n := by rw [hk.length_eq, List.length_range]
  have nd : ks.Nodup := hk.nodup_iff.mpr List.nodup_range
  have e1 : ks[x]? = some (ks.getD x 0) := get_some (by omega)
  have e2 : ks[y]? = some (ks.getD y 0) := get_some (by omega)
  rw [← e] at e2
  exact (List.getElem?_inj (i := x) (by omega) nd).mp (e1.trans e2.symm)
theorem ren_lt (hk : ks.Perm (List.range n)) {x : Nat} (hx : x < n) : ks.getD x 0 < n := by
  have hl : ks.length = n := by rw [hk.length_eq, List.length_range]
  exact List.mem_range.mp (hk.mem_iff.mp (List.mem_of_getElem? (get_some (by omega))))
theorem minmax_eq {a b c d : Nat} (h1 : min a b = min c d) (h2 : max a b = max c d) : (a = c ∧ b = d) ∨ (a = d ∧ b = c) := by omega
theorem renP_inj (hk : ks.Perm (List.range n)) (hv : ValidY n ts) {p q : Tie} (hp : p ∈ ts) (hq : q ∈ ts) (e : renP ks p = renP ks q) : p = q := by
  have p1 := hv.2 p hp
  have q1 := hv.2 q hq
  unfold renP at e
  rw [Prod.mk.injEq] at e
  rcases minmax_eq e.1 e.2 with ⟨h1, h2⟩ | ⟨h1, h2⟩
  · exact Prod.ext (ren_inj hk (by omega) (by omega) h1) (ren_inj hk (by omega) (by omega) h2)
  · have a1 := ren_inj hk (by omega) (by omega) h1
    have a2 := ren_inj hk (by omega) (by omega) h2
    omega
theorem ren_valid (hk : ks.Perm (List.range n)) (hv : ValidY n ts) : ValidY n (renT ks ts) := by
  refine ⟨?_, fun p hp => ?_⟩
  · unfold renT List.Nodup
    rw [List.pairwise_map]
    exact List.Pairwise.imp_of_mem (fun ha hb h z => h (renP_inj hk hv ha hb z)) hv.1
  · obtain ⟨q, hq, rfl⟩ := List.mem_map.mp hp
    have q1 := hv.2 q hq
    have l1 := ren_lt hk (x := q.1) (by omega)
    have l2 := ren_lt hk (x := q.2) (by omega)
    have ne : ks.getD q.1 0 ≠ ks.getD q.2 0 := fun e => by have := ren_inj hk (by omega) (by omega) e; omega
    unfold renP
    dsimp only
    omega
theorem ren_tie (hk : ks.Perm (List.range n)) (hv : ValidY n ts) (hu : us.Perm (renT ks ts)) {x y : Nat} (hx : x < n) (hy : y < n) : tieB us (ks.getD x 0) (ks.getD y 0) = tieB ts x y := by
  unfold tieB
  refine decide_eq_decide.mpr ⟨fun h => ?_, fun h => ?_⟩
  · obtain ⟨p, hp, e⟩ := List.mem_map.mp (hu.mem_iff.mp h)
    have p1 := hv.2 p hp
    unfold renP at e
    rw [Prod.mk.injEq] at e
    have e3 : p = (min x y, max x y) := by
      rcases minmax_eq e.1 e.2 with ⟨h1, h2⟩ | ⟨h1, h2⟩
      · have a1 := ren_inj hk (by omega) (by omega) h1
        have a2 := ren_inj hk (by omega) (by omega) h2
        exact Prod.ext (by show p.1 = min x y; omega) (by show p.2 = max x y; omega)
      · have a1 := ren_inj hk (by omega) (by omega) h1
        have a2 := ren_inj hk (by omega) (by omega) h2
        exact Prod.ext (by show p.1 = min x y; omega) (by show p.2 = max x y; omega)
    rw [← e3]; exact hp
  · refine hu.mem_iff.mpr (List.mem_map.mpr ⟨_, h, ?_⟩)
    unfold renP
    dsimp only
    rcases Nat.le_total x y with h | h
    · rw [Nat.min_eq_left h, Nat.max_eq_right h]
    · rw [Nat.min_eq_right h, Nat.max_eq_left h, Nat.min_comm, Nat.max_comm]
theorem perm_of_inj {f : Nat → Nat} (hl : ∀ x, x < n → f x < n) (hi : ∀ x y, x < n → y < n → f x = f y → x = y) : ((List.range n).map f).Perm (List.range n) := by
  refine perm_sub ?_ (fun x hx => ?_) (by simp)
  · unfold List.Nodup
    rw [List.pairwise_map]
    exact List.Pairwise.imp_of_mem (fun ha hb h z => h (hi _ _ (List.mem_range.mp ha) (List.mem_range.mp hb) z)) List.nodup_range
  · obtain ⟨y, hy, rfl⟩ := List.mem_map.mp hx
    exact List.mem_range.mpr (hl y (List.mem_range.mp hy))
theorem count_ren (hn : 1 ≤ n) (hk : ks.Perm (List.range n)) (hv : ValidY n ts) (hu : us.Perm (renT ks ts)) : countZ n us = countZ n ts := by
  have hl : ks.length = n := by rw [hk.length_eq, List.length_range]
  have l1 : (dirN n ts).length ≤ (dirN n us).length := dir_ren (f := fun x => ks.getD x 0) hn (fun x y hx hy => ren_tie hk hv hu hx hy) (perm_of_inj (fun x hx => ren_lt hk hx) fun x y hx hy e => ren_inj hk hx hy e)
  have gi : ∀ x, x < n → ks.idxOf x < n ∧ ks.getD (ks.idxOf x) 0 = x := fun x hx => by
    have hm : x ∈ ks := hk.mem_iff.mpr (List.mem_range.mpr hx)
    have h1 := List.idxOf_lt_length_of_mem hm
    refine ⟨by omega, ?_⟩
    rw [List.getD_eq_getElem?_getD, List.getElem?_eq_getElem h1]
    simp
  have l2 : (dirN n us).length ≤ (dirN n ts).length := dir_ren (f := fun x => ks.idxOf x) hn (fun x y hx hy => by
    obtain ⟨a1, a2⟩ := gi x hx
    obtain ⟨b1, b2⟩ := gi y hy
    rw [← ren_tie hk hv hu a1 b1, a2, b2]) (perm_of_inj (fun x hx => (gi x hx).1) fun x y hx hy e => by
    rw [← (gi x hx).2, ← (gi y hy).2]
    exact congrArg (fun z => ks.getD z 0) e)
  unfold countZ
  rw [Nat.le_antisymm l2 l1]
/-! ### all ties -/
def descN (n : Nat) : Nat → Nat
  | 0 => 1
  | k + 1 => descN n k * (n - (k + 1))
theorem flatMap_const {α β : Type} {f : α → List β} {m : Nat} : ∀ {xs : List α}, (∀ x ∈ xs, (f x).length = m) → (xs.flatMap f).length = xs.length * m
  | [], _ => by simp
  | x :: xs, h => by
    rw [List.flatMap_cons, List.length_append, h x (by simp), flatMap_const fun y hy => h y (List.mem_cons_of_mem _ hy), List.length_cons, Nat.succ_mul]; omega
theorem tie_all {x y : Nat} : tieB (pairsN n) x y = decide (x ≠ y ∧ x < n ∧ y < n) := by
  unfold tieB
  refine decide_eq_decide.mpr (mem_pairsN.trans ?_)
  show min x y < max x y ∧ max x y < n ↔ _
  omega
theorem go_all {k : Nat} {r : List Nat} (h : PathN n k r) : (goN n (pairsN n) r).length = n - (k + 1) := by
  have e1 : goN n (pairsN n) r = (List.range n).filter fun p => !decide (p ∈ r) := by
    unfold goN
    refine List.filter_congr fun p hp => ?_
    by_cases hr : p ∈ r
    · simp [hr]
    · have hl := getLastD_mem h.ne
      have : tieB (pairsN n) (r.getLastD 0) p = true := by
        rw [tie_all]
        exact decide_eq_true ⟨fun z => hr (z ▸ hl), h.lt _ hl, List.mem_range.mp hp⟩
      rw [this]; simp
  have e2 := filter_two (fun p : Nat => decide (p ∈ r)) (List.range n)
  have e3 : ((List.range n).filter fun p => decide (p ∈ r)).Perm r := (List.perm_ext_iff_of_nodup ((range_filter_lt n _).imp fun h => by omega) h.nd).mpr fun p => by
    rw [List.mem_filter, List.mem_range]
    exact ⟨fun m => of_decide_eq_true m.2, fun m => ⟨h.lt p m, decide_eq_true m⟩⟩
  rw [e1]
  rw [e3.length_eq, h.len, List.length_range] at e2
  omega
theorem paths_all (hn : 1 ≤ n) : ∀ k, (pathsN n (pairsN n) k).length = descN n k
  | 0 => rfl
  | k + 1 => by
    show ((pathsN n (pairsN n) k).flatMap (extN n (pairsN n))).length = _
    rw [flatMap_const (m := n - (k + 1)) fun r hr => by
      unfold extN
      rw [List.length_map]
      exact go_all (pathsN_path hn _ k r hr), paths_all hn k]
    rfl
theorem last_ne_head {r : List Nat} (nd : r.Nodup) (h2 : 2 ≤ r.length) : r.getLastD 0 ≠ r.headD 0 := by
  rw [← getD_lastD, ← getD_headD]
  intro e
  have e1 : r[0]? = some (r.getD 0 0) := get_some (by omega)
  have e2 : r[r.length - 1]? = some (r.getD (r.length - 1) 0) := get_some (by omega)
  rw [e] at e2
  have := (List.getElem?_inj (i := 0) (by omega) nd).mp (e1.trans e2.symm)
  omega
theorem dir_all (hn : 2 ≤ n) : (dirN n (pairsN n)).length = descN n (n - 1) := by
  rw [← paths_all (by omega)]
  unfold dirN
  rw [List.filter_eq_self.mpr fun r hr => ?_]
  obtain ⟨hp, h0, _⟩ := (mem_pathsN (by omega) _ r).mp hr
  have hne := last_ne_head hp.nd (by rw [hp.len]; omega)
  rw [h0] at hne
  rw [tie_all]
  exact decide_eq_true ⟨hne, hp.lt _ (getLastD_mem hp.ne), by omega⟩
def prodP : Nat → Int
  | 0 => 1
  | k + 1 => prodP k * (3 + k)
theorem count_all (h3 : 3 ≤ n) (h10 : n ≤ 10) : countZ n (pairsN n) = prodP (n - 3) := by
  unfold countZ
  rw [if_neg (by omega), dir_all (by omega)]
  have h : ∀ m < 8, ((descN (m + 3) (m + 2) : Nat) : Int) / 2 = prodP m := by decide +kernel
  have := h (n - 3) (by omega)
  rw [show n - 3 + 3 = n by omega, show n - 3 + 2 = n - 1 by omega] at this
  exact this
/-! ### few ties, few paths -/
def allB : Nat → List (List Bool)
  | 0 => [[]]
  | m + 1 => (allB m).flatMap fun b => [true :: b, false :: b]
theorem allB_len : ∀ m, (allB m).length = 2 ^ m
  | 0 => rfl
  | m + 1 => by
    show ((allB m).flatMap fun b => [true :: b, false :: b]).length = _
    rw [flatMap_const (m := 2) fun _ _ => rfl, allB_len m]; rfl
theorem mem_allB : ∀ {l : List Bool}, l ∈ allB l.length
  | [] => by simp [allB]
  | true :: l => List.mem_flatMap.mpr ⟨l, mem_allB, by simp⟩
  | false :: l => List.mem_flatMap.mpr ⟨l, mem_allB, by simp⟩
def usedB (r : List Nat) (e : Tie) : Bool := (adj r).any fun p => decide ((min p.1 p.2, max p.1 p.2) = e)
def codeB (ts : List Tie) (r : List Nat) : List Bool := ts.map (usedB r)
theorem cG_at : ∀ {l : List Nat}, cG ts l = 0 → ∀ i, i + 1 < l.length → tieB ts (l.getD i 0) (l.getD (i + 1) 0) = true
  | [], _, i, h => by simp at h
  | [_], _, i, h => by simp at h
  | x :: y :: r, e, i, h => by
    rw [cG_cons] at e
    cases i with
    | zero =>
      show tieB ts x y = true
      exact g1_zero.mp (by omega)
    | succ i =>
      have := cG_at (l := y :: r) (by omega) i (by simp at h ⊢; omega)
      simpa using this
theorem code_inj (hn : 1 ≤ n) {k : Nat} {r s : List Nat} (hr : r ∈ pathsN n ts k) (hs : s ∈ pathsN n ts k) (e : codeB ts r = codeB ts s) : r = s := by
  obtain ⟨pr, r0, rc⟩ := (mem_pathsN hn k r).mp hr
  obtain ⟨ps, s0, sc⟩ := (mem_pathsN hn k s).mp hs
  have eu : ∀ p ∈ ts, usedB r p = usedB s p := List.map_inj_left.mp e
  have lr := pr.len
  have ls := ps.len
  have inj : ∀ {l : List Nat}, l.Nodup → ∀ i j, i < l.length → j < l.length → l.getD i 0 = l.getD j 0 → i = j := fun {l} nd i j hi hj e => by
    have e1 : l[i]? = some (l.getD i 0) := get_some hi
    have e2 : l[j]? = some (l.getD j 0) := get_some hj
    rw [← e] at e2
    exact (List.getElem?_inj (i := i) hi nd).mp (e1.trans e2.symm)
  have key : ∀ i, i ≤ k → ∀ j, j ≤ i → r.getD j 0 = s.getD j 0 := by
    intro i
    induction i with
    | zero =>
      intro _ j hj
      obtain rfl : j = 0 := by omega
      rw [getD_headD, getD_headD, r0, s0]
    | succ i ih =>
      intro hi j hj
      have ih := ih (by omega)
      rcases Nat.lt_or_ge j (i + 1) with h | h
      · exact ih j (by omega)
      obtain rfl : j = i + 1 := by omega
      have ht := cG_at rc i (by omega)
      have hm : (min (r.getD i 0) (r.getD (i + 1) 0), max (r.getD i 0) (r.getD (i + 1) 0)) ∈ ts := of_decide_eq_true ht
      have hu : usedB r (min (r.getD i 0) (r.getD (i + 1) 0), max (r.getD i 0) (r.getD (i + 1) 0)) = true := by
        unfold usedB
        exact List.any_eq_true.mpr ⟨_, List.mem_of_getElem? (adj_at r i (by omega)), decide_eq_true rfl⟩
      rw [eu _ hm] at hu
      unfold usedB at hu
      obtain ⟨p, hp, ep⟩ := List.any_eq_true.mp hu
      have ep := of_decide_eq_true ep
      rw [Prod.mk.injEq] at ep
      obtain ⟨j, hj, e1⟩ := List.mem_iff_getElem.mp hp
      rw [adj_len] at hj
      have e2 := adj_at s j (by omega)
      rw [List.getElem?_eq_getElem (by rw [adj_len]; exact hj), e1] at e2
      have e3 : p = (s.getD j 0, s.getD (j + 1) 0) := Option.some.inj e2
      rw [e3] at ep
      have hi0 := ih i (Nat.le_refl _)
      rcases minmax_eq ep.1 ep.2 with ⟨h1, h2⟩ | ⟨h1, h2⟩
      · rw [hi0] at h1
        have := inj ps.nd j i (by omega) (by omega) h1
        subst this
        exact h2.symm
      · rw [hi0] at h2
        have := inj ps.nd (j + 1) i (by omega) (by omega) h2
        have h3 := ih j (by omega)
        rw [← h3] at h1
        have := inj pr.nd j (i + 1) (by omega) (by omega) h1
        omega
  refine List.ext_getElem? fun i => ?_
  by_cases hi : i < r.length
  · rw [get_some hi, get_some (ks := s) (by omega), key k (Nat.le_refl _) i (by omega)]
  · rw [List.getElem?_eq_none (by omega), List.getElem?_eq_none (by omega)]
theorem paths_few (hn : 1 ≤ n) (k : Nat) : (pathsN n ts k).length ≤ 2 ^ ts.length := by
  rw [← allB_len]
  refine inj_len (codeB ts) (pathsN_nodup n ts k) (fun r _ => ?_) fun a ha b hb e => code_inj hn ha hb e
  have : (codeB ts r).length = ts.length := List.length_map _
  rw [← this]
  exact mem_allB
theorem paths_17 (hn : 1 ≤ n) (h : ts.length ≤ 17) (k : Nat) : (pathsN n ts k).length ≤ 900000 := by
  have h1 := paths_few (ts := ts) hn k
  have h2 : 2 ^ ts.length ≤ 2 ^ 17 := Nat.pow_le_pow_right (by decide) h
  have h3 : (2 : Nat) ^ 17 ≤ 900000 := by decide
  omega
end
/-! ### a ring of named places -/
section
variable {n : Nat} {ks : List Nat}
def ringP (ks : List Nat) (n k : Nat) : Tie := (min (ks.getD k 0) (ks.getD ((k + 1) % n) 0), max (ks.getD k 0) (ks.getD ((k + 1) % n) 0))
def ringT (ks : List Nat) (n : Nat) : List Tie := (List.range n).map (ringP ks n)
theorem mod_next {k : Nat} (h : k < n) : (k + 1) % n = if k + 1 = n then 0 else k + 1 := by
  split
  · rename_i e; rw [e, Nat.mod_self]
  · exact Nat.mod_eq_of_lt (by omega)
theorem ring_valid (h3 : 3 ≤ n) (hk : ks.Perm (List.range n)) : ValidY n (ringT ks n) := by
  have nx : ∀ k, k < n → (k + 1) % n < n ∧ (k + 1) % n ≠ k := fun k h => by
    rw [mod_next h]
    split <;> omega
  refine ⟨?_, fun p hp => ?_⟩
  · unfold ringT List.Nodup
    rw [List.pairwise_map]
    refine List.Pairwise.imp_of_mem (fun {a b} ha hb h z => h ?_) List.nodup_range
    have ha := List.mem_range.mp ha
    have hb := List.mem_range.mp hb
    unfold ringP at z
    rw [Prod.mk.injEq] at z
    rcases minmax_eq z.1 z.2 with ⟨h1, h2⟩ | ⟨h1, h2⟩
    · exact ren_inj hk ha hb h1
    · have a1 := ren_inj hk ha (nx b hb).1 h1
      have a2 := ren_inj hk (nx a ha).1 hb h2
      rw [mod_next hb] at a1
      rw [mod_next ha] at a2
      split at a1 <;> split at a2 <;> omega
  · obtain ⟨k, hk', rfl⟩ := List.mem_map.mp hp
    have hk' := List.mem_range.mp hk'
    have l1 := ren_lt hk hk'
    have l2 := ren_lt hk (nx k hk').1
    have ne : ks.getD k 0 ≠ ks.getD ((k + 1) % n) 0 := fun e => (nx k hk').2 (ren_inj hk hk' (nx k hk').1 e).symm
    unfold ringP
    dsimp only
    omega
theorem srt_pair (a b : Nat) : (srtZ [(a : Int), (b : Int)]).map Dt.int = [natD (min a b), natD (max a b)] := by
  have e : srtZ [(a : Int), (b : Int)] = [((min a b : Nat) : Int), ((max a b : Nat) : Int)] := by
    refine sorted_uniq (srtZ_perm _ |>.trans ?_) (srtZ_sorted _) ?_
    · rcases Nat.le_total a b with h | h
      · rw [Nat.min_eq_left h, Nat.max_eq_right h]
      · rw [Nat.min_eq_right h, Nat.max_eq_left h]; exact List.Perm.swap _ _ _
    · simp; omega
  rw [e]; rfl
def fn_l_ringed := FnP noEnc (fun _ => True) (fun _ K => ∀ (n : Nat) (ts : List Tie), 10 ≤ n → n ≤ 12 → ValidY n ts → K (.dat (tD false n ts)))
theorem _root_.D3.ValidY.snoc' {ts : List Tie} {p : Tie} (hv : ValidY n ts) (hp : p.1 < p.2 ∧ p.2 < n) (hn : p ∉ ts) : ValidY n (ts ++ [p]) := by
  refine ⟨List.nodup_append.mpr ⟨hv.1, by simp, fun a ha b hb e => ?_⟩, fun q hq => ?_⟩
  · obtain rfl := List.mem_singleton.mp hb
    subst e; exact hn ha
  · rcases List.mem_append.mp hq with h | h
    · exact hv.2 q h
    · obtain rfl := List.mem_singleton.mp h
      exact hp
section
variable {C : Addr} {ρ : Rsc} {sl : List Sl} {ta tb : TE} {F : PySem.W.Frag}
/-- tuple(sorted([a, b])) -/
theorem xpairS {a b : Nat} (h1 : XD C ρ ta sl (.dat (natD a))) (h2 : XD C ρ tb sl (.dat (natD b))) : XD C ρ (tCB (rTupleA F) (tCons (tCB (rSortedI F) (tCons (tLst (tCons ta (tCons tb tNil))) tNil)) tNil)) sl (.dat (tieD (min a b, max a b))) := by
  refine (xtuple (xsortI (ns := [(a : Int), (b : Int)]) (xlst (ac h1 (ac h2 an)) rfl (Nat.le_of_ble_eq_true rfl)) rfl) rfl).to ?_
  rw [srt_pair]; rfl
end
end
end Den
/-! The search for the least round, with what was found to lead to none as a resource. -/
namespace Den
open PySem L2 D3
/-- the first round that goes on from row, tried in rising order -/
def goneF (n : Nat) (ts : List Tie) : Nat → List Nat → Option (List Nat)
  | 0, row => if tieB ts (row.getLastD 0) (row.headD 0) = true then some row else none
  | k + 1, row => (nbN n ts (row.getLastD 0)).findSome? fun p => if p ∈ row then none else goneF n ts k (row ++ [p])
def goneN (n : Nat) (ts : List Tie) (row : List Nat) : Option (List Nat) := goneF n ts (n - row.length) row
structure RowOk (n : Nat) (row : List Nat) : Prop where
  hd : row.head? = some 0
  nd : row.Nodup
  lt : ∀ x ∈ row, x < n
section
variable {n : Nat} {ts : List Tie} {row : List Nat}
theorem RowOk.ne (h : RowOk n row) : row ≠ [] := fun z => by have := h.hd; rw [z] at this; cases this
theorem RowOk.len (h : RowOk n row) : row.length ≤ n := nodup_le h.nd h.lt
theorem RowOk.pos (h : RowOk n row) : 0 < row.length := List.length_pos_iff.mpr h.ne
theorem RowOk.last (h : RowOk n row) : row.getLastD 0 ∈ row := getLastD_mem h.ne
theorem RowOk.snoc (h : RowOk n row) {p : Nat} (hp : p < n) (hn : p ∉ row) : RowOk n (row ++ [p]) := by
  refine ⟨?_, List.nodup_append.mpr ⟨h.nd, by simp, fun a ha b hb e => ?_⟩, fun x hx => ?_⟩
  · have := h.hd
    cases row with
    | nil => cases this
    | cons a r => exact this
  · obtain rfl := List.mem_singleton.mp hb
    exact hn (e ▸ ha)
  · rcases List.mem_append.mp hx with h1 | h1
    · exact h.lt x h1
    · obtain rfl := List.mem_singleton.mp h1; exact hp
theorem row_start (hn : 1 ≤ n) : RowOk n [0] := ⟨rfl, by simp, fun x hx => by obtain rfl := List.mem_singleton.mp hx; exact hn⟩
theorem RowOk.hd0 (h : RowOk n row) : row.headD 0 = 0 := by
  have := h.hd
  cases row with
  | nil => rfl
  | cons a r => simpa using this
theorem findSome_none {α β : Type} {f : α → Option β} : ∀ {l : List α}, l.findSome? f = none ↔ ∀ x ∈ l, f x = none
  | [] => by simp
  | a :: l => by
    rw [List.findSome?_cons]
    cases e : f a with
    | some b => simp [e]
    | none => simp [findSome_none (l := l), e]
/-- whether there is none hangs on the places and on the last one alone -/
theorem gone_same : ∀ (k : Nat) {r q : List Nat}, (∀ x, x ∈ r ↔ x ∈ q) → r.getLastD 0 = q.getLastD 0 → r.headD 0 = q.headD 0 → r ≠ [] → q ≠ [] → goneF n ts k r = none → goneF n ts k q = none
  | 0, r, q, _, hl, hh, _, _, h => by
    unfold goneF at h ⊢
    rw [hl, hh] at h
    split at h
    · cases h
    · rename_i hc; rw [if_neg hc]
  | k + 1, r, q, hm, hl, hh, h1, h2, h => by
    unfold goneF at h ⊢
    rw [hl] at h
    rw [findSome_none] at h ⊢
    intro p hp
    have := h p hp
    by_cases hq : p ∈ q
    · rw [if_pos hq]
    · rw [if_neg hq]
      rw [if_neg (fun z => hq ((hm p).mp z))] at this
      refine gone_same k (fun x => ?_) (by simp) ?_ (by simp) (by simp) this
      · rw [List.mem_append, List.mem_append, hm x]
      · cases r with
        | nil => exact absurd rfl h1
        | cons a r =>
          cases q with
          | nil => exact absurd rfl h2
          | cons b q => simpa using hh
theorem gone_key {r q : List Nat} (hr : RowOk n r) (hq : RowOk n q) (e : keyR r = keyR q) (h : goneN n ts r = none) : goneN n ts q = none := by
  unfold keyR at e
  have e1 : srtN r = srtN q := congrArg Prod.fst e
  have e2 : r.getLastD 0 = q.getLastD 0 := congrArg Prod.snd e
  have pm : r.Perm q := (srtN_perm r).symm.trans (e1 ▸ srtN_perm q)
  unfold goneN at h ⊢
  rw [← pm.length_eq]
  exact gone_same _ (fun x => pm.mem_iff) e2 (by rw [hr.hd0, hq.hd0]) hr.ne hq.ne h
theorem gone_full (h : row.length = n) : goneN n ts row = if tieB ts (row.getLastD 0) (row.headD 0) = true then some row else none := by
  unfold goneN
  rw [h, Nat.sub_self]; rfl
theorem gone_step (h : row.length < n) : goneN n ts row = (nbN n ts (row.getLastD 0)).findSome? fun p => if p ∈ row then none else goneN n ts (row ++ [p]) := by
  unfold goneN
  obtain ⟨k, hk⟩ : ∃ k, n - row.length = k + 1 := ⟨n - row.length - 1, by omega⟩
  rw [hk]
  show (nbN n ts (row.getLastD 0)).findSome? _ = _
  congr 1
  funext p
  rw [List.length_append]
  show _ = if p ∈ row then none else goneF n ts (n - (row.length + 1)) (row ++ [p])
  rw [show n - (row.length + 1) = k by omega]
end
/-- keys of rows that lead to none -/
structure BadOk (n : Nat) (ts : List Tie) (ks : List NK) : Prop where
  nd : ks.Nodup
  ok : ∀ k ∈ ks, ∃ r, RowOk n r ∧ keyR r = k ∧ goneN n ts r = none
theorem BadOk.len {n : Nat} {ts : List Tie} {ks : List NK} (hn : n ≤ 12) (h : BadOk n ts ks) : ks.length ≤ 700000 := by
  have h1 : ks.length ≤ ((List.range 13).flatMap (keysAll n)).length := nodup_le_any h.nd fun k hk => by
    obtain ⟨r, hr, rfl, _⟩ := h.ok k hk
    refine List.mem_flatMap.mpr ⟨r.length, List.mem_range.mpr (by have := hr.len; omega), ?_⟩
    have pm := srtN_perm r
    have S : SetOk n r.length (keyR r).1 := ⟨pm.length_eq, (srtN_sorted r).and (pm.nodup_iff.mpr hr.nd) |>.imp fun ⟨h1, h2⟩ => by omega, fun x hx => hr.lt x (pm.mem_iff.mp hx)⟩
    exact List.mem_flatMap.mpr ⟨(keyR r).1, setsN_all S, List.mem_map.mpr ⟨(keyR r).2, List.mem_range.mpr (hr.lt _ hr.last), rfl⟩⟩
  have h2 : ∀ k ∈ List.range 13, (keysAll n k).length ≤ 4096 * 12 := fun k hk => by
    have h2 : (keysAll n k).length ≤ (setsN n k).length * n := by
      unfold keysAll
      exact flatMap_len fun s _ => by rw [List.length_map, List.length_range]; exact Nat.le_refl _
    have h3 := setsN_len (n := n) (k := k) hn (by have := List.mem_range.mp hk; omega)
    exact Nat.le_trans h2 (Nat.mul_le_mul h3 hn)
  have h3 := flatMap_len (xs := List.range 13) h2
  rw [List.length_range] at h3
  omega
theorem BadOk.no {n : Nat} {ts : List Tie} {ks : List NK} (h : BadOk n ts ks) {r : List Nat} (hr : RowOk n r) (hm : keyR r ∈ ks) : goneN n ts r = none := by
  obtain ⟨q, hq, e, hg⟩ := h.ok _ hm
  exact gone_key hq hr e hg
end Den
namespace Den
open PySem L2 D3 PyProof.Rows
def goneS (n : Nat) (ts : List Tie) (row : List Nat) : Sl := match goneN n ts row with
  | none => .dat .non
  | some r => .own (r.map natD)
theorem goneS_none {n : Nat} {ts : List Tie} {row : List Nat} (h : goneN n ts row = none) : goneS n ts row = .dat .non := by unfold goneS; rw [h]
theorem goneS_some {n : Nat} {ts : List Tie} {row r : List Nat} (h : goneN n ts row = some r) : goneS n ts row = .own (r.map natD) := by unfold goneS; rw [h]
def GonePre (n : Nat) (ts : List Tie) (row : List Nat) : Prop := 1 ≤ n ∧ n ≤ 12 ∧ ValidY n ts ∧ RowOk n row
section
variable (P : Program) (w : World)
def ρb (d : Addr) (n : Nat) (ts : List Tie) : Rsc where
  M := (· = d)
  R H := ∃ xs, NdAt P w H d xs ∧ BadOk n ts (xs.map Prod.fst)
  loc := fun H H' k ⟨xs, nd, b⟩ => ⟨xs, nd.mv (fun o e => k d o (.inl rfl) e) (fun x hx => (nd.ks x hx).mono fun b xs e => k b _ (.inr ⟨_, rfl⟩) e), b⟩
  A _ _ := True
/-- a def that goes on from a row, its third argument what was found to lead to none -/
def spG (C : Addr) (k : Nat) : Sp := fun vs H Q _ => ∃ d n ts row v0 v1 S, vs = [v0, v1, .ref d] ∧ Ok (ρb P w d n ts) S H ∧ Rp C S v0 (.yard n ts) ∧ Rp C S v1 (.lst (row.map natD)) ∧ (GonePre n ts row ∧ n < row.length + k) ∧
  ∀ S' H' v, Mv (ρb P w d n ts) S H S' H' → RvOk C (ρb P w d n ts) H S' H' v (goneS n ts row) → Q v H'
end
section
variable {P : Program} {w : World} {C : Addr} {ρ : Rsc} {d : Addr} {n k : Nat} {ts : List Tie} {row : List Nat} {N : List Str} {vs : List V} {H : Hp} {Q : VK} {E : XK} {t : TS} {ta : TA} {sl : List Sl} {K : Sl → Prop} {te tk : TE} {nx bk ct : List Sl → Prop} {rt : Sl → Prop} {q : NK}
theorem enterG (hN : Nat.ble 3 N.length = true) (hb : ∀ d n ts row, GonePre n ts row → n < row.length + k → SD C (ρb P w d n ts) t (initS N [.dat (.yard n ts), .dat (.lst (row.map natD)), .raw (.ref d)]) (fun _ => goneS n ts row = .dat .non) (fun r => goneS n ts row = r) (fun _ => False) (fun _ => False)) (h : spG P w C k vs H Q E) :
    t { nx := fun _ H' => Q .non H', rt := Q } (L2.start N vs) H := by
  obtain ⟨d, n, ts, row, v0, v1, S, rfl, ok, r0, r1, ⟨p1, p2⟩, kk⟩ := h
  have g := good_start (C := C) (N := N) (rs := [.dat (.yard n ts), .dat (.lst (row.map natD)), .raw (.ref d)]) (vs := [v0, v1, .ref d]) ok ⟨r0, r1, rfl, trivial⟩ (Nat.le_of_ble_eq_true hN) (by
    intro s hs
    simp at hs
    rcases hs with rfl | rfl | rfl <;> (intro z; exact z))
  exact hb d n ts row p1 p2 S H S H _ g _ (fun s S' H' σ' e _ g' => kk S' H' _ g'.mv (by rw [e]; exact .non)) (fun r S' H' v e m rv => kk S' H' v m (by rw [e]; exact rv)) (fun _ _ _ _ z => z.elim) (fun _ _ _ _ z => z.elim)
theorem wx_callG (h : WA C (ρb P w d n ts) ta sl fun rs => ∃ row, rs = [.dat (.yard n ts), .dat (.lst (row.map natD)), .raw (.ref d)] ∧ (GonePre n ts row ∧ n < row.length + k) ∧ K (goneS n ts row)) : WX C (ρb P w d n ts) (tCall (spG P w C k) [] E ta) sl K := fun S0 H0 S H σ g Q q => by
  refine h S0 H0 S H σ g _ fun rs S1 H1 vs ⟨row, er, p, kk⟩ a1 ok1 => ?_
  subst er
  rw [List.append_nil]
  match vs, ok1 with
  | [v0, v1, v2], ok1 =>
    obtain ⟨o0, o1, o2, _⟩ := ok1
    obtain rfl : v2 = .ref d := o2
    exact ⟨d, n, ts, row, v0, v1, S1, rfl, a1.ok, o0, o1, p, fun S2 H2 v a2 ok2 => q _ S2 H2 v kk (a1.trans g.k a2) (ok2.pre fun p => a1.back g.k)⟩
theorem bad_start {P : Program} {w : World} {H1 S1 : Hp} {d : Addr} {o : Obj} {n : Nat} {ts : List Tie} (hd : H1 d = some (ObjO d o)) (nx : NdX P w d o [] S1) : (ρb P w d n ts).R H1 := by
  refine ⟨[], ⟨⟨o, hd, nx.nr⟩, nx.sm, fun x hx => ?_, Nat.zero_le _⟩, ⟨List.nodup_nil, fun k hk => ?_⟩⟩
  · cases hx
  · cases hk
theorem rvs3 {Hs S H : Hp} {vs : List V} {a b c : Sl} (h : RvsOk C ρ Hs S H vs [a, b, c]) : ∃ v0 v1 v2, vs = [v0, v1, v2] ∧ RvOk C ρ Hs S H v0 a ∧ RvOk C ρ Hs S H v1 b ∧ RvOk C ρ Hs S H v2 c := by
  match vs, h with
  | [v0, v1, v2], h => exact ⟨v0, v1, v2, rfl, h.1, h.2.1, h.2.2.1⟩
theorem mv_out {S H S1 H1 S2 H2 : Hp} {d : Addr} {o : Obj} (k : Ok ρ S H) (a1 : Mv ρ S H S1 H1) (h0 : H d = none) (hd : H1 d = some (ObjO d o)) (a2 : Mv (ρb P w d n ts) S1 H1 S2 H2) : Mv ρ S H S2 H2 := by
  have nd : ∀ b, ρ.M b → ¬ b = d := fun b m e => k.t b m (e ▸ h0)
  refine ⟨⟨a2.ok.sh, fun b mb => a2.fr b (a1.ok.m b mb) (a1.ok.t b mb), fun b mb => ?_, ρ.loc H1 H2 (fun b o c e => a2.hh b o (fun z => ?_) e) a1.ok.r⟩, a1.ss.trans a2.ss, fun b o nm e => a2.hh b o (fun z => ?_) (a1.hh b o nm e), fun b e n => a2.fr b (a1.fr b e n) (a1.there k n)⟩
  · cases e : H1 b with
    | none => exact absurd e (a1.ok.t b mb)
    | some o => rw [a2.hh b o (nd b mb) e]; simp
  · obtain rfl : b = d := z
    rcases c with c | ⟨ys, rfl⟩
    · exact nd _ c rfl
    · rw [hd] at e; unfold ObjO at e; cases e
  · obtain rfl : b = d := z
    rw [h0] at e; cases e
theorem goneS_pre {ρ' : Rsc} {Hs Hr S H : Hp} {v : V} (b : ∀ p, Hs p = none → Hr p = none) (h : RvOk C ρ' Hs S H v (goneS n ts row)) : RvOk C ρ Hr S H v (goneS n ts row) := by
  unfold goneS at h ⊢
  cases hg : goneN n ts row with
  | none => rw [hg] at h; exact h
  | some r =>
    rw [hg] at h
    obtain ⟨p, xs, e, z0, z⟩ := h
    exact ⟨p, xs, e, b p z0, z⟩
theorem cell_nd {Hs S H : Hp} {v : V} (h : RvOk C ρ Hs S H v (.cell (ndC P w []))) : ∃ d o, v = .ref d ∧ Hs d = none ∧ S d = none ∧ H d = some (ObjO d o) ∧ NdX P w d o [] S := by
  obtain ⟨d, o, e, h0, hs, hd, q⟩ := h
  obtain ⟨o', xs, e2, ex, nx⟩ := q
  obtain rfl : xs = [] := List.map_eq_nil_iff.mp ex.symm
  exact ⟨d, o', e, h0, hs, by rw [hd, e2], nx⟩
theorem wx_callG0 (h : WA C ρ ta sl fun rs => ∃ n ts row, rs = [.dat (.yard n ts), .dat (.lst (row.map natD)), .cell (ndC P w [])] ∧ (GonePre n ts row ∧ n < row.length + k) ∧ K (goneS n ts row)) : WX C ρ (tCall (spG P w C k) [] E ta) sl K := fun S0 H0 S H σ g Q q => by
  refine h S0 H0 S H σ g _ fun rs S1 H1 vs ⟨n, ts, row, er, p, kk⟩ a1 ok1 => ?_
  subst er
  rw [List.append_nil]
  obtain ⟨v0, v1, v2, rfl, o0, o1, o2⟩ := rvs3 ok1
  obtain ⟨d, o, rfl, h0, hs, hd, nx⟩ := cell_nd o2
  have okb : Ok (ρb P w d n ts) S1 H1 := ⟨a1.ok.sh, fun b e => by obtain rfl : b = d := e; exact hs, fun b e => by obtain rfl : b = d := e; rw [hd]; exact fun z => (nomatch z), bad_start hd nx⟩
  exact ⟨d, n, ts, row, v0, v1, S1, rfl, okb, o0, o1, p, fun S2 H2 v a2 ok2 => q _ S2 H2 v kk (mv_out g.k a1 h0 hd a2) (goneS_pre (fun p => a1.back g.k) ok2)⟩
theorem atE_mem {xs : List NE} {k : NK} (h : (atE xs k).isSome = true) : k ∈ xs.map Prod.fst := by
  unfold atE at h
  rw [Option.isSome_map, List.find?_isSome] at h
  obtain ⟨x, hx, e⟩ := h
  exact List.mem_map.mpr ⟨x, hx, of_decide_eq_true e⟩
theorem atE_not {xs : List NE} {k : NK} (h : ¬ (atE xs k).isSome = true) : k ∉ xs.map Prod.fst := fun hm => by
  obtain ⟨x, hx, e⟩ := List.mem_map.mp hm
  refine h ?_
  unfold atE
  rw [Option.isSome_map, List.find?_isSome]
  exact ⟨x, hx, decide_eq_true e⟩
theorem putN_keys {xs : List NE} {k : NK} {a : Addr} {v : V} : (putN xs k a v).map Prod.fst = if k ∈ xs.map Prod.fst then xs.map Prod.fst else xs.map Prod.fst ++ [k] := by
  unfold putN
  by_cases h : (atE xs k).isSome = true
  · rw [if_pos h, if_pos (atE_mem h), List.map_map]
    refine List.map_congr_left fun x _ => ?_
    show (putE k v x).1 = x.1
    unfold putE
    split <;> rfl
  · rw [if_neg h, if_neg (atE_not h), List.map_append]; rfl
/-- key in bad -/
theorem od_inB (kk : ∀ b : Bool, (b = true → ∃ r, RowOk n r ∧ keyR r = q ∧ goneN n ts r = none) → K (.dat (.bl b))) : OD C (ρb P w d n ts) (rNIn P w) (.dat (keyD q)) (.raw (.ref d)) K := fun Hs S H x y _ ok h1 h2 Q qq => by
  obtain ⟨a, rfl, ka⟩ := rp_key h1
  obtain rfl : y = .ref d := h2
  obtain ⟨xs, nd, bo⟩ := ok.r
  exact ⟨a, d, xs, q, rfl, rfl, nd, ka.mono fun b _ e => ok.sh b _ e, qq _ S H _ (kk _ fun h => bo.ok _ (atE_mem h)) (Mv.refl ok) (.bl _)⟩
/-- bad[key] = True -/
theorem sd_putB {i : Nat} (hn : n ≤ 12) (ed : sl[i]? = some (.raw (.ref d))) (hk : XD C (ρb P w d n ts) tk sl (.dat (keyD q))) (hb : ∃ r, RowOk n r ∧ keyR r = q ∧ goneN n ts r = none) (kx : nx sl) : SD C (ρb P w d n ts) (tAsg (tC (.bl true)) (gSub (tVar i) tk (rNSet P w))) sl nx rt bk ct := fun S0 H0 S H σ g D a _ _ _ => by
  obtain ⟨v, ev, h⟩ := g.at ed (by intro h; cases h) (by intro d h; cases h) (by intro d h; cases h)
  obtain rfl : v = .ref d := h
  refine ⟨_, ev, ?_⟩
  refine hk S0 H0 S H σ g _ fun r S1 H1 z er a1 ok1 => ?_
  subst er
  obtain ⟨b, rfl, ka⟩ := rp_key ok1
  obtain ⟨xs, nd, bo⟩ := a1.ok.r
  have hlen : xs.length ≤ 700000 := by have := bo.len hn; rwa [List.length_map] at this
  have k1 : KeyAt H1 b q := ka.mono fun c _ e => a1.ok.sh c _ e
  refine ⟨b, d, xs, q, rfl, rfl, nd, k1, by omega, fun o nr => ?_⟩
  obtain ⟨o0, ho0, _⟩ := nd.ob
  have tup : ∀ (c : Addr) (ys : List V), H1 c = some (.tup ys) → upd H1 d (ObjO d o) c = some (.tup ys) := fun c ys e => by
    by_cases hc : c = d
    · subst hc; rw [ho0] at e; unfold ObjO at e; cases e
    · rw [upd_ne hc]; exact e
  have hs1 : S1 d = none := a1.ok.m d rfl
  have m : Mv (ρb P w d n ts) S1 H1 S1 (upd H1 d (ObjO d o)) := by
    refine ⟨⟨same_upd a1.ok.sh hs1, a1.ok.m, fun c e => by obtain rfl : c = d := e; rw [upd_same]; simp, putN xs q b (.bl true), ⟨⟨o, upd_same, nr⟩, nd.sm, fun x hx => ?_, ?_⟩, ?_⟩, Same.refl S1, fun c o nm e => by rw [upd_ne (fun z => nm z)]; exact e, fun _ e _ => e⟩
    · rcases putN_mem hx with ⟨u, hu, e1, e2⟩ | ⟨e1, e2⟩
      · rw [e1, e2]; exact (nd.ks u hu).mono tup
      · rw [e1, e2]; exact k1.mono tup
    · have := putN_len xs q b (.bl true); omega
    · rw [putN_keys]
      split
      · exact bo
      · rename_i hq
        refine ⟨List.nodup_append.mpr ⟨bo.nd, by simp, fun x hx y hy e => ?_⟩, fun k hk => ?_⟩
        · obtain rfl := List.mem_singleton.mp hy
          exact hq (e ▸ hx)
        · rcases List.mem_append.mp hk with h | h
          · exact bo.ok k h
          · obtain rfl := List.mem_singleton.mp h; exact hb
  exact a _ S1 _ σ kx a1.ss ((g.move a1).move m)
theorem xnotNb {ds : List Dt} {tb : TE} (h : XD C ρ te sl (.bor ds)) (h2 : XD C ρ tb sl (.dat .non)) : XD C ρ (tOp (fun x y H Q => y = .non ∧ Q (.bl (!decide (x = .non))) H) te tb) sl (.dat (.bl true)) := by
  refine xop h h2 fun Hs S H x y _ ok h1 h2 Q q => ?_
  obtain ⟨p, xs, rfl, _⟩ := h1
  obtain rfl : y = .non := by cases h2; rfl
  exact ⟨rfl, fin_dat ok q rfl (.bl _)⟩
end
section
variable {C : Addr} {ρ : Rsc} {sl : List Sl} {ta tb : TE} {F : PySem.W.Frag} {row : List Nat} {r0 : Sl}
theorem xlastN (h : XD C ρ ta sl r0) (e : r0.sq = some (row.map natD)) (hne : row ≠ []) : XD C ρ (tOp (rIxA F) ta (tUn (rU fun i => .int (-i)) (tC (.int 1)))) sl (.dat (natD (row.getLastD 0))) := by
  refine xix (ds := row.map natD) (d := natD (row.getLastD 0)) h (xneg xi) e ?_
  have e : row = row.dropLast ++ [row.getLastD 0] := by
    rw [List.getLastD_eq_getLast?, List.getLast?_eq_some_getLast hne]
    exact (List.dropLast_concat_getLast hne).symm
  rw [e, List.map_append]
  simp only [List.map_cons, List.map_nil]
  rw [← e]
  exact at_last _ _
theorem xfirstN (h : XD C ρ ta sl r0) (e : r0.sq = some (row.map natD)) (hne : row ≠ []) : XD C ρ (tOp (rIxA F) ta (tC (.int 0))) sl (.dat (natD (row.headD 0))) := by
  cases row with
  | nil => exact absurd rfl hne
  | cons a r => exact xix (ds := (a :: r).map natD) (d := natD a) h xi e (atI_nat (j := 0) rfl)
end
theorem find_at {α β : Type} {f : α → Option β} {l : List α} {i : Nat} {p : α} {r : β} (e : l[i]? = some p) (h : ∀ q ∈ l.take i, f q = none) (hp : f p = some r) : l.findSome? f = some r := by
  have hl := (List.getElem?_eq_some_iff.mp e).1
  have e2 : l = l.take i ++ p :: l.drop (i + 1) := by
    rw [← (List.getElem?_eq_some_iff.mp e).2, List.getElem_cons_drop, List.take_append_drop]
  rw [e2, List.findSome?_append, findSome_none.mpr h, List.findSome?_cons, hp]; rfl
theorem key_srt (row : List Nat) : Dt.tup [.tup ((srtZ (row.map fun (k : Nat) => (k : Int))).map Dt.int), natD (row.getLastD 0)] = keyD (keyR row) := by
  rw [srtZ_nat]; rfl
end Den
namespace Den
open PySem L2 D3
def firstS (n : Nat) (ts : List Tie) : Sl := if n < 3 then .dat .non else goneS n ts [0]
def fn_p_first_round := FnP yEnc (fun a => 1 ≤ a.1 ∧ a.1 ≤ 12 ∧ ValidY a.1 a.2) (fun a K => K (firstS a.1 a.2))
theorem goneS_plain (n : Nat) (ts : List Tie) (row : List Nat) : (goneS n ts row).plain := by
  unfold goneS
  cases goneN n ts row <;> trivial
theorem firstS_plain (n : Nat) (ts : List Tie) : (firstS n ts).plain := by
  unfold firstS
  split
  · trivial
  · exact goneS_plain n ts [0]
end Den
/-! What is said of ties: a dict from ties to words as data, and the object Cases that bears one. -/
namespace Den
open PySem L2 D3 PyProof.Rows
abbrev Said := List (Tie × Bool)
def tKey (p : Tie) : List Key := [Sum.inl (p.1 : Int), Sum.inl (p.2 : Int)]
theorem tKey_inj {p q : Tie} (h : tKey p = tKey q) : p = q := by
  unfold tKey at h
  simp only [List.cons.injEq, Sum.inl.injEq, and_true] at h
  exact Prod.ext (by omega) (by omega)
def saidV (s : Said) : List (List Key × V) := s.map fun x => (tKey x.1, V.bl x.2)
def lookS (s : Said) (p : Tie) : Option Bool := (s.find? fun x => decide (x.1 = p)).map (·.2)
def hasS (s : Said) (p : Tie) : Bool := (lookS s p).isSome
theorem look_val (p : Tie) : ∀ s : Said, valV (saidV s) (tKey p) = (lookS s p).map V.bl
  | [] => rfl
  | x :: s => by
    have ih := look_val p s
    unfold saidV at ih ⊢
    rw [List.map_cons]
    unfold lookS at ih ⊢
    rw [List.find?_cons]
    by_cases h : x.1 = p
    · rw [valV_pos (by rw [h]), decide_eq_true h]; rfl
    · rw [valV_neg (fun z => h (tKey_inj z)), decide_eq_false h]; exact ih
theorem look_none {s : Said} {p : Tie} (h : lookS s p = none) : ∀ x ∈ s, x.1 ≠ p := fun x hx e => by
  unfold lookS at h
  rw [Option.map_eq_none_iff, List.find?_eq_none] at h
  exact h x hx (decide_eq_true e)
theorem put_said {s : Said} {p : Tie} {b : Bool} (h : lookS s p = none) : putK (saidV s) (tKey p) (.bl b) = saidV (s ++ [(p, b)]) := by
  unfold putK
  rw [if_neg, saidV, saidV, List.map_append]; rfl
  rw [List.any_eq_true]
  rintro ⟨kv, hm, e⟩
  obtain ⟨x, hx, rfl⟩ := List.mem_map.mp hm
  exact look_none h x hx (tKey_inj (of_decide_eq_true e))
theorem drop_said {s : Said} {p : Tie} {b : Bool} (h : lookS s p = none) : dropK (saidV (s ++ [(p, b)])) (tKey p) = saidV s := by
  unfold dropK saidV
  rw [List.map_append, List.filter_append, List.filter_eq_self.mpr, List.map_cons, List.map_nil, List.filter_cons_of_neg (by simp), List.filter_nil, List.append_nil]
  intro kv hm
  obtain ⟨x, hx, rfl⟩ := List.mem_map.mp hm
  exact decide_eq_true fun e => look_none h x hx (tKey_inj e)
theorem look_snoc {s : Said} {p : Tie} {b : Bool} (h : lookS s p = none) : lookS (s ++ [(p, b)]) p = some b := by
  have := look_none h
  unfold lookS
  rw [List.find?_append, List.find?_eq_none.mpr (fun x hx => by simpa using this x hx)]
  simp
/-- a dict from ties to words -/
def dtbE (s : Said) : DExt where
  p _ H v := ∃ q, v = .ref q ∧ H q = some (.dT (saidV s))
  mono := fun ss ⟨q, e, h⟩ => ⟨q, e, ss _ _ h⟩
  rf := fun ⟨q, e, _⟩ => ⟨q, e⟩
/-- a yard with what is said of its ties -/
def casE (cc : Addr) (n : Nat) (ts : List Tie) (s : Said) : DExt where
  p C H v := ∃ p dx y q, v = .ref p ∧ H p = some (.ins cc dx [("yard", y), ("said", .ref q)]) ∧ Rp C H y (.yard n ts) ∧ H q = some (.dT (saidV s))
  mono := fun ss ⟨p, dx, y, q, e, h, r, hq⟩ => ⟨p, dx, y, q, e, ss _ _ h, Rp.mono ss r, ss _ _ hq⟩
  rf := fun ⟨p, _, _, _, e, _⟩ => ⟨p, e⟩
abbrev dtbD (s : Said) : Dt := .ext (dtbE s)
abbrev casD (cc : Addr) (n : Nat) (ts : List Tie) (s : Said) : Dt := .ext (casE cc n ts s)
mutual
/-- no dict of ties in it -/
def noT : Dt → Bool
  | .lst xs => noTs xs
  | .tup xs => noTs xs
  | .dkt _ => false
  | .ext _ => false
  | _ => true
def noTs : List Dt → Bool
  | [] => true
  | x :: xs => noT x && noTs xs
end
section
variable {C : Addr} {S : Hp} {q : Addr} {kvs : List (List Key × V)} {o : HO}
mutual
theorem rp_dt (hq : S q = some (.dT kvs)) : ∀ {v : V} {x : Dt}, noT x = true → Rp C S v x → Rp C (upd S q o) v x
  | _, .non, _, h => by cases h; exact .non
  | _, .bl _, _, h => by cases h; exact .bl _
  | _, .int _, _, h => by cases h; exact .int _
  | _, .str _, _, h => by cases h; exact .str _
  | _, .lst xs, n, h => by
    cases h with
    | lst h1 h2 => exact .lst (by rw [upd_ne (ne_of h1 hq (fun z => by cases z))]; exact h1) (rps_dt hq (by simpa [noT] using n) h2)
  | _, .tup xs, n, h => by
    cases h with
    | tup h1 h2 => exact .tup (by rw [upd_ne (ne_of h1 hq (fun z => by cases z))]; exact h1) (rps_dt hq (by simpa [noT] using n) h2)
  | _, .dki _, _, h => by
    cases h with
    | dki h1 => exact .dki (by rw [upd_ne (ne_of h1 hq (fun z => by cases z))]; exact h1)
  | _, .dkt _, n, _ => by simp [noT] at n
  | _, .ext _, n, _ => by simp [noT] at n
  | _, .yard _ _, _, h => by
    cases h with
    | yard h1 h2 h3 r1 r2 e1 e2 =>
      subst e1 e2
      refine .yard (by rw [upd_ne (ne_of h1 hq (fun z => by cases z))]; exact h1) (by rw [upd_ne (ne_of h2 hq (fun z => by cases z))]; exact h2) (by rw [upd_ne (ne_of h3 hq (fun z => by cases z))]; exact h3) ?_ ?_ rfl rfl
      · exact ties_dt hq r1
      · exact nears_dt hq r2
theorem rps_dt (hq : S q = some (.dT kvs)) : ∀ {vs : List V} {xs : List Dt}, noTs xs = true → RpAll C S vs xs → RpAll C (upd S q o) vs xs
  | _, [], _, h => by cases h; exact .nil
  | _, x :: xs, n, h => by
    rw [noTs, Bool.and_eq_true] at n
    cases h with
    | cons h1 h2 => exact .cons (rp_dt hq n.1 h1) (rps_dt hq n.2 h2)
theorem ties_dt (hq : S q = some (.dT kvs)) : ∀ {vs : List V} {ts : List Tie}, RpAll C S vs (ts.map tieD) → RpAll C (upd S q o) vs (ts.map tieD)
  | _, [], h => by cases h; exact .nil
  | _, t :: ts, h => by
    cases h with
    | cons h1 h2 =>
      refine .cons ?_ (ties_dt hq h2)
      cases h1 with
      | tup g1 g2 =>
        cases g2 with
        | cons a r =>
          cases r with
          | cons b r =>
            cases r; cases a; cases b
            exact .tup (by rw [upd_ne (ne_of g1 hq (fun z => by cases z))]; exact g1) (.cons (.int _) (.cons (.int _) .nil))
theorem nears_dt (hq : S q = some (.dT kvs)) : ∀ {vs : List V} {f : Nat → List Nat} {l : List Nat}, RpAll C S vs (l.map fun x => .dki (f x)) → RpAll C (upd S q o) vs (l.map fun x => .dki (f x))
  | _, _, [], h => by cases h; exact .nil
  | _, _, x :: l, h => by
    cases h with
    | cons h1 h2 =>
      refine .cons ?_ (nears_dt hq h2)
      cases h1 with
      | dki g1 => exact .dki (by rw [upd_ne (ne_of g1 hq (fun z => by cases z))]; exact g1)
end
end
end Den
namespace Den
open PySem L2 D3 PyProof.Rows
def wordD : Option Bool → Dt
  | none => .non
  | some b => .bl b
section
variable {C cc : Addr} {ρ : Rsc} {sl : List Sl} {ta tb td ty tx te : TE} {t : TA} {F : PySem.W.Frag} {n : Nat} {ts : List Tie} {s : Said} {p : Tie} {K : Sl → Prop} {E : XK}
theorem rp_ext {S : Hp} {v : V} {φ : DExt} (h : Rp C S v (.ext φ)) : φ.p C S v := by cases h with | ext h => exact h
theorem rp_tie {S : Hp} {v : V} {p : Tie} (h : Rp C S v (tieD p)) : ∃ b, v = .ref b ∧ S b = some (.tup ((tKey p).map kV)) := Rp.pair (a := p.1) (b := p.2) h
/-- self.yard -/
theorem xyardC (c : Cls F cc) (n' : NoAttr F cc "yard") (h : XD C ρ ta sl (.dat (casD cc n ts s))) : XD C ρ (tFld F ta "yard") sl (.dat (.yard n ts)) := fun S0 H0 S H σ g Q q => by
  refine h S0 H0 S H σ g _ fun r S1 H1 v er a1 ok1 => ?_
  subst er
  obtain ⟨p, dx, y, qq, rfl, hp, ry, hq⟩ := rp_ext ok1
  exact ⟨p, cc, dx, _, y, rfl, a1.ok.sh _ _ hp, c, n', rfl, q _ S1 H1 _ rfl a1 ry⟩
/-- self.said -/
theorem xsaidC (c : Cls F cc) (n' : NoAttr F cc "said") (h : XD C ρ ta sl (.dat (casD cc n ts s))) : XD C ρ (tFld F ta "said") sl (.dat (dtbD s)) := fun S0 H0 S H σ g Q q => by
  refine h S0 H0 S H σ g _ fun r S1 H1 v er a1 ok1 => ?_
  subst er
  obtain ⟨p, dx, y, qq, rfl, hp, ry, hq⟩ := rp_ext ok1
  exact ⟨p, cc, dx, _, .ref qq, rfl, a1.ok.sh _ _ hp, c, n', rfl, q _ S1 H1 _ rfl a1 (.ext ⟨qq, rfl, hq⟩)⟩
/-- d.get(p, x) -/
theorem xgetS {x : Dt} (h : XD C ρ td sl (.dat (dtbD s))) (h2 : XD C ρ ty sl (.dat (tieD p))) (h3 : XD C ρ tx sl (.dat x)) : XD C ρ (tDGet2 td ty tx) sl (.dat (match lookS s p with | none => x | some b => .bl b)) := fun S0 H0 S H σ g Q q => by
  refine h S0 H0 S H σ g _ fun r S1 H1 v er a1 ok1 => ?_
  subst er
  obtain ⟨d, rfl, hd⟩ := rp_ext ok1
  have g1 := g.move a1
  refine ⟨d, rfl, .inr ⟨_, .inl (a1.ok.sh _ _ hd)⟩, ?_⟩
  refine h2 S0 H0 S1 H1 σ g1 _ fun r S2 H2 w er a2 ok2 => ?_
  subst er
  have g2 := g1.move a2
  refine h3 S0 H0 S2 H2 σ g2 _ fun r S3 H3 z er a3 ok3 => ?_
  subst er
  obtain ⟨b, rfl, hb⟩ := rp_tie ok2
  have a13 := (a1.trans g.k a2).trans g.k a3
  refine ⟨_, DGet.t (k := tKey p) (a13.ok.sh _ _ ((a2.ss.trans a3.ss) _ _ hd)) (a13.ok.sh _ _ (a3.ss _ _ hb)), ?_⟩
  rw [look_val]
  cases hl : lookS s p with
  | none => exact q (.dat x) S3 H3 _ (by rw [hl]) a13 ok3
  | some b => exact q (.dat (.bl b)) S3 H3 _ (by rw [hl]) a13 (.bl b)
/-- p in d, p not in d, d[p] -/
theorem xinS (h : XD C ρ ta sl (.dat (tieD p))) (h2 : XD C ρ tb sl (.dat (dtbD s))) : XD C ρ (tOp (rInA F) ta tb) sl (.dat (.bl (hasS s p))) := by
  refine xop h h2 fun Hs S H x y _ ok h1 h2 Q q => ?_
  obtain ⟨b, rfl, hb⟩ := rp_tie h1
  obtain ⟨d, rfl, hd⟩ := rp_ext h2
  refine .inl ⟨_, _, rfl, DGet.t (k := tKey p) (ok.sh _ _ hd) (ok.sh _ _ hb), ?_⟩
  rw [look_val, Option.isSome_map]
  exact fin_dat ok q rfl (.bl _)
theorem xninS (h : XD C ρ ta sl (.dat (tieD p))) (h2 : XD C ρ tb sl (.dat (dtbD s))) : XD C ρ (tOp (rNotInA F) ta tb) sl (.dat (.bl (!hasS s p))) := by
  refine xop h h2 fun Hs S H x y _ ok h1 h2 Q q => ?_
  obtain ⟨b, rfl, hb⟩ := rp_tie h1
  obtain ⟨d, rfl, hd⟩ := rp_ext h2
  refine .inl ⟨_, _, rfl, DGet.t (k := tKey p) (ok.sh _ _ hd) (ok.sh _ _ hb), ?_⟩
  rw [look_val, Option.isSome_map]
  exact fin_dat ok q rfl (.bl _)
/-- a method of Cases -/
theorem wx_methC {m : Str} {Fn : List Dt → (Sl → Prop) → Prop} (hm : m ≠ "yard" ∧ m ≠ "said") (h : XD C ρ ta sl (.dat (casD cc n ts s))) (h2 : WA C ρ t sl fun rs => ∃ ds, datsOf rs = some ds ∧ Fn (casD cc n ts s :: ds) (fun r => r.plain ∧ K r)) :
    WX C ρ (tMeth cc m (spD C Fn) [] E ta t) sl K := fun S0 H0 S H σ g Q q => by
  refine h S0 H0 S H σ g _ fun r S1 H1 x er a1 ok1 => ?_
  subst er
  have ok1' := ok1
  obtain ⟨p, dx, y, qq, rfl, hp, ry, hq⟩ := rp_ext ok1
  refine ⟨_, _, _, rfl, a1.ok.sh _ _ hp, ?_, ?_⟩
  · have b1 : (m == ("yard" : Str)) = false := by simpa using hm.1
    have b2 : (m == ("said" : Str)) = false := by simpa using hm.2
    simp [List.lookup, b1, b2]
  · refine h2 S0 H0 S1 H1 σ (g.move a1) _ fun rs S3 H3 vs ⟨ds, e, f⟩ a3 ok3 => ?_
    have a13 := a1.trans g.k a3
    refine ⟨S3, _, _, a3.ok.pure, .cons (Rp.mono a3.ss ok1') (by rw [List.append_nil]; exact ok3.dats e), f, fun r S2 H2 v kr a2 ok2 => ?_⟩
    exact q r S2 H2 v kr.2 (a13.trans g.k (a2.lift a3.ok)) ((lift_rv kr.1 ok2).pre fun p => a13.back g.k)
theorem xmc {m : Str} {α : Type} {enc : α → List Dt} {pre : α → Prop} {res : α → Sl} {rs : List Sl} {ds : List Dt} (a : α) (h0 : XD C ρ ta sl (.dat (casD cc n ts s))) (h : AD C ρ t sl rs) (e : datsOf rs = some ds) (ea : enc a = casD cc n ts s :: ds) (p : pre a)
    (hm : m ≠ "yard" ∧ m ≠ "said" := by decide +kernel) (pl : (res a).plain := by trivial) : XD C ρ (tMeth cc m (spD C (FnP enc pre fun a K => K (res a))) [] E ta t) sl (res a) := wx_methC hm h0 (h.w ⟨ds, e, a, ea.symm, p, pl, rfl⟩)
end
/-! ### Cases(yard) -/
def spCI (C cc : Addr) : Sp := fun vs H Q _ => ∃ (y dx : Addr) (v : V) (n : Nat) (ts : List Tie) (S : Hp), vs = [.ref y, v] ∧ H y = some (.ins cc dx []) ∧ S y = none ∧ Same S H ∧ Rp C S v (.yard n ts) ∧
  ∀ S' H', (∀ b o, b ≠ y → H b = some o → H' b = some o) → Same S S' → Same S' H' → (∀ b, b ≠ y → S b = none → H b ≠ none → S' b = none) → Rp C S' (.ref y) (casD cc n ts []) → Q .non H'
section
variable {C cc : Addr} {ρ : Rsc} {sl : List Sl} {t : TA} {K : Sl → Prop} {E : XK}
theorem wx_makeC (h : WA C ρ t sl fun rs => ∃ n ts, rs = [.dat (.yard n ts)] ∧ K (.dat (casD cc n ts []))) : WX C ρ (tMake cc (spCI C cc) [] E t) sl K := fun S0 H0 S H σ g Q q => by
  refine h S0 H0 S H σ g _ fun rs S1 H1 vs ⟨n, ts, er, k⟩ a1 ok1 => ?_
  subst er
  match vs, ok1 with
  | [v1], ok1 =>
    obtain ⟨o1, _⟩ := ok1
    intro y dx hy hd hne
    refine ⟨y, dx, v1, n, ts, S1, by simp, upd_same, a1.ok.ns hy, fun b o e => ?_, o1, fun S' H' k1 k2 k3 k4 k5 => ⟨rfl, ?_⟩⟩
    · have hb := a1.ok.sh b o e
      rw [upd_ne (ne_of_none hb hy), upd_ne (ne_of_none hb hd)]; exact hb
    · have keep : ∀ b o, H1 b = some o → H' b = some o := fun b o e => k1 b o (ne_of_none e hy) (by rw [upd_ne (ne_of_none e hy), upd_ne (ne_of_none e hd)]; exact e)
      have fr : ∀ b, S1 b = none → H1 b ≠ none → S' b = none := fun b e n => by
        have nb : b ≠ y := fun z => by subst z; exact n hy
        refine k4 b nb e ?_
        rw [upd_ne nb]
        by_cases hb : b = dx
        · subst hb; rw [upd_same]; simp
        · rw [upd_ne hb]; exact n
      have mv : Mv ρ S1 H1 S' H' := by
        refine ⟨⟨k3, fun b m => fr b (a1.ok.m b m) (a1.ok.t b m), fun b m => ?_, ρ.loc H1 H' (fun b o _ e => keep b o e) a1.ok.r⟩, k2, fun b o _ e => keep b o e, fr⟩
        cases q : H1 b with
        | none => exact absurd q (a1.ok.t b m)
        | some o => rw [keep b o q]; simp
      exact q _ S' H' _ k (a1.trans g.k mv) k5
end
/-! ### a word said, then taken back -/
inductive MidOk : List Sl → List Sl → Prop
  | nil : MidOk [] []
  | any {s : Sl} {r r' : List Sl} : MidOk r r' → MidOk (s :: r) (.any :: r')
  | dat {d : Dt} {r r' : List Sl} : noT d = true → MidOk r r' → MidOk (.dat d :: r) (.dat d :: r')
theorem MidOk.len : ∀ {r r' : List Sl}, MidOk r r' → r'.length = r.length
  | _, _, .nil => rfl
  | _, _, .any h => by rw [List.length_cons, List.length_cons, h.len]
  | _, _, .dat _ h => by rw [List.length_cons, List.length_cons, h.len]
theorem MidOk.at : ∀ {r r' : List Sl}, MidOk r r' → ∀ {i : Nat} {s : Sl}, r'[i]? = some s → s = .any ∨ ∃ d, s = .dat d ∧ r[i]? = some (.dat d) ∧ noT d = true
  | _, _, .nil, _, _, e => by simp at e
  | _, _, .any h, 0, s, e => by simp at e; exact .inl e.symm
  | _, _, .any h, i + 1, s, e => by simpa using h.at (i := i) (by simpa using e)
  | _, _, .dat n h, 0, s, e => by simp at e; exact .inr ⟨_, e.symm, rfl, n⟩
  | _, _, .dat n h, i + 1, s, e => by simpa using h.at (i := i) (by simpa using e)
section
variable {C cc : Addr} {F : PySem.W.Frag} {n : Nat} {ts : List Tie} {s : Said} {p : Tie} {b : Bool} {r r' : List Sl} {i j k : Nat} {te : TE} {tr : TS} {nx bk ct : List Sl → Prop} {rt : Sl → Prop}
theorem sd_said (c : Cls F cc) (nD : NoAttr F cc "said") (hl : s.length < 1000) (hp : lookS s p = none) (hk : r[k]? = some (.dat (.bl b))) (hi : r[i]? = some (.dat (tieD p))) (hij : i ≠ j) (hj : j < r.length) (hm : MidOk r r')
    (h : WX C ρ0 te (.dat (casD cc n ts (s ++ [(p, b)])) :: r') fun x => ∃ d, x = .dat d ∧ noT d = true ∧ SD C ρ0 tr (.dat (casD cc n ts s) :: r.set j (.dat d)) nx rt bk ct) :
    SD C ρ0 (tSeq (tAsg (tVar (k + 1)) (gSub (tFld F (tVar 0) "said") (tVar (i + 1)) rSetA)) (tSeq (tAsg te (gName (j + 1))) (tSeq (tDrop (tBM F "dict" rPopT1 (tFld F (tVar 0) "said") (tCons (tVar (i + 1)) tNil))) tr))) (.dat (casD cc n ts s) :: r) nx rt bk ct := fun S0 H0 S H σ g D a1 b1 c1 d1 => by
  have at_ : ∀ (m : Nat) (d : Dt), (Sl.dat (casD cc n ts s) :: r)[m]? = some (.dat d) → ∃ v, σ[m]? = some (some v) ∧ Rp C S v d := fun m d e => by
    obtain ⟨v, ev, h⟩ := g.at e (by intro h; cases h) (by intro d h; cases h) (by intro d h; cases h)
    exact ⟨v, ev, h⟩
  obtain ⟨v0, ev0, r0⟩ := at_ 0 _ rfl
  obtain ⟨vk, evk, rk⟩ := at_ (k + 1) _ (by simpa using hk)
  obtain ⟨vi, evi, ri⟩ := at_ (i + 1) _ (by simpa using hi)
  cases rk
  obtain ⟨ib, rfl, hib⟩ := rp_tie ri
  obtain ⟨p0, dx, y, q, rfl, hp0, ry, hq⟩ := rp_ext r0
  have np0 : p0 ≠ q := ne_of hp0 hq (by intro z; cases z)
  have nib : ib ≠ q := ne_of hib hq (by intro z; cases z)
  have hHq := g.k.sh _ _ hq
  have hHp := g.k.sh _ _ hp0
  have hHi := g.k.sh _ _ hib
  refine ⟨_, evk, _, ev0, p0, cc, dx, _, .ref q, rfl, hHp, c, nD, rfl, _, evi, .inr ⟨q, _, rfl, DPut.t (k := tKey p) hHq hHi (by unfold saidV; rw [List.length_map, sizeLine_eq]; omega), ?_⟩⟩
  rw [put_said hp]
  let n1 : HO := .dT (saidV (s ++ [(p, b)]))
  have ok1 : Ok ρ0 (upd S q n1) (upd H q n1) := ⟨same_upd2 g.k.sh, fun _ z => z.elim, fun _ z => z.elim, trivial⟩
  have g1 : Good C ρ0 (upd S q n1) (upd H q n1) (upd S q n1) (upd H q n1) σ (.dat (casD cc n ts (s ++ [(p, b)])) :: r') := by
    refine ⟨⟨⟨ok1.sh, ok1.m, ok1.t⟩, trivial⟩, Mv.refl ok1, ?_, fun m x e => ?_, fun m m' x x' pp _ e1 e2 o1 o2 _ _ => ?_⟩
    · rw [g.len, List.length_cons, List.length_cons, hm.len]
    · cases m with
      | zero =>
        simp at e; subst e
        refine ⟨_, ?_, .ext ⟨p0, dx, y, q, rfl, by rw [upd_ne np0]; exact hp0, rp_dt hq rfl ry, upd_same⟩⟩
        rw [ev0]; rfl
      | succ m =>
        rcases hm.at (i := m) (by simpa using e) with rfl | ⟨d, rfl, ed, nd⟩
        · trivial
        · obtain ⟨v, ev, rv⟩ := at_ (m + 1) d (by simpa using ed)
          exact ⟨v, by rw [ev]; rfl, rp_dt hq nd rv⟩
    · have no : ∀ {m : Nat} {x : Sl}, (Sl.dat (casD cc n ts (s ++ [(p, b)])) :: r')[m]? = some x → ¬ x.isOwn := fun {m x} e o => by
        cases m with
        | zero => simp at e; subst e; exact o
        | succ m =>
          rcases hm.at (i := m) (by simpa using e) with rfl | ⟨d, rfl, _, _⟩ <;> exact o
      exact no e1 o1
  refine h _ _ _ _ σ g1 _ fun x S2 H2 v ⟨d, ex, nd, hr⟩ a2 ok2 => ?_
  subst ex
  have hq2 : H2 q = some n1 := a2.hh q _ (fun z => z) upd_same
  have hp2 : H2 p0 = some (.ins cc dx [("yard", y), ("said", .ref q)]) := a2.hh p0 _ (fun z => z) (by rw [upd_ne np0]; exact hHp)
  have hi2 : H2 ib = some (.tup ((tKey p).map kV)) := a2.hh ib _ (fun z => z) (by rw [upd_ne nib]; exact hHi)
  have hs2 : S2 q = some n1 := a2.ss q _ upd_same
  have e0 : (σ.set (j + 1) (some v))[0]? = some (some (V.ref p0)) := by rw [List.getElem?_set_ne (by omega)]; exact ev0
  have ei : (σ.set (j + 1) (some v))[i + 1]? = some (some (V.ref ib)) := by rw [List.getElem?_set_ne (by omega)]; exact evi
  refine ⟨_, e0, p0, cc, dx, _, .ref q, rfl, hp2, c, nD, rfl, .inr (.inr (.inl ⟨rfl, .inr ⟨_, hq2⟩⟩)), _, ei, q, _, tKey p, ib, .bl b, rfl, rfl, hq2, hi2, by rw [look_val, look_snoc hp]; rfl, ?_⟩
  rw [drop_said hp]
  have m3 : Mv ρ0 S H (upd S2 q (.dT (saidV s))) (upd H2 q (.dT (saidV s))) := by
    refine ⟨⟨same_upd2 a2.ok.sh, fun _ z => z.elim, fun _ z => z.elim, trivial⟩, fun b o e => ?_, fun b o _ e => ?_, fun b e nb => ?_⟩
    · by_cases hb : b = q
      · subst hb; rw [hq] at e; rw [upd_same]; exact e
      · rw [upd_ne hb]; exact a2.ss b o (by rw [upd_ne hb]; exact e)
    · by_cases hb : b = q
      · subst hb; rw [hHq] at e; rw [upd_same]; exact e
      · rw [upd_ne hb]; exact a2.hh b o (fun z => z) (by rw [upd_ne hb]; exact e)
    · have hb : b ≠ q := fun z => by subst z; rw [hq] at e; cases e
      rw [upd_ne hb]; exact a2.fr b (by rw [upd_ne hb]; exact e) (by rw [upd_ne hb]; exact nb)
  have g3 := g.set (i := j + 1) m3 (r := .dat d) (v := v) (rp_dt hs2 nd ok2)
  exact sd_from hr g3 m3.ss a1 b1 c1 d1
end
end Den
namespace Den
open PySem L2 D3 PyProof.Rows PySem.W
/-- x is not y, y a word, x a word or none -/
def rIsnB : R2 := fun x y H Q => ∃ b, y = .bl b ∧ ((x = .non ∧ Q (.bl true) H) ∨ ∃ a, x = .bl a ∧ Q (.bl (!decide (a = b))) H)
theorem op_isnB {X : Cx} : OpR X (compareOp .IsNot) rIsnB := by
  intro pins s σ H x y v u Q I rx ry h
  obtain ⟨b, rfl, h⟩ := h
  cases (show u = Value.bool b from ry)
  rcases h with ⟨rfl, q⟩ | ⟨a, rfl, q⟩
  · cases (show v = Value.none from rx)
    exact wpAny_isNot_other rfl (fun z => by cases z) ⟨.bl true, H, I, rfl, q⟩
  · cases (show v = Value.bool a from rx)
    by_cases e : a = b
    · subst e
      exact wpAny_isNot_self rfl ⟨.bl false, H, I, rfl, by simpa using q⟩
    · exact wpAny_isNot_other rfl (fun z => e (Value.bool.inj z)) ⟨.bl true, H, I, rfl, by simpa [e] using q⟩
/-- d < e of alike data -/
def rLtD (F : PySem.W.Frag) : R2 := fun x y H Q => ∃ d e, Dp F H x d ∧ Dp F H y e ∧ alike d e = true ∧ d ≠ .none ∧ d.depth ≤ 64 ∧ Q (.bl (dataLt d e)) H
theorem op_ltD {X : Cx} (hu : X.A.units + 64 < cLine) : OpR X (compareOp .Lt) (rLtD X.K) := by
  intro pins s σ H x y v u Q I rx ry h
  obtain ⟨d, e, hd, he, ha, hn, hp, q⟩ := h
  obtain ⟨as, r1⟩ := Dp.reads I d x v hd rx
  obtain ⟨bs, r2⟩ := Dp.reads I e y u he ry
  exact lt_data r1 r2 ha hn (by omega) ⟨.bl _, H, I, rfl, q⟩
theorem k_ltD {X : Cx} (F : PySem.W.Frag) (h : X.K = F) (hu : X.A.units + 64 < cLine) : OpR X (compareOp .Lt) (rLtD F) := h ▸ op_ltD hu
section
variable {C : Addr} {ρ : Rsc} {sl : List Sl} {ta tb : TE} {F : PySem.W.Frag} {K : Sl → Prop} {r1 : Sl}
theorem xisnB {o : Option Bool} {b : Bool} (h1 : XD C ρ ta sl (.dat (wordD o))) (h2 : XD C ρ tb sl (.dat (.bl b))) : XD C ρ (tOp rIsnB ta tb) sl (.dat (.bl (!decide (o = some b)))) := by
  refine xop h1 h2 fun Hs S H x y _ ok h1 h2 Q q => ?_
  cases h2
  refine ⟨b, rfl, ?_⟩
  cases o with
  | none => cases h1; exact .inl ⟨rfl, fin_dat ok q rfl (.bl _)⟩
  | some a =>
    cases h1
    refine .inr ⟨a, rfl, fin_dat ok q ?_ (.bl _)⟩
    congr 3
    exact decide_eq_decide.mpr ⟨fun e => congrArg some e, fun e => Option.some.inj e⟩
theorem lexI (x y : Int) (r t : List (Int ⊕ List Nat)) : PyProof.Rows.lexLt itemOrd (Sum.inl x :: r) (Sum.inl y :: t) = (decide (x < y) || (!decide (y < x) && PyProof.Rows.lexLt itemOrd r t)) := lex_cons (O := itemOrd) _ _ _ _
theorem lt_pair (a b c d : Int) : dataLt (.tuple [.int a, .int b]) (.tuple [.int c, .int d]) = decide (a < c ∨ (a = c ∧ b < d)) := by
  show PyProof.Rows.lexLt itemOrd [Sum.inl 1, Sum.inl a, Sum.inl 1, Sum.inl b, Sum.inl 0] [Sum.inl 1, Sum.inl c, Sum.inl 1, Sum.inl d, Sum.inl 0] = _
  rw [lexI, lexI, lexI, lexI, lexI, show PyProof.Rows.lexLt itemOrd [] [] = false from rfl]
  rw [Bool.eq_iff_iff]
  simp
  omega
theorem xltP {a b c d : Int} (h1 : XD C ρ ta sl (.dat (.tup [.int a, .int b]))) (h2 : XD C ρ tb sl (.dat (.tup [.int c, .int d]))) : XD C ρ (tOp (rLtD F) ta tb) sl (.dat (.bl (decide (a < c ∨ (a = c ∧ b < d))))) := by
  refine xop h1 h2 fun Hs S H x y _ ok h1 h2 Q q => ?_
  have p1 : plD 64 (.tup [.int a, .int b]) = true := rfl
  have p2 : plD 64 (.tup [.int c, .int d]) = true := rfl
  refine ⟨_, _, Rp.dp p1 (Rp.mono ok.sh h1), Rp.dp p2 (Rp.mono ok.sh h2), rfl, (fun z => by cases z), (plD_depth p1).2, ?_⟩
  have e := lt_pair a b c d
  show Q (.bl (dataLt (.tuple [.int a, .int b]) (.tuple [.int c, .int d]))) H
  rw [e]
  exact fin_dat ok q rfl (.bl _)
end
end Den
namespace Den
open PySem L2 D3 PyProof.Rows PySem.W
/-- each number once -/
def distN : List Int → List Int
  | [] => []
  | x :: xs => if x ∈ xs then distN xs else x :: distN xs
theorem mem_dist {y : Int} : ∀ {xs : List Int}, y ∈ distN xs ↔ y ∈ xs
  | [] => Iff.rfl
  | x :: xs => by
    unfold distN
    split
    · rename_i h
      rw [mem_dist (xs := xs), List.mem_cons]
      exact ⟨.inr, fun z => z.elim (fun e => e ▸ h) id⟩
    · rw [List.mem_cons, List.mem_cons, mem_dist (xs := xs)]
theorem dist_nodup : ∀ xs : List Int, (distN xs).Nodup
  | [] => List.nodup_nil
  | x :: xs => by
    unfold distN
    split
    · exact dist_nodup xs
    · rename_i h
      exact List.nodup_cons.mpr ⟨fun z => h (mem_dist.mp z), dist_nodup xs⟩
theorem dist_len : ∀ xs : List Int, (distN xs).length ≤ xs.length
  | [] => Nat.le_refl _
  | x :: xs => by
    have := dist_len xs
    unfold distN
    split
    · rw [List.length_cons]; omega
    · rw [List.length_cons, List.length_cons]; omega
theorem dist_self : ∀ {xs : List Int}, xs.Nodup → distN xs = xs
  | [], _ => rfl
  | x :: xs, h => by
    rw [List.nodup_cons] at h
    unfold distN
    rw [if_neg h.1, dist_self h.2]
theorem dist_iff : ∀ {xs : List Int}, (distN xs).length = xs.length ↔ xs.Nodup
  | [] => by simp [distN]
  | x :: xs => by
    constructor
    · intro h
      unfold distN at h
      split at h
      · have := dist_len xs; rw [List.length_cons] at h; omega
      · rename_i hx
        rw [List.length_cons, List.length_cons] at h
        exact List.nodup_cons.mpr ⟨hx, dist_iff.mp (by omega)⟩
    · intro h
      rw [dist_self h]
theorem same_len {a b : List Int} (ha : a.Nodup) (hb : b.Nodup) (h : ∀ x, x ∈ a ↔ x ∈ b) : a.length = b.length :=
  ((List.perm_ext_iff_of_nodup ha hb).mpr h).length_eq
theorem met_nodup (f : Nat → Int) : ∀ i, (firstMet f i).Nodup
  | 0 => by rw [firstMet_zero]; exact List.nodup_nil
  | i + 1 => by
    rw [firstMet_succ]
    unfold step_dedup
    split
    · exact met_nodup f i
    · rename_i h
      refine List.nodup_append.mpr ⟨met_nodup f i, by simp, fun a ha b hb e => h ?_⟩
      obtain rfl := List.mem_singleton.mp hb
      rw [List.any_eq_true]
      exact ⟨a, ha, by simpa using e⟩
theorem mem_met (ns : List Int) (x : Int) : x ∈ firstMet (fun i => ns.getD i 0) ns.length ↔ x ∈ ns := by
  have h := firstMet_any (fun i => ns.getD i 0) ns.length x
  rw [Bool.eq_iff_iff, List.any_eq_true, List.any_eq_true] at h
  have e : (List.range ns.length).map (fun i => ns.getD i 0) = ns := by
    refine List.ext_getElem (by simp) fun i h1 h2 => ?_
    simp [List.getD_eq_getElem?_getD, List.getElem?_eq_getElem h2]
  rw [e] at h
  simpa using h
theorem met_len (ns : List Int) : (firstMet (fun i => ns.getD i 0) ns.length).length = (distN ns).length :=
  same_len (met_nodup _ _) (dist_nodup ns) fun x => by rw [mem_met, mem_dist]
/-- len(set(xs)) of a list or tuple of numbers -/
def tLenSetA (K : PySem.W.Frag) (ta : TE) : TE := fun σ H Q => ta σ H fun x H1 => ∃ (l : Addr) (ns : List Int), x = .ref l ∧ (SqL K H1 l (ns.map V.int) ∨ SqT K H1 l (ns.map V.int)) ∧ ns.length ≤ 4000 ∧ Q (.int ((distN ns).length : Nat)) H1
theorem pe_lenSetA {X : Cx} {a : Expr} {ta : TE} {p p2 q pos : Pos} (hg : Gl X "len") (hm : X.mg "len" = none) (hg2 : Gl X "set") (hm2 : X.mg "set" = none) (ha : PE X a ta) (hc : X.calm = true := by rfl)
    (na : starEach [a] X.env = (false, eval a X.env) :: starEach [] X.env := by rfl) : PE X (.Call (.Name "len" p) [.Call (.Name "set" p2) [a] [] q] [] pos) (tLenSetA X.K ta) := by
  refine ⟨fun pins s σ H Q I h => ?_⟩
  refine Call_ (ld_blt I hg hm boot_len ?_)
  refine PyProof.Rows.callWith_builtin1 (PyProof.Rows.args_cons ?_ rfl) rfl rfl
  refine Call_ (ld_blt I hg2 hm2 boot_set ?_)
  refine PyProof.Rows.callWith_type1 (PyProof.Rows.args_cons (thn (ha.run pins s σ H _ I h) fun v s1 ⟨x, H1, I1, r1, q1⟩ => PyProof.Rows.args_nil ?_) na) na rfl
  obtain ⟨l, ns, rfl, hq, hl, q1⟩ := q1
  cases r1
  have hdl := dist_len ns
  rcases hq with hq | hq
  · obtain ⟨its, r, pl, hz⟩ := I1.list hq
    have hlen : its.toArray.size = ns.length := by rw [List.size_toArray, ← r.length, List.length_map]
    refine call_set_list (I1.ok.hd hc) pl.isList (by simpa using RZ.intsAre_vals r) (by rw [hlen]; unfold scanBound; omega) fun h' tk hS hk => ?_
    refine PyProof.Rows.args_nil ?_
    rw [hlen, met_len] at hS
    obtain ⟨o, es, ep, t, ho, hex, hd, _, _, _, hf, hn⟩ := hS
    have I2 : Inv X pins σ H1 { s1 with heap := h', toks := tk } := I1.kept fun b o e => hk b o (Heap.lt_size e) e
    exact call_len_set ho hex hd hf (by rw [hn] <;> omega) ⟨.int (distN ns).length, H1, I2.tok _, ⟨_, by rw [hn]⟩, q1⟩
  · obtain ⟨its, r, pl, hz⟩ := I1.tuple hq
    refine call_set_tupI ns (I1.ok.hd hc) pl (by simpa using RZ.intsAre_vals r) (by unfold scanBound; omega) fun h' tk c hS hc' hk => ?_
    refine PyProof.Rows.args_nil ?_
    obtain ⟨o, es, ep, t, ho, hex, hd, _, nd, mem, _, hf, hn, _⟩ := hS
    have e : es.size = (distN ns).length := by
      have := same_len nd (dist_nodup ns) fun x => by rw [← mem x, mem_dist]; simp
      rw [List.length_map] at this
      simpa using this
    have I2 : Inv X pins σ H1 { s1 with heap := h', toks := tk } := I1.kept fun b o e => hk b o e
    exact call_len_set ho hex hd hf (by omega) ⟨.int (distN ns).length, H1, I2.tok _, ⟨_, by rw [e]⟩, q1⟩
theorem k_lenSetA {X : Cx} (F : PySem.W.Frag) (h : X.K = F) {a : Expr} {ta : TE} {p p2 q pos : Pos} (hg : Gl X "len") (hm : X.mg "len" = none) (hg2 : Gl X "set") (hm2 : X.mg "set" = none) (he : PE X a ta) (hc : X.calm = true := by rfl)
    (na : starEach [a] X.env = (false, eval a X.env) :: starEach [] X.env := by rfl) : PE X (.Call (.Name "len" p) [.Call (.Name "set" p2) [a] [] q] [] pos) (tLenSetA F ta) := by
  subst h; exact pe_lenSetA hg hm hg2 hm2 he hc na
section
variable {C : Addr} {ρ : Rsc} {sl : List Sl} {ta : TE} {F : PySem.W.Frag} {r1 : Sl}
theorem xlenSetL {ns : List Int} (h : XD C ρ ta sl r1) (e : r1.ls = some (ns.map Dt.int)) (hl : ns.length ≤ 4000) : XD C ρ (tLenSetA F ta) sl (.dat (.int ((distN ns).length : Int))) := fun S0 H0 S H σ g Q q => by
  refine h S0 H0 S H σ g _ fun r S1 H1 x er a1 ok1 => ?_
  subst er
  obtain ⟨l, xs, rfl, hl1, ra⟩ := ok1.lsD a1.ok e
  obtain rfl := ra.ints
  exact ⟨l, ns, rfl, .inl (SqL.of hl1), hl, q _ S1 H1 _ rfl a1 (.int _)⟩
theorem xlenSetT {ns : List Int} (h : XD C ρ ta sl (.dat (.tup (ns.map Dt.int)))) (hl : ns.length ≤ 4000) : XD C ρ (tLenSetA F ta) sl (.dat (.int ((distN ns).length : Int))) := fun S0 H0 S H σ g Q q => by
  refine h S0 H0 S H σ g _ fun r S1 H1 x er a1 ok1 => ?_
  subst er
  cases ok1 with
  | tup h1 ra =>
    obtain rfl := ra.ints
    exact ⟨_, ns, rfl, .inr (SqT.of (a1.ok.sh _ _ h1)), hl, q _ S1 H1 _ rfl a1 (.int _)⟩
end
end Den
/-! What the methods of Cases answer. -/
namespace Den
open PySem L2 D3
def tiesAt (ts : List Tie) (s : Said) (x : Nat) (ws : List (Option Bool)) : List Tie := ts.filter fun p => decide (x ∈ [p.1, p.2]) && decide (lookS s p ∈ ws)
theorem eqD_wordD (a b : Option Bool) : eqD (wordD a) (wordD b) = decide (a = b) := by
  cases a with
  | none => cases b with
    | none => rfl
    | some b => cases b <;> rfl
  | some a => cases b with
    | none => cases a <;> rfl
    | some b => cases a <;> cases b <;> rfl
structure CT where
  n : Nat
  ts : List Tie
  s : Said
  x : Nat
  ws : List (Option Bool)
def ctEnc (cc : Addr) (a : CT) : List Dt := [casD cc a.n a.ts a.s, .int (a.x : Int), .tup (a.ws.map wordD)]
def fn_Cases_ties_at (cc : Addr) := FnP (ctEnc cc) (fun a => a.n ≤ 30 ∧ ValidY a.n a.ts) (fun a K => K (.own ((tiesAt a.ts a.s a.x a.ws).map tieD)))
theorem tiesAt_len (ts : List Tie) (s : Said) (x : Nat) (ws : List (Option Bool)) : (tiesAt ts s x ws).length ≤ ts.length := List.length_filter_le _ _
structure CS where
  n : Nat
  ts : List Tie
  s : Said
def csEnc (cc : Addr) (a : CS) : List Dt := [casD cc a.n a.ts a.s]
def csxEnc (cc : Addr) (a : CS × Nat) : List Dt := [casD cc a.1.n a.1.ts a.1.s, .int (a.2 : Int)]
def CS.ok (a : CS) : Prop := a.n ≤ 30 ∧ ValidY a.n a.ts
def fewB (ts : List Tie) (s : Said) (x : Nat) : Bool := decide ((tiesAt ts s x [some true, none]).length < 2)
def threeB (ts : List Tie) (s : Said) (x : Nat) : Bool := decide (2 < (tiesAt ts s x [some true]).length)
def fn_Cases_is_few (cc : Addr) := FnP (csxEnc cc) (fun a => a.1.ok) (fun a K => K (.dat (.bl (fewB a.1.ts a.1.s a.2))))
def fn_Cases_is_three (cc : Addr) := FnP (csxEnc cc) (fun a => a.1.ok) (fun a K => K (.dat (.bl (threeB a.1.ts a.1.s a.2))))
/-! rings -/
def prevN (xs : List Nat) (k : Nat) : Nat := if k = 0 then xs.getLastD 0 else xs.getD (k - 1) 0
def edgeN (xs : List Nat) (k : Nat) : Tie := (min (prevN xs k) (xs.getD k 0), max (prevN xs k) (xs.getD k 0))
def ringB (n : Nat) (s : Said) (xs : List Nat) : Bool := decide (3 ≤ xs.length) && decide (xs.length < n) && decide ((distN (xs.map fun (k : Nat) => (k : Int))).length = xs.length) && (List.range xs.length).all fun k => decide (lookS s (edgeN xs k) = some true)
def csrEnc (cc : Addr) (a : CS × List Nat) : List Dt := [casD cc a.1.n a.1.ts a.1.s, .tup (a.2.map natD)]
def fn_Cases_is_ring (cc : Addr) := FnP (csrEnc cc) (fun a => a.1.ok ∧ a.2.length ≤ 4000) (fun a K => K (.dat (.bl (ringB a.1.n a.1.s a.2))))
def othN (p : Tie) (x : Nat) : Int := (p.1 : Int) + (p.2 : Int) - (x : Int)
def stepR (ts : List Tie) (s : Said) (row : List Nat) : Option Int := (tiesAt ts s (row.getLastD 0) [some true]).findSome? fun p =>
  if othN p (row.getLastD 0) ∉ row.tail.map (fun (k : Nat) => (k : Int)) ∧ (othN p (row.getLastD 0) ≠ ((row.headD 0 : Nat) : Int) ∨ 2 < row.length) then some (othN p (row.getLastD 0)) else none
def ringF (ts : List Tie) (s : Said) : Nat → List Nat → List Nat
  | 0, _ => []
  | k + 1, row => match stepR ts s row with
    | none => []
    | some o => if o = ((row.headD 0 : Nat) : Int) then row else ringF ts s k (row ++ [o.toNat])
def ringN (n : Nat) (ts : List Tie) (s : Said) (x : Nat) : List Nat := ringF ts s n [x]
def fn_Cases_ring_at (cc : Addr) := FnP (csxEnc cc) (fun a => a.1.ok ∧ a.2 < a.1.n) (fun a K => K (.dat (.tup ((ringN a.1.n a.1.ts a.1.s a.2).map natD))))
/-! trees -/
inductive Tr where
  | few (x : Nat)
  | three (x : Nat)
  | ring (xs : List Nat)
  | tie (p : Tie) (a b : Tr)
def trD : Tr → Dt
  | .few x => .tup [.str "few", natD x]
  | .three x => .tup [.str "three", natD x]
  | .ring xs => .tup [.str "ring", .tup (xs.map natD)]
  | .tie p a b => .tup [.str "tie", tieD p, trD a, trD b]
def trO : Option Tr → Dt
  | none => .non
  | some t => trD t
def leafP (ts : List Tie) (s : Said) (x : Nat) : Option Tr := if fewB ts s x = true then some (.few x) else if threeB ts s x = true then some (.three x) else none
def leafR (n : Nat) (ts : List Tie) (s : Said) (x : Nat) : Option Tr := if ringN n ts s x ≠ [] ∧ ringB n s (ringN n ts s x) = true then some (.ring (ringN n ts s x)) else none
def leafN (n : Nat) (ts : List Tie) (s : Said) : Option Tr := match (List.range n).findSome? (leafP ts s) with
  | some t => some t
  | none => (List.range n).findSome? (leafR n ts s)
def fn_Cases_leaf (cc : Addr) := FnP (csEnc cc) (fun a => a.ok) (fun a K => K (.dat (trO (leafN a.n a.ts a.s))))
abbrev Best := (Nat × Nat) × Tie
def stepB (ts : List Tie) (s : Said) (b : Option Best) (x : Nat) : Option Best := match (tiesAt ts s x [none]).head? with
  | none => b
  | some p => match b with
    | none => some (((tiesAt ts s x [none]).length + (tiesAt ts s x [some true]).length, x), p)
    | some q => if (tiesAt ts s x [none]).length + (tiesAt ts s x [some true]).length < q.1.1 ∨ ((tiesAt ts s x [none]).length + (tiesAt ts s x [some true]).length = q.1.1 ∧ x < q.1.2) then some (((tiesAt ts s x [none]).length + (tiesAt ts s x [some true]).length, x), p) else some q
def bestN (n : Nat) (ts : List Tie) (s : Said) : Option Best := (List.range n).foldl (stepB ts s) none
def nextN (n : Nat) (ts : List Tie) (s : Said) : Option Tie := (bestN n ts s).map (·.2)
def tieO : Option Tie → Dt
  | none => .non
  | some p => tieD p
def bestD : Option Best → Dt
  | none => .non
  | some b => .tup [.tup [.int (b.1.1 : Int), .int (b.1.2 : Int)], tieD b.2]
def fn_Cases_next_tie (cc : Addr) := FnP (csEnc cc) (fun a => a.ok) (fun a K => K (.dat (tieO (nextN a.n a.ts a.s))))
def nodeF (n : Nat) (ts : List Tie) : Nat → Said → Option Tr
  | k, s => match leafN n ts s with
    | some t => some t
    | none => match k, nextN n ts s with
      | _, none => none
      | 0, some _ => none
      | k + 1, some p => match nodeF n ts k (s ++ [(p, true)]) with
        | none => none
        | some a => match nodeF n ts k (s ++ [(p, false)]) with
          | none => none
          | some b => some (.tie p a b)
def nodeN (n : Nat) (ts : List Tie) (s : Said) : Option Tr := nodeF n ts (ts.length - s.length) s
/-- what is said is said of ties, of each once -/
structure SaidOk (ts : List Tie) (s : Said) : Prop where
  nd : (s.map (·.1)).Nodup
  of : ∀ x ∈ s, x.1 ∈ ts
end Den
namespace Den
open PySem L2 D3
section
variable {C cc : Addr} {ρ : Rsc} {sl : List Sl} {ta tb td ty tx te : TE} {F : PySem.W.Frag} {s : Said} {p : Tie}
theorem xgetW (h : XD C ρ td sl (.dat (dtbD s))) (h2 : XD C ρ ty sl (.dat (tieD p))) : XD C ρ (tDGet2 td ty (tC .non)) sl (.dat (wordD (lookS s p))) :=
  (xgetS h h2 xn).to (by cases lookS s p <;> rfl)
theorem plD_wordD (o : Option Bool) : plD 0 (wordD o) = true := by
  cases o <;> rfl
theorem xinW {o : Option Bool} {ws : List (Option Bool)} {r2 : Sl} (h1 : XD C ρ ta sl (.dat (wordD o))) (h2 : XD C ρ tb sl r2) (e : r2.sq = some (ws.map wordD)) : XD C ρ (tOp (rInA F) ta tb) sl (.dat (.bl (decide (o ∈ ws)))) :=
  (xinF h1 h2 e (plD_wordD o) (plDs_all.mpr fun x hx => by obtain ⟨a, _, rfl⟩ := List.mem_map.mp hx; exact plD_wordD a)).to (congrArg (fun z => Sl.dat (.bl z)) ((memD_map wordD eqD_wordD o ws).trans (decide_eq_decide.mpr Iff.rfl)))
end
end Den
namespace Den
open PySem L2 D3
theorem tiesAt_hit {ts : List Tie} {s : Said} {x i : Nat} {ws : List (Option Bool)} {p : Tie} (e : ts[i]? = some p) (h : (decide (x ∈ [p.1, p.2]) && decide (lookS s p ∈ ws)) = true) : tiesAt (ts.take (i + 1)) s x ws = tiesAt (ts.take i) s x ws ++ [p] := by
  rw [take_succ e]; unfold tiesAt
  rw [List.filter_append]
  congr 1
  exact List.filter_cons_of_pos (p := fun p : Tie => decide (x ∈ [p.1, p.2]) && decide (lookS s p ∈ ws)) h
theorem tiesAt_miss {ts : List Tie} {s : Said} {x i : Nat} {ws : List (Option Bool)} {p : Tie} (e : ts[i]? = some p) (h : (decide (x ∈ [p.1, p.2]) && decide (lookS s p ∈ ws)) = false) : tiesAt (ts.take (i + 1)) s x ws = tiesAt (ts.take i) s x ws := by
  rw [take_succ e]; unfold tiesAt
  rw [List.filter_append]
  have : [p].filter (fun p : Tie => decide (x ∈ [p.1, p.2]) && decide (lookS s p ∈ ws)) = [] := List.filter_cons_of_neg (p := fun p : Tie => decide (x ∈ [p.1, p.2]) && decide (lookS s p ∈ ws)) (by rw [h]; decide)
  rw [this, List.append_nil]
end Den
namespace Den
open PySem L2 D3
section
variable {C : Addr} {ρ : Rsc} {sl : List Sl} {F : PySem.W.Frag} {r : Sl}
/-- one, other = [..] -/
theorem gd_lst2 {i j : Nat} {d e : Dt} {K : List Sl → Prop} (er : r.lsF = some [d, e]) (k : K ((sl.set i (.dat d)).set j (.dat e))) : GD C ρ (gUnl F 2 (gCons (gName i) (gCons (gName j) gNil))) [i, j] r sl K := gd_fz fun S0 H0 Sb Hb S H σ v g a ok Q q => by
  rw [lsF_fz er] at ok
  obtain ⟨p, xs, rfl, hp, ra⟩ := ok.lsD (ds := [d, e]) a.ok rfl
  cases ra with
  | cons h1 r1 =>
    cases r1 with
    | cons h2 r2 =>
      cases r2
      refine ⟨_, _, rfl, SqL.of hp, rfl, _, _, rfl, _, _, rfl, rfl, ?_⟩
      have g1 := g.set (i := i) a (r := .dat d) h1
      have g2 := g1.set (i := j) (Mv.refl g1.k) (r := .dat e) h2
      refine q _ S H _ k a g2 (by simp) fun m hm => ?_
      rw [List.getElem?_set_ne, List.getElem?_set_ne]
      · intro e; exact hm (by simp [e])
      · intro e; exact hm (by simp [e])
end
end Den
namespace Den
open PySem L2 D3
theorem mem_tiesAt {ts : List Tie} {s : Said} {x : Nat} {ws : List (Option Bool)} {p : Tie} : p ∈ tiesAt ts s x ws ↔ p ∈ ts ∧ (x = p.1 ∨ x = p.2) ∧ lookS s p ∈ ws := by
  unfold tiesAt
  rw [List.mem_filter, Bool.and_eq_true, decide_eq_true_eq, decide_eq_true_eq]
  simp
theorem oth_nat {n : Nat} {ts : List Tie} (hv : ValidY n ts) {s : Said} {x : Nat} {ws : List (Option Bool)} {p : Tie} (h : p ∈ tiesAt ts s x ws) : ∃ z, z < n ∧ othN p x = (z : Int) ∧ z ≠ x ∧ ((min x z, max x z) ∈ ts) ∧ lookS s (min x z, max x z) ∈ ws := by
  obtain ⟨h1, h2, h3⟩ := mem_tiesAt.mp h
  obtain ⟨v1, v2⟩ := hv.2 p h1
  rcases h2 with rfl | rfl
  · refine ⟨p.2, v2, by unfold othN; omega, by omega, ?_, ?_⟩
    · rw [Nat.min_eq_left (by omega), Nat.max_eq_right (by omega)]; exact h1
    · rw [Nat.min_eq_left (by omega), Nat.max_eq_right (by omega)]; exact h3
  · refine ⟨p.1, by omega, by unfold othN; omega, by omega, ?_, ?_⟩
    · rw [Nat.min_eq_right (by omega), Nat.max_eq_left (by omega)]; exact h1
    · rw [Nat.min_eq_right (by omega), Nat.max_eq_left (by omega)]; exact h3
structure RowR (n x : Nat) (row : List Nat) : Prop where
  hd : row.head? = some x
  nd : row.Nodup
  lt : ∀ y ∈ row, y < n
theorem RowR.ne {n x : Nat} {row : List Nat} (h : RowR n x row) : row ≠ [] := fun z => by have := h.hd; rw [z] at this; cases this
theorem RowR.hd0 {n x : Nat} {row : List Nat} (h : RowR n x row) : row.headD 0 = x := by
  have := h.hd
  cases row with
  | nil => cases this
  | cons a r => simpa using this
theorem RowR.len {n x : Nat} {row : List Nat} (h : RowR n x row) : row.length ≤ n := nodup_le h.nd h.lt
theorem RowR.start {n x : Nat} (h : x < n) : RowR n x [x] := ⟨rfl, by simp, fun y hy => by obtain rfl := List.mem_singleton.mp hy; exact h⟩
theorem RowR.snoc {n x z : Nat} {row : List Nat} (h : RowR n x row) (hz : z < n) (h1 : z ∉ row.tail) (h2 : z ≠ x) : RowR n x (row ++ [z]) := by
  have hm : z ∉ row := fun hm => by
    have hh := h.hd
    cases row with
    | nil => cases hm
    | cons a r =>
      rcases List.mem_cons.mp hm with e | e
      · simp at hh; exact h2 (e.trans hh)
      · exact h1 e
  refine ⟨?_, List.nodup_append.mpr ⟨h.nd, by simp, fun a ha b hb e => ?_⟩, fun y hy => ?_⟩
  · have hh := h.hd
    cases row with
    | nil => cases hh
    | cons a r => exact hh
  · obtain rfl := List.mem_singleton.mp hb
    exact hm (e ▸ ha)
  · rcases List.mem_append.mp hy with h1 | h1
    · exact h.lt y h1
    · obtain rfl := List.mem_singleton.mp h1; exact hz
def goR (row : List Nat) (z : Nat) : Bool := !decide (z ∈ row.tail) && (!decide ((z : Int) = ((row.headD 0 : Nat) : Int)) || decide (2 < row.length))
theorem goR_iff {row : List Nat} {p : Tie} {x z : Nat} (e : othN p x = (z : Int)) : (othN p x ∉ row.tail.map (fun (k : Nat) => (k : Int)) ∧ (othN p x ≠ ((row.headD 0 : Nat) : Int) ∨ 2 < row.length)) ↔ goR row z = true := by
  have hm : ((z : Int) ∈ row.tail.map (fun (k : Nat) => (k : Int))) ↔ z ∈ row.tail := by
    constructor
    · intro h
      obtain ⟨k, hk, e⟩ := List.mem_map.mp h
      have : k = z := by omega
      exact this ▸ hk
    · intro h
      exact List.mem_map.mpr ⟨z, h, rfl⟩
  rw [e, hm]
  unfold goR
  simp only [Bool.and_eq_true, Bool.or_eq_true, Bool.not_eq_true', decide_eq_false_iff_not, decide_eq_true_eq, ne_eq]
theorem tail_cut {α : Type} (xs : List α) : cutD xs (some 1) none = xs.tail := by
  rw [show (1 : Int) = ((1 : Nat) : Int) from rfl, cut_from]
  cases xs with
  | nil => rfl
  | cons a r => simp
end Den
namespace Den
open PySem L2 D3
theorem ringF_len {n : Nat} {ts : List Tie} (hv : ValidY n ts) (s : Said) {x : Nat} : ∀ (k : Nat) (row : List Nat), RowR n x row → (ringF ts s k row).length ≤ n
  | 0, _, _ => Nat.zero_le _
  | k + 1, row, R => by
    unfold ringF
    cases e : stepR ts s row with
    | none => exact Nat.zero_le _
    | some o =>
      dsimp only
      unfold stepR at e
      obtain ⟨p, hp, h⟩ := List.exists_of_findSome?_eq_some e
      obtain ⟨z, z1, z2, z3, _, _⟩ := oth_nat hv hp
      split at h
      · rename_i hc
        have hg := (goR_iff z2).mp hc
        cases h
        rw [z2]
        split
        · exact R.len
        · rename_i hne
          rw [R.hd0] at hne
          rw [Int.toNat_natCast]
          refine ringF_len hv s k _ (R.snoc z1 ?_ (by omega))
          unfold goR at hg
          rw [Bool.and_eq_true] at hg
          simpa using hg.1
      · cases h
theorem ringN_len {n : Nat} {ts : List Tie} (hv : ValidY n ts) (s : Said) {x : Nat} (hx : x < n) : (ringN n ts s x).length ≤ n := ringF_len hv s n [x] (RowR.start hx)
theorem plD_tupn (xs : List Nat) : plD 64 (.tup (xs.map natD)) = true := plDs_all.mpr fun x hx => by obtain ⟨p, _, rfl⟩ := List.mem_map.mp hx; rfl
theorem eqD_tup_nil (xs : List Nat) : (!eqD (.tup (xs.map natD)) (.tup [])) = !decide (xs = []) := by
  cases xs with
  | nil => rfl
  | cons a r => simp; rfl
end Den
namespace Den
open PySem L2 D3
theorem best_mem {ts : List Tie} {s : Said} : ∀ (l : List Nat) (b : Option Best) (q : Best), (∀ q, b = some q → q.2 ∈ ts ∧ lookS s q.2 = none) → l.foldl (stepB ts s) b = some q → q.2 ∈ ts ∧ lookS s q.2 = none
  | [], b, q, h, e => h q e
  | x :: l, b, q, h, e => by
    refine best_mem l (stepB ts s b x) q (fun q' h' => ?_) e
    unfold stepB at h'
    cases hp : (tiesAt ts s x [none]).head? with
    | none => rw [hp] at h'; exact h q' h'
    | some p =>
      rw [hp] at h'
      have hm := mem_tiesAt.mp (List.mem_of_head? hp)
      have hm2 : lookS s p = none := by simpa using hm.2.2
      cases b with
      | none => cases h'; exact ⟨hm.1, hm2⟩
      | some q0 =>
        dsimp only at h'
        split at h'
        · cases h'; exact ⟨hm.1, hm2⟩
        · cases h'; exact h _ rfl
theorem next_mem {n : Nat} {ts : List Tie} {s : Said} {p : Tie} (h : nextN n ts s = some p) : p ∈ ts ∧ lookS s p = none := by
  unfold nextN at h
  obtain ⟨q, hq, rfl⟩ := Option.map_eq_some_iff.mp h
  exact best_mem _ none q (fun _ z => by cases z) hq
theorem SaidOk.len {ts : List Tie} {s : Said} (h : SaidOk ts s) : s.length ≤ ts.length := by
  have := nodup_le_any h.nd (ys := ts) fun x hx => by obtain ⟨y, hy, rfl⟩ := List.mem_map.mp hx; exact h.of y hy
  rwa [List.length_map] at this
theorem SaidOk.snoc {ts : List Tie} {s : Said} (h : SaidOk ts s) {p : Tie} {b : Bool} (hp : p ∈ ts) (hn : lookS s p = none) : SaidOk ts (s ++ [(p, b)]) := by
  have := look_none hn
  refine ⟨?_, fun x hx => ?_⟩
  · rw [List.map_append]
    refine List.nodup_append.mpr ⟨h.nd, by simp, fun a ha c hc e => ?_⟩
    obtain ⟨y, hy, rfl⟩ := List.mem_map.mp ha
    simp at hc
    exact this y hy (e.trans hc)
  · rcases List.mem_append.mp hx with h1 | h1
    · exact h.of x h1
    · obtain rfl := List.mem_singleton.mp h1; exact hp
theorem SaidOk.lt {ts : List Tie} {s : Said} (h : SaidOk ts s) {p : Tie} (hp : p ∈ ts) (hn : lookS s p = none) : s.length < ts.length := by
  have := (h.snoc (b := true) hp hn).len
  rw [List.length_append] at this
  simp at this
  omega
theorem SaidOk.nil {ts : List Tie} : SaidOk ts [] := ⟨List.nodup_nil, fun x hx => by cases hx⟩
theorem node_leaf {n : Nat} {ts : List Tie} {s : Said} {t : Tr} (h : leafN n ts s = some t) : nodeN n ts s = some t := by
  unfold nodeN nodeF; rw [h]
theorem node_end {n : Nat} {ts : List Tie} {s : Said} (h : leafN n ts s = none) (h2 : nextN n ts s = none) : nodeN n ts s = none := by
  unfold nodeN nodeF; rw [h, h2]
theorem node_step {n : Nat} {ts : List Tie} {s : Said} {p : Tie} (hs : SaidOk ts s) (h : leafN n ts s = none) (h2 : nextN n ts s = some p) : nodeN n ts s = match nodeN n ts (s ++ [(p, true)]) with
    | none => none
    | some a => match nodeN n ts (s ++ [(p, false)]) with
      | none => none
      | some b => some (.tie p a b) := by
  obtain ⟨hp, hn⟩ := next_mem h2
  have hl := hs.lt hp hn
  obtain ⟨k, hk⟩ : ∃ k, ts.length - s.length = k + 1 := ⟨ts.length - s.length - 1, by omega⟩
  have e : ∀ b : Bool, ts.length - (s ++ [(p, b)]).length = k := fun b => by rw [List.length_append]; simp; omega
  unfold nodeN
  rw [hk, e, e]
  conv => lhs; unfold nodeF
  rw [h, h2]
theorem noTs_nats : ∀ xs : List Nat, noTs (xs.map natD) = true
  | [] => rfl
  | x :: xs => by rw [List.map_cons, noTs, noTs_nats xs]; rfl
theorem noT_trD : ∀ t : Tr, noT (trD t) = true
  | .few _ => rfl
  | .three _ => rfl
  | .ring xs => by
    unfold trD noT noTs noT
    rw [noTs, noTs, noT, noTs_nats]; rfl
  | .tie p a b => by
    unfold trD
    rw [noT, noTs, noTs, noTs, noTs, noTs, noT_trD a, noT_trD b]; rfl
theorem noT_trO (o : Option Tr) : noT (trO o) = true := by
  cases o with
  | none => rfl
  | some t => exact noT_trD t
theorem isNon_tr (t : Tr) : isNonD (trD t) = false := by cases t <;> rfl
def fn_Cases_node (k : Nat) (cc : Addr) := FnP (csEnc cc) (fun a => a.ok ∧ SaidOk a.ts a.s ∧ a.ts.length + 1 ≤ a.s.length + k) (fun a K => K (.dat (trO (nodeN a.n a.ts a.s))))
end Den
namespace Den
open PySem L2 D3 PyProof.Rows
/-- a new tuple of data and a new list -/
def tupOwn1 (C : Addr) (x : Dt) (d1 : List Dt) : SemP where
  p Hs S H v := ∃ t p1 u xs1, v = .ref t ∧ (Hs t = none ∧ Hs p1 = none) ∧ (S t = none ∧ S p1 = none) ∧ H t = some (.tup [u, .ref p1]) ∧ Rp C S u x ∧ H p1 = some (.lst xs1) ∧ RpAll C S xs1 d1
  mv := by
    rintro ρ S0 Hs S H S1 H1 v ks a0 ⟨t, p1, u, xs1, e, ⟨h1, h2⟩, ⟨s1, s2⟩, ht, hu, hp1, r1⟩ a
    exact ⟨t, p1, u, xs1, e, ⟨h1, h2⟩, ⟨a.fr t s1 (by rw [ht]; simp), a.fr p1 s2 (by rw [hp1]; simp)⟩, a.hh t _ (ks.nm h1) ht, Rp.mono a.ss hu, a.hh p1 _ (ks.nm h2) hp1, r1.mono a.ss⟩
  pre := by
    rintro Hs Hr S H v b ⟨t, p1, u, xs1, e, ⟨h1, h2⟩, q⟩
    exact ⟨t, p1, u, xs1, e, ⟨b t h1, b p1 h2⟩, q⟩
section
variable {C : Addr} {ρ : Rsc} {S0 H0 Hs S H S1 H1 S2 H2 : Hp} {v : V} {sl : List Sl} {σ : L2.St} {te tx : TE} {K : Sl → Prop} {F : PySem.W.Frag} {nx bk ct : List Sl → Prop} {rt : Sl → Prop} {tu tv : TS} {i j : Nat}
/-- return (x, xs), the list ours -/
theorem sd_retTup1 {x : Dt} {d1 : List Dt} (e1 : sl[i]? = some (.own d1)) (h : WX C ρ tx sl fun r => r = .dat x ∧ rt (.bcell (tupOwn1 C x d1))) : SD C ρ (tRet (tTup (tCons tx (tCons (tVar i) tNil)))) sl nx rt bk ct := fun S0 H0 S H σ g D _ b _ _ => by
  refine h S0 H0 S H σ g _ fun r S1 H1 u ⟨er, k⟩ a1 ok1 => ?_
  subst er
  have g1 := g.move a1
  obtain ⟨p1, xs1, ev1, h01, hs1, hp1, ra1⟩ := g1.own e1
  refine ⟨_, ev1, Nat.le_trans (show 2 ≤ 100000 by decide) (by rw [sizeLine_eq]; decide), fun t ht => ?_⟩
  have mt := Mv.new g1.k ht (.tup [u, .ref p1])
  have nt1 : p1 ≠ t := ne_of_none hp1 ht
  exact b _ S1 (upd H1 t (.tup [u, .ref p1])) _ k (g1.mv.trans g1.k0 mt) ⟨t, p1, u, xs1, rfl, ⟨g1.mv.back g1.k0 ht, h01⟩, ⟨g1.k.ns ht, hs1⟩, upd_same, ok1, by rw [upd_ne nt1]; exact hp1, ra1⟩
/-- x = f(..), looked at, then its list cleared -/
theorem sd_clear1 {x : Dt} {d1 : List Dt} {tt ta tb : TT} {tA tB : TS} (h : WX C ρ te sl fun r => r = .bcell (tupOwn1 C x d1)) (hi : i < sl.length)
    (hc : TD C ρ tt (sl.set i (.dat (.tup [x, .lst d1]))) false) (ha : TD C ρ ta (sl.set i (.dat (.tup [x, .lst d1]))) false) (hb : TD C ρ tb (sl.set i (.dat (.tup [x, .lst d1]))) false) (hr : nx (sl.set i .any)) :
    SD C ρ (tSeq (tAsg te (gName i)) (tSeq (tIfS tt tu tNext) (tIfS ta tA (tSeq (tIfS tb tB tNext) (tDrop (tBM0 F "list" rClear (tOp (rIxA F) (tVar i) (tC (.int 1))))))))) sl nx rt bk ct := fun S0 H0 S H σ g D a b c d => by
  refine h S0 H0 S H σ g _ fun r S1 H1 v er a1 ok1 => ?_
  subst er
  obtain ⟨t, p1, u, xs1, rfl, ⟨h1, h2⟩, ⟨s1, s2⟩, ht, hu, hp1, r1⟩ := ok1
  have n1 : p1 ≠ t := ne_of hp1 ht (by intro z; cases z)
  have f1 := Mv.freeze g.k a1 h2 hp1
  have f3 := Mv.freeze g.k f1 h1 (p := t) ht
  have ss1 : Same S1 (upd S1 p1 (.lst xs1)) := same_new s2
  have s1' : upd S1 p1 (.lst xs1) t = none := by rw [upd_ne (Ne.symm n1)]; exact s1
  have ss3 : Same (upd S1 p1 (.lst xs1)) (upd (upd S1 p1 (.lst xs1)) t (.tup [u, .ref p1])) := same_new s1'
  have ssA := ss1.trans ss3
  have rp : Rp C (upd (upd S1 p1 (.lst xs1)) t (.tup [u, .ref p1])) (.ref t) (.tup [x, .lst d1]) := by
    refine .tup upd_same (.cons (Rp.mono ssA hu) (.cons (.lst (xs := xs1) ?_ (r1.mono ssA)) .nil))
    rw [upd_ne n1, upd_same]
  have g2 := g.set (i := i) f3 (r := .dat (.tup [x, .lst d1])) rp
  refine hc S0 H0 _ H1 _ g2 _ fun bb S3 H3 eb a3 => ?_
  subst eb
  rw [if_neg (by decide)]
  have g3 := g2.move a3
  refine ha S0 H0 _ H3 _ g3 _ fun bb S4 H4 eb a4 => ?_
  subst eb
  rw [if_neg (by decide)]
  have g4 := g3.move a4
  refine hb S0 H0 _ H4 _ g4 _ fun bb S5 H5 eb a5 => ?_
  subst eb
  rw [if_neg (by decide)]
  have A5 := ((f3.trans g.k a3).trans g.k a4).trans g.k a5
  have hl : i < σ.length := by rw [g.len]; exact hi
  have hσ : (σ.set i (some (V.ref t)))[i]? = some (some (V.ref t)) := List.getElem?_set_self hl
  have kp : ∀ b o, H b = none → H1 b = some o → H5 b = some o := fun b o hb e => a5.hh b o (g.k.nm hb) (a4.hh b o (g.k.nm hb) (a3.hh b o (g.k.nm hb) e))
  have ht3 := kp t _ h1 ht
  have hp13 := kp p1 _ h2 hp1
  refine ⟨_, hσ, .inl (.inr (.inl ⟨t, _, 1, .ref p1, rfl, rfl, SqT.of ht3, atI_nat (j := 1) rfl, .inl ⟨rfl, _, .inl (.inl hp13)⟩, p1, xs1, rfl, rfl, hp13, ?_⟩))⟩
  have m5 := Mv.mut g.k (Mv.shrink g.k A5) h2 (g.k.ns h2) (nt_lst hp13) (o := .lst [])
  exact a _ S _ _ hr (Same.refl S) ((g.move m5).setAny i (some (V.ref t)))
end
/-- the least round told as a new list, or a paper -/
noncomputable def roundP (n : Nat) (ts : List Tie) : Dt := if n < 3 then .tup [.str "small"] else match partN n ts with
  | some p => .tup [.str "parted", .lst (p.map natD)]
  | none => .tup [.str "cases", trO (nodeN n ts [])]
noncomputable def roundS (C : Addr) (n : Nat) (ts : List Tie) : Sl := match (if n < 3 then none else goneN n ts [0]) with
  | some r => .bcell (tupOwn1 C (.str "round") (r.map natD))
  | none => .dat (.tup [.str "none", roundP n ts])
noncomputable def fn_p_round_of (C : Addr) := FnP yEnc (fun a => 1 ≤ a.1 ∧ a.1 ≤ 12 ∧ ValidY a.1 a.2) (fun a K => K (roundS C a.1 a.2))
end Den
namespace Den
open PySem L2 D3
theorem valid_66 {n : Nat} {ts : List Tie} (hv : ValidY n ts) (hn : n ≤ 12) : ts.length ≤ 66 := by
  have h1 := nodup_le_any hv.1 (ys := pairsN n) fun p hp => mem_pairsN.mpr (hv.2 p hp)
  have h2 : ∀ m ≤ 12, (pairsN m).length ≤ 66 := by decide +kernel
  exact Nat.le_trans h1 (h2 n hn)
end Den
namespace Den
open PySem L2 D3
theorem sq_ret1 {C : Addr} {ρ : Rsc} {sl : List Sl} {tx : TE} {nx bk ct : List Sl → Prop} {rt : Sl → Prop} {tr : TS} {i : Nat} {x : Dt} {d1 : List Dt} (e1 : sl[i]? = some (.own d1)) (h : WX C ρ tx sl fun r => r = .dat x ∧ rt (.bcell (tupOwn1 C x d1))) : SD C ρ (tSeq (tRet (tTup (tCons tx (tCons (tVar i) tNil)))) tr) sl nx rt bk ct := sd_seq (sd_retTup1 e1 h)
end Den
/-! The search finds the least round. -/
namespace Den
open PySem L2 D3
/-- all that goes on from a row by k places, in rising order -/
def extA (n : Nat) (ts : List Tie) : Nat → List Nat → List (List Nat)
  | 0, row => [row]
  | k + 1, row => (goN n ts row).flatMap fun p => extA n ts k (row ++ [p])
theorem flatMap_flatMap' {α β γ : Type} (f : α → List β) (g : β → List γ) : ∀ l : List α, (l.flatMap f).flatMap g = l.flatMap fun x => (f x).flatMap g
  | [] => rfl
  | a :: l => by rw [List.flatMap_cons, List.flatMap_append, List.flatMap_cons, flatMap_flatMap' f g l]
theorem extA_snoc (n : Nat) (ts : List Tie) : ∀ (k : Nat) (row : List Nat), extA n ts (k + 1) row = (extA n ts k row).flatMap (extN n ts)
  | 0, row => by
    show (goN n ts row).flatMap (fun p => [row ++ [p]]) = [row].flatMap (extN n ts)
    rw [List.flatMap_singleton]
    unfold extN
    generalize goN n ts row = l
    induction l with
    | nil => rfl
    | cons a l ih => rw [List.flatMap_cons, ih]; rfl
  | k + 1, row => by
    have e : extA n ts (k + 1 + 1) row = (goN n ts row).flatMap fun p => extA n ts (k + 1) (row ++ [p]) := rfl
    have e2 : extA n ts (k + 1) row = (goN n ts row).flatMap fun p => extA n ts k (row ++ [p]) := rfl
    rw [e, e2, flatMap_flatMap']
    congr 1
    funext p
    exact extA_snoc n ts k _
theorem paths_ext (n : Nat) (ts : List Tie) : ∀ k, pathsN n ts k = extA n ts k [0]
  | 0 => rfl
  | k + 1 => by
    show (pathsN n ts k).flatMap (extN n ts) = _
    rw [paths_ext n ts k, extA_snoc]
theorem find_flat {α β : Type} (f : α → List β) (q : β → Bool) : ∀ l : List α, (l.flatMap f).find? q = l.findSome? fun x => (f x).find? q
  | [] => rfl
  | a :: l => by
    rw [List.flatMap_cons, List.find?_append, List.findSome?_cons, find_flat f q l]
    cases (f a).find? q <;> rfl
theorem findSome_filter {α β : Type} (c : α → Bool) (f : α → Option β) : ∀ l : List α, (l.filter c).findSome? f = l.findSome? fun x => if c x = true then f x else none
  | [] => rfl
  | a :: l => by
    rw [List.findSome?_cons]
    cases h : c a with
    | true => rw [List.filter_cons_of_pos h, List.findSome?_cons, findSome_filter c f l, if_pos rfl]
    | false =>
      rw [List.filter_cons_of_neg (by rw [h]; decide), findSome_filter c f l]
      rfl
def closeB (ts : List Tie) (r : List Nat) : Bool := tieB ts (r.getLastD 0) (r.headD 0)
theorem gone_find (n : Nat) (ts : List Tie) : ∀ (k : Nat) (row : List Nat), goneF n ts k row = (extA n ts k row).find? (closeB ts)
  | 0, row => by
    unfold goneF extA closeB
    cases h : tieB ts (row.getLastD 0) (row.headD 0) with
    | true => rw [if_pos rfl, List.find?_singleton]; rw [h]; rfl
    | false => rw [if_neg (by decide), List.find?_singleton]; rw [h]; rfl
  | k + 1, row => by
    have e : extA n ts (k + 1) row = (goN n ts row).flatMap fun p => extA n ts k (row ++ [p]) := rfl
    rw [e, find_flat]
    unfold goN
    rw [findSome_filter]
    unfold goneF nbN
    rw [findSome_filter]
    congr 1
    funext p
    rw [gone_find n ts k]
    cases h1 : tieB ts (row.getLastD 0) p with
    | false => rw [if_neg (by decide), if_neg (by simp)]
    | true =>
      rw [if_pos rfl]
      by_cases h2 : p ∈ row
      · rw [if_pos h2, if_neg (by simp [h2])]
      · rw [if_neg h2, if_pos (by simp [h2])]
theorem first_find {n : Nat} (ts : List Tie) : goneN n ts [0] = (pathsN n ts (n - 1)).find? (closeB ts) := by
  unfold goneN
  rw [gone_find, paths_ext]; rfl
/-! ### rising -/
def ltL : List Nat → List Nat → Prop
  | a :: r, b :: t => a < b ∨ (a = b ∧ ltL r t)
  | _, _ => False
theorem ltL_pre (p : List Nat) {a b : Nat} {r t : List Nat} (h : a < b) : ltL (p ++ a :: r) (p ++ b :: t) := by
  induction p with
  | nil => exact .inl h
  | cons x p ih => exact .inr ⟨rfl, ih⟩
theorem ltL_anti : ∀ {a b : List Nat}, ltL a b → ¬ ltL b a
  | [], _, h => by cases h
  | _ :: _, [], h => by cases h
  | x :: r, y :: t, h => by
    intro h2
    rcases h with h | ⟨rfl, h⟩
    · rcases h2 with h2 | ⟨h2, _⟩ <;> omega
    · rcases h2 with h2 | ⟨_, h2⟩
      · omega
      · exact ltL_anti h h2
theorem ext_pre (n : Nat) (ts : List Tie) : ∀ (k : Nat) (row : List Nat), ∀ r ∈ extA n ts k row, ∃ t, r = row ++ t
  | 0, row, r, h => ⟨[], by rw [List.append_nil]; exact List.mem_singleton.mp h⟩
  | k + 1, row, r, h => by
    obtain ⟨p, _, hr⟩ := List.mem_flatMap.mp h
    obtain ⟨t, rfl⟩ := ext_pre n ts k _ r hr
    exact ⟨p :: t, by simp⟩
theorem ext_up (n : Nat) (ts : List Tie) : ∀ (k : Nat) (row : List Nat), (extA n ts k row).Pairwise ltL
  | 0, row => by simp [extA]
  | k + 1, row => by
    show ((goN n ts row).flatMap fun p => extA n ts k (row ++ [p])).Pairwise ltL
    rw [List.pairwise_flatMap]
    refine ⟨fun p _ => ext_up n ts k _, ?_⟩
    have hup : (goN n ts row).Pairwise (· < ·) := range_filter_lt n _
    refine hup.imp fun {a b} hab x hx y hy => ?_
    obtain ⟨t, rfl⟩ := ext_pre n ts k _ x hx
    obtain ⟨u, rfl⟩ := ext_pre n ts k _ y hy
    rw [List.append_assoc, List.append_assoc]
    exact ltL_pre row hab
theorem paths_up (n : Nat) (ts : List Tie) (k : Nat) : (pathsN n ts k).Pairwise ltL := by rw [paths_ext]; exact ext_up n ts k [0]
theorem rounds_up (n : Nat) (ts : List Tie) : (roundsN n ts).Pairwise ltL := (paths_up n ts _).filter _
end Den
namespace Den
open PySem L2 D3
variable {n : Nat} {ts : List Tie}
theorem ltL_second {a b : List Nat} (h0 : a.headD 0 = b.headD 0) (ha : 2 ≤ a.length) (hb : 2 ≤ b.length) (h : a.getD 1 0 < b.getD 1 0) : ltL a b := by
  match a, b, ha, hb with
  | x :: y :: r, u :: v :: t, _, _ =>
    have e : x = u := by simpa using h0
    subst e
    exact .inr ⟨rfl, .inl h⟩
theorem dir_head (h3 : 3 ≤ n) : (dirN n ts).head? = (dirN n ts).find? fun r => decide (r.getD 1 0 < r.getLastD 0) := by
  have up : (dirN n ts).Pairwise ltL := (paths_up n ts _).filter _
  cases hd : dirN n ts with
  | nil => rfl
  | cons d rest =>
    have hm : d ∈ dirN n ts := by rw [hd]; exact List.mem_cons_self
    obtain ⟨p1, p2, p3⟩ := (mem_dirN (by omega)).mp hm
    have hl : d.length = n := by rw [p1.length_eq, List.length_range]
    have hr : revR d ∈ dirN n ts := (mem_dirN (by omega)).mpr ⟨(revR_perm d).trans p1, by cases d <;> exact p2, by rw [revR_rG]; exact p3⟩
    obtain ⟨q1, q2⟩ := revR_ends (l := d) (by omega)
    have hne := second_last h3 p1
    have hlt : d.getD 1 0 < d.getLastD 0 := by
      refine Decidable.byContradiction fun hc => ?_
      have h2 : d.getLastD 0 < d.getD 1 0 := by omega
      have hlr : (revR d).length = n := by rw [(revR_perm d).length_eq, hl]
      have l1 : ltL (revR d) d := ltL_second (by cases d <;> rfl) (by omega) (by omega) (by rw [q1]; exact h2)
      rw [hd] at hr up
      rcases List.mem_cons.mp hr with e | e
      · rw [e] at q1; omega
      · exact ltL_anti l1 ((List.pairwise_cons.mp up).1 _ e)
    rw [List.find?_cons, decide_eq_true hlt]; rfl
theorem first_least (h3 : 3 ≤ n) : goneN n ts [0] = (roundsN n ts).head? := by
  have e1 : roundsN n ts = (dirN n ts).filter fun r => decide (r.getD 1 0 < r.getLastD 0) := by
    unfold roundsN dirN
    rw [List.filter_filter]
    refine List.filter_congr fun r _ => ?_
    unfold roundL
    rw [decide_eq_true (show 2 < n by omega), Bool.true_and]
  have e2 : (pathsN n ts (n - 1)).find? (closeB ts) = (dirN n ts).head? := by
    unfold dirN
    rw [List.head?_filter]
    have : ∀ l : List (List Nat), (∀ r ∈ l, r.headD 0 = 0) → l.find? (closeB ts) = l.find? fun r => tieB ts (r.getLastD 0) 0 := by
      intro l
      induction l with
      | nil => intro _; rfl
      | cons a l ih =>
        intro h
        rw [List.find?_cons, List.find?_cons, ih fun r hr => h r (List.mem_cons_of_mem _ hr)]
        have : closeB ts a = tieB ts (a.getLastD 0) 0 := by unfold closeB; rw [h a List.mem_cons_self]
        rw [this]
    exact this _ fun r hr => ((mem_pathsN (by omega) _ r).mp hr).2.1
  rw [first_find, e2, dir_head h3, e1, List.head?_filter]
/-- what first_round tells -/
theorem first_none (h1 : 1 ≤ n) : (if n < 3 then none else goneN n ts [0]) = (roundsN n ts).head? := by
  by_cases h3 : n < 3
  · rw [if_pos h3]
    have : roundsN n ts = [] := by
      unfold roundsN
      rw [List.filter_eq_nil_iff]
      intro r _
      unfold roundL
      rw [decide_eq_false (by omega)]; simp
    rw [this]; rfl
  · rw [if_neg h3, first_least (by omega)]
end Den
/-! min of a list of alike data -/
namespace Den
open PySem L2 D3 PyProof.Rows PySem.W
theorem vals_at : ∀ {xs : List V} {us : List Value} {i : Nat} {u : Value}, Vals xs us → us[i]? = some u → ∃ x, xs[i]? = some x ∧ RelV x u
  | _, _, _, _, .nil, e => by simp at e
  | _, _, 0, _, .cons r _, e => by simp at e; subst e; exact ⟨_, rfl, r⟩
  | _, _, i + 1, _, .cons _ rr, e => by simpa using vals_at (i := i) rr (by simpa using e)
def rMinD (F : PySem.W.Frag) : List V → Hp → VK → Prop := fun vs H Q => ∃ (l : Addr) (xs : List V) (d : PyData) (ds : List PyData), vs = [.ref l] ∧ SqL F H l xs ∧ DpAll F H xs (d :: ds) ∧ AlikeAll (d :: ds) ∧ PyData.depthAll (d :: ds) ≤ 60 ∧ (∀ e ∈ d :: ds, e.canLay0 = true) ∧
  ∀ (i : Nat) (x : V), xs[i]? = some x → (d :: ds).getD i .none = minD d ds → i < ds.length + 1 → Q x H
theorem call_minD {X : Cx} (hc : X.calm = true) (hu : X.A.units + 64 < cLine) : CallR X (.builtin "min") (rMinD X.K) := by
  intro pins s σ H xs us Q I r h
  obtain ⟨l, ys, d, ds, rfl, hq, ha, hal, hd, hcl, q⟩ := h
  obtain ⟨u, rfl, rx⟩ := vals1 r
  cases rx
  obtain ⟨its, rv, pl, hz⟩ := I.list hq
  obtain ⟨as, hra⟩ := Dp.readsAll I (d :: ds) ys its ha rv
  refine min_list_data (I.ok.hd hc) pl.isList (by simpa using hra) hal (by omega) fun i v h' tk bs hi hr2 hk => ?_
  have hi' : its[i]? = some v := by simpa using hi
  obtain ⟨x, hx, rvx⟩ := vals_at rv hi'
  obtain ⟨bs0, r0, hlt, hm, _⟩ := readsAll_at hra i v hi'
  have r1 : Reads h' v ((d :: ds).getD i .none) bs0 := reads_keeps hk r0
  have e := (Reads.unique r1 _ _ hr2).1
  exact ⟨x, H, I.kept fun b o e => hk b o e, rvx, q i x hx e (by simpa using hlt)⟩
theorem k_minD {X : Cx} (F : PySem.W.Frag) (h : X.K = F) (hc : X.calm = true) (hu : X.A.units + 64 < cLine) : CallR X (.builtin "min") (rMinD F) := h ▸ call_minD hc hu
end Den
namespace Den
open PySem L2 D3 PyProof.Rows PySem.W
theorem toPy_inj_nats : ∀ {a b : List Nat}, toPys (a.map natD) = toPys (b.map natD) → a = b
  | [], [], _ => rfl
  | [], _ :: _, h => by simp [toPys] at h
  | _ :: _, [], h => by simp [toPys] at h
  | x :: a, y :: b, h => by
    simp only [List.map_cons, toPys, List.cons.injEq] at h
    obtain ⟨h1, h2⟩ := h
    have h1 : (x : Int) = (y : Int) := by
      unfold natD at h1
      simpa [toPy] using h1
    rw [toPy_inj_nats h2, show x = y by omega]
theorem toks_nats (a : Nat) (r : List Nat) : keyToksAll (toPys ((a :: r).map natD)) = Sum.inl 1 :: Sum.inl (a : Int) :: keyToksAll (toPys (r.map natD)) := by
  simp only [List.map_cons, toPys, keyToksAll]
  rfl
theorem lt_rows : ∀ {a b : List Nat}, ltL a b → dataLt (toPy (ordD b)) (toPy (ordD a)) = false
  | [], _, h => by cases h
  | _ :: _, [], h => by cases h
  | x :: r, y :: t, h => by
    show PyProof.Rows.lexLt itemOrd (keyToksAll (toPys ((y :: t).map natD))) (keyToksAll (toPys ((x :: r).map natD))) = false
    rw [toks_nats, toks_nats, lexI, lexI]
    rcases h with h | ⟨rfl, h⟩
    · rw [decide_eq_false (show ¬ (y : Int) < (x : Int) by omega), decide_eq_true (show (x : Int) < (y : Int) by omega)]; rfl
    · have ih : PyProof.Rows.lexLt itemOrd (keyToksAll (toPys (t.map natD))) (keyToksAll (toPys (r.map natD))) = false := lt_rows h
      rw [ih]; simp
theorem alike_nats : ∀ {a b : List Nat}, alikeAll (toPys (a.map natD)) (toPys (b.map natD)) = true
  | [], [] => rfl
  | [], _ :: _ => rfl
  | _ :: _, [] => rfl
  | x :: a, y :: b => by
    simp only [List.map_cons, toPys, alikeAll]
    rw [alike_nats (a := a) (b := b)]; rfl
theorem minD_head {x : PyData} : ∀ {xs : List PyData}, (∀ y ∈ xs, dataLt y x = false) → minD x xs = x
  | [], _ => rfl
  | y :: ys, h => by
    unfold minD
    rw [List.foldl_cons, h y List.mem_cons_self, if_neg (by decide)]
    exact minD_head fun z hz => h z (List.mem_cons_of_mem _ hz)
section
variable {C : Addr} {ρ : Rsc} {sl : List Sl} {ta : TE} {F : PySem.W.Frag} {r1 : Sl}
theorem xminL {x : List Nat} {rows : List (List Nat)} (h : XD C ρ ta sl r1) (e : r1.ls = some ((x :: rows).map ordD)) (hup : (x :: rows).Pairwise ltL) : XD C ρ (tCB (rMinD F) (tCons ta tNil)) sl (.dat (ordD x)) := fun S0 H0 S H σ g Q q => by
  refine h S0 H0 S H σ g _ fun r S1 H1 v er a1 ok1 => ?_
  subst er
  obtain ⟨l, xs, rfl, hl, ra⟩ := ok1.lsD a1.ok e
  have pl : plDs 60 ((x :: rows).map ordD) = true := plDs_all.mpr fun d hd => by
    obtain ⟨r, _, rfl⟩ := List.mem_map.mp hd
    exact plDs_all.mpr fun y hy => by obtain ⟨p, _, rfl⟩ := List.mem_map.mp hy; rfl
  have ed : toPys ((x :: rows).map ordD) = toPy (ordD x) :: toPys (rows.map ordD) := rfl
  have mm : ∀ y ∈ toPys ((x :: rows).map ordD), ∃ r ∈ x :: rows, y = toPy (ordD r) := fun y hy => by
    rw [toPys_map, List.map_map] at hy
    obtain ⟨r, hr, rfl⟩ := List.mem_map.mp hy
    exact ⟨r, hr, rfl⟩
  have al : AlikeAll (toPys ((x :: rows).map ordD)) := by
    refine ⟨fun y hy z hz => ?_, fun y hy => ?_⟩
    · obtain ⟨r, _, rfl⟩ := mm y hy
      obtain ⟨t, _, rfl⟩ := mm z hz
      exact alike_nats
    · obtain ⟨r, _, rfl⟩ := mm y hy
      exact fun z => by cases z
  have dp := plDs_depth pl
  refine ⟨l, xs, toPy (ordD x), toPys (rows.map ordD), rfl, SqL.of hl, RpAll.dp pl (ra.mono a1.ok.sh), al, dp.2, fun y hy => ?_, fun i v hv hm hi => ?_⟩
  · obtain ⟨r, _, rfl⟩ := mm y hy
    exact (plD_depth (n := 60) (d := ordD r) (plDs_all.mpr fun y hy => by obtain ⟨p, _, rfl⟩ := List.mem_map.mp hy; rfl)).1
  · have hmin : minD (toPy (ordD x)) (toPys (rows.map ordD)) = toPy (ordD x) := minD_head fun y hy => by
      rw [toPys_map, List.map_map] at hy
      obtain ⟨r, hr, rfl⟩ := List.mem_map.mp hy
      exact lt_rows ((List.pairwise_cons.mp hup).1 r hr)
    rw [hmin] at hm
    obtain ⟨d, hd, rd⟩ := ra.getV hv
    rw [List.getElem?_map] at hd
    obtain ⟨row, hrow, rfl⟩ := Option.map_eq_some_iff.mp hd
    have hg : (toPys ((x :: rows).map ordD)).getD i .none = toPy (ordD row) := by
      rw [toPys_map, List.map_map, List.getD_eq_getElem?_getD, List.getElem?_map, hrow]; rfl
    rw [ed] at hg
    rw [hg] at hm
    have : row = x := toPy_inj_nats (by
      have := hm
      simpa [ordD, toPy] using this)
    subst this
    exact q _ S1 H1 _ rfl a1 rd
end
end Den
namespace Den
open PySem L2 D3
theorem roundS_plain (C : Addr) (n : Nat) (ts : List Tie) : (roundS C n ts).plain := by
  unfold roundS
  cases (if n < 3 then none else goneN n ts [0]) <;> trivial
theorem roundS_nil {C : Addr} {n : Nat} {ts : List Tie} (h1 : 1 ≤ n) (h : roundsN n ts = []) : roundS C n ts = .dat (.tup [.str "none", roundP n ts]) := by
  unfold roundS
  rw [first_none h1, h]; rfl
theorem roundS_cons {C : Addr} {n : Nat} {ts : List Tie} {r : List Nat} {rest : List (List Nat)} (h1 : 1 ≤ n) (h : roundsN n ts = r :: rest) : roundS C n ts = .bcell (tupOwn1 C (.str "round") (r.map natD)) := by
  unfold roundS
  rw [first_none h1, h]; rfl
theorem roundP_tup (n : Nat) (ts : List Tie) : ∃ xs, roundP n ts = .tup xs := by
  unfold roundP
  split
  · exact ⟨_, rfl⟩
  · split
    · exact ⟨_, rfl⟩
    · exact ⟨_, rfl⟩
theorem eqD_ords_nil (rs : List (List Nat)) : eqD (.lst (rs.map ordD)) (.lst []) = decide (rs = []) := by
  cases rs with
  | nil => rfl
  | cons a r => simp; rfl
end Den
namespace Den
open PySem L2 D3
theorem alD_tup2 {k : Nat} {a b : Dt} (ha : alD k a = true) (hb : alD k b = true) : alD (k + 1) (.tup [a, b]) = true := by
  rw [alD, Bool.and_eq_true]
  refine ⟨decide_eq_true (by show 2 ≤ 100000; decide), ?_⟩
  simp [ha, hb]
end Den
/-! Groups and rounds: a parting shows that there is no round; with fewer ties there are no fewer groups. -/
namespace Den
open PySem L2 D3
open scoped Classical
variable {n : Nat} {ts us : List Tie} {gone : List Nat}
def Apart (n : Nat) (ts : List Tie) (gone : List Nat) (R : List Nat) : Prop := R.Pairwise fun a b => ¬ Cn n ts gone a b
/-- one place of each group -/
theorem reps_of (n : Nat) (ts : List Tie) (gone : List Nat) : ∀ (k : Nat) (l : List Nat), l.length ≤ k → (∀ x ∈ l, x < n ∧ x ∉ gone) → ∃ R : List Nat, R.length = (groupsL n ts gone l).length ∧ (∀ x ∈ R, x ∈ l) ∧ Apart n ts gone R
  | _, [], _, _ => ⟨[], by rw [groupsL]; rfl, fun x hx => (by cases hx), List.Pairwise.nil⟩
  | 0, p :: l, h, _ => by simp at h
  | k + 1, p :: l, h, hs => by
    have hle := offN_le n ts gone p l
    obtain ⟨R, h1, h2, h3⟩ := reps_of n ts gone k (offN n ts gone p l) (by simp at h; omega) fun x hx => hs x (List.mem_cons_of_mem _ (List.mem_filter.mp hx).1)
    refine ⟨p :: R, by rw [groupsL_cons, List.length_cons, List.length_cons, h1], fun x hx => ?_, List.pairwise_cons.mpr ⟨fun x hx => ?_, h3⟩⟩
    · rcases List.mem_cons.mp hx with rfl | hx
      · exact List.mem_cons_self
      · exact List.mem_cons_of_mem _ (List.mem_filter.mp (h2 x hx)).1
    · have := (List.mem_filter.mp (h2 x hx)).2
      simpa using this
theorem stay_ok {x : Nat} (h : x ∈ stayN n gone) : x < n ∧ x ∉ gone := by
  unfold stayN at h
  obtain ⟨h1, h2⟩ := List.mem_filter.mp h
  exact ⟨List.mem_range.mp h1, by simpa using h2⟩
theorem stay_mem {x : Nat} (h : x < n ∧ x ∉ gone) : x ∈ stayN n gone := by
  unfold stayN
  exact List.mem_filter.mpr ⟨List.mem_range.mpr h.1, by simpa using h.2⟩
/-- places apart are no more than the groups -/
theorem apart_le (n : Nat) (ts : List Tie) (gone : List Nat) : ∀ (k : Nat) (l R : List Nat), l.length ≤ k → (∀ x ∈ R, x ∈ l) → (∀ x ∈ l, x < n ∧ x ∉ gone) → Apart n ts gone R → R.length ≤ (groupsL n ts gone l).length
  | _, [], R, _, hm, _, _ => by
    cases R with
    | nil => exact Nat.zero_le _
    | cons a r => exact absurd (hm a List.mem_cons_self) (by simp)
  | 0, p :: l, _, h, _, _, _ => by simp at h
  | k + 1, p :: l, R, h, hm, hs, hA => by
    have hle := offN_le n ts gone p l
    have hp := hs p List.mem_cons_self
    -- those that hang on p are at most one
    have h1 : (R.filter fun x => decide (Cn n ts gone p x)).length ≤ 1 := by
      have pa : (R.filter fun x => decide (Cn n ts gone p x)).Pairwise fun a b => ¬ Cn n ts gone a b := hA.filter _
      cases e : R.filter fun x => decide (Cn n ts gone p x) with
      | nil => simp
      | cons a r =>
        cases r with
        | nil => simp
        | cons b r =>
          rw [e] at pa
          have ha : a ∈ R.filter fun x => decide (Cn n ts gone p x) := by rw [e]; simp
          have hb : b ∈ R.filter fun x => decide (Cn n ts gone p x) := by rw [e]; simp
          have ca : Cn n ts gone p a := by simpa using (List.mem_filter.mp ha).2
          have cb : Cn n ts gone p b := by simpa using (List.mem_filter.mp hb).2
          exact absurd (ca.symm.trans cb) ((List.pairwise_cons.mp pa).1 b List.mem_cons_self)
    have h2 := apart_le n ts gone k (offN n ts gone p l) (R.filter fun x => !decide (Cn n ts gone p x)) (by simp at h; omega) (fun x hx => by
      obtain ⟨hx1, hx2⟩ := List.mem_filter.mp hx
      have hnc : ¬ Cn n ts gone p x := by simpa using hx2
      rcases List.mem_cons.mp (hm x hx1) with rfl | hl
      · exact absurd (Cn.refl hp.1 hp.2) hnc
      · exact List.mem_filter.mpr ⟨hl, hx2⟩) (fun x hx => hs x (List.mem_cons_of_mem _ (List.mem_filter.mp hx).1)) (hA.filter _)
    have h3 := filter_two (fun x => decide (Cn n ts gone p x)) R
    rw [groupsL_cons, List.length_cons]
    omega
theorem Cn.mono (hts : ∀ {x y : Nat}, tieB ts x y = true → tieB us x y = true) {a b : Nat} (h : Cn n ts gone a b) : Cn n us gone a b := by
  induction h with
  | refl h1 h2 => exact .refl h1 h2
  | step _ h1 h2 h3 ih => exact .step ih h1 h2 (hts h3)
/-- fewer ties, no fewer groups -/
theorem groups_mono (hts : ∀ {x y : Nat}, tieB ts x y = true → tieB us x y = true) : (groupsN n us gone).length ≤ (groupsN n ts gone).length := by
  obtain ⟨R, h1, h2, h3⟩ := reps_of n us gone _ (stayN n gone) (Nat.le_refl _) fun x hx => stay_ok hx
  have := apart_le n ts gone _ (stayN n gone) R (Nat.le_refl _) h2 (fun x hx => stay_ok hx) (h3.imp fun h c => h (c.mono hts))
  unfold groupsN
  omega
end Den
namespace Den
open PySem L2 D3
variable {n : Nat} {ts us : List Tie} {gone r : List Nat}
theorem inj_rel {A Q : Nat → Nat → Prop} (h : ∀ x y g, Q x g → Q y g → A x y) : ∀ (R gone : List Nat), R.Pairwise (fun a b => ¬ A a b) → (∀ x ∈ R, ∃ g ∈ gone, Q x g) → R.length ≤ gone.length
  | [], _, _, _ => Nat.zero_le _
  | x :: R, gone, hp, hq => by
    obtain ⟨g, hg, q⟩ := hq x List.mem_cons_self
    obtain ⟨p1, p2⟩ := List.pairwise_cons.mp hp
    have ih := inj_rel h R (gone.erase g) p2 fun y hy => by
      obtain ⟨g', hg', q'⟩ := hq y (List.mem_cons_of_mem _ hy)
      refine ⟨g', (List.mem_erase_of_ne fun e => ?_).mpr hg', q'⟩
      subst e
      exact p1 y hy (h x y g' q q')
    rw [List.length_erase_of_mem hg] at ih
    have := List.length_pos_of_mem hg
    rw [List.length_cons]; omega
theorem least_of {P : Nat → Prop} : ∀ k, P k → ∃ m, m ≤ k ∧ P m ∧ ∀ t, t < m → ¬ P t
  | k, h => by
    by_cases hc : ∃ t, t < k ∧ P t
    · obtain ⟨t, ht, pt⟩ := hc
      obtain ⟨m, h1, h2, h3⟩ := least_of t pt
      exact ⟨m, by omega, h2, h3⟩
    · exact ⟨k, Nat.le_refl _, h, fun t ht pt => hc ⟨t, ht, pt⟩⟩
def cyc (r : List Nat) (i : Nat) : Nat := r.getD (i % r.length) 0
theorem mod_back {L a b : Nat} (hL : 0 < L) (h : (a + 1) % L = (b + 1) % L) : a % L = b % L := by
  have e : ∀ x : Nat, x % L = ((x + 1) % L + (L - 1)) % L := fun x => by
    rw [Nat.mod_add_mod, show x + 1 + (L - 1) = x + L by omega, Nat.add_mod_right]
  rw [e a, e b, h]
theorem cyc_tie (h2 : 2 ≤ r.length) (h : rG ts r = 0) (i : Nat) : tieB ts (cyc r i) (cyc r (i + 1)) = true := by
  unfold rG at h
  have hL : 0 < r.length := by omega
  have hm := Nat.mod_lt i hL
  unfold cyc
  by_cases hc : i % r.length + 1 < r.length
  · have e : (i + 1) % r.length = i % r.length + 1 := by
      rw [← Nat.mod_add_mod, Nat.mod_eq_of_lt hc]
    rw [e]
    exact cG_at (by omega) _ hc
  · have e1 : i % r.length = r.length - 1 := by omega
    have e : (i + 1) % r.length = 0 := by
      rw [← Nat.mod_add_mod, e1, show r.length - 1 + 1 = r.length by omega, Nat.mod_self]
    rw [e, e1, getD_lastD, getD_headD]
    have : g1 ts (r.getLastD 0) (r.headD 0) = 0 := by omega
    unfold g1 at this
    split at this
    · assumption
    · omega
theorem cyc_lt (hp : r.Perm (List.range n)) (hn : 1 ≤ n) (i : Nat) : cyc r i < n := by
  have hl : r.length = n := by rw [hp.length_eq, List.length_range]
  have hi : i % r.length < r.length := Nat.mod_lt i (by omega)
  have e : r[i % r.length]? = some (cyc r i) := get_some hi
  exact List.mem_range.mp (hp.mem_iff.mp (List.mem_of_getElem? e))
theorem cyc_all (hp : r.Perm (List.range n)) {x : Nat} (hx : x < n) : ∃ i, i < n ∧ cyc r i = x := by
  have hl : r.length = n := by rw [hp.length_eq, List.length_range]
  obtain ⟨i, hi⟩ := List.getElem?_of_mem (hp.mem_iff.mpr (List.mem_range.mpr hx))
  have hlt := (List.getElem?_eq_some_iff.mp hi).1
  refine ⟨i, by omega, ?_⟩
  unfold cyc
  rw [Nat.mod_eq_of_lt hlt, List.getD_eq_getElem?_getD, hi]; rfl
theorem cyc_chain (hp : r.Perm (List.range n)) (hn : 2 ≤ n) (h : rG ts r = 0) (a : Nat) : ∀ m, (∀ t, t ≤ m → cyc r (a + t) ∉ gone) → Cn n ts gone (cyc r a) (cyc r (a + m))
  | 0, hg => .refl (cyc_lt hp (by omega) a) (hg 0 (Nat.le_refl _))
  | m + 1, hg => .step (cyc_chain hp hn h a m fun t ht => hg t (by omega)) (cyc_lt hp (by omega) _) (hg (m + 1) (Nat.le_refl _)) (cyc_tie (by rw [hp.length_eq, List.length_range]; omega) h (a + m))
/-- where there is a round there are no more groups than places that go -/
theorem round_groups (hn : 2 ≤ n) (hr : r ∈ dirN n ts) {g : Nat} (hg : g ∈ gone) (hgn : g < n) : (groupsN n ts gone).length ≤ gone.length := by
  obtain ⟨hp, _, h0⟩ := (mem_dirN (by omega)).mp hr
  have hl : r.length = n := by rw [hp.length_eq, List.length_range]
  have nd : r.Nodup := hp.nodup_iff.mpr List.nodup_range
  obtain ⟨R, h1, h2, h3⟩ := reps_of n ts gone _ (stayN n gone) (Nat.le_refl _) fun x hx => stay_ok hx
  unfold groupsN
  rw [← h1]
  refine inj_rel (A := Cn n ts gone) (Q := fun x g => ∃ a, cyc r (a + 1) = g ∧ Cn n ts gone x (cyc r a)) (fun x y g ⟨a, ea, ca⟩ ⟨b, eb, cb⟩ => ?_) R gone h3 fun x hx => ?_
  · have hL : 0 < r.length := by omega
    have e1 : r[(a + 1) % r.length]? = some (cyc r (a + 1)) := get_some (Nat.mod_lt _ hL)
    have e2 : r[(b + 1) % r.length]? = some (cyc r (b + 1)) := get_some (Nat.mod_lt _ hL)
    rw [ea] at e1; rw [eb] at e2
    have em := (List.getElem?_inj (i := (a + 1) % r.length) (Nat.mod_lt _ hL) nd).mp (e1.trans e2.symm)
    have e3 : cyc r a = cyc r b := by unfold cyc; rw [mod_back hL em]
    rw [e3] at ca
    exact ca.trans cb.symm
  · obtain ⟨hxn, hxg⟩ := stay_ok (h2 x hx)
    obtain ⟨i, hi, ei⟩ := cyc_all hp hxn
    obtain ⟨j, hj, ej⟩ := cyc_all hp hgn
    have hP : cyc r (i + (j + n - i)) ∈ gone := by
      rw [show i + (j + n - i) = j + r.length by omega]
      unfold cyc at ej ⊢
      rw [Nat.add_mod_right, ej]; exact hg
    obtain ⟨m, _, hm, hmin⟩ := least_of (P := fun k => cyc r (i + k) ∈ gone) _ hP
    have m0 : m ≠ 0 := fun z => by
      subst z
      rw [Nat.add_zero, ei] at hm
      exact hxg hm
    obtain ⟨k, rfl⟩ : ∃ k, m = k + 1 := ⟨m - 1, by omega⟩
    refine ⟨_, hm, i + k, rfl, ?_⟩
    have := cyc_chain (gone := gone) hp hn h0 i k fun t ht => hmin t (by omega)
    rw [ei] at this
    exact this
end Den
namespace Den
open PySem L2 D3
variable {n : Nat} {ts us : List Tie} {gone r : List Nat}
theorem dir_of_gaps (h3 : 3 ≤ n) (hp : r.Perm (List.range n)) (hg : gapsN ts r = []) : dirN n ts ≠ [] := by
  have hl : r.length = n := by rw [hp.length_eq, List.length_range]
  have hne : r ≠ [] := fun z => by rw [z] at hl; simp at hl; omega
  have h0 : rG ts r = 0 := by rw [← gaps_rG ts hne, hg]; rfl
  obtain ⟨p, q, e⟩ := List.append_of_mem (hp.mem_iff.mpr (List.mem_range.mpr (show 0 < n by omega)))
  have hm : (0 :: q) ++ p ∈ dirN n ts := (mem_dirN (by omega)).mpr ⟨(List.perm_append_comm).trans (e ▸ hp), rfl, by rw [← rG_rot, ← e]; exact h0⟩
  exact List.ne_nil_of_mem hm
theorem gaps_of_dir (h1 : 1 ≤ n) (hr : r ∈ dirN n ts) : r.Perm (List.range n) ∧ gapsN ts r = [] := by
  obtain ⟨hp, _, h0⟩ := (mem_dirN h1).mp hr
  have hl : r.length = n := by rw [hp.length_eq, List.length_range]
  have hne : r ≠ [] := fun z => by rw [z] at hl; simp at hl; omega
  refine ⟨hp, List.eq_nil_of_length_eq_zero ?_⟩
  rw [gaps_rG ts hne]; exact h0
theorem cl_sub (n : Nat) : ∀ us : List Tie, ∀ p ∈ us, p ∈ clN n us := closing_ind (fun us h p hp => by rw [clN_none h]; exact hp) fun us q h ih p hp => by
  rw [clN_some h]
  exact ih p (List.mem_append_left _ hp)
theorem cl_add (n : Nat) : ∀ us : List Tie, clN n us = us ++ addN n us := closing_ind (fun us h => by rw [clN_none h, addN_none h, List.append_nil]) fun us q h ih => by
  rw [clN_some h, addN_some h, ih, List.append_assoc]; rfl
/-- the closed yard has a round just where the yard has one -/
theorem cl_dir (h3 : 3 ≤ n) (hv : ValidY n ts) : dirN n (clN n ts) = [] ↔ dirN n ts = [] := by
  constructor
  · intro h
    refine Decidable.byContradiction fun hc => ?_
    obtain ⟨r, hr⟩ := List.exists_mem_of_ne_nil _ hc
    obtain ⟨p1, p2, p3⟩ := (mem_dirN (by omega)).mp hr
    have : r ∈ dirN n (clN n ts) := (mem_dirN (by omega)).mpr ⟨p1, p2, rG_mono (cl_sub n ts) p3⟩
    rw [h] at this; cases this
  · intro h
    refine Decidable.byContradiction fun hc => ?_
    obtain ⟨r, hr⟩ := List.exists_mem_of_ne_nil _ hc
    obtain ⟨hp, hg⟩ := gaps_of_dir (by omega) hr
    obtain ⟨fs, row, _, h1, h2⟩ := openW_ok h3 hp ts hv hg
    exact dir_of_gaps h3 h1 h2 h
theorem rounds_dir (h3 : 3 ≤ n) : roundsN n ts = [] ↔ dirN n ts = [] := by
  have := dir_rounds (ts := ts) h3
  constructor
  · intro h; rw [h] at this; exact List.eq_nil_of_length_eq_zero (by simpa using this)
  · intro h; rw [h] at this; exact List.eq_nil_of_length_eq_zero (by simp at this; omega)
theorem count_pos (h3 : 3 ≤ n) : 0 < countZ n ts ↔ dirN n ts ≠ [] := by
  rw [count_rounds]
  constructor
  · intro h z
    rw [(rounds_dir h3).mpr z] at h; simp at h
  · intro h
    have : roundsN n ts ≠ [] := fun z => h ((rounds_dir h3).mp z)
    have := List.length_pos_iff.mpr this
    omega
theorem cl_count (h3 : 3 ≤ n) (hv : ValidY n ts) : decide (0 < countZ n ts) = decide (0 < countZ n (clN n ts)) := decide_eq_decide.mpr (by rw [count_pos h3, count_pos h3]; exact not_congr (cl_dir h3 hv).symm)
theorem tie_sub {ts us : List Tie} (h : ∀ p ∈ ts, p ∈ us) {x y : Nat} (e : tieB ts x y = true) : tieB us x y = true := by
  unfold tieB at e ⊢
  exact decide_eq_true (h _ (of_decide_eq_true e))
/-- a parting of the closed yard parts the yard, and there is no round -/
theorem cl_part {p : List Nat} (h3 : 3 ≤ n) (hv : ValidY n ts) (h : partN n (clN n ts) = some p) : p.length < (groupsN n ts p).length ∧ dirN n ts = [] := by
  obtain ⟨k, k1, k2, S, hb⟩ := partN_ok h
  have hb : p.length < (groupsN n (clN n ts) p).length := of_decide_eq_true hb
  have hm := groups_mono (n := n) (ts := ts) (us := clN n ts) (gone := p) (fun {x y} e => tie_sub (cl_sub n ts) e)
  refine ⟨by omega, (cl_dir h3 hv).mp (Decidable.byContradiction fun hc => ?_)⟩
  obtain ⟨r, hr⟩ := List.exists_mem_of_ne_nil _ hc
  have hl := S.len
  obtain ⟨g, hg⟩ := List.exists_mem_of_length_pos (l := p) (by omega)
  have := round_groups (by omega) hr hg (S.lt g hg)
  omega
end Den
namespace Den
open PySem L2 D3
/-- .. as data for good -/
theorem xtold1 {C : Addr} {ρ : Rsc} {sl : List Sl} {te : TE} {x : Dt} {d1 : List Dt} (h : XD C ρ te sl (.bcell (tupOwn1 C x d1))) : XD C ρ te sl (.dat (.tup [x, .lst d1])) := fun S0 H0 S H σ g Q q => by
  refine h S0 H0 S H σ g _ fun r S1 H1 v er a1 ok1 => ?_
  subst er
  obtain ⟨t, p1, u, xs1, rfl, ⟨h1, h2⟩, ⟨s1, s2⟩, ht, hu, hp1, r1⟩ := ok1
  have n1 : p1 ≠ t := ne_of hp1 ht (by intro z; cases z)
  have f3 := Mv.freeze g.k (Mv.freeze g.k a1 h2 hp1) h1 (p := t) ht
  have ss1 : Same S1 (upd S1 p1 (.lst xs1)) := same_new s2
  have s1' : upd S1 p1 (.lst xs1) t = none := by rw [upd_ne (Ne.symm n1)]; exact s1
  have ssA := ss1.trans (same_new (o := .tup [u, .ref p1]) s1')
  refine q _ _ H1 _ rfl f3 (.tup upd_same (.cons (Rp.mono ssA hu) (.cons (.lst (xs := xs1) ?_ (r1.mono ssA)) .nil)))
  rw [upd_ne n1, upd_same]
end Den
namespace Den
open PySem L2 D3
/-! ### the text by places -/
def top (i : Nat) : Stmt := PySem.Challenge.pw_denseround_k13_first_round.main.body.getD i (.Pass ⟨0, 0, 0, 0⟩)
abbrev s_l_dice : Stmt := top 21
abbrev N_l_dice : List Str := ["_law_script", "_law_k", "_law_found", "_law_cell"]
theorem sc_l_dice : FnScope N_l_dice ["_law_script", "_law_k"] (defScope s_l_dice) := ⟨rfl, rfl, rfl, by decide +kernel, rfl, by decide +kernel, by decide +kernel⟩
abbrev s_l_off : Stmt := top 22
abbrev N_l_off : List Str := ["_law_d", "_law_most", "_law_found"]
theorem sc_l_off : FnScope N_l_off ["_law_d", "_law_most"] (defScope s_l_off) := ⟨rfl, rfl, rfl, by decide +kernel, rfl, by decide +kernel, by decide +kernel⟩
abbrev s_l_pairs : Stmt := top 24
abbrev N_l_pairs : List Str := ["_law_many", "_law_found", "_law_one", "_law_other"]
theorem sc_l_pairs : FnScope N_l_pairs ["_law_many"] (defScope s_l_pairs) := ⟨rfl, rfl, rfl, by decide +kernel, rfl, by decide +kernel, by decide +kernel⟩
abbrev s_l_mixed : Stmt := top 25
abbrev N_l_mixed : List Str := ["_law_d", "_law_row", "_law_left", "_law_found"]
theorem sc_l_mixed : FnScope N_l_mixed ["_law_d", "_law_row"] (defScope s_l_mixed) := ⟨rfl, rfl, rfl, by decide +kernel, rfl, by decide +kernel, by decide +kernel⟩
abbrev s_l_yard : Stmt := top 26
abbrev N_l_yard : List Str := ["_law_d", "_law_least", "_law_most", "_law_many", "_law_way", "_law_ties", "_law_pair", "_law_half", "_law_middle", "_law_sides", "_law_place"]
theorem sc_l_yard : FnScope N_l_yard ["_law_d", "_law_least", "_law_most"] (defScope s_l_yard) := ⟨rfl, rfl, rfl, by decide +kernel, rfl, by decide +kernel, by decide +kernel⟩
abbrev s_l_ringed : Stmt := top 30
abbrev N_l_ringed : List Str := ["_law_d", "_law_many", "_law_names", "_law_ties", "_law_k", "_law_one", "_law_other", "_law_pair", "_law_sides", "_law_place"]
theorem sc_l_ringed : FnScope N_l_ringed ["_law_d"] (defScope s_l_ringed) := ⟨rfl, rfl, rfl, by decide +kernel, rfl, by decide +kernel, by decide +kernel⟩
abbrev s_Yard_init : Stmt := inClass (top 19) 0
abbrev N_Yard_init : List Str := ["self", "many", "ties", "place", "at", "one", "other"]
theorem sc_Yard_init : FnScope N_Yard_init ["self", "many", "ties"] (defScope s_Yard_init) := ⟨rfl, rfl, rfl, by decide +kernel, rfl, by decide +kernel, by decide +kernel⟩
abbrev s_l_made : Stmt := top 27
abbrev N_l_made : List Str := ["_law_t"]
theorem sc_l_made : FnScope N_l_made ["_law_t"] (defScope s_l_made) := ⟨rfl, rfl, rfl, by decide +kernel, rfl, by decide +kernel, by decide +kernel⟩
abbrev s_l_tied : Stmt := top 28
abbrev N_l_tied : List Str := ["_law_t", "_law_one", "_law_other"]
theorem sc_l_tied : FnScope N_l_tied ["_law_t", "_law_one", "_law_other"] (defScope s_l_tied) := ⟨rfl, rfl, rfl, by decide +kernel, rfl, by decide +kernel, by decide +kernel⟩
abbrev s_l_rounds : Stmt := top 29
abbrev N_l_rounds : List Str := ["_law_t", "_law_rows", "_law_turn", "_law_more", "_law_row", "_law_place"]
theorem sc_l_rounds : FnScope N_l_rounds ["_law_t"] (defScope s_l_rounds) := ⟨rfl, rfl, rfl, by decide +kernel, rfl, by decide +kernel, by decide +kernel⟩
abbrev s_Yard_many : Stmt := inClass (top 19) 1
abbrev N_Yard_many : List Str := ["self"]
theorem sc_Yard_many : FnScope N_Yard_many ["self"] (defScope s_Yard_many) := ⟨rfl, rfl, rfl, by decide +kernel, rfl, by decide +kernel, by decide +kernel⟩
abbrev s_p_need_few : Stmt := top 9
abbrev N_p_need_few : List Str := ["yard"]
theorem sc_p_need_few : FnScope N_p_need_few ["yard"] (defScope s_p_need_few) := ⟨rfl, rfl, rfl, by decide +kernel, rfl, by decide +kernel, by decide +kernel⟩
abbrev s_Yard_is_tied : Stmt := inClass (top 19) 3
abbrev N_Yard_is_tied : List Str := ["self", "one", "other"]
theorem sc_Yard_is_tied : FnScope N_Yard_is_tied ["self", "one", "other"] (defScope s_Yard_is_tied) := ⟨rfl, rfl, rfl, by decide +kernel, rfl, by decide +kernel, by decide +kernel⟩
abbrev s_p_gone_on : Stmt := top 15
abbrev N_p_gone_on : List Str := ["yard", "row", "bad", "key", "place", "found"]
theorem sc_p_gone_on : FnScope N_p_gone_on ["yard", "row", "bad"] (defScope s_p_gone_on) := ⟨rfl, rfl, rfl, by decide +kernel, rfl, by decide +kernel, by decide +kernel⟩
abbrev s_p_first_round : Stmt := top 14
abbrev N_p_first_round : List Str := ["yard", "many"]
theorem sc_p_first_round : FnScope N_p_first_round ["yard"] (defScope s_p_first_round) := ⟨rfl, rfl, rfl, by decide +kernel, rfl, by decide +kernel, by decide +kernel⟩
abbrev s_p_sets_of : Stmt := top 11
abbrev N_p_sets_of : List Str := ["many", "size", "found", "turn", "longer", "row", "begin", "place"]
theorem sc_p_sets_of : FnScope N_p_sets_of ["many", "size"] (defScope s_p_sets_of) := ⟨rfl, rfl, rfl, by decide +kernel, rfl, by decide +kernel, by decide +kernel⟩
abbrev s_p_groups_without : Stmt := top 10
abbrev N_p_groups_without : List Str := ["yard", "gone", "seen", "place", "found", "group", "at", "more", "other"]
theorem sc_p_groups_without : FnScope N_p_groups_without ["yard", "gone"] (defScope s_p_groups_without) := ⟨rfl, rfl, rfl, by decide +kernel, rfl, by decide +kernel, by decide +kernel⟩
abbrev s_p_parting : Stmt := top 12
abbrev N_p_parting : List Str := ["yard", "size", "places"]
theorem sc_p_parting : FnScope N_p_parting ["yard"] (defScope s_p_parting) := ⟨rfl, rfl, rfl, by decide +kernel, rfl, by decide +kernel, by decide +kernel⟩
abbrev s_Cases_init : Stmt := inClass (top 2) 0
abbrev N_Cases_init : List Str := ["self", "yard"]
theorem sc_Cases_init : FnScope N_Cases_init ["self", "yard"] (defScope s_Cases_init) := ⟨rfl, rfl, rfl, by decide +kernel, rfl, by decide +kernel, by decide +kernel⟩
abbrev s_Yard_ties : Stmt := inClass (top 19) 2
abbrev N_Yard_ties : List Str := ["self"]
theorem sc_Yard_ties : FnScope N_Yard_ties ["self"] (defScope s_Yard_ties) := ⟨rfl, rfl, rfl, by decide +kernel, rfl, by decide +kernel, by decide +kernel⟩
abbrev s_Cases_ties_at : Stmt := inClass (top 2) 1
abbrev N_Cases_ties_at : List Str := ["self", "place", "words", "found", "tie"]
theorem sc_Cases_ties_at : FnScope N_Cases_ties_at ["self", "place", "words"] (defScope s_Cases_ties_at) := ⟨rfl, rfl, rfl, by decide +kernel, rfl, by decide +kernel, by decide +kernel⟩
abbrev s_Cases_is_few : Stmt := inClass (top 2) 2
abbrev N_Cases_is_few : List Str := ["self", "place"]
theorem sc_Cases_is_few : FnScope N_Cases_is_few ["self", "place"] (defScope s_Cases_is_few) := ⟨rfl, rfl, rfl, by decide +kernel, rfl, by decide +kernel, by decide +kernel⟩
abbrev s_Cases_is_three : Stmt := inClass (top 2) 3
abbrev N_Cases_is_three : List Str := ["self", "place"]
theorem sc_Cases_is_three : FnScope N_Cases_is_three ["self", "place"] (defScope s_Cases_is_three) := ⟨rfl, rfl, rfl, by decide +kernel, rfl, by decide +kernel, by decide +kernel⟩
abbrev s_Cases_ring_at : Stmt := inClass (top 2) 5
abbrev N_Cases_ring_at : List Str := ["self", "place", "row", "goes", "tie", "other"]
theorem sc_Cases_ring_at : FnScope N_Cases_ring_at ["self", "place"] (defScope s_Cases_ring_at) := ⟨rfl, rfl, rfl, by decide +kernel, rfl, by decide +kernel, by decide +kernel⟩
abbrev s_Cases_is_ring : Stmt := inClass (top 2) 4
abbrev N_Cases_is_ring : List Str := ["self", "places", "k", "one", "other"]
theorem sc_Cases_is_ring : FnScope N_Cases_is_ring ["self", "places"] (defScope s_Cases_is_ring) := ⟨rfl, rfl, rfl, by decide +kernel, rfl, by decide +kernel, by decide +kernel⟩
abbrev s_Cases_leaf : Stmt := inClass (top 2) 6
abbrev N_Cases_leaf : List Str := ["self", "place", "ring"]
theorem sc_Cases_leaf : FnScope N_Cases_leaf ["self"] (defScope s_Cases_leaf) := ⟨rfl, rfl, rfl, by decide +kernel, rfl, by decide +kernel, by decide +kernel⟩
abbrev s_Cases_next_tie : Stmt := inClass (top 2) 7
abbrev N_Cases_next_tie : List Str := ["self", "best", "place", "free", "key"]
theorem sc_Cases_next_tie : FnScope N_Cases_next_tie ["self"] (defScope s_Cases_next_tie) := ⟨rfl, rfl, rfl, by decide +kernel, rfl, by decide +kernel, by decide +kernel⟩
abbrev s_Cases_node : Stmt := inClass (top 2) 8
abbrev N_Cases_node : List Str := ["self", "found", "tie", "nodes", "word", "node"]
theorem sc_Cases_node : FnScope N_Cases_node ["self"] (defScope s_Cases_node) := ⟨rfl, rfl, rfl, by decide +kernel, rfl, by decide +kernel, by decide +kernel⟩
abbrev s_p_round_of : Stmt := top 16
abbrev N_p_round_of : List Str := ["yard", "order", "places"]
theorem sc_p_round_of : FnScope N_p_round_of ["yard"] (defScope s_p_round_of) := ⟨rfl, rfl, rfl, by decide +kernel, rfl, by decide +kernel, by decide +kernel⟩
abbrev s_l_alike : Stmt := top 23
abbrev N_l_alike : List Str := ["_law_found", "_law_due", "_law_name", "_law_k"]
theorem sc_l_alike : FnScope N_l_alike ["_law_found", "_law_due"] (defScope s_l_alike) := ⟨rfl, rfl, rfl, by decide +kernel, rfl, by decide +kernel, by decide +kernel⟩
abbrev s_law : Stmt := top 31
abbrev N_law : List Str := ["_law_script", "_law_d", "_law_t", "_law_yard_here", "_law_rounds_here", "_law_turn", "_law_found"]
theorem sc_law : FnScope N_law ["_law_script"] (defScope s_law) := ⟨rfl, rfl, rfl, by decide +kernel, rfl, by decide +kernel, by decide +kernel⟩
/-! ### what the top leaves: where each thing stands -/
structure Adr where
  C_Cases : Addr
  C : Addr
  a_l_dice : Addr
  fd_l_dice : FuncData
  a_l_off : Addr
  fd_l_off : FuncData
  a_l_pairs : Addr
  fd_l_pairs : FuncData
  a_l_mixed : Addr
  fd_l_mixed : FuncData
  a_l_yard : Addr
  fd_l_yard : FuncData
  a_l_ringed : Addr
  fd_l_ringed : FuncData
  a_Yard_init : Addr
  fd_Yard_init : FuncData
  a_l_made : Addr
  fd_l_made : FuncData
  a_l_tied : Addr
  fd_l_tied : FuncData
  a_l_rounds : Addr
  fd_l_rounds : FuncData
  a_Yard_many : Addr
  fd_Yard_many : FuncData
  a_p_need_few : Addr
  fd_p_need_few : FuncData
  a_Yard_is_tied : Addr
  fd_Yard_is_tied : FuncData
  a_p_gone_on : Addr
  fd_p_gone_on : FuncData
  a_p_first_round : Addr
  fd_p_first_round : FuncData
  a_p_sets_of : Addr
  fd_p_sets_of : FuncData
  a_p_groups_without : Addr
  fd_p_groups_without : FuncData
  a_p_parting : Addr
  fd_p_parting : FuncData
  a_Cases_init : Addr
  fd_Cases_init : FuncData
  a_Yard_ties : Addr
  fd_Yard_ties : FuncData
  a_Cases_ties_at : Addr
  fd_Cases_ties_at : FuncData
  a_Cases_is_few : Addr
  fd_Cases_is_few : FuncData
  a_Cases_is_three : Addr
  fd_Cases_is_three : FuncData
  a_Cases_ring_at : Addr
  fd_Cases_ring_at : FuncData
  a_Cases_is_ring : Addr
  fd_Cases_is_ring : FuncData
  a_Cases_leaf : Addr
  fd_Cases_leaf : FuncData
  a_Cases_next_tie : Addr
  fd_Cases_next_tie : FuncData
  a_Cases_node : Addr
  fd_Cases_node : FuncData
  a_p_round_of : Addr
  fd_p_round_of : FuncData
  a_l_alike : Addr
  fd_l_alike : FuncData
  a_law : Addr
  fd_law : FuncData
  t_MOST_PLACES_parting : Tok
  t_MOST_PLACES_yards : Tok
structure Txt (K : PySem.W.Frag) (mg : Str → Option Value) (A : Adr) : Prop where
  cl_Cases : Cls K A.C_Cases
  g_Cases : mg "Cases" = some (.ref A.C_Cases)
  M_Cases : Mk K A.C_Cases A.a_Cases_init
  cl : Cls K A.C
  g_Yard : mg "Yard" = some (.ref A.C)
  M_Yard : Mk K A.C A.a_Yard_init
  nS : NoAttr K A.C "size"
  nK : NoAttr K A.C "kept"
  nN : NoAttr K A.C "near"
  nY : NoAttr K A.C_Cases "yard"
  nD : NoAttr K A.C_Cases "said"
  F_l_dice : Fun K "_law_dice" "_law_dice" s_l_dice A.a_l_dice A.fd_l_dice
  B_l_dice : Binds K A.fd_l_dice ["_law_script", "_law_k"] []
  g_l_dice : mg "_law_dice" = some (.ref A.a_l_dice)
  F_l_off : Fun K "_law_off" "_law_off" s_l_off A.a_l_off A.fd_l_off
  B_l_off : Binds K A.fd_l_off ["_law_d", "_law_most"] []
  g_l_off : mg "_law_off" = some (.ref A.a_l_off)
  F_l_pairs : Fun K "_law_pairs" "_law_pairs" s_l_pairs A.a_l_pairs A.fd_l_pairs
  B_l_pairs : Binds K A.fd_l_pairs ["_law_many"] []
  g_l_pairs : mg "_law_pairs" = some (.ref A.a_l_pairs)
  F_l_mixed : Fun K "_law_mixed" "_law_mixed" s_l_mixed A.a_l_mixed A.fd_l_mixed
  B_l_mixed : Binds K A.fd_l_mixed ["_law_d", "_law_row"] []
  g_l_mixed : mg "_law_mixed" = some (.ref A.a_l_mixed)
  F_l_yard : Fun K "_law_yard" "_law_yard" s_l_yard A.a_l_yard A.fd_l_yard
  B_l_yard : Binds K A.fd_l_yard ["_law_d", "_law_least", "_law_most"] []
  g_l_yard : mg "_law_yard" = some (.ref A.a_l_yard)
  F_l_ringed : Fun K "_law_ringed" "_law_ringed" s_l_ringed A.a_l_ringed A.fd_l_ringed
  B_l_ringed : Binds K A.fd_l_ringed ["_law_d"] []
  g_l_ringed : mg "_law_ringed" = some (.ref A.a_l_ringed)
  F_Yard_init : Fun K "__init__" "Yard.__init__" s_Yard_init A.a_Yard_init A.fd_Yard_init
  B_Yard_init : Binds K A.fd_Yard_init ["self", "many", "ties"] []
  F_l_made : Fun K "_law_made" "_law_made" s_l_made A.a_l_made A.fd_l_made
  B_l_made : Binds K A.fd_l_made ["_law_t"] []
  g_l_made : mg "_law_made" = some (.ref A.a_l_made)
  F_l_tied : Fun K "_law_tied" "_law_tied" s_l_tied A.a_l_tied A.fd_l_tied
  B_l_tied : Binds K A.fd_l_tied ["_law_t", "_law_one", "_law_other"] []
  g_l_tied : mg "_law_tied" = some (.ref A.a_l_tied)
  F_l_rounds : Fun K "_law_rounds" "_law_rounds" s_l_rounds A.a_l_rounds A.fd_l_rounds
  B_l_rounds : Binds K A.fd_l_rounds ["_law_t"] []
  g_l_rounds : mg "_law_rounds" = some (.ref A.a_l_rounds)
  F_Yard_many : Fun K "many" "Yard.many" s_Yard_many A.a_Yard_many A.fd_Yard_many
  B_Yard_many : Binds K A.fd_Yard_many ["self"] []
  m_Yard_many : Meth K A.C "many" A.a_Yard_many
  F_p_need_few : Fun K "need_few" "need_few" s_p_need_few A.a_p_need_few A.fd_p_need_few
  B_p_need_few : Binds K A.fd_p_need_few ["yard"] []
  g_p_need_few : mg "need_few" = some (.ref A.a_p_need_few)
  F_Yard_is_tied : Fun K "is_tied" "Yard.is_tied" s_Yard_is_tied A.a_Yard_is_tied A.fd_Yard_is_tied
  B_Yard_is_tied : Binds K A.fd_Yard_is_tied ["self", "one", "other"] []
  m_Yard_is_tied : Meth K A.C "is_tied" A.a_Yard_is_tied
  F_p_gone_on : Fun K "gone_on" "gone_on" s_p_gone_on A.a_p_gone_on A.fd_p_gone_on
  B_p_gone_on : Binds K A.fd_p_gone_on ["yard", "row", "bad"] []
  g_p_gone_on : mg "gone_on" = some (.ref A.a_p_gone_on)
  F_p_first_round : Fun K "first_round" "first_round" s_p_first_round A.a_p_first_round A.fd_p_first_round
  B_p_first_round : Binds K A.fd_p_first_round ["yard"] []
  g_p_first_round : mg "first_round" = some (.ref A.a_p_first_round)
  F_p_sets_of : Fun K "sets_of" "sets_of" s_p_sets_of A.a_p_sets_of A.fd_p_sets_of
  B_p_sets_of : Binds K A.fd_p_sets_of ["many", "size"] []
  g_p_sets_of : mg "sets_of" = some (.ref A.a_p_sets_of)
  F_p_groups_without : Fun K "groups_without" "groups_without" s_p_groups_without A.a_p_groups_without A.fd_p_groups_without
  B_p_groups_without : Binds K A.fd_p_groups_without ["yard", "gone"] []
  g_p_groups_without : mg "groups_without" = some (.ref A.a_p_groups_without)
  F_p_parting : Fun K "parting" "parting" s_p_parting A.a_p_parting A.fd_p_parting
  B_p_parting : Binds K A.fd_p_parting ["yard"] []
  g_p_parting : mg "parting" = some (.ref A.a_p_parting)
  F_Cases_init : Fun K "__init__" "Cases.__init__" s_Cases_init A.a_Cases_init A.fd_Cases_init
  B_Cases_init : Binds K A.fd_Cases_init ["self", "yard"] []
  F_Yard_ties : Fun K "ties" "Yard.ties" s_Yard_ties A.a_Yard_ties A.fd_Yard_ties
  B_Yard_ties : Binds K A.fd_Yard_ties ["self"] []
  m_Yard_ties : Meth K A.C "ties" A.a_Yard_ties
  F_Cases_ties_at : Fun K "ties_at" "Cases.ties_at" s_Cases_ties_at A.a_Cases_ties_at A.fd_Cases_ties_at
  B_Cases_ties_at : Binds K A.fd_Cases_ties_at ["self", "place", "words"] []
  m_Cases_ties_at : Meth K A.C_Cases "ties_at" A.a_Cases_ties_at
  F_Cases_is_few : Fun K "is_few" "Cases.is_few" s_Cases_is_few A.a_Cases_is_few A.fd_Cases_is_few
  B_Cases_is_few : Binds K A.fd_Cases_is_few ["self", "place"] []
  m_Cases_is_few : Meth K A.C_Cases "is_few" A.a_Cases_is_few
  F_Cases_is_three : Fun K "is_three" "Cases.is_three" s_Cases_is_three A.a_Cases_is_three A.fd_Cases_is_three
  B_Cases_is_three : Binds K A.fd_Cases_is_three ["self", "place"] []
  m_Cases_is_three : Meth K A.C_Cases "is_three" A.a_Cases_is_three
  F_Cases_ring_at : Fun K "ring_at" "Cases.ring_at" s_Cases_ring_at A.a_Cases_ring_at A.fd_Cases_ring_at
  B_Cases_ring_at : Binds K A.fd_Cases_ring_at ["self", "place"] []
  m_Cases_ring_at : Meth K A.C_Cases "ring_at" A.a_Cases_ring_at
  F_Cases_is_ring : Fun K "is_ring" "Cases.is_ring" s_Cases_is_ring A.a_Cases_is_ring A.fd_Cases_is_ring
  B_Cases_is_ring : Binds K A.fd_Cases_is_ring ["self", "places"] []
  m_Cases_is_ring : Meth K A.C_Cases "is_ring" A.a_Cases_is_ring
  F_Cases_leaf : Fun K "leaf" "Cases.leaf" s_Cases_leaf A.a_Cases_leaf A.fd_Cases_leaf
  B_Cases_leaf : Binds K A.fd_Cases_leaf ["self"] []
  m_Cases_leaf : Meth K A.C_Cases "leaf" A.a_Cases_leaf
  F_Cases_next_tie : Fun K "next_tie" "Cases.next_tie" s_Cases_next_tie A.a_Cases_next_tie A.fd_Cases_next_tie
  B_Cases_next_tie : Binds K A.fd_Cases_next_tie ["self"] []
  m_Cases_next_tie : Meth K A.C_Cases "next_tie" A.a_Cases_next_tie
  F_Cases_node : Fun K "node" "Cases.node" s_Cases_node A.a_Cases_node A.fd_Cases_node
  B_Cases_node : Binds K A.fd_Cases_node ["self"] []
  m_Cases_node : Meth K A.C_Cases "node" A.a_Cases_node
  F_p_round_of : Fun K "round_of" "round_of" s_p_round_of A.a_p_round_of A.fd_p_round_of
  B_p_round_of : Binds K A.fd_p_round_of ["yard"] []
  g_p_round_of : mg "round_of" = some (.ref A.a_p_round_of)
  F_l_alike : Fun K "_law_alike" "_law_alike" s_l_alike A.a_l_alike A.fd_l_alike
  B_l_alike : Binds K A.fd_l_alike ["_law_found", "_law_due"] []
  g_l_alike : mg "_law_alike" = some (.ref A.a_l_alike)
  F_law : Fun K "law" "law" s_law A.a_law A.fd_law
  B_law : Binds K A.fd_law ["_law_script"] []
  g_law : mg "law" = some (.ref A.a_law)
  c_MOST_PLACES_parting : mg "MOST_PLACES_parting" = some (.int 12 A.t_MOST_PLACES_parting)
  c_MOST_PLACES_yards : mg "MOST_PLACES_yards" = some (.int 30 A.t_MOST_PLACES_yards)
  b_abs : mg "abs" = none
  b_all : mg "all" = none
  b_bool : mg "bool" = none
  b_dict : mg "dict" = none
  b_int : mg "int" = none
  b_isinstance : mg "isinstance" = none
  b_len : mg "len" = none
  b_list : mg "list" = none
  b_max : mg "max" = none
  b_min : mg "min" = none
  b_range : mg "range" = none
  b_set : mg "set" = none
  b_sorted : mg "sorted" = none
  b_str : mg "str" = none
  b_tuple : mg "tuple" = none
section
variable {P : Program} {w : World} {K : PySem.W.Frag} {mg : Str → Option Value} {base : Heap} {A : Adr}
theorem ok_l_dice (T : Txt K mg A) : FnOk P w K mg base CX0 1 A.a_l_dice A.fd_l_dice ["_law_script", "_law_k"] (spDice K) := by
  refine T.F_l_dice.ok sc_l_dice (fun vs H Q E h => by obtain ⟨a, ns, rfl, _⟩ := h; rfl) (fun cdv A' outer s H vs Q E hr h => ⟨_, (pss_cons (ps_set (i := 2) sc_l_dice.nd rfl (by first | exact Or.inl rfl | exact Or.inr rfl) (pv 1))
 (pss_cons (ps_for PassesOwn.never rfl (pi_list (pv 0)) (pg_name (i := 3) sc_l_dice.nd rfl (by first | exact Or.inl rfl | exact Or.inr rfl)) (pss_one (ps_set (i := 2) sc_l_dice.nd rfl (by first | exact Or.inl rfl | exact Or.inr rfl) (pe_op op_mod (pe_op (k_plus K rfl) (pe_op op_times (pv 2) pe_int) (pe_callB call_absA (by rfl) T.b_abs (by decide +kernel) (pa_cons (pv 3) pa_nil))) pe_int))))
 (pss_one (ps_ret (pe_op (k_plus K rfl) (pe_lst (pa_cons (pv 2) (pa_cons pe_int pa_nil))) (pe_lc (own := [("_law_cell", 3)]) (g := gName 3) rfl sc_l_dice.nd (pi_list (pv 0)) (blkOk_by (own := [("_law_cell", 3)]) (N := N_l_dice) (sc := defScope s_l_dice) (by decide +kernel)) (fun _ _ _ _ _ => pg_name (i := 3) sc_l_dice.nd rfl (Or.inl rfl)) (fun _ _ _ _ _ => (pts_one (pt_cmpR op_ge (pv 3) (pe_op op_pow pe_int pe_int) (nomark _)))) (fun _ _ _ _ _ => (pv 3)))))))), ?_⟩)
  obtain ⟨a, ns, rfl, hS, hl, q⟩ := h
  refine ⟨_, rfl, _, rfl, a, rfl, ⟨_, hS⟩, ?_⟩
  refine for_list (K := K) (a := a) (xs := ns.map V.int) (fun i σ H' => H' = H ∧ ∃ (f : Int) (v : Option V), σ = [some (.ref a), some (.int 0), some (.int f), v] ∧ 0 ≤ f ∧ f < 2147483647) ⟨rfl, 0, none, rfl, by decide, by decide⟩ (fun i σ H' _ ⟨e, _⟩ => by rw [e]; exact hS) ?_ ?_
  · rintro i x σ H' hx ⟨rfl, f, v, rfl, f0, f1⟩
    obtain ⟨u, rfl⟩ : ∃ u, x = V.int u := by
      obtain ⟨u, _, e⟩ := List.mem_map.mp (List.mem_of_getElem? hx)
      exact ⟨u, e.symm⟩
    refine ⟨_, rfl, .inl ⟨_, _, rfl, rfl, .inr ⟨by decide, by decide⟩, _, rfl, _, rfl, .inl ⟨_, _, rfl, rfl, _, _, rfl, rfl, (by show (0 : Int) < 2147483647; decide), ?_⟩⟩⟩
    exact ⟨rfl, _, _, rfl, Int.emod_nonneg _ (by decide), Int.emod_lt_of_pos _ (by decide)⟩
  · rintro σ H' ⟨rfl, f, v, rfl, f0, f1⟩
    refine ⟨_, rfl, Nat.le_of_ble_eq_true rfl, fun p hp => ⟨_, rfl, a, rfl, ⟨_, (same_new hp).seq hS⟩, fun D hD => ?_⟩⟩
    refine lc_list (K := K) (a := a) (xs := ns.map V.int) (fun i H'' => ∃ rs : List Int, H'' = upd (upd H' p (.lst [.int f, .int 0])) D (.lst (rs.map V.int)) ∧ (∀ z ∈ rs, 0 < z) ∧ rs.length ≤ i) ⟨[], rfl, by simp, Nat.le_refl _⟩ (fun i H'' _ ⟨rs, e, _⟩ => by rw [e]; exact ((same_new hp).trans (same_new hD)).seq hS) ?_ ?_
    · rintro i x H'' hx ⟨rs, rfl, hr2, hl2⟩
      obtain ⟨u, rfl⟩ : ∃ u, x = V.int u := by
        obtain ⟨u, _, e⟩ := List.mem_map.mp (List.mem_of_getElem? hx)
        exact ⟨u, e.symm⟩
      have hi : i < ns.length := by
        have := (List.getElem?_eq_some_iff.mp hx).1
        rwa [List.length_map] at this
      refine ⟨wipe_ext (ks := [3]) (by simp [wipe_length]) (by simp) (fun j hj => by rw [List.getElem?_set_ne]; intro e; exact hj (by simp [e])), ?_⟩
      refine ⟨_, rfl, _, _, rfl, rfl, ⟨by decide, by decide, by decide⟩, _, _, rfl, rfl, _, rfl, ?_⟩
      by_cases hu : (10 : Int) ^ (18 : Int).toNat ≤ u
      · refine ifp (decide_eq_true hu) ⟨_, rfl, _, upd_same, by rw [List.length_map, sizeLine_eq]; omega, rs ++ [u], ?_, ?_, by rw [List.length_append]; simpa using hl2⟩
        · rw [upd_upd, List.map_append]; rfl
        · intro z hz
          rcases List.mem_append.mp hz with h | h
          · exact hr2 z h
          · obtain rfl := List.mem_singleton.mp h
            have : (0 : Int) < (10 : Int) ^ (18 : Int).toNat := by decide
            omega
      · exact ifn (decide_eq_false hu) ⟨rs, rfl, hr2, Nat.le_succ_of_le hl2⟩
    · rintro H'' ⟨rs, rfl, hr2, hl2⟩
      rw [List.length_map] at hl2
      have pD : p ≠ D := fun z => by subst z; rw [upd_same] at hD; cases hD
      refine .inr (.inl ⟨p, D, _, _, rfl, rfl, by rw [upd_ne pD]; exact upd_same, upd_same, by rw [List.length_map, sizeLine_eq]; simp; omega, fun z hz => ?_⟩)
      have s1 := ((same_new (o := .lst [.int f, .int 0]) hp).trans (same_new (o := .lst (rs.map V.int)) hD))
      refine q z _ _ ?_ (s1.trans (same_new hz)) upd_same ⟨f, 0, rs, rfl, f0, f1, by decide, hr2⟩
      cases e : H' z with
      | none => rfl
      | some o => rw [s1 z o e] at hz; cases hz

theorem ok_l_off (T : Txt K mg A) : FnOk P w K mg base CX0 1 A.a_l_off A.fd_l_off ["_law_d", "_law_most"] (spR A.C fn_l_off) := by
  refine T.F_l_off.ok sc_l_off (fun vs H Q E h => lenR (fun _ => rfl) h) (fun cdv A' outer s H vs Q E hr h => ⟨_, (pss_cons (ps_if (PW.pt (pw_and (pt_cmpR (k_eq K rfl hr.units) (pe_ix (k_ix K rfl (hu_of hr)) (pv 0) pe_int (fun _ _ => rfl)) pe_int (nomark _)) (pw_and1 (pt_cmpR op_gt (pe_callB (k_len K rfl) (by rfl) T.b_len (by decide +kernel) (pa_cons (pv 0) pa_nil)) pe_int (nomark _))))) (pss_one (ps_asg (pe_bm PySem.F.plainAttrs_list PySem.F.slot_list_pop PySem.F.type_list_pop mt_popAt (pv 0) (pa_cons pe_int pa_nil)) (pg_sub (pv 0) pe_int (set_any (hu_of hr))))) pss_nil)
 (pss_cons (ps_if (pt_cmpR op_gt (pe_ix (k_ix K rfl (hu_of hr)) (pv 0) pe_int (fun _ _ => rfl)) pe_int (nomark _)) (pss_cons (ps_set (i := 2) sc_l_off.nd rfl (by first | exact Or.inl rfl | exact Or.inr rfl) (pe_op op_mod (pe_ix (k_ix K rfl (hu_of hr)) (pv 0) pe_int (fun _ _ => rfl)) (pv 1)))
 (pss_cons (ps_asg (pe_op op_fdivW (pe_ix (k_ix K rfl (hu_of hr)) (pv 0) pe_int (fun _ _ => rfl)) (pv 1)) (pg_sub (pv 0) pe_int (set_any (hu_of hr))))
 (pss_one (ps_ret (pv 2))))) pss_nil)
 (pss_cons (ps_asg (pe_op op_mod (pe_op (k_plus K rfl) (pe_op op_times (pe_ix (k_ix K rfl (hu_of hr)) (pv 0) pe_int (fun _ _ => rfl)) pe_int) pe_int) pe_int) (pg_sub (pv 0) pe_int (set_any (hu_of hr))))
 (pss_one (ps_ret (pe_op op_mod (pe_op op_fdivW (pe_ix (k_ix K rfl (hu_of hr)) (pv 0) pe_int (fun _ _ => rfl)) pe_int) (pv 1))))))), ?_⟩)
  obtain ⟨a, rest, S, ds, Kq, rfl, ok, ra, ⟨m, rfl, ⟨h0, h1⟩, hk⟩, k⟩ := h
  obtain ⟨xs, ha, f, x, rs, rfl, f0, f1, x0, hrs⟩ := ok.r
  obtain rfl : rest = [.int (m : Int)] := by
    cases ra with
    | cons h r => cases r; cases h; rfl
  have fin : ∀ (H2 : Hp) (f x : Int) (rs : List Int) (r : Int), (∀ b, b ≠ a → H2 b = H b) → H2 a = some (.lst (.int f :: .int x :: rs.map V.int)) → 0 ≤ f → f < 2147483647 → 0 ≤ x → (∀ z ∈ rs, 0 < z) → Q (.int (r % (m : Int))) H2 := by
    intro H2 f x rs r g1 g2 f0 f1 x0 g3
    obtain ⟨r', e, hr'⟩ := emod_nat (x := r) (m := (m : Int)) (by omega)
    rw [e]
    exact k _ S H2 _ (hk r' (by omega)) (die_mv ok g1 g2 ⟨f, x, rs, rfl, f0, f1, x0, g3⟩) (.int _)
  refine ix_die1 rfl ha (.inl ⟨rfl, _, rfl, ?_⟩)
  cases rs with
  | nil =>
    by_cases hx : x = 0
    · refine ifp (by rw [dec_int_eq]; exact decide_eq_true hx) ?_
      refine ⟨_, rfl, .inl ⟨_, 2, rfl, .inl ⟨_, SqL.of ha, rfl⟩, _, _, rfl, rfl, _, rfl, ?_⟩⟩
      refine ifn rfl ?_
      exact off2 h0 h1 fin H f x [] (fun _ _ => rfl) ha f0 f1 x0 hrs
    · refine ifn (by rw [dec_int_eq]; exact decide_eq_false hx) ?_
      refine ifn rfl ?_
      exact off2 h0 h1 fin H f x [] (fun _ _ => rfl) ha f0 f1 x0 hrs
  | cons z zs =>
    by_cases hx : x = 0
    · refine ifp (by rw [dec_int_eq]; exact decide_eq_true hx) ?_
      refine ⟨_, rfl, .inl ⟨_, zs.length + 3, rfl, .inl ⟨_, SqL.of ha, by simp⟩, _, _, rfl, rfl, _, rfl, ?_⟩⟩
      refine ifp (decide_eq_true (by omega)) ?_
      have e3 : (V.int f :: V.int x :: (z :: zs).map V.int).length = zs.length + 3 := by simp
      refine ⟨_, rfl, .inl ⟨rfl, _, .inl (.inl ha)⟩, a, _, 2, 2, .int z, rfl, rfl, ha, by decide, by decide, by rw [e3]; exact seq_nat (k := 2) (by omega), rfl, ?_⟩
      refine ⟨_, rfl, .inl ⟨a, _, 1, 1, rfl, rfl, upd_same, ?_, ?_⟩⟩
      · exact ixN_of (j := 1) (by rw [List.length_eraseIdx_of_lt (by rw [e3]; omega), e3]; omega)
      · refine off2 h0 h1 fin _ f z zs (fun b hb => by rw [upd_ne hb, upd_ne hb]) ?_ f0 f1 (by have := hrs z (List.mem_cons_self); omega) (fun y hy => hrs y (List.mem_cons_of_mem _ hy))
        rw [upd_same]; rfl
    · refine ifn (by rw [dec_int_eq]; exact decide_eq_false hx) ?_
      refine ifn rfl ?_
      exact off2 h0 h1 fin H f x (z :: zs) (fun _ _ => rfl) ha f0 f1 x0 hrs

theorem ok_l_pairs (T : Txt K mg A) : FnOk P w K mg base CX0 1 A.a_l_pairs A.fd_l_pairs ["_law_many"] (spD A.C fn_l_pairs) := by
  refine T.F_l_pairs.ok sc_l_pairs (fun vs H Q E h => lenP (fun _ => rfl) h) (fun cdv A' outer s H vs Q E hr h => ⟨_, (pss_cons (ps_set (i := 1) sc_l_pairs.nd rfl (by first | exact Or.inl rfl | exact Or.inr rfl) (pe_lst pa_nil))
 (pss_cons (ps_for PassesOwn.never rfl (pi_range1 rfl T.b_range (pa_cons (pv 0) pa_nil)) (pg_name (i := 2) sc_l_pairs.nd rfl (by first | exact Or.inl rfl | exact Or.inr rfl)) (pss_one (ps_set (i := 1) sc_l_pairs.nd rfl (by first | exact Or.inl rfl | exact Or.inr rfl) (pe_op (k_plus K rfl) (pv 1) (pe_lc (own := [("_law_other", 3)]) (g := gName 3) rfl sc_l_pairs.nd (pi_range2 rfl T.b_range (pa_cons (pe_op (k_plus K rfl) (pv 2) pe_int) (pa_cons (pv 0) pa_nil))) (blkOk_by (own := [("_law_other", 3)]) (N := N_l_pairs) (sc := defScope s_l_pairs) (by decide +kernel)) (fun _ _ _ _ _ => pg_name (i := 3) sc_l_pairs.nd rfl (Or.inl rfl)) (fun _ _ _ _ _ => pts_nil) (fun _ _ _ _ _ => (pe_tup (pa_cons (pv 2) (pa_cons (pv 3) pa_nil)))))))))
 (pss_one (ps_ret (pv 1))))), enterP (N := N_l_pairs) (fun _ => Nat.le_of_ble_eq_true rfl) (fun a Kq hp hk => ?_) h⟩)
  have hn : a ≤ 30 := hp
  refine sq_set (XD.w xlst0 ?_)
  refine sd_seq (sd_forR1 (ks := [2]) (XD.w xv ⟨a, rfl, by omega, by omega, fun i sl => ∃ x y ds, sl = [.dat (.int (a : Int)), .own ds, x, y] ∧ ds = (pairsTo a i).map tieD, ⟨_, _, _, rfl, rfl⟩, ?_, ?_⟩))
  · rintro i sl hi ⟨x, y, _, rfl, rfl⟩
    have hl := pairsTo_len30 (n := a) (i := i) hn (by omega)
    refine gd_name (sd_set (XD.w (xcat xv (xlcR2 (ks := [3]) (by decide) (xadd xv xi) xv (lo := i + 1) (hi := a) rfl rfl (fun _ => true) (fun b => tieD (i, b)) (by omega) (by omega) ?_) rfl rfl ?_) ?_))
    · intro b h1 h2
      exact gd_name ⟨tdy, fun _ => (xtup2 xv xv).w rfl⟩
    · rw [List.length_map, pairRow, List.length_map, List.length_map, List.length_range']; omega
    · refine ⟨_, _, _, rfl, ?_⟩
      rw [pairRow, ← List.map_append, ← pairsTo_succ]
  · rintro sl ⟨x, y, _, rfl, rfl⟩
    exact sd_retOwn (i := 1) rfl hk

theorem ok_l_mixed (T : Txt K mg A) : FnOk P w K mg base CX0 2 A.a_l_mixed A.fd_l_mixed ["_law_d", "_law_row"] (spR A.C fn_l_mixed) := by
  refine T.F_l_mixed.ok sc_l_mixed (fun vs H Q E h => lenR (fun _ => rfl) h) (fun cdv A' outer s H vs Q E hr h => ⟨_, (pss_cons (ps_set (i := 2) sc_l_mixed.nd rfl (by first | exact Or.inl rfl | exact Or.inr rfl) (pe_callTy (k_list K rfl) (by rfl) T.b_list (by decide +kernel) (pa_cons (pv 1) pa_nil)))
 (pss_cons (ps_set (i := 3) sc_l_mixed.nd rfl (by first | exact Or.inl rfl | exact Or.inr rfl) (pe_lst pa_nil))
 (pss_cons (ps_while PassesOwn.never (pt_cmpR (k_ne K rfl hr.units) (pv 2) (pe_lst pa_nil) (nomark _)) (pss_one (ps_expr (pe_bm PySem.F.plainAttrs_list PySem.F.slot_list_append PySem.F.type_list_append mt_append (pv 3) (pa_cons (pe_bm PySem.F.plainAttrs_list PySem.F.slot_list_pop PySem.F.type_list_pop mt_popAt (pv 2) (pa_cons (pe_call (ok_l_off T) (hr.mono (by decide)) (by rfl) T.g_l_off T.F_l_off.kp T.B_l_off .nil pass0 (pa_cons (pv 0) (pa_cons (pe_callB (k_len K rfl) (by rfl) T.b_len (by decide +kernel) (pa_cons (pv 2) pa_nil)) pa_nil))) pa_nil)) pa_nil)))))
 (pss_one (ps_ret (pv 3)))))), enterRP (N := N_l_mixed) (fun _ => Nat.le_of_ble_eq_true rfl) (fun die a Kq hp hk => ?_) h⟩)
  obtain ⟨hl, hpl⟩ := hp
  refine sq_set (XD.w (xlist xv rfl) ?_)
  refine sq_set (XD.w xlst0 ?_)
  refine sd_cut (fun sl => ∃ found, sl = [.raw (.ref die), .dat (.lst a), .own [], .own found] ∧ found.Perm a) (sd_while (fun m sl => ∃ left found, sl = [.raw (.ref die), .dat (.lst a), .own left, .own found] ∧ m = left.length ∧ (found ++ left).Perm a) a.length ⟨a, [], rfl, rfl, List.Perm.refl _⟩ ?_) ?_
  · rintro m sl ⟨left, found, rfl, rfl, hpm⟩
    have hlen : found.length + left.length = a.length := by rw [← List.length_append]; exact hpm.length_eq
    have hpl' : plDs 60 left = true := plDs_all.mpr fun x hx => plDs_all.mp hpl x (hpm.subset (List.mem_append_right _ hx))
    refine TD.w (tdt (xne xv xlst0 rfl rfl (plD_mono (n := 61) (by decide) (by rw [plD]; exact hpl')) rfl)) ?_
    rw [eqD_lst_nil]
    by_cases he : left = []
    · subst he
      refine ifn (by simp) ⟨found, rfl, by rw [List.append_nil] at hpm; exact hpm⟩
    · refine ifp (by simp [he]) ?_
      have hpos : 0 < left.length := by cases left with
        | nil => exact absurd rfl he
        | cons => simp
      refine sd_appendPop (i := 2) (j := 3) (by decide) rfl rfl (by omega) (by omega) (xclR left.length (ac xv (ac (xlen xv rfl) an)) rfl ⟨hpos, by omega⟩ fun r hr => ?_)
      have hd : left[r]? = some left[r] := by rw [List.getElem?_eq_getElem hr]
      refine ⟨r, left[r], rfl, hd, left.length - 1, by omega, left.eraseIdx r, found ++ [left[r]], rfl, ?_, ?_⟩
      · rw [List.length_eraseIdx_of_lt hr]
      · refine List.Perm.trans ?_ hpm
        rw [List.append_assoc]
        exact (perm_eraseIdx hd).append_left found
  · rintro sl ⟨found, rfl, hf⟩
    exact sd_retOwn (i := 3) rfl (hk found hf)

theorem ok_l_yard (T : Txt K mg A) : FnOk P w K mg base CX0 3 A.a_l_yard A.fd_l_yard ["_law_d", "_law_least", "_law_most"] (spR A.C fn_l_yard) := by
  refine T.F_l_yard.ok sc_l_yard (fun vs H Q E h => lenR (fun _ => rfl) h) (fun cdv A' outer s H vs Q E hr h => ⟨_, (pss_cons (ps_set (i := 3) sc_l_yard.nd rfl (by first | exact Or.inl rfl | exact Or.inr rfl) (pe_op (k_plus K rfl) (pv 1) (pe_call (ok_l_off T) (hr.mono (by decide)) (by rfl) T.g_l_off T.F_l_off.kp T.B_l_off .nil pass0 (pa_cons (pv 0) (pa_cons (pe_op (k_plus K rfl) (pe_op op_sub (pv 2) (pv 1)) pe_int) pa_nil)))))
 (pss_cons (ps_set (i := 4) sc_l_yard.nd rfl (by first | exact Or.inl rfl | exact Or.inr rfl) (pe_call (ok_l_off T) (hr.mono (by decide)) (by rfl) T.g_l_off T.F_l_off.kp T.B_l_off .nil pass0 (pa_cons (pv 0) (pa_cons pe_int pa_nil))))
 (pss_cons (ps_setLc (i := 5) (own := [("_law_pair", 6)]) (g := gName 6) rfl sc_l_yard.nd rfl rfl (sw_true rfl rfl rfl (by decide +kernel)) (pi_list (pe_call (ok_l_pairs T) (hr.mono (by decide)) (by rfl) T.g_l_pairs T.F_l_pairs.kp T.B_l_pairs .nil pass0 (pa_cons (pv 3) pa_nil))) (blkOk_by (own := [("_law_pair", 6)]) (N := N_l_yard) (sc := defScope s_l_yard) (by decide +kernel)) (fun _ _ _ _ _ => pg_name (i := 6) sc_l_yard.nd rfl (Or.inl rfl)) (fun _ _ _ _ _ => (pts_one (pt_cmpR op_lt (pe_call (ok_l_off T) (hr.mono (by decide)) (by rfl) T.g_l_off T.F_l_off.kp T.B_l_off .nil pass0 (pa_cons (pv 0) (pa_cons pe_int pa_nil))) (pe_ix (k_ix K rfl (hu_of hr)) (pe_lst (pa_cons pe_int (pa_cons pe_int (pa_cons pe_int (pa_cons pe_int (pa_cons pe_int (pa_cons pe_int (pa_cons pe_int pa_nil)))))))) (pv 4) (fun _ _ => rfl)) (nomark _)))) (fun _ _ _ _ _ => (pv 6)))
 (pss_cons (ps_if (pt_cmpR (k_eq K rfl hr.units) (pv 4) pe_int (nomark _)) (pss_one (ps_set (i := 5) sc_l_yard.nd rfl (by first | exact Or.inl rfl | exact Or.inr rfl) (pe_slice (k_sl K rfl) (pe_call (ok_l_mixed T) (hr.mono (by decide)) (by rfl) T.g_l_mixed T.F_l_mixed.kp T.B_l_mixed .nil pass0 (pa_cons (pv 0) (pa_cons (pv 5) pa_nil))) (po_some (pe_call (ok_l_off T) (hr.mono (by decide)) (by rfl) T.g_l_off T.F_l_off.kp T.B_l_off .nil pass0 (pa_cons (pv 0) (pa_cons pe_int pa_nil)))) po_none))) pss_nil)
 (pss_cons (ps_if (pt_cmpR (k_eq K rfl hr.units) (pv 4) pe_int (nomark _)) (pss_cons (ps_set (i := 7) sc_l_yard.nd rfl (by first | exact Or.inl rfl | exact Or.inr rfl) (pe_op op_fdivW (pv 3) pe_int))
 (pss_one (ps_setLc (i := 5) (own := [("_law_pair", 6)]) (g := gName 6) rfl sc_l_yard.nd rfl rfl (sw_true rfl rfl rfl (by decide +kernel)) (pi_list (pe_call (ok_l_pairs T) (hr.mono (by decide)) (by rfl) T.g_l_pairs T.F_l_pairs.kp T.B_l_pairs .nil pass0 (pa_cons (pv 3) pa_nil))) (blkOk_by (own := [("_law_pair", 6)]) (N := N_l_yard) (sc := defScope s_l_yard) (by decide +kernel)) (fun _ _ _ _ _ => pg_name (i := 6) sc_l_yard.nd rfl (Or.inl rfl)) (fun _ _ _ _ _ => (pts_one (PW.pt (pw_and (pt_cmpR op_lt (pe_ix (k_ix K rfl (hu_of hr)) (pv 6) pe_int (fun _ _ => rfl)) (pv 7) (nomark _)) (pw_and1 (pt_cmpR op_ge (pe_ix (k_ix K rfl (hu_of hr)) (pv 6) pe_int (fun _ _ => rfl)) (pe_op op_sub (pv 7) (pe_call (ok_l_off T) (hr.mono (by decide)) (by rfl) T.g_l_off T.F_l_off.kp T.B_l_off .nil pass0 (pa_cons (pv 0) (pa_cons pe_int pa_nil)))) (nomark _))))))) (fun _ _ _ _ _ => (pv 6))))) pss_nil)
 (pss_cons (ps_if (pt_cmpR (k_eq K rfl hr.units) (pv 4) pe_int (nomark _)) (pss_cons (ps_set (i := 8) sc_l_yard.nd rfl (by first | exact Or.inl rfl | exact Or.inr rfl) (pe_call (ok_l_off T) (hr.mono (by decide)) (by rfl) T.g_l_off T.F_l_off.kp T.B_l_off .nil pass0 (pa_cons (pv 0) (pa_cons (pv 3) pa_nil))))
 (pss_cons (ps_set (i := 9) sc_l_yard.nd rfl (by first | exact Or.inl rfl | exact Or.inr rfl) (pe_lc (own := [("_law_place", 10)]) (g := gName 10) rfl sc_l_yard.nd (pi_range1 rfl T.b_range (pa_cons (pv 3) pa_nil)) (blkOk_by (own := [("_law_place", 10)]) (N := N_l_yard) (sc := defScope s_l_yard) (by decide +kernel)) (fun _ _ _ _ _ => pg_name (i := 10) sc_l_yard.nd rfl (Or.inl rfl)) (fun _ _ _ _ _ => pts_nil) (fun _ _ _ _ _ => (pe_call (ok_l_off T) (hr.mono (by decide)) (by rfl) T.g_l_off T.F_l_off.kp T.B_l_off .nil pass0 (pa_cons (pv 0) (pa_cons pe_int pa_nil))))))
 (pss_one (ps_setLc (i := 5) (own := [("_law_pair", 6)]) (g := gName 6) rfl sc_l_yard.nd rfl rfl (sw_true rfl rfl rfl (by decide +kernel)) (pi_list (pe_call (ok_l_pairs T) (hr.mono (by decide)) (by rfl) T.g_l_pairs T.F_l_pairs.kp T.B_l_pairs .nil pass0 (pa_cons (pv 3) pa_nil))) (blkOk_by (own := [("_law_pair", 6)]) (N := N_l_yard) (sc := defScope s_l_yard) (by decide +kernel)) (fun _ _ _ _ _ => pg_name (i := 6) sc_l_yard.nd rfl (Or.inl rfl)) (fun _ _ _ _ _ => (pts_one (PW.pt (pw_or (pt_cmpR (k_in K rfl hr) (pv 8) (pv 6) (by rfl)) (pw_or1 (pt_cmpR (k_eq K rfl hr.units) (pe_ix (k_ix K rfl (hu_of hr)) (pv 9) (pe_ix (k_ix K rfl (hu_of hr)) (pv 6) pe_int (fun _ _ => rfl)) (fun _ _ => rfl)) (pe_ix (k_ix K rfl (hu_of hr)) (pv 9) (pe_ix (k_ix K rfl (hu_of hr)) (pv 6) pe_int (fun _ _ => rfl)) (fun _ _ => rfl)) (nomark _))))))) (fun _ _ _ _ _ => (pv 6)))))) pss_nil)
 (pss_one (ps_ret (pe_tup (pa_cons (pv 3) (pa_cons (pe_call (ok_l_mixed T) (hr.mono (by decide)) (by rfl) T.g_l_mixed T.F_l_mixed.kp T.B_l_mixed .nil pass0 (pa_cons (pv 0) (pa_cons (pv 5) pa_nil))) pa_nil))))))))))), enterRP (N := N_l_yard) (fun _ => Nat.le_of_ble_eq_true rfl) (fun die a Kq hp hk => ?_) h⟩)
  obtain ⟨lo, hi⟩ := a
  obtain ⟨p1, p2, p3⟩ : 1 ≤ lo ∧ lo ≤ hi ∧ hi ≤ 30 := hp
  refine sq_set (wx_op (XD.w xv (xoff (hi - lo + 1) (xadd (xsub xv xv) xi) (by omega) (by omega) (by omega) fun r0 hr0 => od_plus_int ?_)))
  refine sq_set (xoff 7 xi rfl (by decide) (by decide) fun way hway => ?_)
  obtain ⟨n, hn⟩ : ∃ n, n = lo + r0 := ⟨_, rfl⟩
  have hn30 : n ≤ 30 := by omega
  have en : ((lo : Int) + (r0 : Int)) = (n : Int) := by omega
  show SD _ _ _ [.raw (.ref die), .dat (.int (lo : Int)), .dat (.int (hi : Int)), .dat (.int ((lo : Int) + (r0 : Int))), .dat (.int (way : Int)), .any, .any, .any, .any, .any, .any] _ _ _ _
  rw [en]
  have tl0 : ([2, 4, 6, 7, 8, 4, 4] : List Int)[way]? = some (([2, 4, 6, 7, 8, 4, 4] : List Int)[way]'hway) := List.getElem?_eq_getElem hway
  refine sq_setF (wx_lcPairs hn30 (xcl n (ac xv an) rfl hn30) rfl rfl (fun p _ => ?_) fun ts hv => ?_)
  · exact wt_test (wx_op (xoff 8 xi rfl (by decide) (by decide) fun r hr => XD.w (xixm (f := Dt.int) (ds := [2, 4, 6, 7, 8, 4, 4]) (xlst (ac xi (ac xi (ac xi (ac xi (ac xi (ac xi (ac xi an))))))) rfl (Nat.le_of_ble_eq_true rfl)) xv rfl (atI_nat tl0)) (od_cmp ⟨_, rfl, trivial⟩)))
  -- what stands between the ifs
  let J : List Sl → Prop := fun sl => ∃ (ts : List (Nat × Nat)) (b c d e f : Sl), sl = [.raw (.ref die), .dat (.int (lo : Int)), .dat (.int (hi : Int)), .dat (.int (n : Int)), .dat (.int (way : Int)), .dat (.lst (ts.map tieD)), b, c, d, e, f] ∧ ValidY n ts
  refine sd_cut J (sif (tdt (xeqi xv xi)) (fun _ => sd_setF (wx_slice (xmixT xv rfl hv hn30 fun us hu => wo_some (xoff 4 xi rfl (by decide) (by decide) fun r hr => ⟨_, rfl, wo_none (sld_l rfl ?_)⟩)))) fun _ => sd_next ⟨ts, _, _, _, _, _, rfl, hv⟩) ?_
  · have ec : cutD (us.map tieD) (some (r : Int)) none = (us.drop (min r us.length)).map tieD := by rw [cut_from, List.length_map, ← List.map_drop]
    rw [ec]
    exact ⟨_, _, _, _, _, _, rfl, (hv.perm hu).sub (List.drop_sublist _ _)⟩
  rintro sl ⟨ts, b, c, d, e, f, rfl, hv⟩
  refine sd_cut J (sif (tdt (xeqi xv xi)) (fun _ => sq_set (XD.w (xdiv xv xi (by decide) (by decide)) (sd_setF (wx_lcPairs hn30 (xcl n (ac xv an) rfl hn30) rfl rfl (fun p _ => ?_) fun ts hv => ⟨ts, _, _, _, _, _, rfl, hv⟩)))) fun _ => sd_next ⟨ts, _, _, _, _, _, rfl, hv⟩) ?_
  · refine wt_and (TD.w (tdt (xcmp (xix xv xi rfl rfl) xv)) ?_)
    cases h : decide (((p.1 : Nat) : Int) < (n : Int) / 2) with
    | true => exact ifp rfl (wt_test (wx_op (XD.w (xix xv xi rfl rfl) (wx_op (XD.w xv (xoff 2 xi rfl (by decide) (by decide) fun r hr => od_sub (od_cmp ⟨_, rfl, trivial⟩)))))))
    | false => exact ifn rfl trivial
  rintro sl ⟨ts, b, c, d, e, f, rfl, hv⟩
  refine sd_cut J (sif (tdt (xeqi xv xi)) (fun _ => ?_) fun _ => sd_next ⟨ts, _, _, _, _, _, rfl, hv⟩) ?_
  · refine sq_set (xoff n xv rfl (by omega) (by omega) fun mid hmid => ?_)
    refine sq_setF (wx_lcR1 (ks := [10]) (by decide) (XD.w xv ⟨n, rfl, by omega, by omega, fun i acc => ∃ ns : List Int, acc = ns.map Dt.int ∧ ns.length = i, ⟨[], rfl, rfl⟩, ?_, ?_⟩))
    · rintro i acc hi ⟨ns, rfl, rfl⟩
      refine gd_name (TD.w tdy (ifp rfl (xoff 2 xi rfl (by decide) (by decide) fun r hr => ⟨.int r, rfl, by rw [List.length_map]; omega, ns ++ [(r : Int)], by rw [List.map_append]; rfl, by simp⟩)))
    · rintro acc ⟨ns, rfl, hns⟩
      rw [Int.toNat_natCast] at hns
      refine sd_setF (wx_lcPairs hn30 (xcl n (ac xv an) rfl hn30) rfl rfl (fun p hp => ?_) fun ts hv => ⟨ts, _, _, _, _, _, rfl, hv⟩)
      have hm := mem_pairsN.mp hp
      have g1 : ns[p.1]? = some (ns[p.1]'(by omega)) := List.getElem?_eq_getElem _
      have g2 : ns[p.2]? = some (ns[p.2]'(by omega)) := List.getElem?_eq_getElem _
      exact TD.w (tdo (tdt (xinN (ks := [p.1, p.2]) xv xv rfl rfl)) fun _ => tdt (xeqi (xixm (f := Dt.int) (ds := ns) xv (xix xv xi rfl rfl) rfl (atI_nat g1)) (xixm (f := Dt.int) (ds := ns) xv (xix xv xi rfl rfl) rfl (atI_nat g2)))) trivial
  rintro sl ⟨ts, b, c, d, e, f, rfl, hv⟩
  refine sd_ret (wx_tup (wa_cons (XD.w xv (wa_cons (xmixT xv rfl hv hn30 fun us hu => wa_nil ⟨_, rfl, (Nat.le_of_ble_eq_true rfl), ?_⟩)))))
  exact hk n us (by show lo ≤ n; omega) (by show n ≤ hi; omega) (hv.perm hu)

theorem ok_l_ringed (T : Txt K mg A) : FnOk P w K mg base CX0 3 A.a_l_ringed A.fd_l_ringed ["_law_d"] (spR A.C fn_l_ringed) := by
  refine T.F_l_ringed.ok sc_l_ringed (fun vs H Q E h => lenR (fun _ => rfl) h) (fun cdv A' outer s H vs Q E hr h => ⟨_, (pss_cons (ps_set (i := 1) sc_l_ringed.nd rfl (by first | exact Or.inl rfl | exact Or.inr rfl) (pe_op (k_plus K rfl) pe_int (pe_call (ok_l_off T) (hr.mono (by decide)) (by rfl) T.g_l_off T.F_l_off.kp T.B_l_off .nil pass0 (pa_cons (pv 0) (pa_cons pe_int pa_nil)))))
 (pss_cons (ps_set (i := 2) sc_l_ringed.nd rfl (by first | exact Or.inl rfl | exact Or.inr rfl) (pe_call (ok_l_mixed T) (hr.mono (by decide)) (by rfl) T.g_l_mixed T.F_l_mixed.kp T.B_l_mixed .nil pass0 (pa_cons (pv 0) (pa_cons (pe_listRg rfl (by rfl) T.b_list (prg_1 (by rfl) T.b_range (pv 1))) pa_nil))))
 (pss_cons (ps_setLc (i := 3) (own := [("_law_k", 4)]) (g := gName 4) rfl sc_l_ringed.nd rfl rfl (sw_true rfl rfl rfl (by decide +kernel)) (pi_range1 rfl T.b_range (pa_cons (pv 1) pa_nil)) (blkOk_by (own := [("_law_k", 4)]) (N := N_l_ringed) (sc := defScope s_l_ringed) (by decide +kernel)) (fun _ _ _ _ _ => pg_name (i := 4) sc_l_ringed.nd rfl (Or.inl rfl)) (fun _ _ _ _ _ => pts_nil) (fun _ _ _ _ _ => (pe_callTy (k_tuple K rfl) (by rfl) T.b_tuple (by decide +kernel) (pa_cons (pe_callB (k_sortI K rfl) (by rfl) T.b_sorted (by decide +kernel) (pa_cons (pe_lst (pa_cons (pe_ix (k_ix K rfl (hu_of hr)) (pv 2) (pv 4) (fun _ _ => rfl)) (pa_cons (pe_ix (k_ix K rfl (hu_of hr)) (pv 2) (pe_op op_mod (pe_op (k_plus K rfl) (pv 4) pe_int) (pv 1)) (fun _ _ => rfl)) pa_nil))) pa_nil)) pa_nil))))
 (pss_cons (ps_set (i := 3) sc_l_ringed.nd rfl (by first | exact Or.inl rfl | exact Or.inr rfl) (pe_slice (k_sl K rfl) (pv 3) (po_some (pe_callTy call_intA (by rfl) T.b_int (by decide +kernel) (pa_cons (pe_cmpR (k_eq K rfl hr.units) (pe_call (ok_l_off T) (hr.mono (by decide)) (by rfl) T.g_l_off T.F_l_off.kp T.B_l_off .nil pass0 (pa_cons (pv 0) (pa_cons pe_int pa_nil))) pe_int (nomark _)) pa_nil))) po_none))
 (pss_cons (ps_for PassesOwn.never rfl (pi_range1 rfl T.b_range (pa_cons (pe_call (ok_l_off T) (hr.mono (by decide)) (by rfl) T.g_l_off T.F_l_off.kp T.B_l_off .nil pass0 (pa_cons (pv 0) (pa_cons pe_int pa_nil))) pa_nil)) (pg_name (i := 4) sc_l_ringed.nd rfl (by first | exact Or.inl rfl | exact Or.inr rfl)) (pss_cons (ps_set (i := 5) sc_l_ringed.nd rfl (by first | exact Or.inl rfl | exact Or.inr rfl) (pe_ix (k_ix K rfl (hu_of hr)) (pv 2) (pe_call (ok_l_off T) (hr.mono (by decide)) (by rfl) T.g_l_off T.F_l_off.kp T.B_l_off .nil pass0 (pa_cons (pv 0) (pa_cons (pv 1) pa_nil))) (fun _ _ => rfl)))
 (pss_cons (ps_set (i := 6) sc_l_ringed.nd rfl (by first | exact Or.inl rfl | exact Or.inr rfl) (pe_ix (k_ix K rfl (hu_of hr)) (pv 2) (pe_call (ok_l_off T) (hr.mono (by decide)) (by rfl) T.g_l_off T.F_l_off.kp T.B_l_off .nil pass0 (pa_cons (pv 0) (pa_cons (pv 1) pa_nil))) (fun _ _ => rfl)))
 (pss_cons (ps_set (i := 7) sc_l_ringed.nd rfl (by first | exact Or.inl rfl | exact Or.inr rfl) (pe_tup (pa_cons (pe_callB (k_min K rfl rfl) (by rfl) T.b_min (by decide +kernel) (pa_cons (pv 5) (pa_cons (pv 6) pa_nil))) (pa_cons (pe_callB (k_max K rfl rfl) (by rfl) T.b_max (by decide +kernel) (pa_cons (pv 5) (pa_cons (pv 6) pa_nil))) pa_nil))))
 (pss_one (ps_if (PW.pt (pw_and (pt_cmpR (k_ne K rfl hr.units) (pv 5) (pv 6) (nomark _)) (pw_and1 (pt_cmpR (k_notIn K rfl hr) (pv 7) (pv 3) (by rfl))))) (pss_one (ps_expr (pe_bm PySem.F.plainAttrs_list PySem.F.slot_list_append PySem.F.type_list_append mt_append (pv 3) (pa_cons (pv 7) pa_nil)))) pss_nil))))))
 (pss_cons (ps_if (pt_cmpR (k_eq K rfl hr.units) (pe_call (ok_l_off T) (hr.mono (by decide)) (by rfl) T.g_l_off T.F_l_off.kp T.B_l_off .nil pass0 (pa_cons (pv 0) (pa_cons pe_int pa_nil))) pe_int (nomark _)) (pss_cons (ps_set (i := 8) sc_l_ringed.nd rfl (by first | exact Or.inl rfl | exact Or.inr rfl) (pe_lc (own := [("_law_place", 9)]) (g := gName 9) rfl sc_l_ringed.nd (pi_range1 rfl T.b_range (pa_cons (pv 1) pa_nil)) (blkOk_by (own := [("_law_place", 9)]) (N := N_l_ringed) (sc := defScope s_l_ringed) (by decide +kernel)) (fun _ _ _ _ _ => pg_name (i := 9) sc_l_ringed.nd rfl (Or.inl rfl)) (fun _ _ _ _ _ => pts_nil) (fun _ _ _ _ _ => (pe_call (ok_l_off T) (hr.mono (by decide)) (by rfl) T.g_l_off T.F_l_off.kp T.B_l_off .nil pass0 (pa_cons (pv 0) (pa_cons pe_int pa_nil))))))
 (pss_one (ps_setLc (i := 3) (own := [("_law_pair", 7)]) (g := gName 7) rfl sc_l_ringed.nd rfl rfl (sw_true rfl rfl rfl (by decide +kernel)) (pi_list (pe_call (ok_l_pairs T) (hr.mono (by decide)) (by rfl) T.g_l_pairs T.F_l_pairs.kp T.B_l_pairs .nil pass0 (pa_cons (pv 1) pa_nil))) (blkOk_by (own := [("_law_pair", 7)]) (N := N_l_ringed) (sc := defScope s_l_ringed) (by decide +kernel)) (fun _ _ _ _ _ => pg_name (i := 7) sc_l_ringed.nd rfl (Or.inl rfl)) (fun _ _ _ _ _ => (pts_one (PW.pt (pw_or (pt_cmpR (k_in K rfl hr) (pe_ix (k_ix K rfl (hu_of hr)) (pv 2) pe_int (fun _ _ => rfl)) (pv 7) (by rfl)) (pw_or1 (pt_cmpR (k_eq K rfl hr.units) (pe_ix (k_ix K rfl (hu_of hr)) (pv 8) (pe_ix (k_ix K rfl (hu_of hr)) (pv 7) pe_int (fun _ _ => rfl)) (fun _ _ => rfl)) (pe_ix (k_ix K rfl (hu_of hr)) (pv 8) (pe_ix (k_ix K rfl (hu_of hr)) (pv 7) pe_int (fun _ _ => rfl)) (fun _ _ => rfl)) (nomark _))))))) (fun _ _ _ _ _ => (pv 7))))) pss_nil)
 (pss_one (ps_ret (pe_tup (pa_cons (pv 1) (pa_cons (pv 3) pa_nil))))))))))), enterRP (N := N_l_ringed) (fun _ => Nat.le_of_ble_eq_true rfl) (fun die a Kq hp hk => ?_) h⟩)
  have hk2 := hk
  refine sq_set (wx_op (XD.w xi (xoff 3 xi rfl (by decide) (by decide) fun r0 hr0 => od_plus_int ?_)))
  obtain ⟨n, hn⟩ : ∃ n, n = 10 + r0 := ⟨_, rfl⟩
  have en : ((10 : Int) + (r0 : Int)) = (n : Int) := by omega
  have hn30 : n ≤ 30 := by omega
  have hn12 : n ≤ 12 := by omega
  have hn10 : 10 ≤ n := by omega
  show SD _ _ _ [.raw (.ref die), .dat (.int ((10 : Int) + (r0 : Int))), .any, .any, .any, .any, .any, .any, .any, .any] _ _ _ _
  rw [en]
  refine sq_setF (xmixN (ks := List.range n) (xlrng (n := n) xv (by omega)) rfl (by rw [List.length_range]; omega) fun ks hk => ?_)
  have hl : ks.length = n := by rw [hk.length_eq, List.length_range]
  refine sq_set (XD.w (XD.to (xlcR1 (n := n) (ks := [4]) (by decide) xv (fun _ => true) (fun k => tieD (ringP ks n k)) (by omega) fun k hk' => gd_name ⟨tdy, fun _ => XD.w (XD.to (xpairS (a := ks.getD k 0) (b := ks.getD ((k + 1) % n) 0) (xixm (f := natD) (ds := ks) xv xv rfl (atN (by omega))) (xixm (f := natD) (ds := ks) (i := (((k + 1) % n : Nat) : Int)) xv (XD.to (xmod (xadd xv xi) xv (by omega)) (congrArg (fun z => Sl.dat (.int z)) (by rw [Int.natCast_emod]; rfl))) rfl (atN (by rw [hl]; exact Nat.mod_lt _ (by omega))))) rfl) rfl⟩) (r1 := .own ((ringT ks n).map tieD)) ?_) ?_)
  · rw [filter_true]; unfold ringT; rw [List.map_map]; rfl
  have hrv := ring_valid (n := n) (by omega) hk
  refine sq_set (wx_slice (XD.w xv (wo_some (wx_cb (wa_cons (wx_op (xoff 4 xi rfl (by decide) (by decide) fun r hr => XD.w xi (od_eq rfl rfl rfl rfl (wa_nil (cd_int_bl ⟨_, rfl, wo_none (sld_l rfl ?_)⟩))))))))))
  obtain ⟨z, hz⟩ : ∃ z : Nat, (if eqD (.int (r : Int)) (.int 0) = true then (1 : Int) else 0) = (z : Int) := by
    split
    · exact ⟨1, rfl⟩
    · exact ⟨0, rfl⟩
  rw [hz, cut_from, ← List.map_drop]
  have hv0 : ValidY n ((ringT ks n).drop (min z ((ringT ks n).map tieD).length)) := hrv.sub (List.drop_sublist _ _)
  generalize (ringT ks n).drop (min z ((ringT ks n).map tieD).length) = ts0 at hv0
  refine sd_cut (fun sl => ∃ ts a b c d e f, sl = [.raw (.ref die), .dat (.int (n : Int)), .dat (.lst (ks.map natD)), .own (ts.map tieD), a, b, c, d, e, f] ∧ ValidY n ts) (sd_forR1 (ks := [4]) (xoff 5 xi rfl (by decide) (by decide) fun r5 hr5 => ⟨(r5 : Int), rfl, by omega, by omega, fun i sl => ∃ ts a b c d e f, sl = [.raw (.ref die), .dat (.int (n : Int)), .dat (.lst (ks.map natD)), .own (ts.map tieD), a, b, c, d, e, f] ∧ ValidY n ts, ⟨ts0, _, _, _, _, _, _, rfl, hv0⟩, ?_, fun sl h => h⟩)) ?_
  · rintro i sl hi ⟨ts, a, b, c, d, e, f, rfl, hv⟩
    have h9 := hv.len hn30
    refine gd_name ?_
    refine sq_set (xpickD (m := n) (ds := ks.map natD) xv rfl xv rfl (by omega) (by omega) (by rw [List.length_map]; omega) fun d1 hd1 => ?_)
    obtain ⟨one, hone, rfl⟩ := List.mem_map.mp hd1
    refine sq_set (xpickD (m := n) (ds := ks.map natD) xv rfl xv rfl (by omega) (by omega) (by rw [List.length_map]; omega) fun d2 hd2 => ?_)
    obtain ⟨oth, hoth, rfl⟩ := List.mem_map.mp hd2
    have l1 := List.mem_range.mp (hk.mem_iff.mp hone)
    have l2 := List.mem_range.mp (hk.mem_iff.mp hoth)
    refine sq_set (XD.w (XD.to (xtup2 (xmin xv xv) (xmax xv xv)) (r1 := .dat (tieD (min one oth, max one oth))) (congrArg Sl.dat (minmax_tie one oth))) ?_)
    refine sif (w := !decide (one = oth) && !decide ((min one oth, max one oth) ∈ ts)) (TD.to (tda (a := !decide ((one : Int) = (oth : Int))) (b := !decide ((min one oth, max one oth) ∈ ts)) (tdt (xnei xv xv)) fun _ => TD.to (tdt (xninL (d := tieD (min one oth, max one oth)) (ds := ts.map tieD) xv xv rfl rfl (plD_tieD 63 _) (plD_ties _))) (by rw [memD_map tieD eqD_tieD]; exact congrArg not (decide_eq_decide.mpr Iff.rfl))) (congrArg (fun z => !z && !decide ((min one oth, max one oth) ∈ ts)) (decide_eq_decide.mpr (by omega)))) (fun h => ?_) fun h => ?_
    · rw [Bool.and_eq_true] at h
      have hne : one ≠ oth := by simpa using h.1
      have hni : (min one oth, max one oth) ∉ ts := by simpa using h.2
      refine sd_append (i := 3) (ds := ts.map tieD) rfl (by rw [List.length_map]; omega) (XD.w xv ⟨_, rfl, ts ++ [(min one oth, max one oth)], _, _, _, _, e, f, by rw [List.map_append]; rfl, hv.snoc' ⟨by show min one oth < max one oth; omega, by show max one oth < n; omega⟩ hni⟩)
    · exact sd_next ⟨ts, _, _, _, _, e, f, rfl, hv⟩
  · rintro sl ⟨ts, a, b, c, d, e, f, rfl, hv⟩
    refine sd_cut (fun sl => ∃ ts a b c d e f r, sl = [.raw (.ref die), .dat (.int (n : Int)), .dat (.lst (ks.map natD)), r, a, b, c, d, e, f] ∧ (r = .own (ts.map tieD)) ∧ ValidY n ts) ?_ ?_
    · refine sd_if (wt_test (wx_op (xoff 3 xi rfl (by decide) (by decide) fun r hr => XD.w xi (od_eq rfl rfl rfl rfl ⟨_, rfl, ?_⟩))))
      split
      · refine sq_setF (wx_lcR1 (ks := [9]) (by decide) (XD.w xv ⟨n, rfl, by omega, by omega, fun i acc => ∃ ns : List Int, acc = ns.map Dt.int ∧ ns.length = i, ⟨[], rfl, rfl⟩, ?_, ?_⟩))
        · rintro i acc hi ⟨ns, rfl, rfl⟩
          refine gd_name (TD.w tdy (ifp rfl (xoff 2 xi rfl (by decide) (by decide) fun r hr => ⟨.int r, rfl, by rw [List.length_map]; omega, ns ++ [(r : Int)], by rw [List.map_append]; rfl, by simp⟩)))
        · rintro acc ⟨ns, rfl, hns⟩
          rw [Int.toNat_natCast] at hns
          refine sd_set (wx_lcPairs hn30 (xcl n (ac xv an) rfl hn30) rfl rfl (fun p hp => ?_) fun ts hv => ⟨ts, _, _, _, _, _, _, _, rfl, rfl, hv⟩)
          have hm := mem_pairsN.mp hp
          have g1 : ns[p.1]? = some (ns[p.1]'(by omega)) := List.getElem?_eq_getElem _
          have g2 : ns[p.2]? = some (ns[p.2]'(by omega)) := List.getElem?_eq_getElem _
          exact TD.w (tdo (tdt (xinN (ks := [p.1, p.2]) (xixm (f := natD) (ds := ks) xv xi rfl (atN (i := 0) (by omega))) xv rfl rfl)) fun _ => tdt (xeqi (xixm (f := Dt.int) (ds := ns) xv (xix xv xi rfl rfl) rfl (atI_nat g1)) (xixm (f := Dt.int) (ds := ns) xv (xix xv xi rfl rfl) rfl (atI_nat g2)))) trivial
      · exact sd_next ⟨ts, _, _, _, _, _, _, _, rfl, rfl, hv⟩
    · rintro sl ⟨ts, a, b, c, d, e, f, r, rfl, rfl, hv⟩
      exact sd_freeze (i := 3) rfl (sd_ret (XD.w (xtup2 xv xv) (hk2 n ts hn10 hn12 hv)))

theorem ok_Yard_init (T : Txt K mg A) : FnOk P w K mg base CX0 1 A.a_Yard_init A.fd_Yard_init ["self", "many", "ties"] (spYI A.C) := by
  refine T.F_Yard_init.ok sc_Yard_init (fun vs H Q E h => by obtain ⟨y, dx, l, xs, n, ts, S, rfl, _⟩ := h; rfl) (fun cdv A' outer s H vs Q E hr h => ⟨_, (pss_cons (ps_if (pt_not (pt_chain op_le op_le pe_int (pv 1) (pe_glob (v := .int 30) rfl T.c_MOST_PLACES_yards ⟨_, rfl⟩))) (pss_one ps_never) pss_nil)
 (pss_cons (ps_fld (pv 0) (pv 1) rfl)
 (pss_cons (ps_fld (pv 0) (pe_lst pa_nil) rfl)
 (pss_cons (ps_fld (pv 0) (pe_lc (own := [("place", 3)]) (g := gName 3) rfl sc_Yard_init.nd (pi_range1 rfl T.b_range (pa_cons (pv 1) pa_nil)) (blkOk_by (own := [("place", 3)]) (N := N_Yard_init) (sc := defScope s_Yard_init) (by decide +kernel)) (fun _ _ _ _ _ => pg_name (i := 3) sc_Yard_init.nd rfl (Or.inl rfl)) (fun _ _ _ _ _ => pts_nil) (fun _ _ _ _ _ => pe_dnewK)) rfl)
 (pss_one (ps_for PassesOwn.never rfl (pi_range1 rfl T.b_range (pa_cons (pe_callB (k_len K rfl) (by rfl) T.b_len (by decide +kernel) (pa_cons (pv 2) pa_nil)) pa_nil)) (pg_name (i := 4) sc_Yard_init.nd rfl (by first | exact Or.inl rfl | exact Or.inr rfl)) (pss_cons (ps_asg (pe_ix (k_ix K rfl (hu_of hr)) (pv 2) (pv 4) (fun _ _ => rfl)) (pg_tup rfl (pgs_cons (pg_name (i := 5) sc_Yard_init.nd rfl (by first | exact Or.inl rfl | exact Or.inr rfl)) (pgs_cons (pg_name (i := 6) sc_Yard_init.nd rfl (by first | exact Or.inl rfl | exact Or.inr rfl)) pgs_nil))))
 (pss_cons (ps_if (PW.pt (pw_or (pt_not (pt_chain op_le op_lt pe_int (pv 5) (pv 1))) (pw_or (pt_not (pt_chain op_le op_lt pe_int (pv 6) (pv 1))) (pw_or1 (pt_cmpR op_ge (pv 5) (pv 6) (nomark _)))))) (pss_one ps_never) pss_nil)
 (pss_cons (ps_if (pt_cmpR (k_in K rfl hr) (pv 6) (pe_ix (k_ix K rfl (hu_of hr)) (pe_fld (pv 0) rfl) (pv 5) (fun _ _ => rfl)) (by rfl)) (pss_one ps_never) pss_nil)
 (pss_cons (ps_expr (pe_bm PySem.F.plainAttrs_list PySem.F.slot_list_append PySem.F.type_list_append mt_append (pe_fld (pv 0) rfl) (pa_cons (pe_tup (pa_cons (pv 5) (pa_cons (pv 6) pa_nil))) pa_nil)))
 (pss_cons (ps_asg pe_bl (pg_sub (pe_ix (k_ix K rfl (hu_of hr)) (pe_fld (pv 0) rfl) (pv 5) (fun _ _ => rfl)) (pv 6) (set_any (hu_of hr))))
 (pss_one (ps_asg pe_bl (pg_sub (pe_ix (k_ix K rfl (hu_of hr)) (pe_fld (pv 0) rfl) (pv 6) (fun _ _ => rfl)) (pv 5) (set_any (hu_of hr)))))))))))))))), ?_⟩)
  obtain ⟨y, dx, l, xs, n, ts, S, rfl, hy, hdx, sy, hS, hly, sl, ra, n1, n2, hv, q⟩ := h
  have hyn : H y ≠ none := by rw [hy]; simp
  -- the first test
  refine ⟨_, rfl, _, _, rfl, rfl, true, congrArg V.bl (decide_eq_true (by omega)), ifp rfl ⟨_, _, rfl, rfl, true, congrArg V.bl (decide_eq_true (by omega)), ?_⟩⟩
  refine ifn rfl ?_
  refine ⟨_, rfl, _, rfl, y, A.C, dx, [], rfl, hy, T.cl, T.nS, Nat.le_of_ble_eq_true rfl, ?_⟩
  refine ⟨Nat.zero_le _, fun kp hkp => ⟨_, rfl, y, A.C, dx, [("size", .int (n : Int))], rfl, ?_, T.cl, T.nK, Nat.le_of_ble_eq_true rfl, ?_⟩⟩
  · rw [upd_ne (fun z => by subst z; rw [upd_same] at hkp; cases hkp)]; exact upd_same
  have kny : kp ≠ y := fun z => by subst z; rw [upd_same] at hkp; cases hkp
  have hk0 : H kp = none := by rw [upd_ne kny] at hkp; exact hkp
  have hk1 : ∀ u v w, upd (upd (upd H y u) kp v) y w kp = some v := fun u v w => by rw [upd_ne kny, upd_same]
  generalize hH2 : upd (upd (upd H y _) kp (.lst [])) y _ = H2
  have g1 : H2 y = some (.ins A.C dx [("size", .int (n : Int)), ("kept", .ref kp)]) := by subst hH2; exact upd_same
  have g2 : H2 kp = some (.lst []) := by subst hH2; exact hk1 _ _ _
  have g3 : ∀ b o, b ≠ y → H b = some o → H2 b = some o := fun b o nb e => by
    subst hH2
    rw [upd_ne nb, upd_ne (ne_of_none e hk0), upd_ne nb]; exact e
  have g4 : ∀ b, H2 b = none → H b = none := fun b e => by
    cases z : H b with
    | none => rfl
    | some o =>
      by_cases nb : b = y
      · subst nb; rw [g1] at e; cases e
      · rw [g3 b o nb z] at e; cases e
  clear hH2
  refine ⟨_, rfl, (n : Int), rfl, by omega, by omega, fun nr hnr => ?_⟩
  have nr0 : H nr = none := g4 nr hnr
  have nny : nr ≠ y := fun z => by subst z; exact hyn nr0
  have nnk : kp ≠ nr := fun z => by subst z; rw [g2] at hnr; cases hnr
  refine lc_range (Pv := fun i Hi => ∃ ds : List Addr, ds.length = i ∧ ds.Nodup ∧ Hi nr = some (.lst (ds.map V.ref)) ∧ (∀ b o, H2 b = some o → Hi b = some o) ∧ ∀ (j : Nat) (d : Addr), ds[j]? = some d → H2 d = none ∧ d ≠ nr ∧ Hi d = some (.dK [])) ⟨[], rfl, List.nodup_nil, upd_same, fun b o e => by rw [upd_ne (ne_of_none e hnr)]; exact e, fun j d e => by simp at e⟩ ?_ ?_
  · rintro i Hi hi ⟨ds, e1, e2, e3, e4, e5⟩
    refine ⟨wipe_ext (ks := [3]) (by simp [wipe_length]) (by simp) (fun j hj => by rw [List.getElem?_set_ne]; intro e; exact hj (by simp [e])), ?_⟩
    simp only [tYes, ↓reduceIte]
    intro d hd
    have dn : nr ≠ d := ne_of_none e3 hd
    refine ⟨ds.map V.ref, by rw [upd_ne dn]; exact e3, by rw [List.length_map, e1, sizeLine_eq]; omega, ds ++ [d], by rw [List.length_append, e1]; rfl, ?_, ?_, ?_, ?_⟩
    · rw [List.nodup_append]
      refine ⟨e2, List.nodup_cons.mpr ⟨by simp, List.nodup_nil⟩, fun a ha b hb => ?_⟩
      obtain rfl : b = d := by simpa using hb
      intro z; subst z
      obtain ⟨j, hj⟩ := List.getElem?_of_mem ha
      rw [(e5 j _ hj).2.2] at hd; cases hd
    · rw [upd_same, List.map_append]; rfl
    · intro b o e
      have := e4 b o e
      rw [upd_ne (fun z => by subst z; rw [hnr] at e; cases e), upd_ne (ne_of_none this hd)]; exact this
    · intro j d' ej
      by_cases hj : j < ds.length
      · rw [List.getElem?_append_left hj] at ej
        obtain ⟨z1, z2, z3⟩ := e5 j d' ej
        refine ⟨z1, z2, ?_⟩
        rw [upd_ne z2, upd_ne (ne_of_none z3 hd)]; exact z3
      · rw [List.getElem?_append_right (by omega)] at ej
        have h0 : j - ds.length = 0 := by
          have := (List.getElem?_eq_some_iff.mp ej).1
          simp at this; omega
        rw [h0] at ej
        obtain rfl : d = d' := Option.some.inj ej
        refine ⟨?_, Ne.symm dn, by rw [upd_ne (Ne.symm dn)]; exact upd_same⟩
        cases z : H2 d with
        | none => rfl
        | some o => rw [e4 d o z] at hd; cases hd
  rintro H3 ⟨ds, e1, e2, e3, e4, e5⟩
  rw [Int.toNat_natCast] at e1
  refine ⟨_, rfl, y, A.C, dx, [("size", .int (n : Int)), ("kept", .ref kp)], rfl, e4 y _ g1, T.cl, T.nN, Nat.le_of_ble_eq_true rfl, ?_⟩
  have ny : ∀ (j : Nat) (d : Addr), ds[j]? = some d → d ≠ y := fun j d e z => by
    subst z; rw [(e5 j _ e).1] at g1; cases g1
  have Y0 : YSt H (upd H3 y (.ins A.C dx (putF "near" (.ref nr) [("size", .int (n : Int)), ("kept", .ref kp)]))) A.C y dx kp nr n [] [] ds := by
    refine ⟨fun b o nb e => by rw [upd_ne nb]; exact e4 b o (g3 b o nb e), upd_same, by rw [upd_ne kny]; exact e4 kp _ g2, by rw [upd_ne nny]; exact e3, rfl, fun j t p e => by simp at e, e1, e2, fun j d e => ⟨g4 d (e5 j d e).1, ?_⟩, hk0, nr0, nnk⟩
    rw [upd_ne (ny j d e)]; exact (e5 j d e).2.2
  have hlen := ra.length
  rw [List.length_map] at hlen
  have h900 := hv.len n2
  have liv : ∀ {H' us tp}, YSt H H' A.C y dx kp nr n us tp ds → Same S H' := fun Y b o e => Y.keep b o (fun z => by subst z; rw [sy] at e; cases e) (hS b o e)
  refine ⟨_, rfl, .inl ⟨_, xs.length, rfl, .inl ⟨_, SqL.of (Y0.keep _ _ hly sl), rfl⟩, ?_⟩⟩
  refine ⟨_, rfl, by omega, by omega, ?_⟩
  rw [Int.toNat_natCast]
  refine for_range (Pv := fun i σ Hi => ∃ tp o3 o4 o5 o6, σ = [some (.ref y), some (.int (n : Int)), some (.ref l), o3, o4, o5, o6] ∧ YSt H Hi A.C y dx kp nr n (ts.take i) tp ds) ⟨[], none, none, none, none, rfl, by rw [List.take_zero]; exact Y0⟩ ?_ ?_
  · rintro i σ Hi hi ⟨tp, o3, o4, o5, o6, rfl, Y⟩
    rw [hlen] at hi
    obtain ⟨p, hp⟩ : ∃ p, ts[i]? = some p := ⟨_, List.getElem?_eq_getElem hi⟩
    obtain ⟨a, b⟩ := p
    have hpm : (a, b) ∈ ts := List.mem_of_getElem? hp
    obtain ⟨hab, hbn⟩ := hv.2 _ hpm
    simp only at hab hbn
    obtain ⟨x, hx, rx⟩ := ra.get (i := i) (d := tieD (a, b)) (by rw [List.getElem?_map, hp]; rfl)
    obtain ⟨t, rfl, st⟩ := rx.tieI
    have un := hv.sub (List.take_sublist i ts)
    have nin : (a, b) ∉ ts.take i := fun m => take_nodup hv.1 hp m
    obtain ⟨da, hda⟩ : ∃ d, ds[a]? = some d := ⟨_, List.getElem?_eq_getElem (by rw [Y.dl]; omega)⟩
    obtain ⟨db, hdb⟩ : ∃ d, ds[b]? = some d := ⟨_, List.getElem?_eq_getElem (by rw [Y.dl]; omega)⟩
    have na : ¬ b ∈ nearOf (ts.take i) a := near_not1 un.2 nin hab
    have nb : ¬ a ∈ nearOf (ts.take i) b := near_not2 un.2 nin hab
    have Sa := liv Y
    refine ⟨_, rfl, _, rfl, .inl (.inl ⟨l, xs, _, .ref t, rfl, rfl, SqL.of (Y.keep _ _ hly sl), at0 hx, ?_⟩)⟩
    refine ⟨t, _, rfl, SqT.of (Sa _ _ st), rfl, _, _, rfl, _, _, rfl, rfl, ?_⟩
    -- the tests
    refine ⟨_, rfl, _, _, rfl, rfl, true, congrArg V.bl (decide_eq_true (by omega)), ifp rfl ⟨_, rfl, _, _, rfl, rfl, true, congrArg V.bl (decide_eq_true (by omega)), ?_⟩⟩
    refine ifn rfl ?_
    refine ⟨_, rfl, _, _, rfl, rfl, true, congrArg V.bl (decide_eq_true (by omega)), ifp rfl ⟨_, rfl, _, _, rfl, rfl, true, congrArg V.bl (decide_eq_true (by omega)), ?_⟩⟩
    refine ifn rfl ?_
    refine ⟨_, rfl, _, rfl, _, _, rfl, rfl, false, congrArg V.bl (decide_eq_false (by omega)), ?_⟩
    refine ifn rfl ?_
    have ea : (ds.map V.ref)[a]? = some (.ref da) := by rw [List.getElem?_map, hda]; rfl
    have eb : (ds.map V.ref)[b]? = some (.ref db) := by rw [List.getElem?_map, hdb]; rfl
    have va : valV ((nearOf (ts.take i) a).map kiV) (Sum.inl (b : Int)) = none := by rw [valV_ki, if_neg na]
    have vb : valV ((nearOf (ts.take i) b).map kiV) (Sum.inl (a : Int)) = none := by rw [valV_ki, if_neg nb]
    have l1 : (nearOf (ts.take i) a).length ≤ 900 := Nat.le_trans (nearOf_len _ _) (by rw [List.length_take]; omega)
    have l2 : (nearOf (ts.take i) b).length ≤ 900 := Nat.le_trans (nearOf_len _ _) (by rw [List.length_take]; omega)
    refine ⟨_, rfl, _, rfl, y, A.C, dx, _, .ref nr, rfl, Y.ins, T.cl, T.nN, rfl, _, rfl, .inl (.inl ⟨nr, _, _, .ref da, rfl, rfl, SqL.of Y.nl, atI_nat ea, ?_⟩)⟩
    refine .inl ⟨da, none, rfl, .inl ⟨_, Sum.inl (b : Int), .inl (Y.dd a da hda).2, rfl, va.symm⟩, false, rfl, ?_⟩
    refine ifn rfl ?_
    -- kept
    refine ⟨_, rfl, y, A.C, dx, _, .ref kp, rfl, Y.ins, T.cl, T.nK, rfl, .inl ⟨rfl, _, SqL.of Y.kl⟩, _, rfl, _, rfl, Nat.le_of_ble_eq_true rfl, fun t2 ht2 => ?_⟩
    have nt : ∀ {p o}, Hi p = some o → t2 ≠ p := fun e z => by subst z; rw [ht2] at e; cases e
    refine ⟨kp, _, .ref t2, rfl, rfl, by rw [upd_ne (Ne.symm (nt Y.kl))]; exact Y.kl, by rw [List.length_map, Y.tl, List.length_take, sizeLine_eq]; omega, ?_⟩
    obtain ⟨nab, Y'⟩ := Y.more hyn hab hda hdb ht2 na nb
    have kd : ∀ {k d}, ds[k]? = some d → d ≠ kp := fun e => ne_of (Y.dd _ _ e).2 Y.kl (by intro z; cases z)
    have yk : y ≠ kp := ne_of Y.ins Y.kl (by intro z; cases z)
    have nrk : nr ≠ kp := Ne.symm Y.kn
    have nrd : ∀ {k d}, ds[k]? = some d → nr ≠ d := fun e => ne_of Y.nl (Y.dd _ _ e).2 (by intro z; cases z)
    have yd : ∀ {k d}, ds[k]? = some d → y ≠ d := fun e => ne_of Y.ins (Y.dd _ _ e).2 (by intro z; cases z)
    -- the first dict
    refine ⟨_, rfl, y, A.C, dx, _, .ref nr, rfl, by rw [upd_ne yk, upd_ne (Ne.symm (nt Y.ins))]; exact Y.ins, T.cl, T.nN, rfl, _, rfl, .inl (.inl ⟨nr, _, _, .ref da, rfl, rfl, SqL.of (by rw [upd_ne nrk, upd_ne (Ne.symm (nt Y.nl))]; exact Y.nl), atI_nat ea, _, rfl, ?_⟩)⟩
    refine .inr ⟨da, _, rfl, .inl ⟨_, Sum.inl (b : Int), by rw [upd_ne (kd hda), upd_ne (Ne.symm (nt (Y.dd a da hda).2))]; exact (Y.dd a da hda).2, rfl, by rw [List.length_map, sizeLine_eq]; omega, rfl⟩, ?_⟩
    rw [putK_new va]
    -- the second
    refine ⟨_, rfl, y, A.C, dx, _, .ref nr, rfl, by rw [upd_ne (yd hda), upd_ne yk, upd_ne (Ne.symm (nt Y.ins))]; exact Y.ins, T.cl, T.nN, rfl, _, rfl, .inl (.inl ⟨nr, _, _, .ref db, rfl, rfl, SqL.of (by rw [upd_ne (nrd hda), upd_ne nrk, upd_ne (Ne.symm (nt Y.nl))]; exact Y.nl), atI_nat eb, _, rfl, ?_⟩)⟩
    refine .inr ⟨db, _, rfl, .inl ⟨_, Sum.inl (a : Int), by rw [upd_ne (Ne.symm nab), upd_ne (kd hdb), upd_ne (Ne.symm (nt (Y.dd b db hdb).2))]; exact (Y.dd b db hdb).2, rfl, by rw [List.length_map, sizeLine_eq]; omega, rfl⟩, ?_⟩
    rw [putK_new vb]
    refine ⟨tp ++ [t2], _, _, _, _, rfl, ?_⟩
    rw [take_succ hp]
    exact Y'
  · rintro σ Hi ⟨tp, o3, o4, o5, o6, rfl, Y⟩
    rw [hlen, List.take_length] at Y
    exact Y.done hS sy q

theorem ok_l_made (T : Txt K mg A) : FnOk P w K mg base CX0 3 A.a_l_made A.fd_l_made ["_law_t"] (spD A.C fn_l_made) := by
  refine T.F_l_made.ok sc_l_made (fun vs H Q E h => lenP (fun _ => rfl) h) (fun cdv A' outer s H vs Q E hr h => ⟨_, (pss_one (ps_ret (pe_make T.M_Yard (ok_Yard_init T) (hr.mono (by decide)) (by rfl) T.g_Yard T.B_Yard_init .nil pass0 (pa_cons (pe_ix (k_ix K rfl (hu_of hr)) (pv 0) pe_int (fun _ _ => rfl)) (pa_cons (pe_callTy (k_list K rfl) (by rfl) T.b_list (by decide +kernel) (pa_cons (pe_ix (k_ix K rfl (hu_of hr)) (pv 0) pe_int (fun _ _ => rfl)) pa_nil)) pa_nil))))), enterP (N := N_l_made) (fun _ => Nat.le_of_ble_eq_true rfl) (fun a Kq hp hk => ?_) h⟩)
  obtain ⟨n, ts⟩ := a
  obtain ⟨h1, h2, hv⟩ := hp
  exact sd_ret (wx_make (AD.w (ac (xix xv xi rfl rfl) (ac (xlist (xix xv xi rfl rfl) rfl) an)) ⟨n, ts, rfl, h1, h2, hv, hk⟩))

theorem ok_l_tied (T : Txt K mg A) : FnOk P w K mg base CX0 1 A.a_l_tied A.fd_l_tied ["_law_t", "_law_one", "_law_other"] (spD A.C fn_l_tied) := by
  refine T.F_l_tied.ok sc_l_tied (fun vs H Q E h => lenP (fun _ => rfl) h) (fun cdv A' outer s H vs Q E hr h => ⟨_, (pss_one (ps_ret (pe_cmpR (k_in K rfl hr) (pe_tup (pa_cons (pe_callB (k_min K rfl rfl) (by rfl) T.b_min (by decide +kernel) (pa_cons (pv 1) (pa_cons (pv 2) pa_nil))) (pa_cons (pe_callB (k_max K rfl rfl) (by rfl) T.b_max (by decide +kernel) (pa_cons (pv 1) (pa_cons (pv 2) pa_nil))) pa_nil))) (pe_ix (k_ix K rfl (hu_of hr)) (pv 0) pe_int (fun _ _ => rfl)) (by rfl)))), enterP (N := N_l_tied) (fun _ => Nat.le_of_ble_eq_true rfl) (fun a Kq hp hk => ?_) h⟩)
  obtain ⟨q, n, ts, i, j⟩ := a
  exact sd_ret (XD.w (xinT (q := q) (xtup2 (xmin xv xv) (xmax xv xv)) (xix xv xi rfl rfl) (minmax_tie i j)) hk)

theorem ok_l_rounds (T : Txt K mg A) : FnOk P w K mg base CX0 2 A.a_l_rounds A.fd_l_rounds ["_law_t"] (spD A.C fn_l_rounds) := by
  refine T.F_l_rounds.ok sc_l_rounds (fun vs H Q E h => lenP (fun _ => rfl) h) (fun cdv A' outer s H vs Q E hr h => ⟨_, (pss_cons (ps_set (i := 1) sc_l_rounds.nd rfl (by first | exact Or.inl rfl | exact Or.inr rfl) (pe_lst (pa_cons (pe_lst (pa_cons pe_int pa_nil)) pa_nil)))
 (pss_cons (ps_for PassesOwn.never rfl (pi_range1 rfl T.b_range (pa_cons (pe_op op_sub (pe_ix (k_ix K rfl (hu_of hr)) (pv 0) pe_int (fun _ _ => rfl)) pe_int) pa_nil)) (pg_name (i := 2) sc_l_rounds.nd rfl (by first | exact Or.inl rfl | exact Or.inr rfl)) (pss_cons (ps_set (i := 3) sc_l_rounds.nd rfl (by first | exact Or.inl rfl | exact Or.inr rfl) (pe_lst pa_nil))
 (pss_cons (ps_for PassesOwn.never rfl (pi_list (pv 1)) (pg_name (i := 4) sc_l_rounds.nd rfl (by first | exact Or.inl rfl | exact Or.inr rfl)) (pss_one (ps_set (i := 3) sc_l_rounds.nd rfl (by first | exact Or.inl rfl | exact Or.inr rfl) (pe_op (k_plus K rfl) (pv 3) (pe_lc (own := [("_law_place", 5)]) (g := gName 5) rfl sc_l_rounds.nd (pi_range1 rfl T.b_range (pa_cons (pe_ix (k_ix K rfl (hu_of hr)) (pv 0) pe_int (fun _ _ => rfl)) pa_nil)) (blkOk_by (own := [("_law_place", 5)]) (N := N_l_rounds) (sc := defScope s_l_rounds) (by decide +kernel)) (fun _ _ _ _ _ => pg_name (i := 5) sc_l_rounds.nd rfl (Or.inl rfl)) (fun _ _ _ _ _ => (pts_one (PW.pt (pw_and (pt_cmpR (k_notIn K rfl hr) (pv 5) (pv 4) (by rfl)) (pw_and1 (pt_val (pe_call (ok_l_tied T) (hr.mono (by decide)) (by rfl) T.g_l_tied T.F_l_tied.kp T.B_l_tied .nil pass0 (pa_cons (pv 0) (pa_cons (pe_ix (k_ix K rfl (hu_of hr)) (pv 4) (pe_un un_neg pe_int) (fun _ _ => rfl)) (pa_cons (pv 5) pa_nil)))))))))) (fun _ _ _ _ _ => (pe_op (k_plus K rfl) (pv 4) (pe_lst (pa_cons (pv 5) pa_nil)))))))))
 (pss_one (ps_set (i := 1) sc_l_rounds.nd rfl (by first | exact Or.inl rfl | exact Or.inr rfl) (pv 3))))))
 (pss_one (ps_ret (pe_lc (own := [("_law_row", 4)]) (g := gName 4) rfl sc_l_rounds.nd (pi_list (pv 1)) (blkOk_by (own := [("_law_row", 4)]) (N := N_l_rounds) (sc := defScope s_l_rounds) (by decide +kernel)) (fun _ _ _ _ _ => pg_name (i := 4) sc_l_rounds.nd rfl (Or.inl rfl)) (fun _ _ _ _ _ => (pts_one (PW.pt (pw_and (pt_cmpR op_gt (pe_ix (k_ix K rfl (hu_of hr)) (pv 0) pe_int (fun _ _ => rfl)) pe_int (nomark _)) (pw_and (pt_cmpR op_lt (pe_ix (k_ix K rfl (hu_of hr)) (pv 4) pe_int (fun _ _ => rfl)) (pe_ix (k_ix K rfl (hu_of hr)) (pv 4) (pe_un un_neg pe_int) (fun _ _ => rfl)) (nomark _)) (pw_and1 (pt_val (pe_call (ok_l_tied T) (hr.mono (by decide)) (by rfl) T.g_l_tied T.F_l_tied.kp T.B_l_tied .nil pass0 (pa_cons (pv 0) (pa_cons (pe_ix (k_ix K rfl (hu_of hr)) (pv 4) (pe_un un_neg pe_int) (fun _ _ => rfl)) (pa_cons pe_int pa_nil))))))))))) (fun _ _ _ _ _ => (pv 4))))))), enterP (N := N_l_rounds) (fun _ => Nat.le_of_ble_eq_true rfl) (fun a Kq hp hk => ?_) h⟩)
  obtain ⟨n, ts⟩ := a
  obtain ⟨h1, hn, hv, hle⟩ := hp
  replace hn : n ≤ 30 := hn
  replace h1 : 1 ≤ n := h1
  replace hv : ValidY n ts := hv
  replace hle : ∀ k, k < n → (pathsN n ts k).length ≤ 900000 := hle
  replace hk : Kq (.own ((roundsN n ts).map ordD)) := hk
  have h9 := hv.len hn
  have i0 : ∀ {ρ : Rsc} {sl : List Sl}, okAt sl 0 = true → rdAt sl 0 = .dat (tD false n ts) → XD A.C ρ (tOp (rIxA K) (tVar 0) (tC (.int 0))) sl (.dat (.int (n : Int))) := fun h1 h2 => xix (ds := [.int (n : Int), .lst (ts.map tieD)]) (xv h1) xi (by rw [h2]; rfl) rfl
  have hlast : ∀ {ρ : Rsc} {sl : List Sl} {j : Nat} {k : Nat} {row : List Nat}, PathN n k row → okAt sl j = true → rdAt sl j = .dat (ordD row) → XD A.C ρ (tOp (rIxA K) (tVar j) (tUn (rU fun i => .int (-i)) (tC (.int 1)))) sl (.dat (.int (row.getLastD 0 : Nat))) := fun hp h1 h2 => by
    rename_i ρ sl j k row
    refine xix (ds := row.map natD) (d := natD (row.getLastD 0)) (xv h1) (xneg xi) (by rw [h2]; rfl) ?_
    have hne : row ≠ [] := fun z => by have := hp.len; rw [z] at this; simp at this
    have := tiesB_last hne
    have e : row = row.dropLast ++ [row.getLastD 0] := by
      rw [List.getLastD_eq_getLast?, List.getLast?_eq_some_getLast hne]
      exact (List.dropLast_concat_getLast hne).symm
    rw [e, List.map_append]
    simp only [List.map_cons, List.map_nil]
    rw [← e]
    exact at_last _ _
  refine sq_setF (XD.w (XD.to (xlst1o (xlst1 xi)) (r1 := .own ((pathsN n ts 0).map ordD)) rfl) ?_)
  refine sd_cut (fun sl => ∃ a b c d, sl = [.dat (tD false n ts), .dat (.lst ((pathsN n ts (n - 1)).map ordD)), a, b, c, d]) (sd_forR1 (ks := [2]) (XD.w (XD.to (xsub (i0 rfl rfl) xi) (r1 := .dat (.int ((n - 1 : Nat) : Int))) (congrArg (fun z => Sl.dat (.int z)) (by omega))) ⟨((n - 1 : Nat) : Int), rfl, by omega, by omega, fun i sl => ∃ a b c d, sl = [.dat (tD false n ts), .dat (.lst ((pathsN n ts i).map ordD)), a, b, c, d], ⟨_, _, _, _, rfl⟩, ?_, fun sl h => h⟩)) ?_
  · rintro i sl hi ⟨a, b, c, d, rfl⟩
    have hle1 := hle i (by omega)
    have hle2 := hle (i + 1) (by omega)
    refine gd_name ?_
    refine sq_set (XD.w xlst0 ?_)
    refine sd_cut (fun sl => ∃ a b c, sl = [.dat (tD false n ts), .dat (.lst ((pathsN n ts i).map ordD)), a, .own ((pathsN n ts (i + 1)).map ordD), b, c]) (sd_forL (ks := [4]) (XD.w xv ⟨_, rfl, fun j sl => ∃ a b c, sl = [.dat (tD false n ts), .dat (.lst ((pathsN n ts i).map ordD)), a, .own ((((pathsN n ts i).take j).flatMap (extN n ts)).map ordD), b, c], ⟨_, _, _, rfl⟩, ?_, ?_⟩)) ?_
    · rintro j d' sl hj ⟨a, b, c, rfl⟩
      rw [List.getElem?_map] at hj
      cases e : (pathsN n ts i)[j]? with
      | none => rw [e] at hj; cases hj
      | some row =>
        rw [e] at hj; cases hj
        have hrow := pathsN_path h1 ts i row (List.mem_of_getElem? e)
        have hlr := hrow.len
        have hnx : ((pathsN n ts i).take (j + 1)).flatMap (extN n ts) = ((pathsN n ts i).take j).flatMap (extN n ts) ++ extN n ts row := by
          rw [take_succ e, List.flatMap_append]; simp
        have hbd : (((pathsN n ts i).take (j + 1)).flatMap (extN n ts)).length ≤ 900000 := by
          refine Nat.le_trans ?_ hle2
          have : ((pathsN n ts i).flatMap (extN n ts)) = ((pathsN n ts i).take (j + 1)).flatMap (extN n ts) ++ ((pathsN n ts i).drop (j + 1)).flatMap (extN n ts) := by
            rw [← List.flatMap_append, List.take_append_drop]
          show _ ≤ ((pathsN n ts i).flatMap (extN n ts)).length
          rw [this, List.length_append]; omega
        rw [hnx, List.length_append] at hbd
        refine gd_name ?_
        refine sd_set (XD.w (xcat xv (XD.to (xlcR1 (ks := [5]) (by decide) (i0 rfl rfl) (fun p => !decide (p ∈ row) && tieB ts (row.getLastD 0) p) (fun p => ordD (row ++ [p])) (by omega) fun p hp => gd_name ⟨tda (tdt (xninN (ks := row) xv xv rfl rfl)) fun _ => tdb (xcl (⟨false, n, ts, row.getLastD 0, p⟩ : TA2) (ac xv (ac (hlast hrow rfl rfl) (ac xv an))) rfl trivial), fun _ => XD.w (XD.to (xcat (xs := row.map natD) xv (xlst1 xv) rfl rfl (by rw [List.length_map]; simp; omega)) (r1 := .own ((row ++ [p]).map natD)) (by rw [List.map_append]; rfl)) rfl⟩) (r1 := .own ((extN n ts row).map ordD)) ?_) rfl rfl ?_) ?_)
        · unfold extN goN; rw [List.map_map]; rfl
        · rw [List.length_map, List.length_map]; omega
        · refine ⟨a, .dat (ordD row), c, ?_⟩
          rw [hnx, List.map_append]; rfl
    · rintro sl ⟨a, b, c, rfl⟩
      rw [List.length_map, List.take_length]
      exact ⟨_, _, _, rfl⟩
    · rintro sl ⟨a, b, c, rfl⟩
      refine sd_frz (i := 3) (lendL rfl) ?_
      exact sd_set (XD.w xv ⟨_, _, _, _, rfl⟩)
  · rintro sl ⟨a, b, c, d, rfl⟩
    have hle1 := hle (n - 1) (by omega)
    refine sd_ret (XD.w (XD.to (xlcL (ks := [4]) (by decide) xv (pathsN n ts (n - 1)) ordD (roundL n ts) ordD rfl (by omega) fun row hr => gd_name ⟨?_, fun _ => XD.w xv rfl⟩) (r1 := .own ((roundsN n ts).map ordD)) rfl) hk)
    have hrow := pathsN_path h1 ts _ row hr
    refine TD.to (tda (a := decide (2 < n)) (b := decide (row.getD 1 0 < row.getLastD 0) && tieB ts (row.getLastD 0) 0) (TD.to (tdt (xcmp (g := fun i j => decide (j < i)) (i0 rfl rfl) xi)) ?_) fun h2 => tda (TD.to (tdt (xcmp (g := fun i j => decide (i < j)) (xix (ds := row.map natD) (d := natD (row.getD 1 0)) xv xi rfl (atI_nat (j := 1) ?_)) (hlast hrow rfl rfl))) ?_) fun _ => tdb (xcl (⟨false, n, ts, row.getLastD 0, 0⟩ : TA2) (ac xv (ac (hlast hrow rfl rfl) (ac xi an))) rfl trivial)) rfl
    · by_cases h : 2 < n
      · rw [decide_eq_true h]; exact decide_eq_true (by omega)
      · rw [decide_eq_false h]; exact decide_eq_false (by omega)
    · have h2' := of_decide_eq_true h2
      have := hrow.len
      rw [List.getElem?_map]
      have e : row[1]? = some (row[1]'(by omega)) := List.getElem?_eq_getElem _
      rw [e, List.getD_eq_getElem?_getD, e]; rfl
    · by_cases h : row.getD 1 0 < row.getLastD 0
      · rw [decide_eq_true h]; exact decide_eq_true (by omega)
      · rw [decide_eq_false h]; exact decide_eq_false (by omega)

theorem ok_Yard_many (T : Txt K mg A) : FnOk P w K mg base CX0 1 A.a_Yard_many A.fd_Yard_many ["self"] (spD A.C fn_Yard_many) := by
  refine T.F_Yard_many.ok sc_Yard_many (fun vs H Q E h => lenP (fun _ => rfl) h) (fun cdv A' outer s H vs Q E hr h => ⟨_, (pss_one (ps_ret (pe_fld (pv 0) rfl))), enterP (N := N_Yard_many) (fun _ => Nat.le_of_ble_eq_true rfl) (fun a Kq hp hk => ?_) h⟩)
  obtain ⟨n, ts⟩ := a
  exact sd_ret (wx_size T.cl T.nS ((xv).w ⟨n, ts, rfl, hk⟩))

theorem ok_p_need_few (T : Txt K mg A) : FnOk P w K mg base CX0 2 A.a_p_need_few A.fd_p_need_few ["yard"] (spD A.C fn_p_need_few) := by
  refine T.F_p_need_few.ok sc_p_need_few (fun vs H Q E h => lenP (fun _ => rfl) h) (fun cdv A' outer s H vs Q E hr h => ⟨_, (pss_one (ps_if (pt_cmpR op_gt (pe_meth0 (pv 0) T.cl T.m_Yard_many (ok_Yard_many T) (hr.mono (by decide)) T.B_Yard_many .nil pass0) (pe_glob (v := .int 12) rfl T.c_MOST_PLACES_parting ⟨_, rfl⟩) (nomark _)) (pss_one ps_never) pss_nil)), enterP (N := N_p_need_few) (fun _ => Nat.le_of_ble_eq_true rfl) (fun a Kq hp hk => ?_) h⟩)
  obtain ⟨n, ts⟩ := a
  replace hp : n ≤ 12 := hp
  exact sif (w := false) (TD.to (tdt (xcmp (g := fun i j => decide (j < i)) (xmt (n, ts) xv an rfl rfl trivial) xi)) (decide_eq_false (by show ¬ ((12 : Int) < (n : Int)); omega))) (fun h => by cases h) fun _ => sd_next hk

theorem ok_Yard_is_tied (T : Txt K mg A) : FnOk P w K mg base CX0 1 A.a_Yard_is_tied A.fd_Yard_is_tied ["self", "one", "other"] (spD A.C fn_Yard_is_tied) := by
  refine T.F_Yard_is_tied.ok sc_Yard_is_tied (fun vs H Q E h => lenP (fun _ => rfl) h) (fun cdv A' outer s H vs Q E hr h => ⟨_, (pss_one (ps_ret (pe_cmpR (k_in K rfl hr) (pv 2) (pe_ix (k_ix K rfl (hu_of hr)) (pe_fld (pv 0) rfl) (pv 1) (fun _ _ => rfl)) (by rfl)))), enterP (N := N_Yard_is_tied) (fun _ => Nat.le_of_ble_eq_true rfl) (fun a Kq hp hk => ?_) h⟩)
  obtain ⟨⟨n, ts⟩, i, j⟩ := a
  exact sd_ret (xop xv (xix (xnear T.cl T.nN xv) xv rfl (near_at ts hp)) (od_in_dki rfl hk))

theorem ok_p_gone_on (T : Txt K mg A) : ∀ k : Nat, FnOk P w K mg base CX0 (k + 1) A.a_p_gone_on A.fd_p_gone_on ["yard", "row", "bad"] (spG P w A.C k)
  | 0 => fn_none.imp fun _ _ _ _ ⟨_, _, _, _, _, _, _, _, _, _, _, ⟨p, h⟩, _⟩ => absurd p.2.2.2.len (by omega)
  | k + 1 => by
    have ih := ok_p_gone_on T k
    refine T.F_p_gone_on.ok sc_p_gone_on (fun vs H Q E h => by obtain ⟨_, _, _, _, _, _, _, rfl, _⟩ := h; rfl) (fun cdv A' outer s H vs Q E hr h => ⟨_, (pss_cons (ps_if (pt_cmpR (k_eq K rfl hr.units) (pe_callB (k_len K rfl) (by rfl) T.b_len (by decide +kernel) (pa_cons (pv 1) pa_nil)) (pe_meth0 (pv 0) T.cl T.m_Yard_many (ok_Yard_many T) (hr.mono (by omega)) T.B_Yard_many .nil pass0) (nomark _)) (pss_one (ps_ret (pe_ifExp (pt_val (pe_meth (pv 0) T.cl T.m_Yard_is_tied (ok_Yard_is_tied T) (hr.mono (by omega)) T.B_Yard_is_tied .nil pass0 (pa_cons (pe_ix (k_ix K rfl (hu_of hr)) (pv 1) (pe_un un_neg pe_int) (fun _ _ => rfl)) (pa_cons (pe_ix (k_ix K rfl (hu_of hr)) (pv 1) pe_int (fun _ _ => rfl)) pa_nil)))) (pe_callTy (k_list K rfl) (by rfl) T.b_list (by decide +kernel) (pa_cons (pv 1) pa_nil)) pe_non))) pss_nil)
 (pss_cons (ps_set (i := 3) sc_p_gone_on.nd rfl (by first | exact Or.inl rfl | exact Or.inr rfl) (pe_tup (pa_cons (pe_callTy (k_tuple K rfl) (by rfl) T.b_tuple (by decide +kernel) (pa_cons (pe_callB (k_sortI K rfl) (by rfl) T.b_sorted (by decide +kernel) (pa_cons (pv 1) pa_nil)) pa_nil)) (pa_cons (pe_ix (k_ix K rfl (hu_of hr)) (pv 1) (pe_un un_neg pe_int) (fun _ _ => rfl)) pa_nil))))
 (pss_cons (ps_if (pt_cmpR (k_nin P w rfl rfl hr.units) (pv 3) (pv 2) (by rfl)) (pss_one (ps_ret pe_non)) pss_nil)
 (pss_cons (ps_for PassesOwn.never rfl (pi_list (pe_callB (k_sortD rfl) (by rfl) T.b_sorted (by decide +kernel) (pa_cons (pe_ix (k_ix K rfl (hu_of hr)) (pe_fld (pv 0) rfl) (pe_ix (k_ix K rfl (hu_of hr)) (pv 1) (pe_un un_neg pe_int) (fun _ _ => rfl)) (fun _ _ => rfl)) pa_nil))) (pg_name (i := 4) sc_p_gone_on.nd rfl (by first | exact Or.inl rfl | exact Or.inr rfl)) (pss_one (ps_if (pt_cmpR (k_notIn K rfl hr) (pv 4) (pv 1) (by rfl)) (pss_cons (ps_set (i := 5) sc_p_gone_on.nd rfl (by first | exact Or.inl rfl | exact Or.inr rfl) (pe_call ih hr (by rfl) T.g_p_gone_on T.F_p_gone_on.kp T.B_p_gone_on .nil pass0 (pa_cons (pv 0) (pa_cons (pe_op (k_plus K rfl) (pv 1) (pe_lst (pa_cons (pv 4) pa_nil))) (pa_cons (pv 2) pa_nil)))))
 (pss_one (ps_if (pt_cmpR op_notN (pv 5) pe_non (nomark _)) (pss_one (ps_ret (pv 5))) pss_nil))) pss_nil)))
 (pss_cons (ps_asg pe_bl (pg_sub (pv 2) (pv 3) (k_nset P w rfl rfl hr.units)))
 (pss_one (ps_ret pe_non))))))), enterG rfl (fun d n ts row hp hk => ?_) h⟩)
    obtain ⟨h1, hn, hv, ho⟩ := hp
    have hn30 : n ≤ 30 := by omega
    have hlen := ho.len
    have hlt : row.getLastD 0 < n := ho.lt _ ho.last
    refine sq_if (w := decide (row.length = n)) (TD.to (tdt (xeqi (xlen (ds := row.map natD) xv rfl) (xmt (n, ts) xv an rfl rfl trivial))) (by rw [List.length_map]; exact decide_eq_decide.mpr (by omega))) (fun h => ?_) fun h => sq_next ?_
    · have hl := of_decide_eq_true h
      refine sq_ret (xif (b := tieB ts (row.getLastD 0) (row.headD 0)) (TD.to (tdb (xmt ((n, ts), row.getLastD 0, row.headD 0) xv (ac (xlastN (row := row) xv rfl ho.ne) (ac (xfirstN (row := row) xv rfl ho.ne) an)) rfl rfl hlt)) (tied_eq hv _ _)) (fun hb => XD.w (xlist xv rfl) ?_) (fun hb => XD.w xn ?_))
      · exact goneS_some (by rw [gone_full hl, if_pos hb])
      · exact goneS_none (by rw [gone_full hl, if_neg (by rw [hb]; decide)])
    have hl : row.length < n := by have := of_decide_eq_false h; omega
    refine sq_set (XD.w (XD.to (xtup2 (xtuple (xsortI (ns := row.map fun (k : Nat) => (k : Int)) xv (by rw [List.map_map]; rfl)) rfl) (xlastN (row := row) xv rfl ho.ne)) (r1 := .dat (keyD (keyR row))) (congrArg Sl.dat (key_srt row))) ?_)
    refine sq_ifW (wt_test (wx_op (XD.w xv (XD.w xv (od_inB fun b hb => ⟨b, rfl, ?_⟩)))))
    cases b with
    | true =>
      rw [if_pos rfl]
      obtain ⟨q, hq, e, hg⟩ := hb rfl
      exact sq_ret (XD.w xn (goneS_none (gone_key hq ho e hg)))
    | false =>
      rw [if_neg (by decide)]
      refine sq_next ?_
      refine sd_cut (fun sl => ∃ a b, sl = [.dat (.yard n ts), .dat (.lst (row.map natD)), .raw (.ref d), .dat (keyD (keyR row)), a, b] ∧ goneN n ts row = none) (sd_forL (ks := [4]) (XD.w (xsortD hv hn30 (xix (ds := nearD n ts) (xnear T.cl T.nN xv) (xlastN (row := row) xv rfl ho.ne) rfl (near_at ts hlt))) ⟨_, rfl, fun i sl => ∃ a b, sl = [.dat (.yard n ts), .dat (.lst (row.map natD)), .raw (.ref d), .dat (keyD (keyR row)), a, b] ∧ ∀ p ∈ (nbN n ts (row.getLastD 0)).take i, (if p ∈ row then none else goneN n ts (row ++ [p])) = none, ⟨_, _, rfl, fun p hp => absurd hp (by simp)⟩, ?_, ?_⟩)) ?_
      · rintro i d' sl hi ⟨a, b, rfl, hall⟩
        rw [List.getElem?_map] at hi
        cases e : (nbN n ts (row.getLastD 0))[i]? with
        | none => rw [e] at hi; cases hi
        | some p =>
          rw [e] at hi; cases hi
          have hpn : p < n := by
            have := List.mem_of_getElem? e
            unfold nbN at this
            exact List.mem_range.mp (List.mem_filter.mp this).1
          have ht : (nbN n ts (row.getLastD 0)).take (i + 1) = (nbN n ts (row.getLastD 0)).take i ++ [p] := take_succ e
          have nxt : (if p ∈ row then none else goneN n ts (row ++ [p])) = none → ∀ q ∈ (nbN n ts (row.getLastD 0)).take (i + 1), (if q ∈ row then none else goneN n ts (row ++ [q])) = none := fun h q hq => by
            rw [ht] at hq
            rcases List.mem_append.mp hq with h1 | h1
            · exact hall q h1
            · obtain rfl := List.mem_singleton.mp h1; exact h
          refine gd_name ?_
          refine sif (w := !decide (p ∈ row)) (tdt (xninN (ks := row) (k := p) xv xv rfl rfl)) (fun h => ?_) fun h => sd_next ⟨_, _, rfl, nxt (if_pos (by simpa using h))⟩
          have hpr : p ∉ row := by simpa using h
          refine sq_set (wx_callG (wa_cons (XD.w xv (wa_cons (XD.w (xcat xv (xlst1 xv) rfl rfl (by rw [List.length_map]; show row.length + 1 ≤ _; omega)) (wa_cons (XD.w xv (wa_nil ⟨row ++ [p], by rw [List.map_append]; rfl, ⟨⟨h1, hn, hv, ho.snoc hpn hpr⟩, by rw [List.length_append]; show n < row.length + 1 + k; omega⟩, ?_⟩))))))))
          cases hg : goneN n ts (row ++ [p]) with
          | none =>
            rw [goneS_none hg]
            exact sif (w := false) (TD.to (tdt (xnotN (d := .non) xv xn)) rfl) (fun h => by cases h) fun _ => sd_next ⟨_, _, rfl, nxt (by rw [if_neg hpr, hg])⟩
          | some r =>
            rw [goneS_some hg]
            exact sif (w := true) (tdt (xnotNb xv xn)) (fun _ => sd_retOwn (i := 5) rfl (goneS_some (by rw [gone_step hl]; exact find_at e hall (by rw [if_neg hpr, hg])))) fun h => by cases h
      · rintro sl ⟨a, b, rfl, hall⟩
        rw [List.length_map, List.take_length] at hall
        exact ⟨a, b, rfl, by rw [gone_step hl, findSome_none]; exact hall⟩
      · rintro sl ⟨a, b, rfl, hg⟩
        exact sd_seq (sd_putB (i := 2) (q := keyR row) hn rfl xv ⟨row, ho, rfl, hg⟩ (sd_ret (XD.w xn (goneS_none hg))))

theorem ok_p_first_round (T : Txt K mg A) : FnOk P w K mg base CX0 15 A.a_p_first_round A.fd_p_first_round ["yard"] (spD A.C fn_p_first_round) := by
  refine T.F_p_first_round.ok sc_p_first_round (fun vs H Q E h => lenP (fun _ => rfl) h) (fun cdv A' outer s H vs Q E hr h => ⟨_, (pss_cons (ps_set (i := 1) sc_p_first_round.nd rfl (by first | exact Or.inl rfl | exact Or.inr rfl) (pe_meth0 (pv 0) T.cl T.m_Yard_many (ok_Yard_many T) (hr.mono (by decide)) T.B_Yard_many .nil pass0))
 (pss_cons (ps_if (pt_cmpR op_lt (pv 1) pe_int (nomark _)) (pss_one (ps_ret pe_non)) pss_nil)
 (pss_one (ps_ret (pe_call (ok_p_gone_on T 13) (hr.mono (by decide)) (by rfl) T.g_p_gone_on T.F_p_gone_on.kp T.B_p_gone_on .nil pass0 (pa_cons (pv 0) (pa_cons (pe_lst (pa_cons pe_int pa_nil)) (pa_cons (k_nnew P w rfl rfl) pa_nil)))))))), enterP (N := N_p_first_round) (fun _ => Nat.le_of_ble_eq_true rfl) (fun a Kq hp hk => ?_) h⟩)
  obtain ⟨n, ts⟩ := a
  obtain ⟨h1, hn, hv⟩ := hp
  replace h1 : 1 ≤ n := h1
  replace hn : n ≤ 12 := hn
  replace hv : ValidY n ts := hv
  replace hk : Kq (firstS n ts) := hk
  unfold firstS at hk
  refine sq_set (XD.w (xmt (n, ts) xv an rfl rfl trivial) ?_)
  refine sq_if (w := decide (n < 3)) (TD.to (tdt (xcmp (g := fun i j => decide (i < j)) xv xi)) (decide_eq_decide.mpr (by omega))) (fun h => ?_) fun h => sq_next ?_
  · rw [if_pos (of_decide_eq_true h)] at hk
    exact sq_ret (XD.w xn hk)
  rw [if_neg (of_decide_eq_false h)] at hk
  exact sd_ret (wx_callG0 (wa_cons (XD.w xv (wa_cons (XD.w (xlst1 xi) (wa_cons (wx_dnewN (wa_nil ⟨n, ts, [0], rfl, ⟨⟨h1, hn, hv, row_start h1⟩, by show n < 1 + 13; omega⟩, hk⟩))))))))

theorem ok_p_sets_of (T : Txt K mg A) : FnOk P w K mg base CX0 1 A.a_p_sets_of A.fd_p_sets_of ["many", "size"] (spD A.C fn_p_sets_of) := by
  refine T.F_p_sets_of.ok sc_p_sets_of (fun vs H Q E h => lenP (fun _ => rfl) h) (fun cdv A' outer s H vs Q E hr h => ⟨_, (pss_cons (ps_set (i := 2) sc_p_sets_of.nd rfl (by first | exact Or.inl rfl | exact Or.inr rfl) (pe_lst (pa_cons (pe_lst pa_nil) pa_nil)))
 (pss_cons (ps_for PassesOwn.never rfl (pi_range1 rfl T.b_range (pa_cons (pv 1) pa_nil)) (pg_name (i := 3) sc_p_sets_of.nd rfl (by first | exact Or.inl rfl | exact Or.inr rfl)) (pss_cons (ps_set (i := 4) sc_p_sets_of.nd rfl (by first | exact Or.inl rfl | exact Or.inr rfl) (pe_lst pa_nil))
 (pss_cons (ps_for PassesOwn.never rfl (pi_list (pv 2)) (pg_name (i := 5) sc_p_sets_of.nd rfl (by first | exact Or.inl rfl | exact Or.inr rfl)) (pss_cons (ps_set (i := 6) sc_p_sets_of.nd rfl (by first | exact Or.inl rfl | exact Or.inr rfl) (pe_ifExp (pt_cmpR (k_ne K rfl hr.units) (pv 5) (pe_lst pa_nil) (nomark _)) (pe_op (k_plus K rfl) (pe_ix (k_ix K rfl (hu_of hr)) (pv 5) (pe_un un_neg pe_int) (fun _ _ => rfl)) pe_int) pe_int))
 (pss_one (ps_expr (pe_bm PySem.F.plainAttrs_list PySem.F.slot_list_extend PySem.F.type_list_extend mt_extend (pv 4) (pa_cons (pe_lc (own := [("place", 7)]) (g := gName 7) rfl sc_p_sets_of.nd (pi_range2 rfl T.b_range (pa_cons (pv 6) (pa_cons (pv 0) pa_nil))) (blkOk_by (own := [("place", 7)]) (N := N_p_sets_of) (sc := defScope s_p_sets_of) (by decide +kernel)) (fun _ _ _ _ _ => pg_name (i := 7) sc_p_sets_of.nd rfl (Or.inl rfl)) (fun _ _ _ _ _ => pts_nil) (fun _ _ _ _ _ => (pe_op (k_plus K rfl) (pv 5) (pe_lst (pa_cons (pv 7) pa_nil))))) pa_nil))))))
 (pss_one (ps_set (i := 2) sc_p_sets_of.nd rfl (by first | exact Or.inl rfl | exact Or.inr rfl) (pv 4))))))
 (pss_one (ps_ret (pv 2))))), enterP (N := N_p_sets_of) (fun _ => Nat.le_of_ble_eq_true rfl) (fun a Kq hp hk => ?_) h⟩)
  obtain ⟨n, k⟩ := a
  obtain ⟨hn, hkk⟩ := hp
  replace hn : n ≤ 12 := hn
  replace hkk : k ≤ 12 := hkk
  replace hk : Kq (.dat (.lst ((setsN n k).map ordD))) := hk
  refine sq_setF (XD.w (XD.to (xlst1o xlst0) (r1 := .own ((setsN n 0).map ordD)) rfl) ?_)
  refine sd_cut (fun sl => ∃ a b c d e, sl = [.dat (.int (n : Int)), .dat (.int (k : Int)), .dat (.lst ((setsN n k).map ordD)), a, b, c, d, e]) (sd_forR1 (ks := [3]) (XD.w xv ⟨(k : Int), rfl, by omega, by omega, fun i sl => ∃ a b c d e, sl = [.dat (.int (n : Int)), .dat (.int (k : Int)), .dat (.lst ((setsN n i).map ordD)), a, b, c, d, e], ⟨_, _, _, _, _, rfl⟩, ?_, fun sl h => h⟩)) ?_
  · rintro i sl hi ⟨a, b, c, d, e, rfl⟩
    have hl1 := setsN_len (n := n) (k := i) hn (by omega)
    have hl2 := setsN_len (n := n) (k := i + 1) hn (by omega)
    refine gd_name ?_
    refine sq_set (XD.w xlst0 ?_)
    refine sd_cut (fun sl => ∃ a c d e, sl = [.dat (.int (n : Int)), .dat (.int (k : Int)), .dat (.lst ((setsN n i).map ordD)), a, .own ((setsN n (i + 1)).map ordD), c, d, e]) (sd_forL (ks := [5]) (XD.w xv ⟨_, rfl, fun j sl => ∃ a c d e, sl = [.dat (.int (n : Int)), .dat (.int (k : Int)), .dat (.lst ((setsN n i).map ordD)), a, .own ((((setsN n i).take j).flatMap (setRow n)).map ordD), c, d, e], ⟨_, _, _, _, rfl⟩, ?_, ?_⟩)) ?_
    · rintro j d' sl hj ⟨a, c, d, e, rfl⟩
      rw [List.getElem?_map] at hj
      cases er : (setsN n i)[j]? with
      | none => rw [er] at hj; cases hj
      | some row =>
        rw [er] at hj; cases hj
        have hrow := setsN_ok n i row (List.mem_of_getElem? er)
        have hlr : row.length ≤ n := nodup_le (hrow.up.imp fun h => by omega) hrow.lt
        have hnx : ((setsN n i).take (j + 1)).flatMap (setRow n) = ((setsN n i).take j).flatMap (setRow n) ++ setRow n row := by
          rw [take_succ er, List.flatMap_append]; simp
        have hbd : (((setsN n i).take (j + 1)).flatMap (setRow n)).length ≤ 4096 := by
          refine Nat.le_trans ?_ hl2
          have : ((setsN n i).flatMap (setRow n)) = ((setsN n i).take (j + 1)).flatMap (setRow n) ++ ((setsN n i).drop (j + 1)).flatMap (setRow n) := by
            rw [← List.flatMap_append, List.take_append_drop]
          show _ ≤ ((setsN n i).flatMap (setRow n)).length
          rw [this, List.length_append]; omega
        rw [hnx, List.length_append] at hbd
        have hnxt : nxtN row ≤ n := nxtN_le hrow
        refine gd_name ?_
        refine sq_set (XD.w (XD.to (r1 := .dat (.int (nxtN row : Nat))) (xif (b := !decide (row = [])) (TD.to (tdt (xne (d1 := .lst (row.map natD)) (d2 := .lst []) xv xlst0 rfl rfl (plD_nats _) (plD_nats []))) (by rw [eqD_nats_nil])) (fun h => ?_) fun h => ?_) rfl) ?_)
        · have hne : row ≠ [] := by simpa using h
          refine (xadd (xix (ds := row.map natD) (d := natD (row.getLastD 0)) xv (xneg xi) rfl ?_) xi).to ?_
          · exact at_lastD hne
          · unfold nxtN; rw [if_neg hne]; rfl
        · have hne : row = [] := by simpa using h
          exact XD.to xi (by unfold nxtN; rw [if_pos hne]; rfl)
        refine sd_extend (i := 4) (ds := (((setsN n i).take j).flatMap (setRow n)).map ordD) rfl (XD.w (XD.to (xlcR2 (ks := [7]) (by decide) (lo := nxtN row) (hi := n) xv xv rfl rfl (fun _ => true) (fun p => ordD (row ++ [p])) (by omega) (by omega) fun p h1 h2 => gd_name ⟨tdy, fun _ => XD.w (XD.to (xcat (xs := row.map natD) xv (xlst1 xv) rfl rfl (by rw [List.length_map]; simp; omega)) (r1 := .own ((row ++ [p]).map natD)) (by rw [List.map_append]; rfl)) rfl⟩) (r1 := .own ((setRow n row).map ordD)) ?_) ⟨_, rfl, ?_, ?_⟩)
        · rw [filter_true]; unfold setRow; rw [List.map_map]; rfl
        · rw [List.length_map, List.length_map]; omega
        · refine ⟨a, .dat (ordD row), .dat (.int (nxtN row : Nat)), e, ?_⟩
          rw [hnx, List.map_append]; rfl
    · rintro sl ⟨a, c, d, e, rfl⟩
      rw [List.length_map, List.take_length]
      exact ⟨_, _, _, _, rfl⟩
    · rintro sl ⟨a, c, d, e, rfl⟩
      refine sd_frz (i := 4) (lendL rfl) ?_
      exact sd_set (XD.w xv ⟨_, _, _, _, _, rfl⟩)
  · rintro sl ⟨a, b, c, d, e, rfl⟩
    exact sd_ret (XD.w xv hk)

theorem ok_p_groups_without (T : Txt K mg A) : FnOk P w K mg base CX0 2 A.a_p_groups_without A.fd_p_groups_without ["yard", "gone"] (spD A.C fn_p_groups_without) := by
  refine T.F_p_groups_without.ok sc_p_groups_without (fun vs H Q E h => lenP (fun _ => rfl) h) (fun cdv A' outer s H vs Q E hr h => ⟨_, (pss_cons (ps_set (i := 2) sc_p_groups_without.nd rfl (by first | exact Or.inl rfl | exact Or.inr rfl) pe_dnewK)
 (pss_cons (ps_for PassesOwn.never rfl (pi_list (pv 1)) (pg_name (i := 3) sc_p_groups_without.nd rfl (by first | exact Or.inl rfl | exact Or.inr rfl)) (pss_one (ps_asg pe_bl (pg_sub (pv 2) (pv 3) (set_any (hu_of hr))))))
 (pss_cons (ps_set (i := 4) sc_p_groups_without.nd rfl (by first | exact Or.inl rfl | exact Or.inr rfl) (pe_lst pa_nil))
 (pss_cons (ps_for PassesOwn.never rfl (pi_range1 rfl T.b_range (pa_cons (pe_meth0 (pv 0) T.cl T.m_Yard_many (ok_Yard_many T) (hr.mono (by decide)) T.B_Yard_many .nil pass0) pa_nil)) (pg_name (i := 3) sc_p_groups_without.nd rfl (by first | exact Or.inl rfl | exact Or.inr rfl)) (pss_one (ps_if (pt_cmpR (k_notIn K rfl hr) (pv 3) (pv 2) (by rfl)) (pss_cons (ps_set (i := 5) sc_p_groups_without.nd rfl (by first | exact Or.inl rfl | exact Or.inr rfl) (pe_lst (pa_cons (pv 3) pa_nil)))
 (pss_cons (ps_asg pe_bl (pg_sub (pv 2) (pv 3) (set_any (hu_of hr))))
 (pss_cons (ps_set (i := 6) sc_p_groups_without.nd rfl (by first | exact Or.inl rfl | exact Or.inr rfl) pe_int)
 (pss_cons (ps_while PassesOwn.never (pt_cmpR op_lt (pv 6) (pe_callB (k_len K rfl) (by rfl) T.b_len (by decide +kernel) (pa_cons (pv 5) pa_nil)) (nomark _)) (pss_cons (ps_setLc (i := 7) (own := [("other", 8)]) (g := gName 8) rfl sc_p_groups_without.nd rfl rfl (sw_true rfl rfl rfl (by decide +kernel)) (pi_list (pe_callB (k_sortD rfl) (by rfl) T.b_sorted (by decide +kernel) (pa_cons (pe_ix (k_ix K rfl (hu_of hr)) (pe_fld (pv 0) rfl) (pe_ix (k_ix K rfl (hu_of hr)) (pv 5) (pv 6) (fun _ _ => rfl)) (fun _ _ => rfl)) pa_nil))) (blkOk_by (own := [("other", 8)]) (N := N_p_groups_without) (sc := defScope s_p_groups_without) (by decide +kernel)) (fun _ _ _ _ _ => pg_name (i := 8) sc_p_groups_without.nd rfl (Or.inl rfl)) (fun _ _ _ _ _ => (pts_one (pt_cmpR (k_notIn K rfl hr) (pv 8) (pv 2) (by rfl)))) (fun _ _ _ _ _ => (pv 8)))
 (pss_cons (ps_for PassesOwn.never rfl (pi_list (pv 7)) (pg_name (i := 8) sc_p_groups_without.nd rfl (by first | exact Or.inl rfl | exact Or.inr rfl)) (pss_one (ps_asg pe_bl (pg_sub (pv 2) (pv 8) (set_any (hu_of hr))))))
 (pss_cons (ps_expr (pe_bm PySem.F.plainAttrs_list PySem.F.slot_list_extend PySem.F.type_list_extend mt_extend (pv 5) (pa_cons (pv 7) pa_nil)))
 (pss_one (ps_set (i := 6) sc_p_groups_without.nd rfl (by first | exact Or.inl rfl | exact Or.inr rfl) (pe_op (k_plus K rfl) (pv 6) pe_int)))))))
 (pss_one (ps_expr (pe_bm PySem.F.plainAttrs_list PySem.F.slot_list_append PySem.F.type_list_append mt_append (pv 4) (pa_cons (pe_callB (k_sortI K rfl) (by rfl) T.b_sorted (by decide +kernel) (pa_cons (pv 5) pa_nil)) pa_nil)))))))) pss_nil)))
 (pss_one (ps_ret (pv 4))))))), enterP (N := N_p_groups_without) (fun _ => Nat.le_of_ble_eq_true rfl) (fun a Kq hp hk => ?_) h⟩)
  obtain ⟨q, n, ts, gone⟩ := a
  obtain ⟨hn, hv, hgl⟩ := hp
  replace hn : n ≤ 30 := hn
  replace hv : ValidY n ts := hv
  replace hgl : gone.length ≤ 1000 := hgl
  replace hk : Kq (.own ((groupsN n ts gone).map ordD)) := hk
  refine sq_set (wx_dnewK ?_)
  refine sd_cut (fun sl => ∃ sv x, sl = [.dat (.yard n ts), .dat (.lst (gone.map natD)), dK sv, x, .any, .any, .any, .any, .any] ∧ (∀ z, z ∈ sv ↔ z ∈ gone) ∧ sv.length ≤ 1000) (sd_forL (ks := [3]) (XD.w xv ⟨_, rfl, fun i sl => ∃ sv x, sl = [.dat (.yard n ts), .dat (.lst (gone.map natD)), dK sv, x, .any, .any, .any, .any, .any] ∧ (∀ z, z ∈ sv ↔ z ∈ gone.take i) ∧ sv.length ≤ i, ⟨[], _, rfl, by simp, by simp⟩, ?_, ?_⟩)) ?_
  · rintro i d sl hi ⟨sv, x, rfl, hm, hl⟩
    rw [List.getElem?_map] at hi
    cases e : gone[i]? with
    | none => rw [e] at hi; cases hi
    | some p =>
      rw [e] at hi; cases hi
      have hi2 := (List.getElem?_eq_some_iff.mp e).1
      refine gd_name (sd_putK (ks := sv) rfl (by omega) (XD.w xb ⟨rfl, XD.w xv ⟨p, rfl, insU sv p, _, rfl, fun z => ?_, ?_⟩⟩))
      · rw [mem_insU, take_succ e, List.mem_append, hm, List.mem_singleton]
      · have := insU_len sv p; omega
  · rintro sl ⟨sv, x, rfl, hm, hl⟩
    rw [List.length_map, List.take_length] at hm
    rw [List.length_map] at hl
    replace hl : sv.length ≤ gone.length := hl
    exact ⟨sv, x, rfl, hm, by omega⟩
  · rintro sl ⟨sv0, x0, rfl, hm0, hl0⟩
    refine sq_set (XD.w xlst0 ?_)
    refine sd_cut (fun sl => ∃ sv x a b c d, sl = [.dat (.yard n ts), .dat (.lst (gone.map natD)), dK sv, x, .own ((groupsN n ts gone).map ordD), a, b, c, d]) (sd_forR1 (ks := [3]) (XD.w (xmt (n, ts) xv an rfl rfl trivial) ⟨(n : Int), rfl, by omega, by omega, fun i sl => ∃ sv acc x a b c d, sl = [.dat (.yard n ts), .dat (.lst (gone.map natD)), dK sv, x, .own (acc.map ordD), a, b, c, d] ∧ (∀ q ∈ gone, q ∈ sv) ∧ (∀ u ∈ sv, u ∉ gone → ∀ b, Cn n ts gone u b → b ∈ sv) ∧ acc ++ groupsL n ts gone (leftN n i sv) = groupsN n ts gone ∧ sv.length ≤ 1000 + i * 30, ⟨sv0, [], _, _, _, _, _, rfl, fun q hq => (hm0 q).mpr hq, fun u hu hg => absurd ((hm0 u).mp hu) hg, by rw [leftN_start hm0]; rfl, by omega⟩, ?_, ?_⟩)) ?_
    · rintro i sl hi ⟨sv, acc, x, a, b, c, d, rfl, hg, hc, hacc, hsl⟩
      replace hi : i < n := by omega
      have hal : acc.length ≤ 30 := by
        have h1 := groupsN_len n ts gone
        rw [← hacc, List.length_append] at h1; omega
      refine gd_name ?_
      refine sif (w := !decide (i ∈ sv)) (tlend (i := 2) (lendK rfl) (tdt (xninK xv xv rfl))) (fun h => ?_) fun h => ?_
      · have hin : i ∉ sv := by simpa using h
        have hig : i ∉ gone := fun z => hin (hg i z)
        refine sq_set (XD.w (xlst1 xv) ?_)
        refine sd_seq (sd_putK (ks := sv) rfl (by omega) (XD.w xb ⟨rfl, XD.w xv ⟨i, rfl, ?_⟩⟩))
        rw [insU_new hin]
        refine sq_set (XD.w xi ?_)
        refine sd_cut (fun sl => ∃ g a b c, sl = [.dat (.yard n ts), .dat (.lst (gone.map natD)), dK (sv ++ g), .dat (.int (i : Int)), .own (acc.map ordD), .own (g.map natD), a, b, c] ∧ Grow n ts gone sv i g g.length) (sd_while (fun m sl => ∃ (g : List Nat) (a : Nat) (b c : Sl), sl = [.dat (.yard n ts), .dat (.lst (gone.map natD)), dK (sv ++ g), .dat (.int (i : Int)), .own (acc.map ordD), .own (g.map natD), .dat (.int (a : Int)), b, c] ∧ Grow n ts gone sv i g a ∧ m = n - a) n ⟨[i], 0, _, _, rfl, Grow.start hi hig hin, rfl⟩ ?_) ?_
        · rintro m sl ⟨g, a, b, c, rfl, G, rfl⟩
          have hgn := G.len
          have hle := G.le
          have el : ((g.map natD).length : Int) = (g.length : Int) := by rw [List.length_map]
          refine TD.w (tdt (xcmp (g := fun i j => decide (i < j)) xv (xlen (ds := g.map natD) xv rfl))) ?_
          rw [el]
          by_cases ha : a < g.length
          · refine ifp (decide_eq_true (by omega)) ?_
            have hx : g[a]? = some (g.getD a 0) := get_some ha
            have hxn := (G.conn _ (List.mem_of_getElem? hx)).right.1
            have hml := moreN_len n ts (sv ++ g) (g.getD a 0)
            refine sq_setF (XD.w (xlendO (i := 2) (lendK rfl) (flat_nats _) (XD.to (xlcL (ks := [8]) (by decide) (xsortD hv hn (xix (ds := nearD n ts) (xnear T.cl T.nN xv) (xixm (f := natD) (ds := g) xv xv rfl (atN ha)) rfl (near_at ts hxn))) (nbN n ts (g.getD a 0)) natD (fun q => !decide (q ∈ sv ++ g)) natD rfl (by have := nbN_len n ts (g.getD a 0); omega) fun q hq => gd_name ⟨tdt (xninK xv xv rfl), fun _ => XD.w xv rfl⟩) (r1 := .own ((moreN n ts (sv ++ g) (g.getD a 0)).map natD)) rfl)) ?_)
            refine sd_cut (fun sl => ∃ c, sl = [.dat (.yard n ts), .dat (.lst (gone.map natD)), dK ((sv ++ g) ++ moreN n ts (sv ++ g) (g.getD a 0)), .dat (.int (i : Int)), .own (acc.map ordD), .own (g.map natD), .dat (.int (a : Int)), .dat (.lst ((moreN n ts (sv ++ g) (g.getD a 0)).map natD)), c]) (sd_forL (ks := [8]) (XD.w xv ⟨_, rfl, fun j sl => ∃ c, sl = [.dat (.yard n ts), .dat (.lst (gone.map natD)), dK ((sv ++ g) ++ (moreN n ts (sv ++ g) (g.getD a 0)).take j), .dat (.int (i : Int)), .own (acc.map ordD), .own (g.map natD), .dat (.int (a : Int)), .dat (.lst ((moreN n ts (sv ++ g) (g.getD a 0)).map natD)), c], ⟨_, by rw [List.take_zero, List.append_nil]; rfl⟩, ?_, ?_⟩)) ?_
            · rintro j d sl hj ⟨c, rfl⟩
              rw [List.getElem?_map] at hj
              cases e : (moreN n ts (sv ++ g) (g.getD a 0))[j]? with
              | none => rw [e] at hj; cases hj
              | some p =>
                rw [e] at hj; cases hj
                have hpm := (mem_moreN hv).mp (List.mem_of_getElem? e)
                refine gd_name (sd_putK (ks := (sv ++ g) ++ (moreN n ts (sv ++ g) (g.getD a 0)).take j) rfl (by rw [List.length_append, List.length_append, List.length_take]; omega) (XD.w xb ⟨rfl, XD.w xv ⟨p, rfl, ?_⟩⟩))
                rw [insU_new (fun z => (List.mem_append.mp z).elim hpm.2 fun z => take_nodup (moreN_nd n ts (sv ++ g) (g.getD a 0)) e z)]
                exact ⟨_, by rw [take_succ e, ← List.append_assoc (sv ++ g)]; rfl⟩
            · rintro sl ⟨c, rfl⟩
              rw [List.length_map, List.take_length]
              exact ⟨_, rfl⟩
            · rintro sl ⟨c, rfl⟩
              refine sd_seq (sd_extend (i := 5) (ds := g.map natD) rfl (XD.w xv ⟨(moreN n ts (sv ++ g) (g.getD a 0)).map natD, rfl, by rw [List.length_map, List.length_map]; omega, ?_⟩))
              refine sd_set (XD.w (xadd xv xi) ⟨n - (a + 1), by omega, g ++ moreN n ts (sv ++ g) (g.getD a 0), a + 1, .dat (.lst ((moreN n ts (sv ++ g) (g.getD a 0)).map natD)), c, ?_, G.next hv hg hx, rfl⟩)
              rw [List.append_assoc, List.map_append]; rfl
          · refine ifn (decide_eq_false (by omega)) ?_
            obtain rfl : a = g.length := by omega
            exact ⟨g, _, _, _, rfl, G⟩
        · rintro sl ⟨g, a, b, c, rfl, G⟩
          have hgn := G.len
          have hfin := G.fin hc hin
          have hso : (srtZ (g.map fun (k : Nat) => (k : Int))).map Dt.int = (compN n ts gone i).map natD := sort_as G.nd (range_filter_lt n _) fun z => (hfin z).trans mem_compN.symm
          refine sd_append (i := 4) (ds := acc.map ordD) rfl (by rw [List.length_map]; omega) (XD.w (XD.to (xsortI (ns := g.map fun (k : Nat) => (k : Int)) xv (by rw [natD_ints]; rfl)) (r1 := .own ((compN n ts gone i).map natD)) (congrArg Sl.own hso)) ⟨_, rfl, sv ++ g, acc ++ [compN n ts gone i], .dat (.int (i : Int)), .own (g.map natD), a, b, c, ?_, fun q hq => List.mem_append_left _ (hg q hq), fun u hu hug b hb => ?_, ?_, ?_⟩)
          · rw [List.map_append]; rfl
          · rcases List.mem_append.mp hu with z | z
            · exact List.mem_append_left _ (hc u z hug b hb)
            · exact List.mem_append_right _ ((hfin b).mpr (((hfin u).mp z).trans hb))
          · rw [← hacc, leftN_out hi hin, groupsL_cons, leftN_off hfin, List.append_assoc]; rfl
          · rw [List.length_append]; omega
      · have hin : i ∈ sv := by simpa using h
        exact sd_next ⟨sv, acc, _, _, _, _, _, rfl, hg, hc, by rw [← leftN_in hi hin]; exact hacc, by omega⟩
    · rintro sl ⟨sv, acc, x, a, b, c, d, rfl, hg, hc, hacc, hsl⟩
      rw [groupsN_done hacc]
      exact ⟨_, _, _, _, _, _, rfl⟩
    · rintro sl ⟨sv, x, a, b, c, d, rfl⟩
      exact sd_retOwn (i := 4) rfl hk

theorem ok_p_parting (T : Txt K mg A) : FnOk P w K mg base CX0 3 A.a_p_parting A.fd_p_parting ["yard"] (spD A.C fn_p_parting) := by
  refine T.F_p_parting.ok sc_p_parting (fun vs H Q E h => lenP (fun _ => rfl) h) (fun cdv A' outer s H vs Q E hr h => ⟨_, (pss_cons (ps_expr (pe_call (ok_p_need_few T) (hr.mono (by decide)) (by rfl) T.g_p_need_few T.F_p_need_few.kp T.B_p_need_few .nil pass0 (pa_cons (pv 0) pa_nil)))
 (pss_cons (ps_for PassesOwn.never rfl (pi_range2 rfl T.b_range (pa_cons pe_int (pa_cons (pe_meth0 (pv 0) T.cl T.m_Yard_many (ok_Yard_many T) (hr.mono (by decide)) T.B_Yard_many .nil pass0) pa_nil))) (pg_name (i := 1) sc_p_parting.nd rfl (by first | exact Or.inl rfl | exact Or.inr rfl)) (pss_one (ps_for PassesOwn.never rfl (pi_list (pe_call (ok_p_sets_of T) (hr.mono (by decide)) (by rfl) T.g_p_sets_of T.F_p_sets_of.kp T.B_p_sets_of .nil pass0 (pa_cons (pe_meth0 (pv 0) T.cl T.m_Yard_many (ok_Yard_many T) (hr.mono (by decide)) T.B_Yard_many .nil pass0) (pa_cons (pv 1) pa_nil)))) (pg_name (i := 2) sc_p_parting.nd rfl (by first | exact Or.inl rfl | exact Or.inr rfl)) (pss_one (ps_if (pt_cmpR op_gt (pe_callB (k_len K rfl) (by rfl) T.b_len (by decide +kernel) (pa_cons (pe_call (ok_p_groups_without T) (hr.mono (by decide)) (by rfl) T.g_p_groups_without T.F_p_groups_without.kp T.B_p_groups_without .nil pass0 (pa_cons (pv 0) (pa_cons (pv 2) pa_nil))) pa_nil)) (pv 1) (nomark _)) (pss_one (ps_ret (pv 2))) pss_nil)))))
 (pss_one (ps_ret pe_non)))), enterP (N := N_p_parting) (fun _ => Nat.le_of_ble_eq_true rfl) (fun a Kq hp hk => ?_) h⟩)
  obtain ⟨n, ts⟩ := a
  obtain ⟨h1, hn, hv⟩ := hp
  replace h1 : 1 ≤ n := h1
  replace hn : n ≤ 12 := hn
  replace hv : ValidY n ts := hv
  replace hk : Kq (.dat (optL (partN n ts))) := hk
  refine sd_seq (sd_drop (XD.w (xcl (n, ts) (ac xv an) rfl hn) ?_))
  refine sd_seq (sd_forR2 (ks := [1]) (XD.w xi ⟨1, rfl, XD.w (xmt (n, ts) xv an rfl rfl trivial) ⟨(n : Int), rfl, ⟨by decide, by decide, by omega, by omega⟩, fun i sl => ∃ a b, sl = [.dat (.yard n ts), a, b] ∧ ((List.range' 1 (n - 1)).take i).findSome? (partK n ts) = none, ⟨_, _, rfl, rfl⟩, ?_, ?_⟩⟩))
  · rintro i sl hi ⟨a, b, rfl, hf⟩
    have hi' : i < n - 1 := by omega
    have ei : (List.range' 1 (n - 1))[i]? = some (1 + i) := by rw [List.getElem?_range' hi']; simp
    have ec : ((1 : Int) + (i : Int)) = ((1 + i : Nat) : Int) := by omega
    have hsl := setsN_len (n := n) (k := 1 + i) hn (by omega)
    refine gd_name ?_
    rw [ec]
    refine sd_forL (ks := [2]) (XD.w (xcl (n, 1 + i) (ac (xmt (n, ts) xv an rfl rfl trivial) (ac xv an)) rfl ⟨hn, by show 1 + i ≤ 12; omega⟩) ⟨_, rfl, fun j sl => ∃ b, sl = [.dat (.yard n ts), .dat (.int ((1 + i : Nat) : Int)), b] ∧ ((setsN n (1 + i)).take j).find? (partB n ts) = none, ⟨_, rfl, rfl⟩, ?_, ?_⟩)
    · rintro j d sl hj ⟨b, rfl, hg⟩
      rw [List.getElem?_map] at hj
      cases er : (setsN n (1 + i))[j]? with
      | none => rw [er] at hj; cases hj
      | some row =>
        rw [er] at hj; cases hj
        have hrow := setsN_ok n (1 + i) row (List.mem_of_getElem? er)
        refine gd_name ?_
        have el : (((groupsN n ts row).map ordD).length : Int) = ((groupsN n ts row).length : Int) := by rw [List.length_map]
        refine sif (w := partB n ts row) (TD.to (tdt (xcmp (g := fun i j => decide (j < i)) (xlen (ds := (groupsN n ts row).map ordD) (xcl (⟨false, n, ts, row⟩ : GX) (ac xv (ac xv an)) rfl ⟨by show n ≤ 30; omega, hv, by show row.length ≤ 1000; rw [hrow.len]; omega⟩) rfl) xv)) ?_) (fun h => ?_) fun h => ?_
        · rw [el]
          unfold partB
          rw [hrow.len]
          exact decide_eq_decide.mpr (by omega)
        · have : partK n ts (1 + i) = some row := find_some_at er hg h
          have e2 : partN n ts = some row := partN_some ei hf this
          rw [e2] at hk
          exact sd_ret (XD.w xv hk)
        · exact sd_next ⟨_, rfl, by rw [find_none er hg, if_neg (by rw [h]; decide)]⟩
    · rintro sl ⟨b, rfl, hg⟩
      rw [List.length_map, List.take_length] at hg
      exact ⟨_, _, rfl, partN_none ei hf hg⟩
  · rintro sl ⟨a, b, rfl, hf⟩
    have e2 : partN n ts = none := by
      have : ((n : Int) - 1).toNat = n - 1 := by omega
      rw [this, List.take_of_length_le (by rw [List.length_range']; exact Nat.le_refl _)] at hf
      exact hf
    rw [e2] at hk
    exact sd_ret (XD.w xn hk)

theorem ok_Cases_init (T : Txt K mg A) : FnOk P w K mg base CX0 1 A.a_Cases_init A.fd_Cases_init ["self", "yard"] (spCI A.C A.C_Cases) := by
  refine T.F_Cases_init.ok sc_Cases_init (fun vs H Q E h => by obtain ⟨y, dx, v, n, ts, S, rfl, _⟩ := h; rfl) (fun cdv A' outer s H vs Q E hr h => ⟨_, (pss_cons (ps_fld (pv 0) (pv 1) rfl)
 (pss_one (ps_fld (pv 0) pe_dnewT rfl))), ?_⟩)
  obtain ⟨y, dx, v, n, ts, S, rfl, hy, sy, hS, rv, q⟩ := h
  refine ⟨_, rfl, _, rfl, y, A.C_Cases, dx, [], rfl, hy, T.cl_Cases, T.nY, Nat.le_of_ble_eq_true rfl, ?_⟩
  intro d hd
  have ndy : d ≠ y := fun z => by subst z; rw [upd_same] at hd; cases hd
  have hd0 : H d = none := by rw [upd_ne ndy] at hd; exact hd
  have sd0 : S d = none := by
    cases e : S d with
    | none => rfl
    | some o => rw [hS d o e] at hd0; cases hd0
  refine ⟨_, rfl, y, A.C_Cases, dx, [("yard", v)], rfl, by rw [upd_ne (Ne.symm ndy), upd_same]; rfl, T.cl_Cases, T.nD, Nat.le_of_ble_eq_true rfl, ?_⟩
  refine q (upd (upd S d (.dT [])) y (.ins A.C_Cases dx [("yard", v), ("said", .ref d)])) _ (fun b o nb e => ?_) (fun b o e => ?_) (fun b o e => ?_) (fun b nb e nn => ?_) ?_
  · rw [upd_ne nb, upd_ne (ne_of_none e hd0), upd_ne nb]; exact e
  · rw [upd_ne (ne_of_none e sy), upd_ne (ne_of_none e sd0)]; exact e
  · by_cases h1 : b = y
    · subst h1; rw [upd_same] at e ⊢; exact e
    · rw [upd_ne h1] at e ⊢
      by_cases h2 : b = d
      · subst h2; rw [upd_same] at e ⊢; exact e
      · rw [upd_ne h2] at e ⊢
        rw [upd_ne h1]; exact hS b o e
  · have nd : b ≠ d := fun z => by subst z; exact nn hd0
    rw [upd_ne nb, upd_ne nd]; exact e
  · refine .ext ⟨y, dx, v, d, rfl, upd_same, Rp.mono (fun b o e => ?_) rv, by rw [upd_ne ndy, upd_same]; rfl⟩
    rw [upd_ne (ne_of_none e sy), upd_ne (ne_of_none e sd0)]; exact e

theorem ok_Yard_ties (T : Txt K mg A) : FnOk P w K mg base CX0 1 A.a_Yard_ties A.fd_Yard_ties ["self"] (spD A.C fn_Yard_ties) := by
  refine T.F_Yard_ties.ok sc_Yard_ties (fun vs H Q E h => lenP (fun _ => rfl) h) (fun cdv A' outer s H vs Q E hr h => ⟨_, (pss_one (ps_ret (pe_callTy (k_list K rfl) (by rfl) T.b_list (by decide +kernel) (pa_cons (pe_fld (pv 0) rfl) pa_nil)))), enterP (N := N_Yard_ties) (fun _ => Nat.le_of_ble_eq_true rfl) (fun a Kq hp hk => ?_) h⟩)
  obtain ⟨n, ts⟩ := a
  exact sd_ret (xcb (ac (xkept T.cl T.nK (xv)) an) (cd_list rfl hk))

theorem ok_Cases_ties_at (T : Txt K mg A) : FnOk P w K mg base CX0 2 A.a_Cases_ties_at A.fd_Cases_ties_at ["self", "place", "words"] (spD A.C (fn_Cases_ties_at A.C_Cases)) := by
  refine T.F_Cases_ties_at.ok sc_Cases_ties_at (fun vs H Q E h => lenP (fun _ => rfl) h) (fun cdv A' outer s H vs Q E hr h => ⟨_, (pss_cons (ps_set (i := 3) sc_Cases_ties_at.nd rfl (by first | exact Or.inl rfl | exact Or.inr rfl) (pe_lst pa_nil))
 (pss_cons (ps_for PassesOwn.never rfl (pi_list (pe_meth0 (pe_fld (pv 0) rfl) T.cl T.m_Yard_ties (ok_Yard_ties T) (hr.mono (by decide)) T.B_Yard_ties .nil pass0)) (pg_name (i := 4) sc_Cases_ties_at.nd rfl (by first | exact Or.inl rfl | exact Or.inr rfl)) (pss_one (ps_if (PW.pt (pw_and (pt_cmpR (k_in K rfl hr) (pv 1) (pv 4) (by rfl)) (pw_and1 (pt_cmpR (k_in K rfl hr) (pe_dget2 (hu_of hr) (pe_fld (pv 0) rfl) (pv 4) pe_non ⟨rfl, rfl, rfl, rfl⟩) (pv 2) (by rfl))))) (pss_one (ps_expr (pe_bm PySem.F.plainAttrs_list PySem.F.slot_list_append PySem.F.type_list_append mt_append (pv 3) (pa_cons (pv 4) pa_nil)))) pss_nil)))
 (pss_one (ps_ret (pv 3))))), enterP (N := N_Cases_ties_at) (fun _ => Nat.le_of_ble_eq_true rfl) (fun a Kq hp hk => ?_) h⟩)
  obtain ⟨n, ts, s0, x, ws⟩ := a
  obtain ⟨hn, hv⟩ := hp
  replace hn : n ≤ 30 := hn
  replace hv : ValidY n ts := hv
  replace hk : Kq (.own ((tiesAt ts s0 x ws).map tieD)) := hk
  have h9 := hv.len hn
  refine sq_set (XD.w xlst0 ?_)
  refine sd_cut (fun sl => ∃ a, sl = [.dat (casD A.C_Cases n ts s0), .dat (.int (x : Int)), .dat (.tup (ws.map wordD)), .own ((tiesAt ts s0 x ws).map tieD), a]) (sd_forL (ks := [4]) (XD.w (xmt (n, ts) (xyardC T.cl_Cases T.nY xv) an rfl rfl trivial) ⟨_, rfl, fun i sl => ∃ a, sl = [.dat (casD A.C_Cases n ts s0), .dat (.int (x : Int)), .dat (.tup (ws.map wordD)), .own ((tiesAt (ts.take i) s0 x ws).map tieD), a], ⟨_, rfl⟩, ?_, ?_⟩)) ?_
  · rintro i d sl hi ⟨a, rfl⟩
    rw [List.getElem?_map] at hi
    cases e : ts[i]? with
    | none => rw [e] at hi; cases hi
    | some p =>
      rw [e] at hi; cases hi
      have hl := tiesAt_len (ts.take i) s0 x ws
      have hl2 : (ts.take i).length ≤ ts.length := by rw [List.length_take]; exact Nat.min_le_right _ _
      refine gd_name ?_
      refine sif (w := decide (x ∈ [p.1, p.2]) && decide (lookS s0 p ∈ ws)) (tda (tdt (xinN (ks := [p.1, p.2]) xv xv rfl rfl)) fun _ => tdt (xinW (xgetW (xsaidC T.cl_Cases T.nD xv) xv) xv rfl)) (fun h => ?_) fun h => sd_next ⟨_, by rw [tiesAt_miss e h]; rfl⟩
      exact sd_append (i := 3) rfl (by rw [List.length_map]; omega) (XD.w xv ⟨_, rfl, _, by rw [tiesAt_hit e h, List.map_append]; rfl⟩)
  · rintro sl ⟨a, rfl⟩
    rw [List.length_map, List.take_length]
    exact ⟨_, rfl⟩
  · rintro sl ⟨a, rfl⟩
    exact sd_retOwn (i := 3) rfl hk

theorem ok_Cases_is_few (T : Txt K mg A) : FnOk P w K mg base CX0 3 A.a_Cases_is_few A.fd_Cases_is_few ["self", "place"] (spD A.C (fn_Cases_is_few A.C_Cases)) := by
  refine T.F_Cases_is_few.ok sc_Cases_is_few (fun vs H Q E h => lenP (fun _ => rfl) h) (fun cdv A' outer s H vs Q E hr h => ⟨_, (pss_one (ps_ret (pe_cmpR op_lt (pe_callB (k_len K rfl) (by rfl) T.b_len (by decide +kernel) (pa_cons (pe_meth (pv 0) T.cl_Cases T.m_Cases_ties_at (ok_Cases_ties_at T) (hr.mono (by decide)) T.B_Cases_ties_at .nil pass0 (pa_cons (pv 1) (pa_cons (pe_tup (pa_cons pe_bl (pa_cons pe_non pa_nil))) pa_nil))) pa_nil)) pe_int (nomark _)))), enterP (N := N_Cases_is_few) (fun _ => Nat.le_of_ble_eq_true rfl) (fun a Kq hp hk => ?_) h⟩)
  obtain ⟨⟨n, ts, s0⟩, x⟩ := a
  obtain ⟨hn, hv⟩ := hp
  refine sd_ret (XD.w (XD.to (xcmp (g := fun i j => decide (i < j)) (xlen (ds := (tiesAt ts s0 x [some true, none]).map tieD) (xmc (⟨n, ts, s0, x, [some true, none]⟩ : CT) xv (ac xv (ac (xtup2 xb xn) an)) rfl rfl ⟨hn, hv⟩) rfl) xi) (r1 := .dat (.bl (fewB ts s0 x))) ?_) hk)
  rw [List.length_map]
  exact congrArg (fun z => Sl.dat (.bl z)) (decide_eq_decide.mpr (by omega))

theorem ok_Cases_is_three (T : Txt K mg A) : FnOk P w K mg base CX0 3 A.a_Cases_is_three A.fd_Cases_is_three ["self", "place"] (spD A.C (fn_Cases_is_three A.C_Cases)) := by
  refine T.F_Cases_is_three.ok sc_Cases_is_three (fun vs H Q E h => lenP (fun _ => rfl) h) (fun cdv A' outer s H vs Q E hr h => ⟨_, (pss_one (ps_ret (pe_cmpR op_gt (pe_callB (k_len K rfl) (by rfl) T.b_len (by decide +kernel) (pa_cons (pe_meth (pv 0) T.cl_Cases T.m_Cases_ties_at (ok_Cases_ties_at T) (hr.mono (by decide)) T.B_Cases_ties_at .nil pass0 (pa_cons (pv 1) (pa_cons (pe_tup (pa_cons pe_bl pa_nil)) pa_nil))) pa_nil)) pe_int (nomark _)))), enterP (N := N_Cases_is_three) (fun _ => Nat.le_of_ble_eq_true rfl) (fun a Kq hp hk => ?_) h⟩)
  obtain ⟨⟨n, ts, s0⟩, x⟩ := a
  obtain ⟨hn, hv⟩ := hp
  refine sd_ret (XD.w (XD.to (xcmp (g := fun i j => decide (j < i)) (xlen (ds := (tiesAt ts s0 x [some true]).map tieD) (xmc (⟨n, ts, s0, x, [some true]⟩ : CT) xv (ac xv (ac (xtup1 xb rfl) an)) rfl rfl ⟨hn, hv⟩) rfl) xi) (r1 := .dat (.bl (threeB ts s0 x))) ?_) hk)
  rw [List.length_map]
  exact congrArg (fun z => Sl.dat (.bl z)) (decide_eq_decide.mpr (by omega))

theorem ok_Cases_ring_at (T : Txt K mg A) : FnOk P w K mg base CX0 3 A.a_Cases_ring_at A.fd_Cases_ring_at ["self", "place"] (spD A.C (fn_Cases_ring_at A.C_Cases)) := by
  refine T.F_Cases_ring_at.ok sc_Cases_ring_at (fun vs H Q E h => lenP (fun _ => rfl) h) (fun cdv A' outer s H vs Q E hr h => ⟨_, (pss_cons (ps_set (i := 2) sc_Cases_ring_at.nd rfl (by first | exact Or.inl rfl | exact Or.inr rfl) (pe_lst (pa_cons (pv 1) pa_nil)))
 (pss_cons (ps_set (i := 3) sc_Cases_ring_at.nd rfl (by first | exact Or.inl rfl | exact Or.inr rfl) pe_bl)
 (pss_cons (ps_while PassesOwn.never (pt_val (pv 3)) (pss_cons (ps_set (i := 3) sc_Cases_ring_at.nd rfl (by first | exact Or.inl rfl | exact Or.inr rfl) pe_bl)
 (pss_one (ps_for PassesOwn.never rfl (pi_list (pe_meth (pv 0) T.cl_Cases T.m_Cases_ties_at (ok_Cases_ties_at T) (hr.mono (by decide)) T.B_Cases_ties_at .nil pass0 (pa_cons (pe_ix (k_ix K rfl (hu_of hr)) (pv 2) (pe_un un_neg pe_int) (fun _ _ => rfl)) (pa_cons (pe_tup (pa_cons pe_bl pa_nil)) pa_nil)))) (pg_name (i := 4) sc_Cases_ring_at.nd rfl (by first | exact Or.inl rfl | exact Or.inr rfl)) (pss_cons (ps_set (i := 5) sc_Cases_ring_at.nd rfl (by first | exact Or.inl rfl | exact Or.inr rfl) (pe_op op_sub (pe_op (k_plus K rfl) (pe_ix (k_ix K rfl (hu_of hr)) (pv 4) pe_int (fun _ _ => rfl)) (pe_ix (k_ix K rfl (hu_of hr)) (pv 4) pe_int (fun _ _ => rfl))) (pe_ix (k_ix K rfl (hu_of hr)) (pv 2) (pe_un un_neg pe_int) (fun _ _ => rfl))))
 (pss_one (ps_if (PW.pt (pw_and (pt_not (pt_val (pv 3))) (pw_and (pt_cmpR (k_notIn K rfl hr) (pv 5) (pe_slice (k_sl K rfl) (pv 2) (po_some pe_int) po_none) (by rfl)) (pw_and1 (PW.pt (pw_or (pt_cmpR (k_ne K rfl hr.units) (pv 5) (pv 1) (nomark _)) (pw_or1 (pt_cmpR op_gt (pe_callB (k_len K rfl) (by rfl) T.b_len (by decide +kernel) (pa_cons (pv 2) pa_nil)) pe_int (nomark _))))))))) (pss_cons (ps_if (pt_cmpR (k_eq K rfl hr.units) (pv 5) (pv 1) (nomark _)) (pss_one (ps_ret (pe_callTy (k_tuple K rfl) (by rfl) T.b_tuple (by decide +kernel) (pa_cons (pv 2) pa_nil)))) pss_nil)
 (pss_cons (ps_expr (pe_bm PySem.F.plainAttrs_list PySem.F.slot_list_append PySem.F.type_list_append mt_append (pv 2) (pa_cons (pv 5) pa_nil)))
 (pss_one (ps_set (i := 3) sc_Cases_ring_at.nd rfl (by first | exact Or.inl rfl | exact Or.inr rfl) pe_bl)))) pss_nil)))))))
 (pss_one (ps_ret (pe_tup pa_nil)))))), enterP (N := N_Cases_ring_at) (fun _ => Nat.le_of_ble_eq_true rfl) (fun a Kq hp hk => ?_) h⟩)
  obtain ⟨⟨n, ts, s0⟩, x⟩ := a
  obtain ⟨⟨hn, hv⟩, hx⟩ := hp
  replace hn : n ≤ 30 := hn
  replace hv : ValidY n ts := hv
  replace hx : x < n := hx
  replace hk : Kq (.dat (.tup ((ringN n ts s0 x).map natD))) := hk
  have h9 := hv.len hn
  refine sq_set (XD.w (xlst1 xv) ?_)
  refine sq_set (XD.w xb ?_)
  generalize hT : ringN n ts s0 x = TT at hk
  refine sd_cut (fun sl => TT = [] ∧ True) (sd_while (fun m sl => (∃ row a b, sl = [.dat (casD A.C_Cases n ts s0), .dat (.int (x : Int)), .own (row.map natD), .dat (.bl true), a, b] ∧ RowR n x row ∧ m = n + 1 - row.length ∧ ringF ts s0 (n + 1 - row.length) row = TT) ∨ (m = 0 ∧ TT = [] ∧ ∃ row a b, sl = [.dat (casD A.C_Cases n ts s0), .dat (.int (x : Int)), .own row, .dat (.bl false), a, b])) n (.inl ⟨[x], _, _, rfl, RowR.start hx, by simp, by rw [← hT]; rfl⟩) ?_) fun sl h => ?_
  · rintro m sl (⟨row, a, b, rfl, R, rfl, hF⟩ | ⟨rfl, ht, row, a, b, rfl⟩)
    · refine TD.w (tdb xv) ?_
      rw [if_pos rfl]
      have hlen := R.len
      have hpos : 0 < row.length := List.length_pos_iff.mpr R.ne
      obtain ⟨k, hk'⟩ : ∃ k, n + 1 - row.length = k + 1 := ⟨n - row.length, by omega⟩
      rw [hk'] at hF
      unfold ringF at hF
      have htl := tiesAt_len ts s0 (row.getLastD 0) [some true]
      refine sq_set (XD.w xb ?_)
      refine sd_forL (ks := [4]) (XD.w (xmc (⟨n, ts, s0, row.getLastD 0, [some true]⟩ : CT) xv (ac (xlastN (row := row) xv rfl R.ne) (ac (xtup1 xb rfl) an)) rfl rfl ⟨hn, hv⟩) ⟨_, rfl, fun i sl => (∃ a b, sl = [.dat (casD A.C_Cases n ts s0), .dat (.int (x : Int)), .own (row.map natD), .dat (.bl false), a, b] ∧ ∀ q ∈ (tiesAt ts s0 (row.getLastD 0) [some true]).take i, (if othN q (row.getLastD 0) ∉ row.tail.map (fun (k : Nat) => (k : Int)) ∧ (othN q (row.getLastD 0) ≠ ((row.headD 0 : Nat) : Int) ∨ 2 < row.length) then some (othN q (row.getLastD 0)) else none) = none) ∨ (∃ z a b, sl = [.dat (casD A.C_Cases n ts s0), .dat (.int (x : Int)), .own ((row ++ [z]).map natD), .dat (.bl true), a, b] ∧ z < n ∧ z ∉ row.tail ∧ z ≠ x ∧ ringF ts s0 k (row ++ [z]) = TT), .inl ⟨_, _, rfl, fun q hq => absurd hq (by simp)⟩, ?_, ?_⟩)
      · rintro i d sl hi hiv
        rw [List.getElem?_map] at hi
        cases e : (tiesAt ts s0 (row.getLastD 0) [some true])[i]? with
        | none => rw [e] at hi; cases hi
        | some p =>
          rw [e] at hi; cases hi
          rcases hiv with ⟨a, b, rfl, hall⟩ | ⟨z, a, b, rfl, z1, z2, z3, hz⟩
          · obtain ⟨z, z1, z2, z3, _, _⟩ := oth_nat hv (List.mem_of_getElem? e)
            have ht : (tiesAt ts s0 (row.getLastD 0) [some true]).take (i + 1) = (tiesAt ts s0 (row.getLastD 0) [some true]).take i ++ [p] := take_succ e
            refine gd_name ?_
            refine sq_set (XD.w (XD.to (xsub (xadd (xix (ds := [.int (p.1 : Int), .int (p.2 : Int)]) xv xi rfl rfl) (xix (ds := [.int (p.1 : Int), .int (p.2 : Int)]) xv xi rfl rfl)) (xlastN (row := row) xv rfl R.ne)) (r1 := .dat (.int (z : Int))) (congrArg (fun z => Sl.dat (.int z)) z2)) ?_)
            refine sif (w := goR row z) (TD.to (tda (tdn (tdb xv)) fun _ => tda (tdt (xninN (ks := row.tail) (k := z) xv (wx_slice (XD.w xv (wo_some (XD.w xi ⟨1, rfl, wo_none (sld_l rfl rfl)⟩)))) rfl (by show some (cutD (row.map natD) (some 1) none) = _; rw [tail_cut]; cases row <;> rfl))) fun _ => tdo (tdt (xnei xv xv)) fun _ => tdt (xcmp (g := fun i j => decide (j < i)) (xlen (ds := row.map natD) xv rfl) xi)) ?_) (fun h => ?_) fun h => ?_
            · rw [List.length_map]
              unfold goR
              rw [R.hd0]
              show (true && _) = _
              rw [Bool.true_and]
              congr 2
              exact decide_eq_decide.mpr (by omega)
            · have hg := (goR_iff z2).mpr h
              have hst : stepR ts s0 row = some ((z : Nat) : Int) := find_at e hall (by rw [if_pos hg, z2])
              rw [hst] at hF
              dsimp only at hF
              refine sq_if (w := decide ((z : Int) = (x : Int))) (tdt (xeqi xv xv)) (fun h2 => ?_) fun h2 => sq_next ?_
              · rw [if_pos (by rw [R.hd0]; exact of_decide_eq_true h2)] at hF
                subst hF
                exact sq_ret (XD.w (xtuple (ds := row.map natD) xv rfl) hk)
              · have hzx : ¬ (z : Int) = (x : Int) := of_decide_eq_false h2
                rw [if_neg (by rw [R.hd0]; exact hzx), Int.toNat_natCast] at hF
                have hzt : z ∉ row.tail := by
                  unfold goR at h
                  rw [Bool.and_eq_true] at h
                  simpa using h.1
                refine sd_seq (sd_append (i := 2) (ds := row.map natD) rfl (by rw [List.length_map]; omega) (XD.w xv ⟨_, rfl, ?_⟩))
                exact sd_set (XD.w xb (.inr ⟨z, _, _, by rw [List.map_append]; rfl, z1, hzt, by omega, hF⟩))
            · refine sd_next (.inl ⟨_, _, rfl, fun q hq => ?_⟩)
              rw [ht] at hq
              rcases List.mem_append.mp hq with h1 | h1
              · exact hall q h1
              · obtain rfl := List.mem_singleton.mp h1
                rw [if_neg]
                intro hh
                rw [(goR_iff z2).mp hh] at h; cases h
          · refine gd_name ?_
            refine sq_set (XD.w (xsub (xadd (xix (ds := [.int (p.1 : Int), .int (p.2 : Int)]) xv xi rfl rfl) (xix (ds := [.int (p.1 : Int), .int (p.2 : Int)]) xv xi rfl rfl)) (xlastN (row := row ++ [z]) xv rfl (by simp))) ?_)
            exact sif (w := false) (TD.to (tda (a := !true) (b := false) (tdn (tdb (b := true) xv)) fun h => by cases h) rfl) (fun h => by cases h) fun _ => sd_next (.inr ⟨z, _, _, rfl, z1, z2, z3, hz⟩)
      · rintro sl (⟨a, b, rfl, hall⟩ | ⟨z, a, b, rfl, z1, z2, z3, hz⟩)
        · rw [List.length_map, List.take_length] at hall
          have hst : stepR ts s0 row = none := findSome_none.mpr hall
          rw [hst] at hF
          exact ⟨0, by omega, .inr ⟨rfl, hF.symm, _, _, _, rfl⟩⟩
        · have R2 := R.snoc z1 z2 z3
          have l2 := R2.len
          rw [List.length_append] at l2
          simp at l2
          refine ⟨n + 1 - (row ++ [z]).length, by rw [List.length_append]; simp; omega, .inl ⟨row ++ [z], _, _, rfl, R2, rfl, ?_⟩⟩
          rw [List.length_append, show n + 1 - (row.length + [z].length) = k by simp; omega]
          exact hz
    · refine TD.w (tdb xv) ?_
      rw [if_neg (by decide)]
      exact ⟨ht, trivial⟩
  · obtain ⟨rfl, _⟩ := h
    exact sd_ret (XD.w (xtup an rfl (Nat.zero_le _)) hk)

theorem ok_Cases_is_ring (T : Txt K mg A) : FnOk P w K mg base CX0 2 A.a_Cases_is_ring A.fd_Cases_is_ring ["self", "places"] (spD A.C (fn_Cases_is_ring A.C_Cases)) := by
  refine T.F_Cases_is_ring.ok sc_Cases_is_ring (fun vs H Q E h => lenP (fun _ => rfl) h) (fun cdv A' outer s H vs Q E hr h => ⟨_, (pss_cons (ps_if (PW.pt (pw_or (pt_not (pt_chain op_le op_lt pe_int (pe_callB (k_len K rfl) (by rfl) T.b_len (by decide +kernel) (pa_cons (pv 1) pa_nil)) (pe_meth0 (pe_fld (pv 0) rfl) T.cl T.m_Yard_many (ok_Yard_many T) (hr.mono (by decide)) T.B_Yard_many .nil pass0))) (pw_or1 (pt_cmpR (k_ne K rfl hr.units) (k_lenSetA K rfl (by rfl) T.b_len (by rfl) T.b_set (pv 1)) (pe_callB (k_len K rfl) (by rfl) T.b_len (by decide +kernel) (pa_cons (pv 1) pa_nil)) (nomark _))))) (pss_one (ps_ret pe_bl)) pss_nil)
 (pss_cons (ps_for PassesOwn.never rfl (pi_range1 rfl T.b_range (pa_cons (pe_callB (k_len K rfl) (by rfl) T.b_len (by decide +kernel) (pa_cons (pv 1) pa_nil)) pa_nil)) (pg_name (i := 2) sc_Cases_is_ring.nd rfl (by first | exact Or.inl rfl | exact Or.inr rfl)) (pss_cons (ps_asg (pe_callB (k_sortI K rfl) (by rfl) T.b_sorted (by decide +kernel) (pa_cons (pe_lst (pa_cons (pe_ix (k_ix K rfl (hu_of hr)) (pv 1) (pe_op op_sub (pv 2) pe_int) (fun _ _ => rfl)) (pa_cons (pe_ix (k_ix K rfl (hu_of hr)) (pv 1) (pv 2) (fun _ _ => rfl)) pa_nil))) pa_nil)) (pg_unl rfl (pgs_cons (pg_name (i := 3) sc_Cases_is_ring.nd rfl (by first | exact Or.inl rfl | exact Or.inr rfl)) (pgs_cons (pg_name (i := 4) sc_Cases_is_ring.nd rfl (by first | exact Or.inl rfl | exact Or.inr rfl)) pgs_nil))))
 (pss_one (ps_if (pt_cmpR op_isnB (pe_dget2 (hu_of hr) (pe_fld (pv 0) rfl) (pe_tup (pa_cons (pv 3) (pa_cons (pv 4) pa_nil))) pe_non ⟨rfl, rfl, rfl, rfl⟩) pe_bl (nomark _)) (pss_one (ps_ret pe_bl)) pss_nil))))
 (pss_one (ps_ret pe_bl)))), enterP (N := N_Cases_is_ring) (fun _ => Nat.le_of_ble_eq_true rfl) (fun a Kq hp hk => ?_) h⟩)
  obtain ⟨⟨n, ts, s0⟩, xs⟩ := a
  obtain ⟨⟨hn, hv⟩, hl⟩ := hp
  replace hn : n ≤ 30 := hn
  replace hv : ValidY n ts := hv
  replace hl : xs.length ≤ 4000 := hl
  replace hk : Kq (.dat (.bl (ringB n s0 xs))) := hk
  refine sq_if (w := !(decide (3 ≤ xs.length) && decide (xs.length < n)) || !decide ((distN (xs.map fun (k : Nat) => (k : Int))).length = xs.length)) (TD.to (tdo (tdn (tdt (xchain (g1 := fun i j => decide (i ≤ j)) (g2 := fun i j => decide (i < j)) xi (xlen (ds := xs.map natD) xv rfl) (xmt (n, ts) (xyardC T.cl_Cases T.nY xv) an rfl rfl trivial)))) fun _ => tdt (xnei (xlenSetT (ns := xs.map fun (k : Nat) => (k : Int)) (XD.to xv (congrArg (fun z => Sl.dat (.tup z)) (by rw [List.map_map]; rfl))) (by rw [List.length_map]; exact hl)) (xlen (ds := xs.map natD) xv rfl))) ?_) (fun h => ?_) fun h => sq_next ?_
  · rw [List.length_map]
    congr 2
    · congr 1
      · exact decide_eq_decide.mpr (by omega)
      · exact decide_eq_decide.mpr (by show ((xs.length : Nat) : Int) < (n : Int) ↔ _; omega)
    · exact decide_eq_decide.mpr (by omega)
  · refine sq_ret (XD.w xb ?_)
    have : ringB n s0 xs = false := by
      unfold ringB
      cases h1 : (decide (3 ≤ xs.length) && decide (xs.length < n)) with
      | false => simp
      | true =>
        rw [h1] at h
        simp at h
        simp [h]
    rw [← this]; exact hk
  have h3 : (decide (3 ≤ xs.length) && decide (xs.length < n) && decide ((distN (xs.map fun (k : Nat) => (k : Int))).length = xs.length)) = true := by
    cases h1 : (decide (3 ≤ xs.length) && decide (xs.length < n)) with
    | false => rw [h1] at h; simp at h
    | true => rw [h1] at h; simpa using h
  have hrb : ringB n s0 xs = (List.range xs.length).all fun k => decide (lookS s0 (edgeN xs k) = some true) := by
    unfold ringB; rw [h3, Bool.true_and]
  have hx3 : 3 ≤ xs.length := by
    have := h3
    simp only [Bool.and_eq_true, decide_eq_true_eq] at this
    exact this.1.1
  have hne : xs ≠ [] := fun z => by rw [z] at hx3; simp at hx3
  rw [hrb] at hk
  refine sd_cut (fun sl => ((List.range xs.length).all fun k => decide (lookS s0 (edgeN xs k) = some true)) = true) (sd_forR1 (ks := [2]) (XD.w (xlen (ds := xs.map natD) xv rfl) ⟨_, rfl, by rw [List.length_map]; omega, by omega, fun i sl => (∃ a b c, sl = [.dat (casD A.C_Cases n ts s0), .dat (.tup (xs.map natD)), a, b, c]) ∧ ((List.range i).all fun k => decide (lookS s0 (edgeN xs k) = some true)) = true, ⟨⟨_, _, _, rfl⟩, rfl⟩, ?_, fun sl h => by have := h.2; rwa [List.length_map, Int.toNat_natCast] at this⟩)) fun sl h => ?_
  · rintro i sl hi ⟨⟨a, b, c, rfl⟩, hall⟩
    rw [List.length_map, Int.toNat_natCast] at hi
    have g1 : atI xs ((i : Int) - 1) = some (prevN xs i) := by
      unfold prevN
      cases i with
      | zero =>
        rw [if_pos rfl]
        have e : xs = xs.dropLast ++ [xs.getLastD 0] := by
          rw [List.getLastD_eq_getLast?, List.getLast?_eq_some_getLast hne]
          exact (List.dropLast_concat_getLast hne).symm
        have := at_last xs.dropLast (xs.getLastD 0)
        rw [← e] at this
        exact this
      | succ k =>
        rw [if_neg (by omega), show (((k + 1 : Nat) : Int) - 1) = (k : Int) by omega]
        exact atI_nat (get_some (by omega))
    have g2 : atI xs (i : Int) = some (xs.getD i 0) := atI_nat (get_some hi)
    refine gd_name ?_
    have hst : ((srtZ [((prevN xs i : Nat) : Int), ((xs.getD i 0 : Nat) : Int)]).map Dt.int) = [.int ((edgeN xs i).1 : Int), .int ((edgeN xs i).2 : Int)] := by
      rw [srt_pair]; rfl
    refine sq_asg (XD.w (XD.to (xsortI (ns := [((prevN xs i : Nat) : Int), ((xs.getD i 0 : Nat) : Int)]) (xlst (ac (xixm (f := natD) (ds := xs) xv (xsub xv xi) rfl g1) (ac (xixm (f := natD) (ds := xs) xv xv rfl g2) an)) rfl (Nat.le_of_ble_eq_true rfl)) rfl) (congrArg Sl.own hst)) (gd_lst2 (i := 3) (j := 4) rfl ?_))
    refine sif (w := !decide (lookS s0 (edgeN xs i) = some true)) (tdt (xisnB (xgetW (p := edgeN xs i) (xsaidC T.cl_Cases T.nD xv) (xtup2 xv xv)) xb)) (fun h => ?_) fun h => sd_next ⟨⟨_, _, _, rfl⟩, ?_⟩
    · refine sd_ret (XD.w xb ?_)
      have hf : ((List.range xs.length).all fun k => decide (lookS s0 (edgeN xs k) = some true)) = false := by
        rw [List.all_eq_false]
        exact ⟨i, List.mem_range.mpr hi, by simpa using h⟩
      rw [← hf]; exact hk
    · rw [List.range_succ, List.all_append, hall, Bool.true_and]
      simp at h
      simp [h]
  · refine sd_ret (XD.w xb ?_)
    rw [← h]; exact hk

theorem ok_Cases_leaf (T : Txt K mg A) : FnOk P w K mg base CX0 4 A.a_Cases_leaf A.fd_Cases_leaf ["self"] (spD A.C (fn_Cases_leaf A.C_Cases)) := by
  refine T.F_Cases_leaf.ok sc_Cases_leaf (fun vs H Q E h => lenP (fun _ => rfl) h) (fun cdv A' outer s H vs Q E hr h => ⟨_, (pss_cons (ps_for PassesOwn.never rfl (pi_range1 rfl T.b_range (pa_cons (pe_meth0 (pe_fld (pv 0) rfl) T.cl T.m_Yard_many (ok_Yard_many T) (hr.mono (by decide)) T.B_Yard_many .nil pass0) pa_nil)) (pg_name (i := 1) sc_Cases_leaf.nd rfl (by first | exact Or.inl rfl | exact Or.inr rfl)) (pss_cons (ps_if (pt_val (pe_meth (pv 0) T.cl_Cases T.m_Cases_is_few (ok_Cases_is_few T) (hr.mono (by decide)) T.B_Cases_is_few .nil pass0 (pa_cons (pv 1) pa_nil))) (pss_one (ps_ret (pe_tup (pa_cons pe_str (pa_cons (pv 1) pa_nil))))) pss_nil)
 (pss_one (ps_if (pt_val (pe_meth (pv 0) T.cl_Cases T.m_Cases_is_three (ok_Cases_is_three T) (hr.mono (by decide)) T.B_Cases_is_three .nil pass0 (pa_cons (pv 1) pa_nil))) (pss_one (ps_ret (pe_tup (pa_cons pe_str (pa_cons (pv 1) pa_nil))))) pss_nil))))
 (pss_cons (ps_for PassesOwn.never rfl (pi_range1 rfl T.b_range (pa_cons (pe_meth0 (pe_fld (pv 0) rfl) T.cl T.m_Yard_many (ok_Yard_many T) (hr.mono (by decide)) T.B_Yard_many .nil pass0) pa_nil)) (pg_name (i := 1) sc_Cases_leaf.nd rfl (by first | exact Or.inl rfl | exact Or.inr rfl)) (pss_cons (ps_set (i := 2) sc_Cases_leaf.nd rfl (by first | exact Or.inl rfl | exact Or.inr rfl) (pe_meth (pv 0) T.cl_Cases T.m_Cases_ring_at (ok_Cases_ring_at T) (hr.mono (by decide)) T.B_Cases_ring_at .nil pass0 (pa_cons (pv 1) pa_nil)))
 (pss_one (ps_if (PW.pt (pw_and (pt_cmpR (k_ne K rfl hr.units) (pv 2) (pe_tup pa_nil) (nomark _)) (pw_and1 (pt_val (pe_meth (pv 0) T.cl_Cases T.m_Cases_is_ring (ok_Cases_is_ring T) (hr.mono (by decide)) T.B_Cases_is_ring .nil pass0 (pa_cons (pv 2) pa_nil)))))) (pss_one (ps_ret (pe_tup (pa_cons pe_str (pa_cons (pv 2) pa_nil))))) pss_nil))))
 (pss_one (ps_ret pe_non)))), enterP (N := N_Cases_leaf) (fun _ => Nat.le_of_ble_eq_true rfl) (fun a Kq hp hk => ?_) h⟩)
  obtain ⟨n, ts, s0⟩ := a
  obtain ⟨hn, hv⟩ := hp
  replace hn : n ≤ 30 := hn
  replace hv : ValidY n ts := hv
  replace hk : Kq (.dat (trO (leafN n ts s0))) := hk
  refine sd_cut (fun sl => (∃ a b, sl = [.dat (casD A.C_Cases n ts s0), a, b]) ∧ (List.range n).findSome? (leafP ts s0) = none) (sd_forR1 (ks := [1]) (XD.w (xmt (n, ts) (xyardC T.cl_Cases T.nY xv) an rfl rfl trivial) ⟨(n : Int), rfl, by omega, by omega, fun i sl => (∃ a b, sl = [.dat (casD A.C_Cases n ts s0), a, b]) ∧ ∀ y ∈ (List.range n).take i, leafP ts s0 y = none, ⟨⟨_, _, rfl⟩, fun q hq => absurd hq (by simp)⟩, ?_, ?_⟩)) ?_
  · rintro i sl hi ⟨⟨a, b, rfl⟩, hall⟩
    rw [Int.toNat_natCast] at hi
    have e : (List.range n)[i]? = some i := List.getElem?_range hi
    refine gd_name ?_
    refine sq_if (w := fewB ts s0 i) (tdb (xmc ((⟨n, ts, s0⟩ : CS), i) xv (ac xv an) rfl rfl ⟨hn, hv⟩)) (fun h => ?_) fun h => sq_next ?_
    · refine sq_ret (XD.w (xtup2 xs xv) ?_)
      have : leafN n ts s0 = some (.few i) := by unfold leafN; rw [find_at e hall (show leafP ts s0 i = some (.few i) by unfold leafP; rw [if_pos h])]
      rw [this] at hk; exact hk
    · refine sif (w := threeB ts s0 i) (tdb (xmc ((⟨n, ts, s0⟩ : CS), i) xv (ac xv an) rfl rfl ⟨hn, hv⟩)) (fun h2 => ?_) fun h2 => sd_next ⟨⟨_, _, rfl⟩, fun q hq => ?_⟩
      · refine sd_ret (XD.w (xtup2 xs xv) ?_)
        have : leafN n ts s0 = some (.three i) := by unfold leafN; rw [find_at e hall (show leafP ts s0 i = some (.three i) by unfold leafP; rw [if_neg (by rw [h]; decide), if_pos h2])]
        rw [this] at hk; exact hk
      · rw [take_succ e] at hq
        rcases List.mem_append.mp hq with h3 | h3
        · exact hall q h3
        · obtain rfl := List.mem_singleton.mp h3
          unfold leafP
          rw [if_neg (by rw [h]; decide), if_neg (by rw [h2]; decide)]
  · rintro sl ⟨h1, hall⟩
    rw [Int.toNat_natCast, List.take_of_length_le (by rw [List.length_range]; exact Nat.le_refl _)] at hall
    exact ⟨h1, findSome_none.mpr hall⟩
  · rintro sl ⟨⟨a, b, rfl⟩, hP⟩
    have hL : leafN n ts s0 = (List.range n).findSome? (leafR n ts s0) := by unfold leafN; rw [hP]
    rw [hL] at hk
    refine sd_cut (fun sl => (List.range n).findSome? (leafR n ts s0) = none) (sd_forR1 (ks := [1]) (XD.w (xmt (n, ts) (xyardC T.cl_Cases T.nY xv) an rfl rfl trivial) ⟨(n : Int), rfl, by omega, by omega, fun i sl => (∃ a b, sl = [.dat (casD A.C_Cases n ts s0), a, b]) ∧ ∀ y ∈ (List.range n).take i, leafR n ts s0 y = none, ⟨⟨_, _, rfl⟩, fun q hq => absurd hq (by simp)⟩, ?_, ?_⟩)) ?_
    · rintro i sl hi ⟨⟨a, b, rfl⟩, hall⟩
      rw [Int.toNat_natCast] at hi
      have e : (List.range n)[i]? = some i := List.getElem?_range hi
      have hrl := ringN_len hv s0 hi
      refine gd_name ?_
      refine sq_set (XD.w (xmc ((⟨n, ts, s0⟩ : CS), i) xv (ac xv an) rfl rfl ⟨⟨hn, hv⟩, hi⟩) ?_)
      refine sif (w := !decide (ringN n ts s0 i = []) && ringB n s0 (ringN n ts s0 i)) (tda (TD.to (tdt (xne (d1 := .tup ((ringN n ts s0 i).map natD)) (d2 := .tup []) xv (xtup an rfl (Nat.zero_le _)) rfl rfl (plD_tupn _) rfl)) (by rw [eqD_tup_nil])) fun _ => tdb (xmc ((⟨n, ts, s0⟩ : CS), ringN n ts s0 i) xv (ac xv an) rfl rfl ⟨⟨hn, hv⟩, by show (ringN n ts s0 i).length ≤ 4000; omega⟩)) (fun h => ?_) fun h => sd_next ⟨⟨_, _, rfl⟩, fun q hq => ?_⟩
      · refine sd_ret (XD.w (xtup2 xs xv) ?_)
        rw [Bool.and_eq_true] at h
        rw [find_at e hall (show leafR n ts s0 i = some (.ring (ringN n ts s0 i)) by unfold leafR; rw [if_pos ⟨by simpa using h.1, h.2⟩])] at hk
        exact hk
      · rw [take_succ e] at hq
        rcases List.mem_append.mp hq with h3 | h3
        · exact hall q h3
        · obtain rfl := List.mem_singleton.mp h3
          unfold leafR
          rw [if_neg]
          rintro ⟨h4, h5⟩
          rw [h5, Bool.and_true] at h
          exact h4 (by simpa using h)
    · rintro sl ⟨h1, hall⟩
      rw [Int.toNat_natCast, List.take_of_length_le (by rw [List.length_range]; exact Nat.le_refl _)] at hall
      exact findSome_none.mpr hall
    · intro sl h
      rw [h] at hk
      exact sd_ret (XD.w xn hk)

theorem ok_Cases_next_tie (T : Txt K mg A) : FnOk P w K mg base CX0 3 A.a_Cases_next_tie A.fd_Cases_next_tie ["self"] (spD A.C (fn_Cases_next_tie A.C_Cases)) := by
  refine T.F_Cases_next_tie.ok sc_Cases_next_tie (fun vs H Q E h => lenP (fun _ => rfl) h) (fun cdv A' outer s H vs Q E hr h => ⟨_, (pss_cons (ps_set (i := 1) sc_Cases_next_tie.nd rfl (by first | exact Or.inl rfl | exact Or.inr rfl) pe_non)
 (pss_cons (ps_for PassesOwn.never rfl (pi_range1 rfl T.b_range (pa_cons (pe_meth0 (pe_fld (pv 0) rfl) T.cl T.m_Yard_many (ok_Yard_many T) (hr.mono (by decide)) T.B_Yard_many .nil pass0) pa_nil)) (pg_name (i := 2) sc_Cases_next_tie.nd rfl (by first | exact Or.inl rfl | exact Or.inr rfl)) (pss_cons (ps_set (i := 3) sc_Cases_next_tie.nd rfl (by first | exact Or.inl rfl | exact Or.inr rfl) (pe_meth (pv 0) T.cl_Cases T.m_Cases_ties_at (ok_Cases_ties_at T) (hr.mono (by decide)) T.B_Cases_ties_at .nil pass0 (pa_cons (pv 2) (pa_cons (pe_tup (pa_cons pe_non pa_nil)) pa_nil))))
 (pss_one (ps_if (pt_cmpR (k_ne K rfl hr.units) (pv 3) (pe_lst pa_nil) (nomark _)) (pss_cons (ps_set (i := 4) sc_Cases_next_tie.nd rfl (by first | exact Or.inl rfl | exact Or.inr rfl) (pe_tup (pa_cons (pe_op (k_plus K rfl) (pe_callB (k_len K rfl) (by rfl) T.b_len (by decide +kernel) (pa_cons (pv 3) pa_nil)) (pe_callB (k_len K rfl) (by rfl) T.b_len (by decide +kernel) (pa_cons (pe_meth (pv 0) T.cl_Cases T.m_Cases_ties_at (ok_Cases_ties_at T) (hr.mono (by decide)) T.B_Cases_ties_at .nil pass0 (pa_cons (pv 2) (pa_cons (pe_tup (pa_cons pe_bl pa_nil)) pa_nil))) pa_nil))) (pa_cons (pv 2) pa_nil))))
 (pss_one (ps_if (PW.pt (pw_or (pt_cmpR op_isN (pv 1) pe_non (nomark _)) (pw_or1 (pt_cmpR (k_ltD K rfl hr.units) (pv 4) (pe_ix (k_ix K rfl (hu_of hr)) (pv 1) pe_int (fun _ _ => rfl)) (nomark _))))) (pss_one (ps_set (i := 1) sc_Cases_next_tie.nd rfl (by first | exact Or.inl rfl | exact Or.inr rfl) (pe_tup (pa_cons (pv 4) (pa_cons (pe_ix (k_ix K rfl (hu_of hr)) (pv 3) pe_int (fun _ _ => rfl)) pa_nil))))) pss_nil))) pss_nil))))
 (pss_one (ps_ret (pe_ifExp (pt_cmpR op_isN (pv 1) pe_non (nomark _)) pe_non (pe_ix (k_ix K rfl (hu_of hr)) (pv 1) pe_int (fun _ _ => rfl))))))), enterP (N := N_Cases_next_tie) (fun _ => Nat.le_of_ble_eq_true rfl) (fun a Kq hp hk => ?_) h⟩)
  obtain ⟨n, ts, s0⟩ := a
  obtain ⟨hn, hv⟩ := hp
  replace hn : n ≤ 30 := hn
  replace hv : ValidY n ts := hv
  replace hk : Kq (.dat (tieO (nextN n ts s0))) := hk
  refine sq_set (XD.w xn ?_)
  refine sd_cut (fun sl => ∃ a b c, sl = [.dat (casD A.C_Cases n ts s0), .dat (bestD (bestN n ts s0)), a, b, c]) (sd_forR1 (ks := [2]) (XD.w (xmt (n, ts) (xyardC T.cl_Cases T.nY xv) an rfl rfl trivial) ⟨(n : Int), rfl, by omega, by omega, fun i sl => ∃ a b c, sl = [.dat (casD A.C_Cases n ts s0), .dat (bestD ((List.range i).foldl (stepB ts s0) none)), a, b, c], ⟨_, _, _, rfl⟩, ?_, fun sl h => by rw [Int.toNat_natCast] at h; exact h⟩)) ?_
  · rintro i sl hi ⟨a, b, c, rfl⟩
    rw [Int.toNat_natCast] at hi
    have hst : (List.range (i + 1)).foldl (stepB ts s0) none = stepB ts s0 ((List.range i).foldl (stepB ts s0) none) i := by
      rw [List.range_succ, List.foldl_append]; rfl
    simp only []
    rw [hst]
    generalize (List.range i).foldl (stepB ts s0) none = B
    refine gd_name ?_
    refine sq_setF (XD.w (xmc (⟨n, ts, s0, i, [none]⟩ : CT) xv (ac xv (ac (xtup1 xn rfl) an)) rfl rfl ⟨hn, hv⟩) ?_)
    refine sif (w := !decide (tiesAt ts s0 i [none] = [])) (TD.to (tdt (xne (d1 := .lst ((tiesAt ts s0 i [none]).map tieD)) (d2 := .lst []) xv xlst0 rfl rfl (plD_ties _) (plD_ties []))) (by rw [eqD_ties_nil])) (fun h => ?_) fun h => ?_
    · have hne : tiesAt ts s0 i [none] ≠ [] := by simpa using h
      obtain ⟨p, hp⟩ : ∃ p, (tiesAt ts s0 i [none]).head? = some p := by
        cases e : tiesAt ts s0 i [none] with
        | nil => exact absurd e hne
        | cons p r => exact ⟨p, rfl⟩
      have h0 : (tiesAt ts s0 i [none])[0]? = some p := by rw [← List.head?_eq_getElem?]; exact hp
      refine sq_set (XD.w (XD.to (xtup2 (xadd (xlen (ds := (tiesAt ts s0 i [none]).map tieD) xv rfl) (xlen (ds := (tiesAt ts s0 i [some true]).map tieD) (xmc (⟨n, ts, s0, i, [some true]⟩ : CT) xv (ac xv (ac (xtup1 xb rfl) an)) rfl rfl ⟨hn, hv⟩) rfl)) xv) (r1 := .dat (.tup [.int (((tiesAt ts s0 i [none]).length + (tiesAt ts s0 i [some true]).length : Nat) : Int), .int (i : Int)])) (by rw [List.length_map, List.length_map]; rfl)) ?_)
      have hset : ∀ {nx bk ct : List Sl → Prop} {rt : Sl → Prop} {x y z u v : Sl}, v = .dat (.tup [.int (((tiesAt ts s0 i [none]).length + (tiesAt ts s0 i [some true]).length : Nat) : Int), .int (i : Int)]) → u = .dat (.lst ((tiesAt ts s0 i [none]).map tieD)) → nx [x, .dat (bestD (some (((tiesAt ts s0 i [none]).length + (tiesAt ts s0 i [some true]).length, i), p))), z, u, v] → SD A.C ρ0 (tAsg (tTup (tCons (tVar 4) (tCons (tOp (rIxA K) (tVar 3) (tC (.int 0))) tNil))) (gName 1)) [x, y, z, u, v] nx rt bk ct := fun e1 e2 h => by
        subst e1 e2
        exact sd_set (XD.w (xtup2 xv (xixm (f := tieD) (ds := tiesAt ts s0 i [none]) xv xi rfl (atI_nat (j := 0) h0))) h)
      cases B with
      | none =>
        refine sif (w := true) (tdo (b := false) (tdt (xisN (d := .non) xv xn)) fun h => by cases h) (fun _ => ?_) fun h => by cases h
        have hsb : stepB ts s0 none i = some (((tiesAt ts s0 i [none]).length + (tiesAt ts s0 i [some true]).length, i), p) := by unfold stepB; rw [hp]
        rw [hsb]
        exact hset rfl rfl ⟨_, _, _, rfl⟩
      | some q =>
        refine sif (w := decide ((tiesAt ts s0 i [none]).length + (tiesAt ts s0 i [some true]).length < q.1.1 ∨ ((tiesAt ts s0 i [none]).length + (tiesAt ts s0 i [some true]).length = q.1.1 ∧ i < q.1.2))) (TD.to (tdo (a := false) (tdt (xisN (d := bestD (some q)) xv xn)) fun _ => tdt (xltP (a := (((tiesAt ts s0 i [none]).length + (tiesAt ts s0 i [some true]).length : Nat) : Int)) (b := (i : Int)) (c := (q.1.1 : Int)) (d := (q.1.2 : Int)) xv (xix (ds := [.tup [.int (q.1.1 : Int), .int (q.1.2 : Int)], tieD q.2]) xv xi rfl rfl))) ?_) (fun h2 => ?_) fun h2 => ?_
        · rw [Bool.false_or]
          exact decide_eq_decide.mpr (by omega)
        · have hsb : stepB ts s0 (some q) i = some (((tiesAt ts s0 i [none]).length + (tiesAt ts s0 i [some true]).length, i), p) := by
            unfold stepB; rw [hp]; dsimp only; rw [if_pos (of_decide_eq_true h2)]
          rw [hsb]
          exact hset rfl rfl ⟨_, _, _, rfl⟩
        · have hsb : stepB ts s0 (some q) i = some q := by
            unfold stepB; rw [hp]; dsimp only; rw [if_neg (of_decide_eq_false h2)]
          rw [hsb]
          exact sd_next ⟨_, _, _, rfl⟩
    · have he : tiesAt ts s0 i [none] = [] := by simpa using h
      have hsb : stepB ts s0 B i = B := by unfold stepB; rw [he]; rfl
      rw [hsb]
      exact sd_next ⟨_, _, _, rfl⟩
  · rintro sl ⟨a, b, c, rfl⟩
    unfold nextN at hk
    cases hB : bestN n ts s0 with
    | none =>
      rw [hB] at hk
      exact sd_ret (xif (b := true) (tdt (xisN (d := .non) xv xn)) (fun _ => XD.w xn hk) fun h => by cases h)
    | some q =>
      rw [hB] at hk
      exact sd_ret (xif (b := false) (tdt (xisN (d := bestD (some q)) xv xn)) (fun h => by cases h) fun _ => XD.w (xix (ds := [.tup [.int (q.1.1 : Int), .int (q.1.2 : Int)], tieD q.2]) (d := tieD q.2) xv xi rfl rfl) hk)

theorem ok_Cases_node (T : Txt K mg A) : ∀ k : Nat, FnOk P w K mg base CX0 (k + 8) A.a_Cases_node A.fd_Cases_node ["self"] (spD A.C (fn_Cases_node k A.C_Cases))
  | 0 => fn_noneP fun d h => by have := h.2.1.len; have := h.2.2; omega
  | k + 1 => by
    have ih := ok_Cases_node T k
    refine T.F_Cases_node.ok sc_Cases_node (fun vs H Q E h => lenP (fun _ => rfl) h) (fun cdv A' outer s H vs Q E hr h => ⟨_, (pss_cons (ps_set (i := 1) sc_Cases_node.nd rfl (by first | exact Or.inl rfl | exact Or.inr rfl) (pe_meth0 (pv 0) T.cl_Cases T.m_Cases_leaf (ok_Cases_leaf T) (hr.mono (by omega)) T.B_Cases_leaf .nil pass0))
 (pss_cons (ps_if (pt_cmpR op_notN (pv 1) pe_non (nomark _)) (pss_one (ps_ret (pv 1))) pss_nil)
 (pss_cons (ps_set (i := 2) sc_Cases_node.nd rfl (by first | exact Or.inl rfl | exact Or.inr rfl) (pe_meth0 (pv 0) T.cl_Cases T.m_Cases_next_tie (ok_Cases_next_tie T) (hr.mono (by omega)) T.B_Cases_next_tie .nil pass0))
 (pss_cons (ps_if (pt_cmpR op_isN (pv 2) pe_non (nomark _)) (pss_one (ps_ret pe_non)) pss_nil)
 (pss_cons (ps_set (i := 3) sc_Cases_node.nd rfl (by first | exact Or.inl rfl | exact Or.inr rfl) (pe_lst pa_nil))
 (pss_cons (ps_for PassesOwn.never rfl (pi_tup (pe_tup (pa_cons pe_bl (pa_cons pe_bl pa_nil)))) (pg_name (i := 4) sc_Cases_node.nd rfl (by first | exact Or.inl rfl | exact Or.inr rfl)) (pss_cons (ps_asg (pv 4) (pg_sub (pe_fld (pv 0) rfl) (pv 2) (set_any (hu_of hr))))
 (pss_cons (ps_set (i := 5) sc_Cases_node.nd rfl (by first | exact Or.inl rfl | exact Or.inr rfl) (pe_meth0 (pv 0) T.cl_Cases T.m_Cases_node ih hr T.B_Cases_node .nil pass0))
 (pss_cons (ps_expr (pe_bm PySem.F.plainAttrs_dict PySem.F.slot_dict_pop PySem.F.type_dict_pop (mt_popT1 (hu_of hr)) (pe_fld (pv 0) rfl) (pa_cons (pv 2) pa_nil)))
 (pss_cons (ps_if (pt_cmpR op_isN (pv 5) pe_non (nomark _)) (pss_one (ps_ret pe_non)) pss_nil)
 (pss_one (ps_expr (pe_bm PySem.F.plainAttrs_list PySem.F.slot_list_append PySem.F.type_list_append mt_append (pv 3) (pa_cons (pv 5) pa_nil)))))))))
 (pss_one (ps_ret (pe_tup (pa_cons pe_str (pa_cons (pv 2) (pa_cons (pe_ix (k_ix K rfl (hu_of hr)) (pv 3) pe_int (fun _ _ => rfl)) (pa_cons (pe_ix (k_ix K rfl (hu_of hr)) (pv 3) pe_int (fun _ _ => rfl)) pa_nil))))))))))))), enterP (N := N_Cases_node) (fun _ => Nat.le_of_ble_eq_true rfl) (fun a Kq hp hk => ?_) h⟩)
    obtain ⟨n, ts, s0⟩ := a
    obtain ⟨⟨hn, hv⟩, hs, hl⟩ := hp
    replace hn : n ≤ 30 := hn
    replace hv : ValidY n ts := hv
    replace hs : SaidOk ts s0 := hs
    replace hl : ts.length + 1 ≤ s0.length + (k + 1) := hl
    replace hk : Kq (.dat (trO (nodeN n ts s0))) := hk
    have h9 := hv.len hn
    refine sq_set (XD.w (xmc (⟨n, ts, s0⟩ : CS) xv an rfl rfl ⟨hn, hv⟩) ?_)
    show SD _ _ _ [.dat (casD A.C_Cases n ts s0), .dat (trO (leafN n ts s0)), .any, .any, .any, .any] _ _ _ _
    cases hL : leafN n ts s0 with
    | some t =>
      rw [node_leaf hL] at hk
      exact sq_if (w := true) (TD.to (tdt (xnotN (d := trD t) xv xn)) (by rw [isNon_tr]; rfl)) (fun _ => sq_ret (XD.w xv hk)) fun h => by cases h
    | none =>
      refine sq_if (w := false) (TD.to (tdt (xnotN (d := .non) xv xn)) rfl) (fun h => by cases h) fun _ => sq_next ?_
      refine sq_set (XD.w (xmc (⟨n, ts, s0⟩ : CS) xv an rfl rfl ⟨hn, hv⟩) ?_)
      show SD _ _ _ [.dat (casD A.C_Cases n ts s0), .dat .non, .dat (tieO (nextN n ts s0)), .any, .any, .any] _ _ _ _
      cases hN : nextN n ts s0 with
      | none =>
        rw [node_end hL hN] at hk
        exact sq_if (w := true) (TD.to (tdt (xisN (d := .non) xv xn)) rfl) (fun _ => sq_ret (XD.w xn hk)) fun h => by cases h
      | some p =>
        obtain ⟨hpt, hpn⟩ := next_mem hN
        have hls := hs.lt hpt hpn
        rw [node_step hs hL hN] at hk
        refine sq_if (w := false) (TD.to (tdt (xisN (d := tieD p) xv xn)) rfl) (fun h => by cases h) fun _ => sq_next ?_
        refine sq_set (XD.w xlst0 ?_)
        refine sd_cut (fun sl => ∃ a b u v, sl = [.dat (casD A.C_Cases n ts s0), .dat .non, .dat (tieD p), .own [trD a, trD b], u, v] ∧ nodeN n ts (s0 ++ [(p, true)]) = some a ∧ nodeN n ts (s0 ++ [(p, false)]) = some b) (sd_forT (ks := [4]) (XD.w (xtup2 xb xb) ⟨_, rfl, fun i sl => (i = 0 ∧ ∃ u v, sl = [.dat (casD A.C_Cases n ts s0), .dat .non, .dat (tieD p), .own [], u, v]) ∨ (i = 1 ∧ ∃ a u v, sl = [.dat (casD A.C_Cases n ts s0), .dat .non, .dat (tieD p), .own [trD a], u, v] ∧ nodeN n ts (s0 ++ [(p, true)]) = some a) ∨ (i = 2 ∧ ∃ a b u v, sl = [.dat (casD A.C_Cases n ts s0), .dat .non, .dat (tieD p), .own [trD a, trD b], u, v] ∧ nodeN n ts (s0 ++ [(p, true)]) = some a ∧ nodeN n ts (s0 ++ [(p, false)]) = some b), .inl ⟨rfl, _, _, rfl⟩, ?_, ?_⟩)) ?_
        · have one : ∀ (b : Bool) (ns : List Dt) (u v : Sl) {nx bk ct : List Sl → Prop}, ns.length ≤ 10 → (nodeN n ts (s0 ++ [(p, b)]) = none → Kq (.dat .non)) → (∀ a, nodeN n ts (s0 ++ [(p, b)]) = some a → nx [.dat (casD A.C_Cases n ts s0), .dat .non, .dat (tieD p), .own (ns ++ [trD a]), .dat (.bl b), .dat (trD a)]) → SD A.C ρ0 (tSeq (tAsg (tVar 4) (gSub (tFld K (tVar 0) "said") (tVar 2) rSetA)) (tSeq (tAsg (tMeth A.C_Cases "node" (spD A.C (fn_Cases_node k A.C_Cases)) [] E0 (tVar 0) tNil) (gName 5)) (tSeq (tDrop (tBM K "dict" rPopT1 (tFld K (tVar 0) "said") (tCons (tVar 2) tNil))) (tSeq (tIfS (tTest (tOp (fun x y H Q => y = .non ∧ Q (.bl (decide (x = .non))) H) (tVar 5) (tC .non))) (tRet (tC .non)) tNext) (tDrop (tBM K "list" rAppend (tVar 3) (tCons (tVar 5) tNil))))))) [.dat (casD A.C_Cases n ts s0), .dat .non, .dat (tieD p), .own ns, .dat (.bl b), v] nx Kq bk ct := fun b ns u v nx bk ct hns h1 h2 => by
            refine sd_said (k := 3) (i := 1) (j := 4) (r := [.dat .non, .dat (tieD p), .own ns, .dat (.bl b), v]) T.cl_Cases T.nD (by omega) hpn rfl rfl (by decide) (by show 4 < 5; decide) (.any (.any (.any (.any (.any .nil))))) (XD.w (xmc (⟨n, ts, s0 ++ [(p, b)]⟩ : CS) xv an rfl rfl ⟨⟨hn, hv⟩, hs.snoc hpt hpn, by show ts.length + 1 ≤ (s0 ++ [(p, b)]).length + k; rw [List.length_append]; simp; omega⟩) ⟨_, rfl, noT_trO _, ?_⟩)
            show SD _ _ _ [.dat (casD A.C_Cases n ts s0), .dat .non, .dat (tieD p), .own ns, .dat (.bl b), .dat (trO (nodeN n ts (s0 ++ [(p, b)])))] _ _ _ _
            cases hx : nodeN n ts (s0 ++ [(p, b)]) with
            | none => exact sq_if (w := true) (TD.to (tdt (xisN (d := .non) xv xn)) rfl) (fun _ => sq_ret (XD.w xn (h1 hx))) fun h => by cases h
            | some a =>
              refine sq_if (w := false) (TD.to (tdt (xisN (d := trD a) xv xn)) (isNon_tr a)) (fun h => by cases h) fun _ => sq_next ?_
              exact sd_append (i := 3) (ds := ns) rfl (by omega) (XD.w xv ⟨_, rfl, h2 a hx⟩)
          rintro i d sl hi (⟨rfl, u, v, rfl⟩ | ⟨rfl, a, u, v, rfl, ha⟩ | ⟨rfl, _⟩)
          · cases hi
            refine gd_name (one true [] u v (Nat.zero_le _) (fun h => ?_) fun a ha => .inr (.inl ⟨rfl, a, _, _, rfl, ha⟩))
            rw [h] at hk; exact hk
          · cases hi
            refine gd_name (one false [trD a] u v (Nat.le_of_ble_eq_true rfl) (fun h => ?_) fun b hb => .inr (.inr ⟨rfl, a, b, _, _, rfl, ha, hb⟩))
            rw [ha, h] at hk; exact hk
          · cases hi
        · rintro sl (⟨h, _⟩ | ⟨h, _⟩ | ⟨_, h⟩)
          · cases h
          · cases h
          · exact h
        · rintro sl ⟨a, b, u, v, rfl, ha, hb⟩
          rw [ha, hb] at hk
          exact sd_ret (XD.w (xtup (ac xs (ac xv (ac (xix (ds := [trD a, trD b]) xv xi rfl rfl) (ac (xix (ds := [trD a, trD b]) xv xi rfl rfl) an)))) rfl (Nat.le_of_ble_eq_true rfl)) hk)

theorem ok_p_round_of (T : Txt K mg A) : FnOk P w K mg base CX0 76 A.a_p_round_of A.fd_p_round_of ["yard"] (spD A.C (fn_p_round_of A.C)) := by
  refine T.F_p_round_of.ok sc_p_round_of (fun vs H Q E h => lenP (fun _ => rfl) h) (fun cdv A' outer s H vs Q E hr h => ⟨_, (pss_cons (ps_expr (pe_call (ok_p_need_few T) (hr.mono (by decide)) (by rfl) T.g_p_need_few T.F_p_need_few.kp T.B_p_need_few .nil pass0 (pa_cons (pv 0) pa_nil)))
 (pss_cons (ps_set (i := 1) sc_p_round_of.nd rfl (by first | exact Or.inl rfl | exact Or.inr rfl) (pe_call (ok_p_first_round T) (hr.mono (by decide)) (by rfl) T.g_p_first_round T.F_p_first_round.kp T.B_p_first_round .nil pass0 (pa_cons (pv 0) pa_nil)))
 (pss_cons (ps_if (pt_cmpR op_notN (pv 1) pe_non (nomark _)) (pss_one (ps_ret (pe_tup (pa_cons pe_str (pa_cons (pv 1) pa_nil))))) pss_nil)
 (pss_cons (ps_if (pt_cmpR op_lt (pe_meth0 (pv 0) T.cl T.m_Yard_many (ok_Yard_many T) (hr.mono (by decide)) T.B_Yard_many .nil pass0) pe_int (nomark _)) (pss_one (ps_ret (pe_tup (pa_cons pe_str (pa_cons (pe_tup (pa_cons pe_str pa_nil)) pa_nil))))) pss_nil)
 (pss_cons (ps_set (i := 2) sc_p_round_of.nd rfl (by first | exact Or.inl rfl | exact Or.inr rfl) (pe_call (ok_p_parting T) (hr.mono (by decide)) (by rfl) T.g_p_parting T.F_p_parting.kp T.B_p_parting .nil pass0 (pa_cons (pv 0) pa_nil)))
 (pss_cons (ps_if (pt_cmpR op_notN (pv 2) pe_non (nomark _)) (pss_one (ps_ret (pe_tup (pa_cons pe_str (pa_cons (pe_tup (pa_cons pe_str (pa_cons (pv 2) pa_nil))) pa_nil))))) pss_nil)
 (pss_one (ps_ret (pe_tup (pa_cons pe_str (pa_cons (pe_tup (pa_cons pe_str (pa_cons (pe_meth0 (pe_make T.M_Cases (ok_Cases_init T) (hr.mono (by decide)) (by rfl) T.g_Cases T.B_Cases_init .nil pass0 (pa_cons (pv 0) pa_nil)) T.cl_Cases T.m_Cases_node (ok_Cases_node T 67) (hr.mono (by decide)) T.B_Cases_node .nil pass0) pa_nil))) pa_nil))))))))))), enterP (N := N_p_round_of) (fun _ => Nat.le_of_ble_eq_true rfl) (fun a Kq hp hk => ?_) h⟩)
  obtain ⟨n, ts⟩ := a
  obtain ⟨h1, hn, hv⟩ := hp
  replace h1 : 1 ≤ n := h1
  replace hn : n ≤ 12 := hn
  replace hv : ValidY n ts := hv
  replace hk : Kq (roundS A.C n ts) := hk
  have h66 := valid_66 hv hn
  refine sd_seq (sd_drop (XD.w (xcl (n, ts) (ac xv an) rfl hn) ?_))
  refine sq_set (xclW (post := fun a K => K (firstS a.1 a.2)) (n, ts) (ac xv an) rfl ⟨h1, hn, hv⟩ ⟨firstS_plain n ts, ?_⟩)
  have hF : firstS n ts = (match (if n < 3 then none else goneN n ts [0]) with | none => .dat .non | some r => .own (r.map natD)) := by
    unfold firstS goneS
    by_cases h3 : n < 3
    · rw [if_pos h3, if_pos h3]
    · rw [if_neg h3, if_neg h3]
      try (cases goneN n ts [0] <;> rfl)
  simp only []
  rw [hF]
  unfold roundS at hk
  cases hO : (if n < 3 then none else goneN n ts [0]) with
  | some r =>
    rw [hO] at hk
    exact sq_if (w := true) (tdt (xnotNb xv xn)) (fun _ => sq_ret1 (i := 1) rfl (XD.w xs ⟨rfl, hk⟩)) fun h => by cases h
  | none =>
    rw [hO] at hk
    replace hk : Kq (.dat (.tup [.str "none", roundP n ts])) := hk
    unfold roundP at hk
    refine sq_if (w := false) (TD.to (tdt (xnotN (d := .non) xv xn)) rfl) (fun h => by cases h) fun _ => sq_next ?_
    refine sq_if (w := decide (n < 3)) (TD.to (tdt (xcmp (g := fun i j => decide (i < j)) (xmt (n, ts) xv an rfl rfl trivial) xi)) (decide_eq_decide.mpr (by omega))) (fun h => ?_) fun h => sq_next ?_
    · rw [if_pos (of_decide_eq_true h)] at hk
      exact sq_ret (XD.w (xtup2 xs (xtup1 xs rfl)) hk)
    rw [if_neg (of_decide_eq_false h)] at hk
    refine sq_set (XD.w (xcl (n, ts) (ac xv an) rfl ⟨h1, hn, hv⟩) ?_)
    show SD _ _ _ [.dat (.yard n ts), .dat .non, .dat (optL (partN n ts))] _ _ _ _
    cases hp : partN n ts with
    | none =>
      rw [hp] at hk
      refine sq_if (w := false) (TD.to (tdt (xnotN (d := .non) xv xn)) rfl) (fun h => by cases h) fun _ => sq_next ?_
      exact sd_ret (XD.w (xtup2 xs (xtup2 xs (xmc (⟨n, ts, []⟩ : CS) (wx_makeC (wa_cons (XD.w xv (wa_nil ⟨n, ts, rfl, rfl⟩)))) an rfl rfl ⟨⟨by show n ≤ 30; omega, hv⟩, .nil, by show ts.length + 1 ≤ 0 + 67; omega⟩))) hk)
    | some p =>
      rw [hp] at hk
      exact sq_if (w := true) (TD.to (tdt (xnotN (d := ordD p) xv xn)) rfl) (fun _ => sq_ret (XD.w (xtup2 xs (xtup2 xs xv)) hk)) fun h => by cases h

theorem ok_l_alike (T : Txt K mg A) : ∀ k : Nat, FnOk P w K mg base CX0 k A.a_l_alike A.fd_l_alike ["_law_found", "_law_due"] (spD A.C (fn_l_alike k))
  | 0 => fn_noneP fun d h => by cases h
  | k + 1 => by
    have ih := ok_l_alike T k
    refine T.F_l_alike.ok sc_l_alike (fun vs H Q E h => lenP (fun _ => rfl) h) (fun cdv A' outer s H vs Q E hr h => ⟨_, (pss_cons (ps_if (pt_cmpR op_isN (pv 1) pe_non (nomark _)) (pss_one (ps_ret (pe_cmpR op_isN (pv 0) pe_non (nomark _)))) pss_nil)
 (pss_cons (ps_if (pt_val (pe_callB (k_isi K rfl) (by rfl) T.b_isinstance (by decide +kernel) (pa_cons (pv 1) (pa_cons (pe_bltn (v := .ty "bool") (u := .type "bool") (by rfl) T.b_bool (by decide +kernel) rfl) pa_nil)))) (pss_one (ps_ret (pe_and (pe_callB (k_isi K rfl) (by rfl) T.b_isinstance (by decide +kernel) (pa_cons (pv 0) (pa_cons (pe_bltn (v := .ty "bool") (u := .type "bool") (by rfl) T.b_bool (by decide +kernel) rfl) pa_nil))) (pe_one (pe_cmpR (k_eq K rfl hr.units) (pv 0) (pv 1) (nomark _)))))) pss_nil)
 (pss_cons (ps_if (pt_val (pe_callB (k_isi K rfl) (by rfl) T.b_isinstance (by decide +kernel) (pa_cons (pv 1) (pa_cons (pe_bltn (v := .ty "int") (u := .type "int") (by rfl) T.b_int (by decide +kernel) rfl) pa_nil)))) (pss_one (ps_ret (pe_and (pe_callB (k_isi K rfl) (by rfl) T.b_isinstance (by decide +kernel) (pa_cons (pv 0) (pa_cons (pe_bltn (v := .ty "int") (u := .type "int") (by rfl) T.b_int (by decide +kernel) rfl) pa_nil))) (pe_and (pe_not (pe_callB (k_isi K rfl) (by rfl) T.b_isinstance (by decide +kernel) (pa_cons (pv 0) (pa_cons (pe_bltn (v := .ty "bool") (u := .type "bool") (by rfl) T.b_bool (by decide +kernel) rfl) pa_nil)))) (pe_one (pe_cmpR (k_eq K rfl hr.units) (pv 0) (pv 1) (nomark _))))))) pss_nil)
 (pss_cons (ps_if (pt_val (pe_callB (k_isi K rfl) (by rfl) T.b_isinstance (by decide +kernel) (pa_cons (pv 1) (pa_cons (pe_bltn (v := .ty "str") (u := .type "str") (by rfl) T.b_str (by decide +kernel) rfl) pa_nil)))) (pss_one (ps_ret (pe_and (pe_callB (k_isi K rfl) (by rfl) T.b_isinstance (by decide +kernel) (pa_cons (pv 0) (pa_cons (pe_bltn (v := .ty "str") (u := .type "str") (by rfl) T.b_str (by decide +kernel) rfl) pa_nil))) (pe_one (pe_cmpR (k_eq K rfl hr.units) (pv 0) (pv 1) (nomark _)))))) pss_nil)
 (pss_cons (ps_if (pt_val (pe_callB (k_isi K rfl) (by rfl) T.b_isinstance (by decide +kernel) (pa_cons (pv 1) (pa_cons (pe_bltn (v := .ty "dict") (u := .type "dict") (by rfl) T.b_dict (by decide +kernel) rfl) pa_nil)))) (pss_cons (ps_if (PW.pt (pw_or (pt_not (pt_val (pe_callB (k_isi K rfl) (by rfl) T.b_isinstance (by decide +kernel) (pa_cons (pv 0) (pa_cons (pe_bltn (v := .ty "dict") (u := .type "dict") (by rfl) T.b_dict (by decide +kernel) rfl) pa_nil))))) (pw_or1 (pt_cmpR (k_ne K rfl hr.units) (pe_callB (k_len K rfl) (by rfl) T.b_len (by decide +kernel) (pa_cons (pv 0) pa_nil)) (pe_callB (k_len K rfl) (by rfl) T.b_len (by decide +kernel) (pa_cons (pv 1) pa_nil)) (nomark _))))) (pss_one (ps_ret pe_bl)) pss_nil)
 (pss_one (ps_ret (pe_callB (k_all K rfl rfl) (by rfl) T.b_all (by decide +kernel) (pa_cons (pe_lc (own := [("_law_name", 2)]) (g := gName 2) rfl sc_l_alike.nd (pi_list (pv 1)) (blkOk_by (own := [("_law_name", 2)]) (N := N_l_alike) (sc := defScope s_l_alike) (by decide +kernel)) (fun _ _ _ _ _ => pg_name (i := 2) sc_l_alike.nd rfl (Or.inl rfl)) (fun _ _ _ _ _ => pts_nil) (fun _ _ _ _ _ => (pe_and (pe_cmpR (k_in K rfl hr) (pv 2) (pv 0) (by rfl)) (pe_one (pe_call ih hr (by rfl) T.g_l_alike T.F_l_alike.kp T.B_l_alike .nil pass0 (pa_cons (pe_ix (k_ix K rfl (hu_of hr)) (pv 0) (pv 2) (fun _ _ => rfl)) (pa_cons (pe_ix (k_ix K rfl (hu_of hr)) (pv 1) (pv 2) (fun _ _ => rfl)) pa_nil))))))) pa_nil))))) pss_nil)
 (pss_cons (ps_if (PW.pt (pw_or (pt_cmpR (k_ne K rfl hr.units) (pe_callB (k_isi K rfl) (by rfl) T.b_isinstance (by decide +kernel) (pa_cons (pv 1) (pa_cons (pe_bltn (v := .ty "tuple") (u := .type "tuple") (by rfl) T.b_tuple (by decide +kernel) rfl) pa_nil))) (pe_callB (k_isi K rfl) (by rfl) T.b_isinstance (by decide +kernel) (pa_cons (pv 0) (pa_cons (pe_bltn (v := .ty "tuple") (u := .type "tuple") (by rfl) T.b_tuple (by decide +kernel) rfl) pa_nil))) (nomark _)) (pw_or1 (pt_cmpR (k_ne K rfl hr.units) (pe_callB (k_isi K rfl) (by rfl) T.b_isinstance (by decide +kernel) (pa_cons (pv 1) (pa_cons (pe_bltn (v := .ty "list") (u := .type "list") (by rfl) T.b_list (by decide +kernel) rfl) pa_nil))) (pe_callB (k_isi K rfl) (by rfl) T.b_isinstance (by decide +kernel) (pa_cons (pv 0) (pa_cons (pe_bltn (v := .ty "list") (u := .type "list") (by rfl) T.b_list (by decide +kernel) rfl) pa_nil))) (nomark _))))) (pss_one (ps_ret pe_bl)) pss_nil)
 (pss_cons (ps_if (pt_cmpR (k_ne K rfl hr.units) (pe_callB (k_len K rfl) (by rfl) T.b_len (by decide +kernel) (pa_cons (pv 0) pa_nil)) (pe_callB (k_len K rfl) (by rfl) T.b_len (by decide +kernel) (pa_cons (pv 1) pa_nil)) (nomark _)) (pss_one (ps_ret pe_bl)) pss_nil)
 (pss_one (ps_ret (pe_callB (k_all K rfl rfl) (by rfl) T.b_all (by decide +kernel) (pa_cons (pe_lc (own := [("_law_k", 3)]) (g := gName 3) rfl sc_l_alike.nd (pi_range1 rfl T.b_range (pa_cons (pe_callB (k_len K rfl) (by rfl) T.b_len (by decide +kernel) (pa_cons (pv 1) pa_nil)) pa_nil)) (blkOk_by (own := [("_law_k", 3)]) (N := N_l_alike) (sc := defScope s_l_alike) (by decide +kernel)) (fun _ _ _ _ _ => pg_name (i := 3) sc_l_alike.nd rfl (Or.inl rfl)) (fun _ _ _ _ _ => pts_nil) (fun _ _ _ _ _ => (pe_call ih hr (by rfl) T.g_l_alike T.F_l_alike.kp T.B_l_alike .nil pass0 (pa_cons (pe_ix (k_ix K rfl (hu_of hr)) (pv 0) (pv 3) (fun _ _ => rfl)) (pa_cons (pe_ix (k_ix K rfl (hu_of hr)) (pv 1) (pv 3) (fun _ _ => rfl)) pa_nil))))) pa_nil))))))))))), enterP (N := N_l_alike) (fun _ => Nat.le_of_ble_eq_true rfl) (fun a Kq hp hk => ?_) h⟩)
    have hp : alD (k + 1) a = true := hp
    have seq : ∀ xs : List Dt, xs.length ≤ 100000 ∧ xs.all (alD k) = true → ∀ i : Nat, i < xs.length → ∃ d, xs[i]? = some d ∧ alD k d = true := fun xs h i hi => ⟨xs[i], List.getElem?_eq_getElem hi, List.all_eq_true.mp h.2 _ (List.getElem_mem hi)⟩
    cases a with
    | dki _ => cases hp
    | dkt _ => cases hp
    | yard _ _ => cases hp
    | ext _ => cases hp
    | non => exact sq_if (tdt (xisN xv xn)) (fun _ => sq_ret (XD.w (xisN xv xn) hk)) fun h => by cases h
    | bl b =>
      refine sq_if (tdt (xisN xv xn)) (fun h => by cases h) fun _ => sq_next ?_
      refine sq_if (tdb (xisb xv rfl)) (fun _ => sq_ret (XD.w (xand (xisb xv rfl) fun _ => xeqb xv xv) ?_)) fun h => by cases h
      rw [decide_eq_true rfl]; exact hk
    | int i =>
      refine sq_if (tdt (xisN xv xn)) (fun h => by cases h) fun _ => sq_next ?_
      refine sq_if (tdb (xisb xv rfl)) (fun h => by cases h) fun _ => sq_next ?_
      refine sq_if (tdb (xisint xv rfl)) (fun _ => sq_ret (XD.w (xand (xisint xv rfl) fun _ => xand (xnot (xisb xv rfl)) fun _ => xeqi xv xv) ?_)) fun h => by cases h
      rw [decide_eq_true rfl]; exact hk
    | str i =>
      refine sq_if (tdt (xisN xv xn)) (fun h => by cases h) fun _ => sq_next ?_
      refine sq_if (tdb (xisb xv rfl)) (fun h => by cases h) fun _ => sq_next ?_
      refine sq_if (tdb (xisint xv rfl)) (fun h => by cases h) fun _ => sq_next ?_
      refine sq_if (tdb (xiss xv rfl)) (fun _ => sq_ret (XD.w (xand (xiss xv rfl) fun _ => xeqs xv xv) ?_)) fun h => by cases h
      rw [decide_eq_true rfl]; exact hk
    | lst xs =>
      rw [alD, Bool.and_eq_true, decide_eq_true_eq] at hp
      refine sq_if (tdt (xisN xv xn)) (fun h => by cases h) fun _ => sq_next ?_
      refine sq_if (tdb (xisb xv rfl)) (fun h => by cases h) fun _ => sq_next ?_
      refine sq_if (tdb (xisint xv rfl)) (fun h => by cases h) fun _ => sq_next ?_
      refine sq_if (tdb (xiss xv rfl)) (fun h => by cases h) fun _ => sq_next ?_
      refine sq_if (tdb (xisd xv rfl)) (fun h => by cases h) fun _ => sq_next ?_
      refine sq_if (tdo (tdt (xneb (xist xv rfl) (xist xv rfl))) fun _ => tdt (xneb (xisl xv rfl) (xisl xv rfl))) (fun h => by cases h) fun _ => sq_next ?_
      refine sq_if (tdt (xnei (xlen xv rfl) (xlen xv rfl))) (fun h => by simp at h) fun _ => sq_next ?_
      refine sd_ret (XD.w (xall (bs := List.replicate xs.length true) ((xlcR1 (ks := [3]) (by decide) (xlen xv rfl) (fun _ => true) (fun _ => .bl true) (by omega) fun x hx => gd_name ⟨tdy, fun _ => ?_⟩).to (by rw [all_true]))) (by rw [replicate_all]; exact hk))
      obtain ⟨d, e1, e2⟩ := seq xs hp x hx
      exact (xalike (xix xv xv rfl (atI_nat e1)) (xix xv xv rfl (atI_nat e1)) rfl rfl e2).w rfl
    | tup xs =>
      rw [alD, Bool.and_eq_true, decide_eq_true_eq] at hp
      refine sq_if (tdt (xisN xv xn)) (fun h => by cases h) fun _ => sq_next ?_
      refine sq_if (tdb (xisb xv rfl)) (fun h => by cases h) fun _ => sq_next ?_
      refine sq_if (tdb (xisint xv rfl)) (fun h => by cases h) fun _ => sq_next ?_
      refine sq_if (tdb (xiss xv rfl)) (fun h => by cases h) fun _ => sq_next ?_
      refine sq_if (tdb (xisd xv rfl)) (fun h => by cases h) fun _ => sq_next ?_
      refine sq_if (tdo (tdt (xneb (xist xv rfl) (xist xv rfl))) fun _ => tdt (xneb (xisl xv rfl) (xisl xv rfl))) (fun h => by cases h) fun _ => sq_next ?_
      refine sq_if (tdt (xnei (xlen xv rfl) (xlen xv rfl))) (fun h => by simp at h) fun _ => sq_next ?_
      refine sd_ret (XD.w (xall (bs := List.replicate xs.length true) ((xlcR1 (ks := [3]) (by decide) (xlen xv rfl) (fun _ => true) (fun _ => .bl true) (by omega) fun x hx => gd_name ⟨tdy, fun _ => ?_⟩).to (by rw [all_true]))) (by rw [replicate_all]; exact hk))
      obtain ⟨d, e1, e2⟩ := seq xs hp x hx
      exact (xalike (xix xv xv rfl (atI_nat e1)) (xix xv xv rfl (atI_nat e1)) rfl rfl e2).w rfl

theorem ok_law (T : Txt K mg A) : FnOk P w K mg base CX0 77 A.a_law A.fd_law ["_law_script"] (spLaw K) := by
  refine T.F_law.ok sc_law (fun vs H Q E h => by obtain ⟨a, ns, rfl, _⟩ := h; rfl) (fun cdv A' outer s H vs Q E hr h => ⟨_, (pss_cons (ps_set (i := 1) sc_law.nd rfl (by first | exact Or.inl rfl | exact Or.inr rfl) (pe_call (ok_l_dice T) (hr.mono (by decide)) (by rfl) T.g_l_dice T.F_l_dice.kp T.B_l_dice .nil pass0 (pa_cons (pv 0) (pa_cons pe_int pa_nil))))
 (pss_cons (ps_set (i := 2) sc_law.nd rfl (by first | exact Or.inl rfl | exact Or.inr rfl) (pe_call (ok_l_yard T) (hr.mono (by decide)) (by rfl) T.g_l_yard T.F_l_yard.kp T.B_l_yard .nil pass0 (pa_cons (pv 1) (pa_cons pe_int (pa_cons pe_int pa_nil)))))
 (pss_cons (ps_if (pt_cmpR (k_eq K rfl hr.units) (pe_call (ok_l_off T) (hr.mono (by decide)) (by rfl) T.g_l_off T.F_l_off.kp T.B_l_off .nil pass0 (pa_cons (pv 1) (pa_cons pe_int pa_nil))) pe_int (nomark _)) (pss_cons (ps_set (i := 2) sc_law.nd rfl (by first | exact Or.inl rfl | exact Or.inr rfl) (pe_call (ok_l_ringed T) (hr.mono (by decide)) (by rfl) T.g_l_ringed T.F_l_ringed.kp T.B_l_ringed .nil pass0 (pa_cons (pv 1) pa_nil)))
 (pss_one (ps_if (pt_cmpR op_gt (pe_callB (k_len K rfl) (by rfl) T.b_len (by decide +kernel) (pa_cons (pe_ix (k_ix K rfl (hu_of hr)) (pv 2) pe_int (fun _ _ => rfl)) pa_nil)) pe_int (nomark _)) (pss_one (ps_set (i := 2) sc_law.nd rfl (by first | exact Or.inl rfl | exact Or.inr rfl) (pe_tup (pa_cons (pe_ix (k_ix K rfl (hu_of hr)) (pv 2) pe_int (fun _ _ => rfl)) (pa_cons (pe_slice (k_sl K rfl) (pe_call (ok_l_mixed T) (hr.mono (by decide)) (by rfl) T.g_l_mixed T.F_l_mixed.kp T.B_l_mixed .nil pass0 (pa_cons (pv 1) (pa_cons (pe_ix (k_ix K rfl (hu_of hr)) (pv 2) pe_int (fun _ _ => rfl)) pa_nil))) po_none (po_some pe_int)) pa_nil))))) pss_nil))) pss_nil)
 (pss_cons (ps_set (i := 3) sc_law.nd rfl (by first | exact Or.inl rfl | exact Or.inr rfl) (pe_call (ok_l_made T) (hr.mono (by decide)) (by rfl) T.g_l_made T.F_l_made.kp T.B_l_made .nil pass0 (pa_cons (pv 2) pa_nil)))
 (pss_cons (ps_set (i := 4) sc_law.nd rfl (by first | exact Or.inl rfl | exact Or.inr rfl) (pe_call (ok_l_rounds T) (hr.mono (by decide)) (by rfl) T.g_l_rounds T.F_l_rounds.kp T.B_l_rounds .nil pass0 (pa_cons (pv 2) pa_nil)))
 (pss_cons (ps_for PassesOwn.never rfl (pi_range1 rfl T.b_range (pa_cons pe_int pa_nil)) (pg_name (i := 5) sc_law.nd rfl (by first | exact Or.inl rfl | exact Or.inr rfl)) (pss_cons (ps_set (i := 6) sc_law.nd rfl (by first | exact Or.inl rfl | exact Or.inr rfl) (pe_call (ok_p_round_of T) (hr.mono (by decide)) (by rfl) T.g_p_round_of T.F_p_round_of.kp T.B_p_round_of .nil pass0 (pa_cons (pv 3) pa_nil)))
 (pss_cons (ps_if (PW.pt (pw_or (pt_not (pt_val (pe_callB (k_isi K rfl) (by rfl) T.b_isinstance (by decide +kernel) (pa_cons (pv 6) (pa_cons (pe_bltn (v := .ty "tuple") (u := .type "tuple") (by rfl) T.b_tuple (by decide +kernel) rfl) pa_nil))))) (pw_or1 (pt_cmpR (k_ne K rfl hr.units) (pe_callB (k_len K rfl) (by rfl) T.b_len (by decide +kernel) (pa_cons (pv 6) pa_nil)) pe_int (nomark _))))) (pss_one (ps_ret pe_bl)) pss_nil)
 (pss_one (ps_if (pt_cmpR (k_eq K rfl hr.units) (pv 4) (pe_lst pa_nil) (nomark _)) (pss_one (ps_if (PW.pt (pw_or (pt_cmpR (k_ne K rfl hr.units) (pe_ix (k_ix K rfl (hu_of hr)) (pv 6) pe_int (fun _ _ => rfl)) pe_str (nomark _)) (pw_or1 (pt_not (pt_val (pe_callB (k_isi K rfl) (by rfl) T.b_isinstance (by decide +kernel) (pa_cons (pe_ix (k_ix K rfl (hu_of hr)) (pv 6) pe_int (fun _ _ => rfl)) (pa_cons (pe_bltn (v := .ty "tuple") (u := .type "tuple") (by rfl) T.b_tuple (by decide +kernel) rfl) pa_nil)))))))) (pss_one (ps_ret pe_bl)) pss_nil)) (pss_cons (ps_if (pt_not (pt_val (pe_call (ok_l_alike T 8) (hr.mono (by decide)) (by rfl) T.g_l_alike T.F_l_alike.kp T.B_l_alike .nil pass0 (pa_cons (pv 6) (pa_cons (pe_tup (pa_cons pe_str (pa_cons (pe_callB (k_minD K rfl rfl hr.units) (by rfl) T.b_min (by decide +kernel) (pa_cons (pv 4) pa_nil)) pa_nil))) pa_nil))))) (pss_one (ps_ret pe_bl)) pss_nil)
 (pss_one (ps_expr (pe_bm0 PySem.F.plainAttrs_list PySem.F.slot_list_clear PySem.F.type_list_clear mt_clear (pe_ix (k_ix K rfl (hu_of hr)) (pv 6) pe_int (fun _ _ => rfl)))))))))))
 (pss_one (ps_ret pe_bl)))))))), law_start (C := A.C) (fun die => ?_) h⟩)
  have i0 : ∀ {ρ : Rsc} {sl : List Sl} {n : Nat} {ts : List Tie}, okAt sl 2 = true → rdAt sl 2 = .dat (tD false n ts) → XD A.C ρ (tOp (rIxA K) (tVar 2) (tC (.int 0))) sl (.dat (.int (n : Int))) := fun {_ _ n ts} h1 h2 => xix (ds := [.int (n : Int), .lst (ts.map tieD)]) (xv h1) xi (by rw [h2]; rfl) rfl
  have i1 : ∀ {ρ : Rsc} {sl : List Sl} {n : Nat} {ts : List Tie}, okAt sl 2 = true → rdAt sl 2 = .dat (tD false n ts) → XD A.C ρ (tOp (rIxA K) (tVar 2) (tC (.int 1))) sl (.dat (.lst (ts.map tieD))) := fun {_ _ n ts} h1 h2 => xix (ds := [.int (n : Int), .lst (ts.map tieD)]) (xv h1) xi (by rw [h2]; rfl) rfl
  refine sq_set (xyard (lo := 1) xi rfl (XD.w xi ⟨7, rfl, ⟨by decide, by decide, by decide⟩, fun n0 ts0 hn01 hn07 hv0 => ?_⟩))
  refine sd_cut (fun sl => ∃ (n : Nat) (ts : List Tie), sl = [.any, .raw (.ref die), .dat (tD false n ts), .any, .any, .any, .any] ∧ 1 ≤ n ∧ n ≤ 12 ∧ ValidY n ts ∧ ∀ k, k < n → (pathsN n ts k).length ≤ 900000) ?_ ?_
  · refine sd_if (wt_test (wx_op (xoff 3 xi rfl (by decide) (by decide) fun r hr => XD.w xi (od_eq rfl rfl rfl rfl ⟨_, rfl, ?_⟩))))
    split
    · refine sq_set (wx_callR (wa_cons (XD.w xv (wa_nil ⟨_, _, rfl, rfl, (), rfl, trivial, fun n ts hn10 hn12 hv => ?_⟩))))
      have hl9 := hv.len (by omega)
      refine sif (w := decide (17 < ts.length)) (TD.to (tdt (xcmp (g := fun i j => decide (j < i)) (xlen (ds := ts.map tieD) (i1 rfl rfl) rfl) xi)) (by rw [List.length_map]; exact decide_eq_decide.mpr (by omega))) (fun _ => ?_) fun h => ?_
      · refine sd_set (wx_tup (wa_cons (XD.w (i0 rfl rfl) (wa_cons (wx_slice (xmixT (i1 rfl rfl) rfl hv (by omega) fun us hu => wo_none (wo_some (XD.w xi ⟨15, rfl, sld_l rfl ?_⟩))))))))
        have ec : cutD (us.map tieD) none (some (15 : Int)) = (us.take 15).map tieD := by
          rw [show (15 : Int) = ((15 : Nat) : Int) from rfl, cut_to, ← List.map_take]
        rw [ec]
        have hv2 : ValidY n (us.take 15) := (hv.perm hu).sub (List.take_sublist _ _)
        exact wa_nil ⟨[.int (n : Int), .lst ((us.take 15).map tieD)], rfl, Nat.le_of_ble_eq_true rfl, n, us.take 15, rfl, by omega, hn12, hv2, fun k _ => paths_17 (by omega) (by rw [List.length_take]; omega) k⟩
      · have h := of_decide_eq_false h
        exact sd_next ⟨n, ts, rfl, by omega, hn12, hv, fun k _ => paths_17 (by omega) (by omega) k⟩
    · exact sd_next ⟨n0, ts0, rfl, hn01, by omega, hv0, fun k hk => Nat.le_trans (pathsN_7 (by omega) (by omega)) (by decide)⟩
  rintro sl ⟨n, ts, rfl, hn1, hn12, hv, hp⟩
  have hn30 : n ≤ 30 := by omega
  have hro : ∀ {sl : List Sl}, okAt sl 3 = true → rdAt sl 3 = .dat (.yard n ts) → XD A.C (ρd die) (tCall (spD A.C (fn_p_round_of A.C)) [] E0 (tCons (tVar 3) tNil)) sl (roundS A.C n ts) := fun {sl} h1 h2 => xcl (α := Nat × List Tie) (res := fun a => roundS A.C a.1 a.2) (n, ts) (ac (XD.to (xv h1) h2) an) rfl ⟨hn1, hn12, hv⟩ (roundS_plain _ _ _)
  refine sq_set (XD.w (xcl (n, ts) (ac xv an) rfl ⟨hn1, hn30, hv⟩) ?_)
  refine sq_setF (XD.w (xcl (n, ts) (ac xv an) rfl ⟨hn1, hn30, hv, hp⟩) ?_)
  have up := rounds_up n ts
  refine sd_cut (fun sl => True) (sd_forR1 (ks := [5]) (XD.w xi ⟨2, rfl, by decide, by decide, fun i sl => ∃ a b, sl = [.any, .raw (.ref die), .dat (tD false n ts), .dat (.yard n ts), .dat (.lst ((roundsN n ts).map ordD)), a, b], ⟨_, _, rfl⟩, ?_, fun _ _ => trivial⟩)) ?_
  · rintro i sl hi ⟨a, b, rfl⟩
    refine gd_name ?_
    cases hR : roundsN n ts with
    | nil =>
      have e := roundS_nil (C := A.C) hn1 hR
      obtain ⟨xs, hxs⟩ := roundP_tup n ts
      rw [hxs] at e
      refine sq_set (XD.w (XD.to (hro rfl rfl) e) ?_)
      refine sq_if (w := false) (TD.to (tdo (tdn (tdb (xist xv rfl))) fun _ => tdt (xnei (xlen (ds := [.str "none", .tup xs]) xv rfl) xi)) rfl) (fun h => by cases h) fun _ => sq_next ?_
      refine sif (w := true) (TD.to (tdt (xeq (d1 := .lst (([] : List (List Nat)).map ordD)) (d2 := .lst []) xv xlst0 rfl rfl rfl rfl)) (by rw [eqD_ords_nil]; rfl)) (fun _ => ?_) fun h => by cases h
      exact sif (w := false) (TD.to (tdo (tdt (xnes (xix (ds := [.str "none", .tup xs]) xv xi rfl rfl) D3.xs)) fun _ => tdn (tdb (xist (xix (ds := [.str "none", .tup xs]) (d := .tup xs) xv xi rfl rfl) rfl))) rfl) (fun h => by cases h) fun _ => sd_next ⟨_, _, rfl⟩
    | cons r rest =>
      rw [hR] at up
      have e := roundS_cons (C := A.C) hn1 hR
      refine sd_clear1 (i := 6) (x := .str "round") (d1 := r.map natD) (XD.to (hro rfl rfl) e) (by show 6 < 7; decide) (TD.to (tdo (tdn (tdb (xist xv rfl))) fun _ => tdt (xnei (xlen (ds := [.str "round", .lst (r.map natD)]) xv rfl) xi)) rfl) (TD.to (tdt (xeq (d1 := .lst ((r :: rest).map ordD)) (d2 := .lst []) xv xlst0 rfl rfl (plD_ords _) rfl)) (by rw [eqD_ords_nil]; rfl)) (TD.to (tdn (tdb (xalike (k := 8) (d := .tup [.str "round", ordD r]) xv (xtup2 D3.xs (xminL (x := r) (rows := rest) xv rfl up)) rfl rfl ?_))) rfl) ⟨_, _, rfl⟩
      have hrm : r ∈ roundsN n ts := by rw [hR]; exact List.mem_cons_self
      have hperm := roundsN_perm hn1 hrm
      have hrl : r.length = n := by rw [hperm.length_eq, List.length_range]
      exact alD_tup2 (k := 7) rfl (alD_nats (k := 5) (by omega))
  · rintro sl _
    exact sd_ret (XD.w xb rfl)

end
theorem all_mk {l : PySem.W.OpenLaw} {w : World} {K : PySem.W.Frag} {h : Heap} {mg : Str → Option Value} {fa : Addr} (X : K.In h) (G : h.Ns mainGlobals mg) (hfa : mg "law" = some (.ref fa))
    {C_Cases : Addr}
    {C : Addr}
    {f_l_dice : Addr} {oc_l_dice kV_l_dice dc_l_dice pm_l_dice cd_l_dice ct_l_dice : Value} {od_l_dice an_l_dice : Option Addr} {sl_l_dice : Array (Option Value)}
    {f_l_off : Addr} {oc_l_off kV_l_off dc_l_off pm_l_off cd_l_off ct_l_off : Value} {od_l_off an_l_off : Option Addr} {sl_l_off : Array (Option Value)}
    {f_l_pairs : Addr} {oc_l_pairs kV_l_pairs dc_l_pairs pm_l_pairs cd_l_pairs ct_l_pairs : Value} {od_l_pairs an_l_pairs : Option Addr} {sl_l_pairs : Array (Option Value)}
    {f_l_mixed : Addr} {oc_l_mixed kV_l_mixed dc_l_mixed pm_l_mixed cd_l_mixed ct_l_mixed : Value} {od_l_mixed an_l_mixed : Option Addr} {sl_l_mixed : Array (Option Value)}
    {f_l_yard : Addr} {oc_l_yard kV_l_yard dc_l_yard pm_l_yard cd_l_yard ct_l_yard : Value} {od_l_yard an_l_yard : Option Addr} {sl_l_yard : Array (Option Value)}
    {f_l_ringed : Addr} {oc_l_ringed kV_l_ringed dc_l_ringed pm_l_ringed cd_l_ringed ct_l_ringed : Value} {od_l_ringed an_l_ringed : Option Addr} {sl_l_ringed : Array (Option Value)}
    {f_Yard_init : Addr} {oc_Yard_init kV_Yard_init dc_Yard_init pm_Yard_init cd_Yard_init ct_Yard_init : Value} {od_Yard_init an_Yard_init : Option Addr} {sl_Yard_init : Array (Option Value)}
    {f_l_made : Addr} {oc_l_made kV_l_made dc_l_made pm_l_made cd_l_made ct_l_made : Value} {od_l_made an_l_made : Option Addr} {sl_l_made : Array (Option Value)}
    {f_l_tied : Addr} {oc_l_tied kV_l_tied dc_l_tied pm_l_tied cd_l_tied ct_l_tied : Value} {od_l_tied an_l_tied : Option Addr} {sl_l_tied : Array (Option Value)}
    {f_l_rounds : Addr} {oc_l_rounds kV_l_rounds dc_l_rounds pm_l_rounds cd_l_rounds ct_l_rounds : Value} {od_l_rounds an_l_rounds : Option Addr} {sl_l_rounds : Array (Option Value)}
    {f_Yard_many : Addr} {oc_Yard_many kV_Yard_many dc_Yard_many pm_Yard_many cd_Yard_many ct_Yard_many : Value} {od_Yard_many an_Yard_many : Option Addr} {sl_Yard_many : Array (Option Value)}
    {f_p_need_few : Addr} {oc_p_need_few kV_p_need_few dc_p_need_few pm_p_need_few cd_p_need_few ct_p_need_few : Value} {od_p_need_few an_p_need_few : Option Addr} {sl_p_need_few : Array (Option Value)}
    {f_Yard_is_tied : Addr} {oc_Yard_is_tied kV_Yard_is_tied dc_Yard_is_tied pm_Yard_is_tied cd_Yard_is_tied ct_Yard_is_tied : Value} {od_Yard_is_tied an_Yard_is_tied : Option Addr} {sl_Yard_is_tied : Array (Option Value)}
    {f_p_gone_on : Addr} {oc_p_gone_on kV_p_gone_on dc_p_gone_on pm_p_gone_on cd_p_gone_on ct_p_gone_on : Value} {od_p_gone_on an_p_gone_on : Option Addr} {sl_p_gone_on : Array (Option Value)}
    {f_p_first_round : Addr} {oc_p_first_round kV_p_first_round dc_p_first_round pm_p_first_round cd_p_first_round ct_p_first_round : Value} {od_p_first_round an_p_first_round : Option Addr} {sl_p_first_round : Array (Option Value)}
    {f_p_sets_of : Addr} {oc_p_sets_of kV_p_sets_of dc_p_sets_of pm_p_sets_of cd_p_sets_of ct_p_sets_of : Value} {od_p_sets_of an_p_sets_of : Option Addr} {sl_p_sets_of : Array (Option Value)}
    {f_p_groups_without : Addr} {oc_p_groups_without kV_p_groups_without dc_p_groups_without pm_p_groups_without cd_p_groups_without ct_p_groups_without : Value} {od_p_groups_without an_p_groups_without : Option Addr} {sl_p_groups_without : Array (Option Value)}
    {f_p_parting : Addr} {oc_p_parting kV_p_parting dc_p_parting pm_p_parting cd_p_parting ct_p_parting : Value} {od_p_parting an_p_parting : Option Addr} {sl_p_parting : Array (Option Value)}
    {f_Cases_init : Addr} {oc_Cases_init kV_Cases_init dc_Cases_init pm_Cases_init cd_Cases_init ct_Cases_init : Value} {od_Cases_init an_Cases_init : Option Addr} {sl_Cases_init : Array (Option Value)}
    {f_Yard_ties : Addr} {oc_Yard_ties kV_Yard_ties dc_Yard_ties pm_Yard_ties cd_Yard_ties ct_Yard_ties : Value} {od_Yard_ties an_Yard_ties : Option Addr} {sl_Yard_ties : Array (Option Value)}
    {f_Cases_ties_at : Addr} {oc_Cases_ties_at kV_Cases_ties_at dc_Cases_ties_at pm_Cases_ties_at cd_Cases_ties_at ct_Cases_ties_at : Value} {od_Cases_ties_at an_Cases_ties_at : Option Addr} {sl_Cases_ties_at : Array (Option Value)}
    {f_Cases_is_few : Addr} {oc_Cases_is_few kV_Cases_is_few dc_Cases_is_few pm_Cases_is_few cd_Cases_is_few ct_Cases_is_few : Value} {od_Cases_is_few an_Cases_is_few : Option Addr} {sl_Cases_is_few : Array (Option Value)}
    {f_Cases_is_three : Addr} {oc_Cases_is_three kV_Cases_is_three dc_Cases_is_three pm_Cases_is_three cd_Cases_is_three ct_Cases_is_three : Value} {od_Cases_is_three an_Cases_is_three : Option Addr} {sl_Cases_is_three : Array (Option Value)}
    {f_Cases_ring_at : Addr} {oc_Cases_ring_at kV_Cases_ring_at dc_Cases_ring_at pm_Cases_ring_at cd_Cases_ring_at ct_Cases_ring_at : Value} {od_Cases_ring_at an_Cases_ring_at : Option Addr} {sl_Cases_ring_at : Array (Option Value)}
    {f_Cases_is_ring : Addr} {oc_Cases_is_ring kV_Cases_is_ring dc_Cases_is_ring pm_Cases_is_ring cd_Cases_is_ring ct_Cases_is_ring : Value} {od_Cases_is_ring an_Cases_is_ring : Option Addr} {sl_Cases_is_ring : Array (Option Value)}
    {f_Cases_leaf : Addr} {oc_Cases_leaf kV_Cases_leaf dc_Cases_leaf pm_Cases_leaf cd_Cases_leaf ct_Cases_leaf : Value} {od_Cases_leaf an_Cases_leaf : Option Addr} {sl_Cases_leaf : Array (Option Value)}
    {f_Cases_next_tie : Addr} {oc_Cases_next_tie kV_Cases_next_tie dc_Cases_next_tie pm_Cases_next_tie cd_Cases_next_tie ct_Cases_next_tie : Value} {od_Cases_next_tie an_Cases_next_tie : Option Addr} {sl_Cases_next_tie : Array (Option Value)}
    {f_Cases_node : Addr} {oc_Cases_node kV_Cases_node dc_Cases_node pm_Cases_node cd_Cases_node ct_Cases_node : Value} {od_Cases_node an_Cases_node : Option Addr} {sl_Cases_node : Array (Option Value)}
    {f_p_round_of : Addr} {oc_p_round_of kV_p_round_of dc_p_round_of pm_p_round_of cd_p_round_of ct_p_round_of : Value} {od_p_round_of an_p_round_of : Option Addr} {sl_p_round_of : Array (Option Value)}
    {f_l_alike : Addr} {oc_l_alike kV_l_alike dc_l_alike pm_l_alike cd_l_alike ct_l_alike : Value} {od_l_alike an_l_alike : Option Addr} {sl_l_alike : Array (Option Value)}
    {f_law : Addr} {oc_law kV_law dc_law pm_law cd_law ct_law : Value} {od_law an_law : Option Addr} {sl_law : Array (Option Value)}
    {t_MOST_PLACES_parting : Tok}
    {t_MOST_PLACES_yards : Tok}
    (aC_Cases : PySem.W.nsIn K mainGlobals "Cases" = some (some (.ref C_Cases)))
    (pg_Cases : PySem.W.plainGet K C_Cases Str.empty = true)
    (hd_Cases : PySem.W.hasDictIn K C_Cases = true)
    (po_Cases : PySem.W.plainOver K C_Cases = true)
    (sa_Cases : PySem.W.findIn K (.ref C_Cases) "__setattr__" = some (some (.builtin "object.__setattr__")))
    (mk_Cases : PySem.W.makesIn K C_Cases = true)
    (kc_Cases : PySem.W.keepIn K (.ref C_Cases) = true)
    (aC_Yard : PySem.W.nsIn K mainGlobals "Yard" = some (some (.ref C)))
    (pg_Yard : PySem.W.plainGet K C Str.empty = true)
    (hd_Yard : PySem.W.hasDictIn K C = true)
    (po_Yard : PySem.W.plainOver K C = true)
    (sa_Yard : PySem.W.findIn K (.ref C) "__setattr__" = some (some (.builtin "object.__setattr__")))
    (mk_Yard : PySem.W.makesIn K C = true)
    (kc_Yard : PySem.W.keepIn K (.ref C) = true)
    (nS : PySem.W.findIn K (.ref C) "size" = some none)
    (nK : PySem.W.findIn K (.ref C) "kept" = some none)
    (nN : PySem.W.findIn K (.ref C) "near" = some none)
    (nY : PySem.W.findIn K (.ref C_Cases) "yard" = some none)
    (nD : PySem.W.findIn K (.ref C_Cases) "said" = some none)
    (a_l_dice : PySem.W.nsIn K mainGlobals "_law_dice" = some (some (.ref f_l_dice)))
    (l_l_dice : K.lookup f_l_dice = some ⟨oc_l_dice, od_l_dice, .func (PySem.W.fnOf "_law_dice" "_law_dice" (defArgs s_l_dice) (defBody s_l_dice) (defScope s_l_dice) .none kV_l_dice dc_l_dice pm_l_dice an_l_dice cd_l_dice ct_l_dice), sl_l_dice⟩)
    (c_l_dice : PySem.W.codeIn K cd_l_dice "_law_dice" = true)
    (k_l_dice : PySem.W.keepIn K (.ref f_l_dice) = true)
    (a_l_off : PySem.W.nsIn K mainGlobals "_law_off" = some (some (.ref f_l_off)))
    (l_l_off : K.lookup f_l_off = some ⟨oc_l_off, od_l_off, .func (PySem.W.fnOf "_law_off" "_law_off" (defArgs s_l_off) (defBody s_l_off) (defScope s_l_off) .none kV_l_off dc_l_off pm_l_off an_l_off cd_l_off ct_l_off), sl_l_off⟩)
    (c_l_off : PySem.W.codeIn K cd_l_off "_law_off" = true)
    (k_l_off : PySem.W.keepIn K (.ref f_l_off) = true)
    (a_l_pairs : PySem.W.nsIn K mainGlobals "_law_pairs" = some (some (.ref f_l_pairs)))
    (l_l_pairs : K.lookup f_l_pairs = some ⟨oc_l_pairs, od_l_pairs, .func (PySem.W.fnOf "_law_pairs" "_law_pairs" (defArgs s_l_pairs) (defBody s_l_pairs) (defScope s_l_pairs) .none kV_l_pairs dc_l_pairs pm_l_pairs an_l_pairs cd_l_pairs ct_l_pairs), sl_l_pairs⟩)
    (c_l_pairs : PySem.W.codeIn K cd_l_pairs "_law_pairs" = true)
    (k_l_pairs : PySem.W.keepIn K (.ref f_l_pairs) = true)
    (a_l_mixed : PySem.W.nsIn K mainGlobals "_law_mixed" = some (some (.ref f_l_mixed)))
    (l_l_mixed : K.lookup f_l_mixed = some ⟨oc_l_mixed, od_l_mixed, .func (PySem.W.fnOf "_law_mixed" "_law_mixed" (defArgs s_l_mixed) (defBody s_l_mixed) (defScope s_l_mixed) .none kV_l_mixed dc_l_mixed pm_l_mixed an_l_mixed cd_l_mixed ct_l_mixed), sl_l_mixed⟩)
    (c_l_mixed : PySem.W.codeIn K cd_l_mixed "_law_mixed" = true)
    (k_l_mixed : PySem.W.keepIn K (.ref f_l_mixed) = true)
    (a_l_yard : PySem.W.nsIn K mainGlobals "_law_yard" = some (some (.ref f_l_yard)))
    (l_l_yard : K.lookup f_l_yard = some ⟨oc_l_yard, od_l_yard, .func (PySem.W.fnOf "_law_yard" "_law_yard" (defArgs s_l_yard) (defBody s_l_yard) (defScope s_l_yard) .none kV_l_yard dc_l_yard pm_l_yard an_l_yard cd_l_yard ct_l_yard), sl_l_yard⟩)
    (c_l_yard : PySem.W.codeIn K cd_l_yard "_law_yard" = true)
    (k_l_yard : PySem.W.keepIn K (.ref f_l_yard) = true)
    (a_l_ringed : PySem.W.nsIn K mainGlobals "_law_ringed" = some (some (.ref f_l_ringed)))
    (l_l_ringed : K.lookup f_l_ringed = some ⟨oc_l_ringed, od_l_ringed, .func (PySem.W.fnOf "_law_ringed" "_law_ringed" (defArgs s_l_ringed) (defBody s_l_ringed) (defScope s_l_ringed) .none kV_l_ringed dc_l_ringed pm_l_ringed an_l_ringed cd_l_ringed ct_l_ringed), sl_l_ringed⟩)
    (c_l_ringed : PySem.W.codeIn K cd_l_ringed "_law_ringed" = true)
    (k_l_ringed : PySem.W.keepIn K (.ref f_l_ringed) = true)
    (a_Yard_init : PySem.W.findIn K (.ref C) "__init__" = some (some (.ref f_Yard_init)))
    (i_Yard_init : PySem.W.isFn K (.ref f_Yard_init) = true)
    (l_Yard_init : K.lookup f_Yard_init = some ⟨oc_Yard_init, od_Yard_init, .func (PySem.W.fnOf "__init__" "Yard.__init__" (defArgs s_Yard_init) (defBody s_Yard_init) (defScope s_Yard_init) .none kV_Yard_init dc_Yard_init pm_Yard_init an_Yard_init cd_Yard_init ct_Yard_init), sl_Yard_init⟩)
    (c_Yard_init : PySem.W.codeIn K cd_Yard_init "Yard.__init__" = true)
    (k_Yard_init : PySem.W.keepIn K (.ref f_Yard_init) = true)
    (a_l_made : PySem.W.nsIn K mainGlobals "_law_made" = some (some (.ref f_l_made)))
    (l_l_made : K.lookup f_l_made = some ⟨oc_l_made, od_l_made, .func (PySem.W.fnOf "_law_made" "_law_made" (defArgs s_l_made) (defBody s_l_made) (defScope s_l_made) .none kV_l_made dc_l_made pm_l_made an_l_made cd_l_made ct_l_made), sl_l_made⟩)
    (c_l_made : PySem.W.codeIn K cd_l_made "_law_made" = true)
    (k_l_made : PySem.W.keepIn K (.ref f_l_made) = true)
    (a_l_tied : PySem.W.nsIn K mainGlobals "_law_tied" = some (some (.ref f_l_tied)))
    (l_l_tied : K.lookup f_l_tied = some ⟨oc_l_tied, od_l_tied, .func (PySem.W.fnOf "_law_tied" "_law_tied" (defArgs s_l_tied) (defBody s_l_tied) (defScope s_l_tied) .none kV_l_tied dc_l_tied pm_l_tied an_l_tied cd_l_tied ct_l_tied), sl_l_tied⟩)
    (c_l_tied : PySem.W.codeIn K cd_l_tied "_law_tied" = true)
    (k_l_tied : PySem.W.keepIn K (.ref f_l_tied) = true)
    (a_l_rounds : PySem.W.nsIn K mainGlobals "_law_rounds" = some (some (.ref f_l_rounds)))
    (l_l_rounds : K.lookup f_l_rounds = some ⟨oc_l_rounds, od_l_rounds, .func (PySem.W.fnOf "_law_rounds" "_law_rounds" (defArgs s_l_rounds) (defBody s_l_rounds) (defScope s_l_rounds) .none kV_l_rounds dc_l_rounds pm_l_rounds an_l_rounds cd_l_rounds ct_l_rounds), sl_l_rounds⟩)
    (c_l_rounds : PySem.W.codeIn K cd_l_rounds "_law_rounds" = true)
    (k_l_rounds : PySem.W.keepIn K (.ref f_l_rounds) = true)
    (a_Yard_many : PySem.W.findIn K (.ref C) "many" = some (some (.ref f_Yard_many)))
    (i_Yard_many : PySem.W.isFn K (.ref f_Yard_many) = true)
    (l_Yard_many : K.lookup f_Yard_many = some ⟨oc_Yard_many, od_Yard_many, .func (PySem.W.fnOf "many" "Yard.many" (defArgs s_Yard_many) (defBody s_Yard_many) (defScope s_Yard_many) .none kV_Yard_many dc_Yard_many pm_Yard_many an_Yard_many cd_Yard_many ct_Yard_many), sl_Yard_many⟩)
    (c_Yard_many : PySem.W.codeIn K cd_Yard_many "Yard.many" = true)
    (k_Yard_many : PySem.W.keepIn K (.ref f_Yard_many) = true)
    (a_p_need_few : PySem.W.nsIn K mainGlobals "need_few" = some (some (.ref f_p_need_few)))
    (l_p_need_few : K.lookup f_p_need_few = some ⟨oc_p_need_few, od_p_need_few, .func (PySem.W.fnOf "need_few" "need_few" (defArgs s_p_need_few) (defBody s_p_need_few) (defScope s_p_need_few) .none kV_p_need_few dc_p_need_few pm_p_need_few an_p_need_few cd_p_need_few ct_p_need_few), sl_p_need_few⟩)
    (c_p_need_few : PySem.W.codeIn K cd_p_need_few "need_few" = true)
    (k_p_need_few : PySem.W.keepIn K (.ref f_p_need_few) = true)
    (a_Yard_is_tied : PySem.W.findIn K (.ref C) "is_tied" = some (some (.ref f_Yard_is_tied)))
    (i_Yard_is_tied : PySem.W.isFn K (.ref f_Yard_is_tied) = true)
    (l_Yard_is_tied : K.lookup f_Yard_is_tied = some ⟨oc_Yard_is_tied, od_Yard_is_tied, .func (PySem.W.fnOf "is_tied" "Yard.is_tied" (defArgs s_Yard_is_tied) (defBody s_Yard_is_tied) (defScope s_Yard_is_tied) .none kV_Yard_is_tied dc_Yard_is_tied pm_Yard_is_tied an_Yard_is_tied cd_Yard_is_tied ct_Yard_is_tied), sl_Yard_is_tied⟩)
    (c_Yard_is_tied : PySem.W.codeIn K cd_Yard_is_tied "Yard.is_tied" = true)
    (k_Yard_is_tied : PySem.W.keepIn K (.ref f_Yard_is_tied) = true)
    (a_p_gone_on : PySem.W.nsIn K mainGlobals "gone_on" = some (some (.ref f_p_gone_on)))
    (l_p_gone_on : K.lookup f_p_gone_on = some ⟨oc_p_gone_on, od_p_gone_on, .func (PySem.W.fnOf "gone_on" "gone_on" (defArgs s_p_gone_on) (defBody s_p_gone_on) (defScope s_p_gone_on) .none kV_p_gone_on dc_p_gone_on pm_p_gone_on an_p_gone_on cd_p_gone_on ct_p_gone_on), sl_p_gone_on⟩)
    (c_p_gone_on : PySem.W.codeIn K cd_p_gone_on "gone_on" = true)
    (k_p_gone_on : PySem.W.keepIn K (.ref f_p_gone_on) = true)
    (a_p_first_round : PySem.W.nsIn K mainGlobals "first_round" = some (some (.ref f_p_first_round)))
    (l_p_first_round : K.lookup f_p_first_round = some ⟨oc_p_first_round, od_p_first_round, .func (PySem.W.fnOf "first_round" "first_round" (defArgs s_p_first_round) (defBody s_p_first_round) (defScope s_p_first_round) .none kV_p_first_round dc_p_first_round pm_p_first_round an_p_first_round cd_p_first_round ct_p_first_round), sl_p_first_round⟩)
    (c_p_first_round : PySem.W.codeIn K cd_p_first_round "first_round" = true)
    (k_p_first_round : PySem.W.keepIn K (.ref f_p_first_round) = true)
    (a_p_sets_of : PySem.W.nsIn K mainGlobals "sets_of" = some (some (.ref f_p_sets_of)))
    (l_p_sets_of : K.lookup f_p_sets_of = some ⟨oc_p_sets_of, od_p_sets_of, .func (PySem.W.fnOf "sets_of" "sets_of" (defArgs s_p_sets_of) (defBody s_p_sets_of) (defScope s_p_sets_of) .none kV_p_sets_of dc_p_sets_of pm_p_sets_of an_p_sets_of cd_p_sets_of ct_p_sets_of), sl_p_sets_of⟩)
    (c_p_sets_of : PySem.W.codeIn K cd_p_sets_of "sets_of" = true)
    (k_p_sets_of : PySem.W.keepIn K (.ref f_p_sets_of) = true)
    (a_p_groups_without : PySem.W.nsIn K mainGlobals "groups_without" = some (some (.ref f_p_groups_without)))
    (l_p_groups_without : K.lookup f_p_groups_without = some ⟨oc_p_groups_without, od_p_groups_without, .func (PySem.W.fnOf "groups_without" "groups_without" (defArgs s_p_groups_without) (defBody s_p_groups_without) (defScope s_p_groups_without) .none kV_p_groups_without dc_p_groups_without pm_p_groups_without an_p_groups_without cd_p_groups_without ct_p_groups_without), sl_p_groups_without⟩)
    (c_p_groups_without : PySem.W.codeIn K cd_p_groups_without "groups_without" = true)
    (k_p_groups_without : PySem.W.keepIn K (.ref f_p_groups_without) = true)
    (a_p_parting : PySem.W.nsIn K mainGlobals "parting" = some (some (.ref f_p_parting)))
    (l_p_parting : K.lookup f_p_parting = some ⟨oc_p_parting, od_p_parting, .func (PySem.W.fnOf "parting" "parting" (defArgs s_p_parting) (defBody s_p_parting) (defScope s_p_parting) .none kV_p_parting dc_p_parting pm_p_parting an_p_parting cd_p_parting ct_p_parting), sl_p_parting⟩)
    (c_p_parting : PySem.W.codeIn K cd_p_parting "parting" = true)
    (k_p_parting : PySem.W.keepIn K (.ref f_p_parting) = true)
    (a_Cases_init : PySem.W.findIn K (.ref C_Cases) "__init__" = some (some (.ref f_Cases_init)))
    (i_Cases_init : PySem.W.isFn K (.ref f_Cases_init) = true)
    (l_Cases_init : K.lookup f_Cases_init = some ⟨oc_Cases_init, od_Cases_init, .func (PySem.W.fnOf "__init__" "Cases.__init__" (defArgs s_Cases_init) (defBody s_Cases_init) (defScope s_Cases_init) .none kV_Cases_init dc_Cases_init pm_Cases_init an_Cases_init cd_Cases_init ct_Cases_init), sl_Cases_init⟩)
    (c_Cases_init : PySem.W.codeIn K cd_Cases_init "Cases.__init__" = true)
    (k_Cases_init : PySem.W.keepIn K (.ref f_Cases_init) = true)
    (a_Yard_ties : PySem.W.findIn K (.ref C) "ties" = some (some (.ref f_Yard_ties)))
    (i_Yard_ties : PySem.W.isFn K (.ref f_Yard_ties) = true)
    (l_Yard_ties : K.lookup f_Yard_ties = some ⟨oc_Yard_ties, od_Yard_ties, .func (PySem.W.fnOf "ties" "Yard.ties" (defArgs s_Yard_ties) (defBody s_Yard_ties) (defScope s_Yard_ties) .none kV_Yard_ties dc_Yard_ties pm_Yard_ties an_Yard_ties cd_Yard_ties ct_Yard_ties), sl_Yard_ties⟩)
    (c_Yard_ties : PySem.W.codeIn K cd_Yard_ties "Yard.ties" = true)
    (k_Yard_ties : PySem.W.keepIn K (.ref f_Yard_ties) = true)
    (a_Cases_ties_at : PySem.W.findIn K (.ref C_Cases) "ties_at" = some (some (.ref f_Cases_ties_at)))
    (i_Cases_ties_at : PySem.W.isFn K (.ref f_Cases_ties_at) = true)
    (l_Cases_ties_at : K.lookup f_Cases_ties_at = some ⟨oc_Cases_ties_at, od_Cases_ties_at, .func (PySem.W.fnOf "ties_at" "Cases.ties_at" (defArgs s_Cases_ties_at) (defBody s_Cases_ties_at) (defScope s_Cases_ties_at) .none kV_Cases_ties_at dc_Cases_ties_at pm_Cases_ties_at an_Cases_ties_at cd_Cases_ties_at ct_Cases_ties_at), sl_Cases_ties_at⟩)
    (c_Cases_ties_at : PySem.W.codeIn K cd_Cases_ties_at "Cases.ties_at" = true)
    (k_Cases_ties_at : PySem.W.keepIn K (.ref f_Cases_ties_at) = true)
    (a_Cases_is_few : PySem.W.findIn K (.ref C_Cases) "is_few" = some (some (.ref f_Cases_is_few)))
    (i_Cases_is_few : PySem.W.isFn K (.ref f_Cases_is_few) = true)
    (l_Cases_is_few : K.lookup f_Cases_is_few = some ⟨oc_Cases_is_few, od_Cases_is_few, .func (PySem.W.fnOf "is_few" "Cases.is_few" (defArgs s_Cases_is_few) (defBody s_Cases_is_few) (defScope s_Cases_is_few) .none kV_Cases_is_few dc_Cases_is_few pm_Cases_is_few an_Cases_is_few cd_Cases_is_few ct_Cases_is_few), sl_Cases_is_few⟩)
    (c_Cases_is_few : PySem.W.codeIn K cd_Cases_is_few "Cases.is_few" = true)
    (k_Cases_is_few : PySem.W.keepIn K (.ref f_Cases_is_few) = true)
    (a_Cases_is_three : PySem.W.findIn K (.ref C_Cases) "is_three" = some (some (.ref f_Cases_is_three)))
    (i_Cases_is_three : PySem.W.isFn K (.ref f_Cases_is_three) = true)
    (l_Cases_is_three : K.lookup f_Cases_is_three = some ⟨oc_Cases_is_three, od_Cases_is_three, .func (PySem.W.fnOf "is_three" "Cases.is_three" (defArgs s_Cases_is_three) (defBody s_Cases_is_three) (defScope s_Cases_is_three) .none kV_Cases_is_three dc_Cases_is_three pm_Cases_is_three an_Cases_is_three cd_Cases_is_three ct_Cases_is_three), sl_Cases_is_three⟩)
    (c_Cases_is_three : PySem.W.codeIn K cd_Cases_is_three "Cases.is_three" = true)
    (k_Cases_is_three : PySem.W.keepIn K (.ref f_Cases_is_three) = true)
    (a_Cases_ring_at : PySem.W.findIn K (.ref C_Cases) "ring_at" = some (some (.ref f_Cases_ring_at)))
    (i_Cases_ring_at : PySem.W.isFn K (.ref f_Cases_ring_at) = true)
    (l_Cases_ring_at : K.lookup f_Cases_ring_at = some ⟨oc_Cases_ring_at, od_Cases_ring_at, .func (PySem.W.fnOf "ring_at" "Cases.ring_at" (defArgs s_Cases_ring_at) (defBody s_Cases_ring_at) (defScope s_Cases_ring_at) .none kV_Cases_ring_at dc_Cases_ring_at pm_Cases_ring_at an_Cases_ring_at cd_Cases_ring_at ct_Cases_ring_at), sl_Cases_ring_at⟩)
    (c_Cases_ring_at : PySem.W.codeIn K cd_Cases_ring_at "Cases.ring_at" = true)
    (k_Cases_ring_at : PySem.W.keepIn K (.ref f_Cases_ring_at) = true)
    (a_Cases_is_ring : PySem.W.findIn K (.ref C_Cases) "is_ring" = some (some (.ref f_Cases_is_ring)))
    (i_Cases_is_ring : PySem.W.isFn K (.ref f_Cases_is_ring) = true)
    (l_Cases_is_ring : K.lookup f_Cases_is_ring = some ⟨oc_Cases_is_ring, od_Cases_is_ring, .func (PySem.W.fnOf "is_ring" "Cases.is_ring" (defArgs s_Cases_is_ring) (defBody s_Cases_is_ring) (defScope s_Cases_is_ring) .none kV_Cases_is_ring dc_Cases_is_ring pm_Cases_is_ring an_Cases_is_ring cd_Cases_is_ring ct_Cases_is_ring), sl_Cases_is_ring⟩)
    (c_Cases_is_ring : PySem.W.codeIn K cd_Cases_is_ring "Cases.is_ring" = true)
    (k_Cases_is_ring : PySem.W.keepIn K (.ref f_Cases_is_ring) = true)
    (a_Cases_leaf : PySem.W.findIn K (.ref C_Cases) "leaf" = some (some (.ref f_Cases_leaf)))
    (i_Cases_leaf : PySem.W.isFn K (.ref f_Cases_leaf) = true)
    (l_Cases_leaf : K.lookup f_Cases_leaf = some ⟨oc_Cases_leaf, od_Cases_leaf, .func (PySem.W.fnOf "leaf" "Cases.leaf" (defArgs s_Cases_leaf) (defBody s_Cases_leaf) (defScope s_Cases_leaf) .none kV_Cases_leaf dc_Cases_leaf pm_Cases_leaf an_Cases_leaf cd_Cases_leaf ct_Cases_leaf), sl_Cases_leaf⟩)
    (c_Cases_leaf : PySem.W.codeIn K cd_Cases_leaf "Cases.leaf" = true)
    (k_Cases_leaf : PySem.W.keepIn K (.ref f_Cases_leaf) = true)
    (a_Cases_next_tie : PySem.W.findIn K (.ref C_Cases) "next_tie" = some (some (.ref f_Cases_next_tie)))
    (i_Cases_next_tie : PySem.W.isFn K (.ref f_Cases_next_tie) = true)
    (l_Cases_next_tie : K.lookup f_Cases_next_tie = some ⟨oc_Cases_next_tie, od_Cases_next_tie, .func (PySem.W.fnOf "next_tie" "Cases.next_tie" (defArgs s_Cases_next_tie) (defBody s_Cases_next_tie) (defScope s_Cases_next_tie) .none kV_Cases_next_tie dc_Cases_next_tie pm_Cases_next_tie an_Cases_next_tie cd_Cases_next_tie ct_Cases_next_tie), sl_Cases_next_tie⟩)
    (c_Cases_next_tie : PySem.W.codeIn K cd_Cases_next_tie "Cases.next_tie" = true)
    (k_Cases_next_tie : PySem.W.keepIn K (.ref f_Cases_next_tie) = true)
    (a_Cases_node : PySem.W.findIn K (.ref C_Cases) "node" = some (some (.ref f_Cases_node)))
    (i_Cases_node : PySem.W.isFn K (.ref f_Cases_node) = true)
    (l_Cases_node : K.lookup f_Cases_node = some ⟨oc_Cases_node, od_Cases_node, .func (PySem.W.fnOf "node" "Cases.node" (defArgs s_Cases_node) (defBody s_Cases_node) (defScope s_Cases_node) .none kV_Cases_node dc_Cases_node pm_Cases_node an_Cases_node cd_Cases_node ct_Cases_node), sl_Cases_node⟩)
    (c_Cases_node : PySem.W.codeIn K cd_Cases_node "Cases.node" = true)
    (k_Cases_node : PySem.W.keepIn K (.ref f_Cases_node) = true)
    (a_p_round_of : PySem.W.nsIn K mainGlobals "round_of" = some (some (.ref f_p_round_of)))
    (l_p_round_of : K.lookup f_p_round_of = some ⟨oc_p_round_of, od_p_round_of, .func (PySem.W.fnOf "round_of" "round_of" (defArgs s_p_round_of) (defBody s_p_round_of) (defScope s_p_round_of) .none kV_p_round_of dc_p_round_of pm_p_round_of an_p_round_of cd_p_round_of ct_p_round_of), sl_p_round_of⟩)
    (c_p_round_of : PySem.W.codeIn K cd_p_round_of "round_of" = true)
    (k_p_round_of : PySem.W.keepIn K (.ref f_p_round_of) = true)
    (a_l_alike : PySem.W.nsIn K mainGlobals "_law_alike" = some (some (.ref f_l_alike)))
    (l_l_alike : K.lookup f_l_alike = some ⟨oc_l_alike, od_l_alike, .func (PySem.W.fnOf "_law_alike" "_law_alike" (defArgs s_l_alike) (defBody s_l_alike) (defScope s_l_alike) .none kV_l_alike dc_l_alike pm_l_alike an_l_alike cd_l_alike ct_l_alike), sl_l_alike⟩)
    (c_l_alike : PySem.W.codeIn K cd_l_alike "_law_alike" = true)
    (k_l_alike : PySem.W.keepIn K (.ref f_l_alike) = true)
    (a_law : PySem.W.nsIn K mainGlobals "law" = some (some (.ref f_law)))
    (l_law : K.lookup f_law = some ⟨oc_law, od_law, .func (PySem.W.fnOf "law" "law" (defArgs s_law) (defBody s_law) (defScope s_law) .none kV_law dc_law pm_law an_law cd_law ct_law), sl_law⟩)
    (c_law : PySem.W.codeIn K cd_law "law" = true)
    (k_law : PySem.W.keepIn K (.ref f_law) = true)
    (v_MOST_PLACES_parting : PySem.W.nsIn K mainGlobals "MOST_PLACES_parting" = some (some (.int 12 t_MOST_PLACES_parting)))
    (v_MOST_PLACES_yards : PySem.W.nsIn K mainGlobals "MOST_PLACES_yards" = some (some (.int 30 t_MOST_PLACES_yards)))
    (b_abs : PySem.W.nsIn K mainGlobals "abs" = some none)
    (b_all : PySem.W.nsIn K mainGlobals "all" = some none)
    (b_bool : PySem.W.nsIn K mainGlobals "bool" = some none)
    (b_dict : PySem.W.nsIn K mainGlobals "dict" = some none)
    (b_int : PySem.W.nsIn K mainGlobals "int" = some none)
    (b_isinstance : PySem.W.nsIn K mainGlobals "isinstance" = some none)
    (b_len : PySem.W.nsIn K mainGlobals "len" = some none)
    (b_list : PySem.W.nsIn K mainGlobals "list" = some none)
    (b_max : PySem.W.nsIn K mainGlobals "max" = some none)
    (b_min : PySem.W.nsIn K mainGlobals "min" = some none)
    (b_range : PySem.W.nsIn K mainGlobals "range" = some none)
    (b_set : PySem.W.nsIn K mainGlobals "set" = some none)
    (b_sorted : PySem.W.nsIn K mainGlobals "sorted" = some none)
    (b_str : PySem.W.nsIn K mainGlobals "str" = some none)
    (b_tuple : PySem.W.nsIn K mainGlobals "tuple" = some none) :
    ∃ fd : FuncData, (∀ (s : Shared) (v : Value), BindsTo s fd ⟨[v], []⟩ [("_law_script", v)]) ∧ ∀ base : Heap, K.In base → base.Ns mainGlobals mg → FnOk l.prog w K mg base CX0 77 fa fd ["_law_script"] (spLaw K) := by
  have e := hfa.symm.trans (PySem.W.mg_of X G a_law)
  cases e
  let A : Adr := {
    C_Cases := C_Cases
    C := C
    a_l_dice := f_l_dice
    fd_l_dice := PySem.W.fnOf "_law_dice" "_law_dice" (defArgs s_l_dice) (defBody s_l_dice) (defScope s_l_dice) .none kV_l_dice dc_l_dice pm_l_dice an_l_dice cd_l_dice ct_l_dice
    a_l_off := f_l_off
    fd_l_off := PySem.W.fnOf "_law_off" "_law_off" (defArgs s_l_off) (defBody s_l_off) (defScope s_l_off) .none kV_l_off dc_l_off pm_l_off an_l_off cd_l_off ct_l_off
    a_l_pairs := f_l_pairs
    fd_l_pairs := PySem.W.fnOf "_law_pairs" "_law_pairs" (defArgs s_l_pairs) (defBody s_l_pairs) (defScope s_l_pairs) .none kV_l_pairs dc_l_pairs pm_l_pairs an_l_pairs cd_l_pairs ct_l_pairs
    a_l_mixed := f_l_mixed
    fd_l_mixed := PySem.W.fnOf "_law_mixed" "_law_mixed" (defArgs s_l_mixed) (defBody s_l_mixed) (defScope s_l_mixed) .none kV_l_mixed dc_l_mixed pm_l_mixed an_l_mixed cd_l_mixed ct_l_mixed
    a_l_yard := f_l_yard
    fd_l_yard := PySem.W.fnOf "_law_yard" "_law_yard" (defArgs s_l_yard) (defBody s_l_yard) (defScope s_l_yard) .none kV_l_yard dc_l_yard pm_l_yard an_l_yard cd_l_yard ct_l_yard
    a_l_ringed := f_l_ringed
    fd_l_ringed := PySem.W.fnOf "_law_ringed" "_law_ringed" (defArgs s_l_ringed) (defBody s_l_ringed) (defScope s_l_ringed) .none kV_l_ringed dc_l_ringed pm_l_ringed an_l_ringed cd_l_ringed ct_l_ringed
    a_Yard_init := f_Yard_init
    fd_Yard_init := PySem.W.fnOf "__init__" "Yard.__init__" (defArgs s_Yard_init) (defBody s_Yard_init) (defScope s_Yard_init) .none kV_Yard_init dc_Yard_init pm_Yard_init an_Yard_init cd_Yard_init ct_Yard_init
    a_l_made := f_l_made
    fd_l_made := PySem.W.fnOf "_law_made" "_law_made" (defArgs s_l_made) (defBody s_l_made) (defScope s_l_made) .none kV_l_made dc_l_made pm_l_made an_l_made cd_l_made ct_l_made
    a_l_tied := f_l_tied
    fd_l_tied := PySem.W.fnOf "_law_tied" "_law_tied" (defArgs s_l_tied) (defBody s_l_tied) (defScope s_l_tied) .none kV_l_tied dc_l_tied pm_l_tied an_l_tied cd_l_tied ct_l_tied
    a_l_rounds := f_l_rounds
    fd_l_rounds := PySem.W.fnOf "_law_rounds" "_law_rounds" (defArgs s_l_rounds) (defBody s_l_rounds) (defScope s_l_rounds) .none kV_l_rounds dc_l_rounds pm_l_rounds an_l_rounds cd_l_rounds ct_l_rounds
    a_Yard_many := f_Yard_many
    fd_Yard_many := PySem.W.fnOf "many" "Yard.many" (defArgs s_Yard_many) (defBody s_Yard_many) (defScope s_Yard_many) .none kV_Yard_many dc_Yard_many pm_Yard_many an_Yard_many cd_Yard_many ct_Yard_many
    a_p_need_few := f_p_need_few
    fd_p_need_few := PySem.W.fnOf "need_few" "need_few" (defArgs s_p_need_few) (defBody s_p_need_few) (defScope s_p_need_few) .none kV_p_need_few dc_p_need_few pm_p_need_few an_p_need_few cd_p_need_few ct_p_need_few
    a_Yard_is_tied := f_Yard_is_tied
    fd_Yard_is_tied := PySem.W.fnOf "is_tied" "Yard.is_tied" (defArgs s_Yard_is_tied) (defBody s_Yard_is_tied) (defScope s_Yard_is_tied) .none kV_Yard_is_tied dc_Yard_is_tied pm_Yard_is_tied an_Yard_is_tied cd_Yard_is_tied ct_Yard_is_tied
    a_p_gone_on := f_p_gone_on
    fd_p_gone_on := PySem.W.fnOf "gone_on" "gone_on" (defArgs s_p_gone_on) (defBody s_p_gone_on) (defScope s_p_gone_on) .none kV_p_gone_on dc_p_gone_on pm_p_gone_on an_p_gone_on cd_p_gone_on ct_p_gone_on
    a_p_first_round := f_p_first_round
    fd_p_first_round := PySem.W.fnOf "first_round" "first_round" (defArgs s_p_first_round) (defBody s_p_first_round) (defScope s_p_first_round) .none kV_p_first_round dc_p_first_round pm_p_first_round an_p_first_round cd_p_first_round ct_p_first_round
    a_p_sets_of := f_p_sets_of
    fd_p_sets_of := PySem.W.fnOf "sets_of" "sets_of" (defArgs s_p_sets_of) (defBody s_p_sets_of) (defScope s_p_sets_of) .none kV_p_sets_of dc_p_sets_of pm_p_sets_of an_p_sets_of cd_p_sets_of ct_p_sets_of
    a_p_groups_without := f_p_groups_without
    fd_p_groups_without := PySem.W.fnOf "groups_without" "groups_without" (defArgs s_p_groups_without) (defBody s_p_groups_without) (defScope s_p_groups_without) .none kV_p_groups_without dc_p_groups_without pm_p_groups_without an_p_groups_without cd_p_groups_without ct_p_groups_without
    a_p_parting := f_p_parting
    fd_p_parting := PySem.W.fnOf "parting" "parting" (defArgs s_p_parting) (defBody s_p_parting) (defScope s_p_parting) .none kV_p_parting dc_p_parting pm_p_parting an_p_parting cd_p_parting ct_p_parting
    a_Cases_init := f_Cases_init
    fd_Cases_init := PySem.W.fnOf "__init__" "Cases.__init__" (defArgs s_Cases_init) (defBody s_Cases_init) (defScope s_Cases_init) .none kV_Cases_init dc_Cases_init pm_Cases_init an_Cases_init cd_Cases_init ct_Cases_init
    a_Yard_ties := f_Yard_ties
    fd_Yard_ties := PySem.W.fnOf "ties" "Yard.ties" (defArgs s_Yard_ties) (defBody s_Yard_ties) (defScope s_Yard_ties) .none kV_Yard_ties dc_Yard_ties pm_Yard_ties an_Yard_ties cd_Yard_ties ct_Yard_ties
    a_Cases_ties_at := f_Cases_ties_at
    fd_Cases_ties_at := PySem.W.fnOf "ties_at" "Cases.ties_at" (defArgs s_Cases_ties_at) (defBody s_Cases_ties_at) (defScope s_Cases_ties_at) .none kV_Cases_ties_at dc_Cases_ties_at pm_Cases_ties_at an_Cases_ties_at cd_Cases_ties_at ct_Cases_ties_at
    a_Cases_is_few := f_Cases_is_few
    fd_Cases_is_few := PySem.W.fnOf "is_few" "Cases.is_few" (defArgs s_Cases_is_few) (defBody s_Cases_is_few) (defScope s_Cases_is_few) .none kV_Cases_is_few dc_Cases_is_few pm_Cases_is_few an_Cases_is_few cd_Cases_is_few ct_Cases_is_few
    a_Cases_is_three := f_Cases_is_three
    fd_Cases_is_three := PySem.W.fnOf "is_three" "Cases.is_three" (defArgs s_Cases_is_three) (defBody s_Cases_is_three) (defScope s_Cases_is_three) .none kV_Cases_is_three dc_Cases_is_three pm_Cases_is_three an_Cases_is_three cd_Cases_is_three ct_Cases_is_three
    a_Cases_ring_at := f_Cases_ring_at
    fd_Cases_ring_at := PySem.W.fnOf "ring_at" "Cases.ring_at" (defArgs s_Cases_ring_at) (defBody s_Cases_ring_at) (defScope s_Cases_ring_at) .none kV_Cases_ring_at dc_Cases_ring_at pm_Cases_ring_at an_Cases_ring_at cd_Cases_ring_at ct_Cases_ring_at
    a_Cases_is_ring := f_Cases_is_ring
    fd_Cases_is_ring := PySem.W.fnOf "is_ring" "Cases.is_ring" (defArgs s_Cases_is_ring) (defBody s_Cases_is_ring) (defScope s_Cases_is_ring) .none kV_Cases_is_ring dc_Cases_is_ring pm_Cases_is_ring an_Cases_is_ring cd_Cases_is_ring ct_Cases_is_ring
    a_Cases_leaf := f_Cases_leaf
    fd_Cases_leaf := PySem.W.fnOf "leaf" "Cases.leaf" (defArgs s_Cases_leaf) (defBody s_Cases_leaf) (defScope s_Cases_leaf) .none kV_Cases_leaf dc_Cases_leaf pm_Cases_leaf an_Cases_leaf cd_Cases_leaf ct_Cases_leaf
    a_Cases_next_tie := f_Cases_next_tie
    fd_Cases_next_tie := PySem.W.fnOf "next_tie" "Cases.next_tie" (defArgs s_Cases_next_tie) (defBody s_Cases_next_tie) (defScope s_Cases_next_tie) .none kV_Cases_next_tie dc_Cases_next_tie pm_Cases_next_tie an_Cases_next_tie cd_Cases_next_tie ct_Cases_next_tie
    a_Cases_node := f_Cases_node
    fd_Cases_node := PySem.W.fnOf "node" "Cases.node" (defArgs s_Cases_node) (defBody s_Cases_node) (defScope s_Cases_node) .none kV_Cases_node dc_Cases_node pm_Cases_node an_Cases_node cd_Cases_node ct_Cases_node
    a_p_round_of := f_p_round_of
    fd_p_round_of := PySem.W.fnOf "round_of" "round_of" (defArgs s_p_round_of) (defBody s_p_round_of) (defScope s_p_round_of) .none kV_p_round_of dc_p_round_of pm_p_round_of an_p_round_of cd_p_round_of ct_p_round_of
    a_l_alike := f_l_alike
    fd_l_alike := PySem.W.fnOf "_law_alike" "_law_alike" (defArgs s_l_alike) (defBody s_l_alike) (defScope s_l_alike) .none kV_l_alike dc_l_alike pm_l_alike an_l_alike cd_l_alike ct_l_alike
    a_law := fa
    fd_law := PySem.W.fnOf "law" "law" (defArgs s_law) (defBody s_law) (defScope s_law) .none kV_law dc_law pm_law an_law cd_law ct_law
    t_MOST_PLACES_parting := t_MOST_PLACES_parting
    t_MOST_PLACES_yards := t_MOST_PLACES_yards }
  have F_l_dice := fun_mk (st := s_l_dice) l_l_dice c_l_dice k_l_dice
  have B_l_dice := F_l_dice.binds (ps := ["_law_script", "_law_k"]) fun _ _ _ _ _ _ us hl => match us, hl with | [_, _], _ => rfl
  have F_l_off := fun_mk (st := s_l_off) l_l_off c_l_off k_l_off
  have B_l_off := F_l_off.binds (ps := ["_law_d", "_law_most"]) fun _ _ _ _ _ _ us hl => match us, hl with | [_, _], _ => rfl
  have F_l_pairs := fun_mk (st := s_l_pairs) l_l_pairs c_l_pairs k_l_pairs
  have B_l_pairs := F_l_pairs.binds (ps := ["_law_many"]) fun _ _ _ _ _ _ us hl => match us, hl with | [_], _ => rfl
  have F_l_mixed := fun_mk (st := s_l_mixed) l_l_mixed c_l_mixed k_l_mixed
  have B_l_mixed := F_l_mixed.binds (ps := ["_law_d", "_law_row"]) fun _ _ _ _ _ _ us hl => match us, hl with | [_, _], _ => rfl
  have F_l_yard := fun_mk (st := s_l_yard) l_l_yard c_l_yard k_l_yard
  have B_l_yard := F_l_yard.binds (ps := ["_law_d", "_law_least", "_law_most"]) fun _ _ _ _ _ _ us hl => match us, hl with | [_, _, _], _ => rfl
  have F_l_ringed := fun_mk (st := s_l_ringed) l_l_ringed c_l_ringed k_l_ringed
  have B_l_ringed := F_l_ringed.binds (ps := ["_law_d"]) fun _ _ _ _ _ _ us hl => match us, hl with | [_], _ => rfl
  have F_Yard_init := fun_mk (st := s_Yard_init) l_Yard_init c_Yard_init k_Yard_init
  have B_Yard_init := F_Yard_init.binds (ps := ["self", "many", "ties"]) fun _ _ _ _ _ _ us hl => match us, hl with | [_, _, _], _ => rfl
  have F_l_made := fun_mk (st := s_l_made) l_l_made c_l_made k_l_made
  have B_l_made := F_l_made.binds (ps := ["_law_t"]) fun _ _ _ _ _ _ us hl => match us, hl with | [_], _ => rfl
  have F_l_tied := fun_mk (st := s_l_tied) l_l_tied c_l_tied k_l_tied
  have B_l_tied := F_l_tied.binds (ps := ["_law_t", "_law_one", "_law_other"]) fun _ _ _ _ _ _ us hl => match us, hl with | [_, _, _], _ => rfl
  have F_l_rounds := fun_mk (st := s_l_rounds) l_l_rounds c_l_rounds k_l_rounds
  have B_l_rounds := F_l_rounds.binds (ps := ["_law_t"]) fun _ _ _ _ _ _ us hl => match us, hl with | [_], _ => rfl
  have F_Yard_many := fun_mk (st := s_Yard_many) l_Yard_many c_Yard_many k_Yard_many
  have B_Yard_many := F_Yard_many.binds (ps := ["self"]) fun _ _ _ _ _ _ us hl => match us, hl with | [_], _ => rfl
  have F_p_need_few := fun_mk (st := s_p_need_few) l_p_need_few c_p_need_few k_p_need_few
  have B_p_need_few := F_p_need_few.binds (ps := ["yard"]) fun _ _ _ _ _ _ us hl => match us, hl with | [_], _ => rfl
  have F_Yard_is_tied := fun_mk (st := s_Yard_is_tied) l_Yard_is_tied c_Yard_is_tied k_Yard_is_tied
  have B_Yard_is_tied := F_Yard_is_tied.binds (ps := ["self", "one", "other"]) fun _ _ _ _ _ _ us hl => match us, hl with | [_, _, _], _ => rfl
  have F_p_gone_on := fun_mk (st := s_p_gone_on) l_p_gone_on c_p_gone_on k_p_gone_on
  have B_p_gone_on := F_p_gone_on.binds (ps := ["yard", "row", "bad"]) fun _ _ _ _ _ _ us hl => match us, hl with | [_, _, _], _ => rfl
  have F_p_first_round := fun_mk (st := s_p_first_round) l_p_first_round c_p_first_round k_p_first_round
  have B_p_first_round := F_p_first_round.binds (ps := ["yard"]) fun _ _ _ _ _ _ us hl => match us, hl with | [_], _ => rfl
  have F_p_sets_of := fun_mk (st := s_p_sets_of) l_p_sets_of c_p_sets_of k_p_sets_of
  have B_p_sets_of := F_p_sets_of.binds (ps := ["many", "size"]) fun _ _ _ _ _ _ us hl => match us, hl with | [_, _], _ => rfl
  have F_p_groups_without := fun_mk (st := s_p_groups_without) l_p_groups_without c_p_groups_without k_p_groups_without
  have B_p_groups_without := F_p_groups_without.binds (ps := ["yard", "gone"]) fun _ _ _ _ _ _ us hl => match us, hl with | [_, _], _ => rfl
  have F_p_parting := fun_mk (st := s_p_parting) l_p_parting c_p_parting k_p_parting
  have B_p_parting := F_p_parting.binds (ps := ["yard"]) fun _ _ _ _ _ _ us hl => match us, hl with | [_], _ => rfl
  have F_Cases_init := fun_mk (st := s_Cases_init) l_Cases_init c_Cases_init k_Cases_init
  have B_Cases_init := F_Cases_init.binds (ps := ["self", "yard"]) fun _ _ _ _ _ _ us hl => match us, hl with | [_, _], _ => rfl
  have F_Yard_ties := fun_mk (st := s_Yard_ties) l_Yard_ties c_Yard_ties k_Yard_ties
  have B_Yard_ties := F_Yard_ties.binds (ps := ["self"]) fun _ _ _ _ _ _ us hl => match us, hl with | [_], _ => rfl
  have F_Cases_ties_at := fun_mk (st := s_Cases_ties_at) l_Cases_ties_at c_Cases_ties_at k_Cases_ties_at
  have B_Cases_ties_at := F_Cases_ties_at.binds (ps := ["self", "place", "words"]) fun _ _ _ _ _ _ us hl => match us, hl with | [_, _, _], _ => rfl
  have F_Cases_is_few := fun_mk (st := s_Cases_is_few) l_Cases_is_few c_Cases_is_few k_Cases_is_few
  have B_Cases_is_few := F_Cases_is_few.binds (ps := ["self", "place"]) fun _ _ _ _ _ _ us hl => match us, hl with | [_, _], _ => rfl
  have F_Cases_is_three := fun_mk (st := s_Cases_is_three) l_Cases_is_three c_Cases_is_three k_Cases_is_three
  have B_Cases_is_three := F_Cases_is_three.binds (ps := ["self", "place"]) fun _ _ _ _ _ _ us hl => match us, hl with | [_, _], _ => rfl
  have F_Cases_ring_at := fun_mk (st := s_Cases_ring_at) l_Cases_ring_at c_Cases_ring_at k_Cases_ring_at
  have B_Cases_ring_at := F_Cases_ring_at.binds (ps := ["self", "place"]) fun _ _ _ _ _ _ us hl => match us, hl with | [_, _], _ => rfl
  have F_Cases_is_ring := fun_mk (st := s_Cases_is_ring) l_Cases_is_ring c_Cases_is_ring k_Cases_is_ring
  have B_Cases_is_ring := F_Cases_is_ring.binds (ps := ["self", "places"]) fun _ _ _ _ _ _ us hl => match us, hl with | [_, _], _ => rfl
  have F_Cases_leaf := fun_mk (st := s_Cases_leaf) l_Cases_leaf c_Cases_leaf k_Cases_leaf
  have B_Cases_leaf := F_Cases_leaf.binds (ps := ["self"]) fun _ _ _ _ _ _ us hl => match us, hl with | [_], _ => rfl
  have F_Cases_next_tie := fun_mk (st := s_Cases_next_tie) l_Cases_next_tie c_Cases_next_tie k_Cases_next_tie
  have B_Cases_next_tie := F_Cases_next_tie.binds (ps := ["self"]) fun _ _ _ _ _ _ us hl => match us, hl with | [_], _ => rfl
  have F_Cases_node := fun_mk (st := s_Cases_node) l_Cases_node c_Cases_node k_Cases_node
  have B_Cases_node := F_Cases_node.binds (ps := ["self"]) fun _ _ _ _ _ _ us hl => match us, hl with | [_], _ => rfl
  have F_p_round_of := fun_mk (st := s_p_round_of) l_p_round_of c_p_round_of k_p_round_of
  have B_p_round_of := F_p_round_of.binds (ps := ["yard"]) fun _ _ _ _ _ _ us hl => match us, hl with | [_], _ => rfl
  have F_l_alike := fun_mk (st := s_l_alike) l_l_alike c_l_alike k_l_alike
  have B_l_alike := F_l_alike.binds (ps := ["_law_found", "_law_due"]) fun _ _ _ _ _ _ us hl => match us, hl with | [_, _], _ => rfl
  have F_law := fun_mk (st := s_law) l_law c_law k_law
  have B_law := F_law.binds (ps := ["_law_script"]) fun _ _ _ _ _ _ us hl => match us, hl with | [_], _ => rfl
  have T : Txt K mg A := {
    cl_Cases := ⟨pg_Cases, hd_Cases, po_Cases, sa_Cases⟩
    g_Cases := PySem.W.mg_of X G aC_Cases
    M_Cases := ⟨mk_Cases, a_Cases_init, i_Cases_init, kc_Cases⟩
    cl := ⟨pg_Yard, hd_Yard, po_Yard, sa_Yard⟩
    g_Yard := PySem.W.mg_of X G aC_Yard
    M_Yard := ⟨mk_Yard, a_Yard_init, i_Yard_init, kc_Yard⟩
    nS := nS
    nK := nK
    nN := nN
    nY := nY
    nD := nD
    F_l_dice := F_l_dice
    B_l_dice := B_l_dice
    g_l_dice := PySem.W.mg_of X G a_l_dice
    F_l_off := F_l_off
    B_l_off := B_l_off
    g_l_off := PySem.W.mg_of X G a_l_off
    F_l_pairs := F_l_pairs
    B_l_pairs := B_l_pairs
    g_l_pairs := PySem.W.mg_of X G a_l_pairs
    F_l_mixed := F_l_mixed
    B_l_mixed := B_l_mixed
    g_l_mixed := PySem.W.mg_of X G a_l_mixed
    F_l_yard := F_l_yard
    B_l_yard := B_l_yard
    g_l_yard := PySem.W.mg_of X G a_l_yard
    F_l_ringed := F_l_ringed
    B_l_ringed := B_l_ringed
    g_l_ringed := PySem.W.mg_of X G a_l_ringed
    F_Yard_init := F_Yard_init
    B_Yard_init := B_Yard_init
    F_l_made := F_l_made
    B_l_made := B_l_made
    g_l_made := PySem.W.mg_of X G a_l_made
    F_l_tied := F_l_tied
    B_l_tied := B_l_tied
    g_l_tied := PySem.W.mg_of X G a_l_tied
    F_l_rounds := F_l_rounds
    B_l_rounds := B_l_rounds
    g_l_rounds := PySem.W.mg_of X G a_l_rounds
    F_Yard_many := F_Yard_many
    B_Yard_many := B_Yard_many
    m_Yard_many := ⟨a_Yard_many, i_Yard_many, k_Yard_many⟩
    F_p_need_few := F_p_need_few
    B_p_need_few := B_p_need_few
    g_p_need_few := PySem.W.mg_of X G a_p_need_few
    F_Yard_is_tied := F_Yard_is_tied
    B_Yard_is_tied := B_Yard_is_tied
    m_Yard_is_tied := ⟨a_Yard_is_tied, i_Yard_is_tied, k_Yard_is_tied⟩
    F_p_gone_on := F_p_gone_on
    B_p_gone_on := B_p_gone_on
    g_p_gone_on := PySem.W.mg_of X G a_p_gone_on
    F_p_first_round := F_p_first_round
    B_p_first_round := B_p_first_round
    g_p_first_round := PySem.W.mg_of X G a_p_first_round
    F_p_sets_of := F_p_sets_of
    B_p_sets_of := B_p_sets_of
    g_p_sets_of := PySem.W.mg_of X G a_p_sets_of
    F_p_groups_without := F_p_groups_without
    B_p_groups_without := B_p_groups_without
    g_p_groups_without := PySem.W.mg_of X G a_p_groups_without
    F_p_parting := F_p_parting
    B_p_parting := B_p_parting
    g_p_parting := PySem.W.mg_of X G a_p_parting
    F_Cases_init := F_Cases_init
    B_Cases_init := B_Cases_init
    F_Yard_ties := F_Yard_ties
    B_Yard_ties := B_Yard_ties
    m_Yard_ties := ⟨a_Yard_ties, i_Yard_ties, k_Yard_ties⟩
    F_Cases_ties_at := F_Cases_ties_at
    B_Cases_ties_at := B_Cases_ties_at
    m_Cases_ties_at := ⟨a_Cases_ties_at, i_Cases_ties_at, k_Cases_ties_at⟩
    F_Cases_is_few := F_Cases_is_few
    B_Cases_is_few := B_Cases_is_few
    m_Cases_is_few := ⟨a_Cases_is_few, i_Cases_is_few, k_Cases_is_few⟩
    F_Cases_is_three := F_Cases_is_three
    B_Cases_is_three := B_Cases_is_three
    m_Cases_is_three := ⟨a_Cases_is_three, i_Cases_is_three, k_Cases_is_three⟩
    F_Cases_ring_at := F_Cases_ring_at
    B_Cases_ring_at := B_Cases_ring_at
    m_Cases_ring_at := ⟨a_Cases_ring_at, i_Cases_ring_at, k_Cases_ring_at⟩
    F_Cases_is_ring := F_Cases_is_ring
    B_Cases_is_ring := B_Cases_is_ring
    m_Cases_is_ring := ⟨a_Cases_is_ring, i_Cases_is_ring, k_Cases_is_ring⟩
    F_Cases_leaf := F_Cases_leaf
    B_Cases_leaf := B_Cases_leaf
    m_Cases_leaf := ⟨a_Cases_leaf, i_Cases_leaf, k_Cases_leaf⟩
    F_Cases_next_tie := F_Cases_next_tie
    B_Cases_next_tie := B_Cases_next_tie
    m_Cases_next_tie := ⟨a_Cases_next_tie, i_Cases_next_tie, k_Cases_next_tie⟩
    F_Cases_node := F_Cases_node
    B_Cases_node := B_Cases_node
    m_Cases_node := ⟨a_Cases_node, i_Cases_node, k_Cases_node⟩
    F_p_round_of := F_p_round_of
    B_p_round_of := B_p_round_of
    g_p_round_of := PySem.W.mg_of X G a_p_round_of
    F_l_alike := F_l_alike
    B_l_alike := B_l_alike
    g_l_alike := PySem.W.mg_of X G a_l_alike
    F_law := F_law
    B_law := B_law
    g_law := PySem.W.mg_of X G a_law
    c_MOST_PLACES_parting := PySem.W.mg_of X G v_MOST_PLACES_parting
    c_MOST_PLACES_yards := PySem.W.mg_of X G v_MOST_PLACES_yards
    b_abs := PySem.W.mg_none_of X G b_abs
    b_all := PySem.W.mg_none_of X G b_all
    b_bool := PySem.W.mg_none_of X G b_bool
    b_dict := PySem.W.mg_none_of X G b_dict
    b_int := PySem.W.mg_none_of X G b_int
    b_isinstance := PySem.W.mg_none_of X G b_isinstance
    b_len := PySem.W.mg_none_of X G b_len
    b_list := PySem.W.mg_none_of X G b_list
    b_max := PySem.W.mg_none_of X G b_max
    b_min := PySem.W.mg_none_of X G b_min
    b_range := PySem.W.mg_none_of X G b_range
    b_set := PySem.W.mg_none_of X G b_set
    b_sorted := PySem.W.mg_none_of X G b_sorted
    b_str := PySem.W.mg_none_of X G b_str
    b_tuple := PySem.W.mg_none_of X G b_tuple }
  exact ⟨A.fd_law, fun s v => .of_eq rfl, fun base _ _ => ok_law T⟩
theorem walk {l : PySem.W.OpenLaw} {q : Program} {loose : List Str} {XP : (Str → Option Value) → Heap → Prop} {YP : World → Heap → Prop} {d : DefRec} {K : Params → PySem.W.Frag} (hn : l.most = some 63) (hdf : d.params.defaults = [])
    (hY : ∀ (w : World) (h : Heap), YP w h → (K w.params).In h)
    (F : ∀ (w : World) (mg : Str → Option Value) (fa : Addr) (h : Heap), (K w.params).In h → h.Ns mainGlobals mg → mg d.name = some (.ref fa) →
      ∃ fd : FuncData, (∀ (s : Shared) (u : Value), BindsTo s fd ⟨[u], []⟩ [("_law_script", u)]) ∧ ∀ base : Heap, (K w.params).In base → base.Ns mainGlobals mg → FnOk l.prog w (K w.params) mg base CX0 77 fa fd ["_law_script"] (spLaw (K w.params))) :
    PySem.W.WalkO q loose XP YP l.row.toRowW d [] (fun f vs => PySem.call f vs) :=
  L2.walk_of (n := 63) (k := 77) (x := "_law_script") (CX := fun _ => CX0) (sp := fun w => spLaw (K w.params)) hn (by decide) hdf ⟨rfl, by decide, by decide⟩ hY F (fun _ _ a ns hl _ hS => ⟨a, ns, rfl, hS, hl, fun _ => rfl⟩) fun _ _ _ _ _ z => z
end Den
open PySem PySem.W PyProof.Rows in
set_option maxRecDepth 100000 in
set_option maxHeartbeats 0 in
theorem PySem.Challenge.cw_denseround_k13_first_round_holds : PySem.Challenge.rw_denseround_k13_first_round.Holds := by
  w_on; o_law; k_head; (case hw => w_witness2)
  k_fill
  refine Den.walk (l := PySem.Challenge.rw_denseround_k13_first_round) rfl rfl (fun w h Y => PySem.W.kIn_of Y) ?F
  case F =>
    intro w mg fa h KX G hmg
    refine' Den.all_mk KX G hmg ?aC_Cases ?pg_Cases ?hd_Cases ?po_Cases ?sa_Cases ?mk_Cases ?kc_Cases ?aC_Yard ?pg_Yard ?hd_Yard ?po_Yard ?sa_Yard ?mk_Yard ?kc_Yard ?nS ?nK ?nN ?nY ?nD ?a_l_dice ?l_l_dice ?c_l_dice ?k_l_dice ?a_l_off ?l_l_off ?c_l_off ?k_l_off ?a_l_pairs ?l_l_pairs ?c_l_pairs ?k_l_pairs ?a_l_mixed ?l_l_mixed ?c_l_mixed ?k_l_mixed ?a_l_yard ?l_l_yard ?c_l_yard ?k_l_yard ?a_l_ringed ?l_l_ringed ?c_l_ringed ?k_l_ringed ?a_Yard_init ?i_Yard_init ?l_Yard_init ?c_Yard_init ?k_Yard_init ?a_l_made ?l_l_made ?c_l_made ?k_l_made ?a_l_tied ?l_l_tied ?c_l_tied ?k_l_tied ?a_l_rounds ?l_l_rounds ?c_l_rounds ?k_l_rounds ?a_Yard_many ?i_Yard_many ?l_Yard_many ?c_Yard_many ?k_Yard_many ?a_p_need_few ?l_p_need_few ?c_p_need_few ?k_p_need_few ?a_Yard_is_tied ?i_Yard_is_tied ?l_Yard_is_tied ?c_Yard_is_tied ?k_Yard_is_tied ?a_p_gone_on ?l_p_gone_on ?c_p_gone_on ?k_p_gone_on ?a_p_first_round ?l_p_first_round ?c_p_first_round ?k_p_first_round ?a_p_sets_of ?l_p_sets_of ?c_p_sets_of ?k_p_sets_of ?a_p_groups_without ?l_p_groups_without ?c_p_groups_without ?k_p_groups_without ?a_p_parting ?l_p_parting ?c_p_parting ?k_p_parting ?a_Cases_init ?i_Cases_init ?l_Cases_init ?c_Cases_init ?k_Cases_init ?a_Yard_ties ?i_Yard_ties ?l_Yard_ties ?c_Yard_ties ?k_Yard_ties ?a_Cases_ties_at ?i_Cases_ties_at ?l_Cases_ties_at ?c_Cases_ties_at ?k_Cases_ties_at ?a_Cases_is_few ?i_Cases_is_few ?l_Cases_is_few ?c_Cases_is_few ?k_Cases_is_few ?a_Cases_is_three ?i_Cases_is_three ?l_Cases_is_three ?c_Cases_is_three ?k_Cases_is_three ?a_Cases_ring_at ?i_Cases_ring_at ?l_Cases_ring_at ?c_Cases_ring_at ?k_Cases_ring_at ?a_Cases_is_ring ?i_Cases_is_ring ?l_Cases_is_ring ?c_Cases_is_ring ?k_Cases_is_ring ?a_Cases_leaf ?i_Cases_leaf ?l_Cases_leaf ?c_Cases_leaf ?k_Cases_leaf ?a_Cases_next_tie ?i_Cases_next_tie ?l_Cases_next_tie ?c_Cases_next_tie ?k_Cases_next_tie ?a_Cases_node ?i_Cases_node ?l_Cases_node ?c_Cases_node ?k_Cases_node ?a_p_round_of ?l_p_round_of ?c_p_round_of ?k_p_round_of ?a_l_alike ?l_l_alike ?c_l_alike ?k_l_alike ?a_law ?l_law ?c_law ?k_law ?v_MOST_PLACES_parting ?v_MOST_PLACES_yards ?b_abs ?b_all ?b_bool ?b_dict ?b_int ?b_isinstance ?b_len ?b_list ?b_max ?b_min ?b_range ?b_set ?b_sorted ?b_str ?b_tuple
    (case aC_Cases => k_is)
    (case pg_Cases => k_is)
    (case hd_Cases => k_is)
    (case po_Cases => k_is)
    (case sa_Cases => k_is)
    (case mk_Cases => k_is)
    (case kc_Cases => k_is)
    (case aC_Yard => k_is)
    (case pg_Yard => k_is)
    (case hd_Yard => k_is)
    (case po_Yard => k_is)
    (case sa_Yard => k_is)
    (case mk_Yard => k_is)
    (case kc_Yard => k_is)
    (case nS => k_is)
    (case nK => k_is)
    (case nN => k_is)
    (case nY => k_is)
    (case nD => k_is)
    (case a_l_dice => k_is)
    (case l_l_dice => k_is)
    (case c_l_dice => k_is)
    (case k_l_dice => k_is)
    (case a_l_off => k_is)
    (case l_l_off => k_is)
    (case c_l_off => k_is)
    (case k_l_off => k_is)
    (case a_l_pairs => k_is)
    (case l_l_pairs => k_is)
    (case c_l_pairs => k_is)
    (case k_l_pairs => k_is)
    (case a_l_mixed => k_is)
    (case l_l_mixed => k_is)
    (case c_l_mixed => k_is)
    (case k_l_mixed => k_is)
    (case a_l_yard => k_is)
    (case l_l_yard => k_is)
    (case c_l_yard => k_is)
    (case k_l_yard => k_is)
    (case a_l_ringed => k_is)
    (case l_l_ringed => k_is)
    (case c_l_ringed => k_is)
    (case k_l_ringed => k_is)
    (case a_Yard_init => k_is)
    (case i_Yard_init => k_is)
    (case l_Yard_init => k_is)
    (case c_Yard_init => k_is)
    (case k_Yard_init => k_is)
    (case a_l_made => k_is)
    (case l_l_made => k_is)
    (case c_l_made => k_is)
    (case k_l_made => k_is)
    (case a_l_tied => k_is)
    (case l_l_tied => k_is)
    (case c_l_tied => k_is)
    (case k_l_tied => k_is)
    (case a_l_rounds => k_is)
    (case l_l_rounds => k_is)
    (case c_l_rounds => k_is)
    (case k_l_rounds => k_is)
    (case a_Yard_many => k_is)
    (case i_Yard_many => k_is)
    (case l_Yard_many => k_is)
    (case c_Yard_many => k_is)
    (case k_Yard_many => k_is)
    (case a_p_need_few => k_is)
    (case l_p_need_few => k_is)
    (case c_p_need_few => k_is)
    (case k_p_need_few => k_is)
    (case a_Yard_is_tied => k_is)
    (case i_Yard_is_tied => k_is)
    (case l_Yard_is_tied => k_is)
    (case c_Yard_is_tied => k_is)
    (case k_Yard_is_tied => k_is)
    (case a_p_gone_on => k_is)
    (case l_p_gone_on => k_is)
    (case c_p_gone_on => k_is)
    (case k_p_gone_on => k_is)
    (case a_p_first_round => k_is)
    (case l_p_first_round => k_is)
    (case c_p_first_round => k_is)
    (case k_p_first_round => k_is)
    (case a_p_sets_of => k_is)
    (case l_p_sets_of => k_is)
    (case c_p_sets_of => k_is)
    (case k_p_sets_of => k_is)
    (case a_p_groups_without => k_is)
    (case l_p_groups_without => k_is)
    (case c_p_groups_without => k_is)
    (case k_p_groups_without => k_is)
    (case a_p_parting => k_is)
    (case l_p_parting => k_is)
    (case c_p_parting => k_is)
    (case k_p_parting => k_is)
    (case a_Cases_init => k_is)
    (case i_Cases_init => k_is)
    (case l_Cases_init => k_is)
    (case c_Cases_init => k_is)
    (case k_Cases_init => k_is)
    (case a_Yard_ties => k_is)
    (case i_Yard_ties => k_is)
    (case l_Yard_ties => k_is)
    (case c_Yard_ties => k_is)
    (case k_Yard_ties => k_is)
    (case a_Cases_ties_at => k_is)
    (case i_Cases_ties_at => k_is)
    (case l_Cases_ties_at => k_is)
    (case c_Cases_ties_at => k_is)
    (case k_Cases_ties_at => k_is)
    (case a_Cases_is_few => k_is)
    (case i_Cases_is_few => k_is)
    (case l_Cases_is_few => k_is)
    (case c_Cases_is_few => k_is)
    (case k_Cases_is_few => k_is)
    (case a_Cases_is_three => k_is)
    (case i_Cases_is_three => k_is)
    (case l_Cases_is_three => k_is)
    (case c_Cases_is_three => k_is)
    (case k_Cases_is_three => k_is)
    (case a_Cases_ring_at => k_is)
    (case i_Cases_ring_at => k_is)
    (case l_Cases_ring_at => k_is)
    (case c_Cases_ring_at => k_is)
    (case k_Cases_ring_at => k_is)
    (case a_Cases_is_ring => k_is)
    (case i_Cases_is_ring => k_is)
    (case l_Cases_is_ring => k_is)
    (case c_Cases_is_ring => k_is)
    (case k_Cases_is_ring => k_is)
    (case a_Cases_leaf => k_is)
    (case i_Cases_leaf => k_is)
    (case l_Cases_leaf => k_is)
    (case c_Cases_leaf => k_is)
    (case k_Cases_leaf => k_is)
    (case a_Cases_next_tie => k_is)
    (case i_Cases_next_tie => k_is)
    (case l_Cases_next_tie => k_is)
    (case c_Cases_next_tie => k_is)
    (case k_Cases_next_tie => k_is)
    (case a_Cases_node => k_is)
    (case i_Cases_node => k_is)
    (case l_Cases_node => k_is)
    (case c_Cases_node => k_is)
    (case k_Cases_node => k_is)
    (case a_p_round_of => k_is)
    (case l_p_round_of => k_is)
    (case c_p_round_of => k_is)
    (case k_p_round_of => k_is)
    (case a_l_alike => k_is)
    (case l_l_alike => k_is)
    (case c_l_alike => k_is)
    (case k_l_alike => k_is)
    (case a_law => k_is)
    (case l_law => k_is)
    (case c_law => k_is)
    (case k_law => k_is)
    (case v_MOST_PLACES_parting => k_is)
    (case v_MOST_PLACES_yards => k_is)
    (case b_abs => k_is)
    (case b_all => k_is)
    (case b_bool => k_is)
    (case b_dict => k_is)
    (case b_int => k_is)
    (case b_isinstance => k_is)
    (case b_len => k_is)
    (case b_list => k_is)
    (case b_max => k_is)
    (case b_min => k_is)
    (case b_range => k_is)
    (case b_set => k_is)
    (case b_sorted => k_is)
    (case b_str => k_is)
    (case b_tuple => k_is)
