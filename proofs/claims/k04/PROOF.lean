import PyProof.Rows.All
import Wide.All
import OpenK.AllK
import Wide.FinOn
import HandS.ForMost
import HandS.Exc
import HandS.ExcOwn
import HandS.WordsExc
import HandS.CallSlots
import HandS.TupAny
import HandS.Deep
import HandS.EndTab
import HandS.AnyAll
import HandS.Flow
import HandS.Dict
import HandS.IsInst
import HandS.Iter
import HandS.Comp
import HandS.EndBits
import HandS.Conv
import HandS.Strs
import HandS.Call
import HandS.SortInts
import HandS.TupSets
import PyProof.GenQ
import HandS.GenList
import KE.GoesEnum
import HandS.ExcIs
import HandS.ExcInit
import HandS.ExcField
import HandS.FStr
import KE.KExcSuper
import KE.KExcIs
import HandS.TupLen
import HandS.TryMany
import HandS.SetFor
import HandS.Style
import HandS.Rev
import PyProof.SumWalkG
import HandS.TupMul
import PyProof.JoinWalk
import HandS.JoinGen
import HandS.Text
import HandS.Replace
import HandS.RaiseMore
import HandS.RevTup
import PyProof.ListNew
import PySem.Challenge.RW_archway_k04_children_of_texts
set_option Elab.async false
set_option linter.all false
set_option maxRecDepth 100000
set_option maxHeartbeats 2000000
set_option maxHeartbeats 1000000
set_option pp.maxSteps 150
set_option maxHeartbeats 4000000
namespace L3
open PySem PySem.Spec PyProof.Rows L2

/-! ## pure data, mutable cells, worlds -/
inductive D where
  | non | bl (b : Bool) | int (i : Int) | str (x : Str) | ref (a : Addr) | ty (n : String)
  | cell (n : Nat) | tup (xs : List D) | lst (xs : List D) | rol (xs : List D)
  | own (xs : List D) | brw (xs : List D) | obj (C : Addr) (fs : List (Str × D))
  | exn (a dd : Addr) (fs : List (Str × D))
instance : Inhabited D := ⟨.non⟩
/-- what a cell holds -/
inductive MO where
  | lst (xs : List D) | dic (kvs : List (Key × D)) | dit (kvs : List (List Key × D)) | ins (C : Addr) (fs : List (Str × D)) | dead
abbrev Mem := List MO
/-- B: what never changes; ρ: where the cells stand -/
structure Wd where
  B : Hp
  ρ : List Addr
/-- a tuple; one of ints is a thing that was made, and no constant -/
def IntsV (us : List V) : Prop := ∃ ns : List Int, us = ns.map V.int
def TupR (K : PySem.W.Frag) (B : Hp) (a : Addr) (us : List V) : Prop := B a = some (.tup us) ∨ (SqT K B a us ∧ ¬ IntsV us)
theorem TupR.of {K : PySem.W.Frag} {B : Hp} {a : Addr} {us : List V} (h : B a = some (.tup us)) : TupR K B a us := .inl h
theorem TupR.sq {K : PySem.W.Frag} {B : Hp} {a : Addr} {us : List V} (h : TupR K B a us) : SqT K B a us := by
  rcases h with h | h
  · exact .inl (.inl h)
  · exact h.1
mutual
inductive Rep (K : PySem.W.Frag) (w : Wd) : V → D → Prop
  | non : Rep K w .non .non
  | bl (b : Bool) : Rep K w (.bl b) (.bl b)
  | int (i : Int) : Rep K w (.int i) (.int i)
  | str (x : Str) : Rep K w (.str x) (.str x)
  | ref (a : Addr) : Rep K w (.ref a) (.ref a)
  | ty (n : String) : Rep K w (.ty n) (.ty n)
  | cell {n : Nat} {a : Addr} : w.ρ[n]? = some a → Rep K w (.ref a) (.cell n)
  | tup {a : Addr} {us : List V} {ds : List D} : TupR K w.B a us → Reps K w us ds → Rep K w (.ref a) (.tup ds)
  | lst {a : Addr} {us : List V} {ds : List D} : w.B a = some (.lst us) → Reps K w us ds → Rep K w (.ref a) (.lst ds)
  | rol {a : Addr} {us : List V} {ds : List D} : SqL K w.B a us → Reps K w us ds → Rep K w (.ref a) (.rol ds)
  | obj {a C dx : Addr} {us : List (Str × V)} {ds : List (Str × D)} : w.B a = some (.ins C dx us) → FsR K w us ds → Rep K w (.ref a) (.obj C ds)
  | exn {a dd : Addr} {us : List (Str × V)} {ds : List (Str × D)} : w.B dd = some (.xd us) → FsR K w us ds → Rep K w (.ref a) (.exn a dd ds)
inductive Reps (K : PySem.W.Frag) (w : Wd) : List V → List D → Prop
  | nil : Reps K w [] []
  | cons {v : V} {vs : List V} {d : D} {ds : List D} : Rep K w v d → Reps K w vs ds → Reps K w (v :: vs) (d :: ds)
inductive FsR (K : PySem.W.Frag) (w : Wd) : List (Str × V) → List (Str × D) → Prop
  | nil : FsR K w [] []
  | cons {f : Str} {v : V} {d : D} {vs : List (Str × V)} {ds : List (Str × D)} : Rep K w v d → FsR K w vs ds → FsR K w ((f, v) :: vs) ((f, d) :: ds)
end
/-- no table of a code object -/
abbrev NT (o : HO) : Prop := ∀ ps, o ≠ .tbl ps
structure Ext (S : Addr → Prop) (w : Wd) (H : Hp) (w' : Wd) (H' : Hp) : Prop where
  b : Same w.B w'.B
  r : ∀ (n : Nat) (a : Addr), w.ρ[n]? = some a → w'.ρ[n]? = some a
  nw : ∀ a : Addr, a ∈ w'.ρ → a ∈ w.ρ ∨ H a = none
  fr : ∀ a o, S a → H a = some o → a ∉ w.ρ → NT o → H' a = some o
  tr : ∀ a o, H a = some o → ∃ o', H' a = some o'
  bn : ∀ a o, w'.B a = some o → w.B a = some o ∨ H a = none ∨ a ∈ w.ρ ∨ ¬ S a
abbrev All : Addr → Prop := fun _ => True
theorem Ext.refl {S : Addr → Prop} (w : Wd) (H : Hp) : Ext S w H w H := ⟨fun _ _ h => h, fun _ _ h => h, fun _ h => .inl h, fun _ _ _ h _ _ => h, fun _ o h => ⟨o, h⟩, fun _ _ h => .inl h⟩
theorem Ext.sub {S T : Addr → Prop} {w w' : Wd} {H H' : Hp} (x : Ext S w H w' H') (h : ∀ a, T a → (∃ o, H a = some o) → S a) : Ext T w H w' H' where
  b := x.b
  r := x.r
  nw := x.nw
  fr := fun a o t e n k => x.fr a o (h a t ⟨o, e⟩) e n k
  tr := x.tr
  bn := fun a o e => by
    rcases x.bn a o e with q | q | q | q
    · exact .inl q
    · exact .inr (.inl q)
    · exact .inr (.inr (.inl q))
    · by_cases ha : H a = none
      · exact .inr (.inl ha)
      · refine .inr (.inr (.inr fun t => q (h a t ?_)))
        cases e2 : H a with
        | none => exact absurd e2 ha
        | some o => exact ⟨o, rfl⟩
theorem Ext.of {S : Addr → Prop} {w w' : Wd} {H H' : Hp} (x : Ext All w H w' H') : Ext S w H w' H' := x.sub fun _ _ _ => trivial
theorem Ext.trans {S : Addr → Prop} {w1 w2 w3 : Wd} {H1 H2 H3 : Hp} (x : Ext S w1 H1 w2 H2) (y : Ext S w2 H2 w3 H3) : Ext S w1 H1 w3 H3 where
  b := x.b.trans y.b
  r := fun n a h => y.r n a (x.r n a h)
  nw := fun a h => by
    rcases y.nw a h with h | h
    · exact x.nw a h
    · cases e : H1 a with
      | none => exact .inr rfl
      | some o =>
        obtain ⟨o', e'⟩ := x.tr a o e
        rw [h] at e'; cases e'
  fr := fun a o s h hn k => y.fr a o s (x.fr a o s h hn k) (fun hm => (x.nw a hm).elim hn fun e => by rw [h] at e; cases e) k
  tr := fun a o h => by
    obtain ⟨o', e'⟩ := x.tr a o h
    exact y.tr a o' e'
  bn := fun a o h => by
    rcases y.bn a o h with h | h | h | h
    · exact x.bn a o h
    · cases e : H1 a with
      | none => exact .inr (.inl rfl)
      | some o =>
        obtain ⟨o', e'⟩ := x.tr a o e
        rw [h] at e'; cases e'
    · rcases x.nw a h with h | h
      · exact .inr (.inr (.inl h))
      · exact .inr (.inl h)
    · exact .inr (.inr (.inr h))
theorem seqT {K : PySem.W.Frag} {H H' : Hp} {a : Addr} {xs : List V} (e : Same H H') (h : SqT K H a xs) : SqT K H' a xs := by
  rcases h with (h | ⟨o, h⟩) | h
  · exact .inl (.inl (e _ _ h))
  · exact .inl (.inr ⟨o, e _ _ h⟩)
  · exact .inr h
theorem tupR {K : PySem.W.Frag} {H H' : Hp} {a : Addr} {xs : List V} (e : Same H H') (h : TupR K H a xs) : TupR K H' a xs := by
  rcases h with h | h
  · exact .inl (e _ _ h)
  · exact .inr ⟨seqT e h.1, h.2⟩
section
variable {K : PySem.W.Frag} {w w' : Wd}
mutual
theorem Rep.mono' (hb : Same w.B w'.B) (hr : ∀ (n : Nat) (a : Addr), w.ρ[n]? = some a → w'.ρ[n]? = some a) : ∀ {v : V} {d : D}, Rep K w v d → Rep K w' v d
  | _, _, .non => .non
  | _, _, .bl b => .bl b
  | _, _, .int b => .int b
  | _, _, .str b => .str b
  | _, _, .ref b => .ref b
  | _, _, .ty b => .ty b
  | _, _, .cell h => .cell (hr _ _ h)
  | _, _, .tup h q => .tup (tupR hb h) (Reps.mono' hb hr q)
  | _, _, .lst h q => .lst (hb _ _ h) (Reps.mono' hb hr q)
  | _, _, .rol h q => .rol (hb.seq h) (Reps.mono' hb hr q)
  | _, _, .obj h q => .obj (hb _ _ h) (FsR.mono' hb hr q)
  | _, _, .exn h q => .exn (hb _ _ h) (FsR.mono' hb hr q)
theorem Reps.mono' (hb : Same w.B w'.B) (hr : ∀ (n : Nat) (a : Addr), w.ρ[n]? = some a → w'.ρ[n]? = some a) : ∀ {vs : List V} {ds : List D}, Reps K w vs ds → Reps K w' vs ds
  | _, _, .nil => .nil
  | _, _, .cons a b => .cons (Rep.mono' hb hr a) (Reps.mono' hb hr b)
theorem FsR.mono' (hb : Same w.B w'.B) (hr : ∀ (n : Nat) (a : Addr), w.ρ[n]? = some a → w'.ρ[n]? = some a) : ∀ {vs : List (Str × V)} {ds : List (Str × D)}, FsR K w vs ds → FsR K w' vs ds
  | _, _, .nil => .nil
  | _, _, .cons a b => .cons (Rep.mono' hb hr a) (FsR.mono' hb hr b)
end
theorem Rep.mono {v : V} {d : D} {S : Addr → Prop} {H H' : Hp} (r : Rep K w v d) (e : Ext S w H w' H') : Rep K w' v d := r.mono' e.b e.r
theorem Reps.mono {v : List V} {d : List D} {S : Addr → Prop} {H H' : Hp} (r : Reps K w v d) (e : Ext S w H w' H') : Reps K w' v d := r.mono' e.b e.r
theorem Reps.length : ∀ {vs : List V} {ds : List D}, Reps K w vs ds → vs.length = ds.length
  | _, _, .nil => rfl
  | _, _, .cons _ t => congrArg (· + 1) (Reps.length t)
theorem Reps.get : ∀ {vs : List V} {ds : List D}, Reps K w vs ds → ∀ {i : Nat} {d : D}, ds[i]? = some d → ∃ v, vs[i]? = some v ∧ Rep K w v d
  | _, _, .nil, _, _, h => by simp at h
  | _, _, .cons a _, 0, _, h => by simp at h; subst h; exact ⟨_, rfl, a⟩
  | _, _, .cons _ t, i + 1, _, h => by
    obtain ⟨v, e, r⟩ := Reps.get t (i := i) (by simpa using h)
    exact ⟨v, by simpa using e, r⟩
theorem Reps.getV : ∀ {vs : List V} {ds : List D}, Reps K w vs ds → ∀ {i : Nat} {v : V}, vs[i]? = some v → ∃ d, ds[i]? = some d ∧ Rep K w v d
  | _, _, .nil, _, _, h => by simp at h
  | _, _, .cons a _, 0, _, h => by simp at h; subst h; exact ⟨_, rfl, a⟩
  | _, _, .cons _ t, i + 1, _, h => by
    obtain ⟨v, e, r⟩ := Reps.getV t (i := i) (by simpa using h)
    exact ⟨v, by simpa using e, r⟩
theorem Reps.append : ∀ {vs us : List V} {ds es : List D}, Reps K w vs ds → Reps K w us es → Reps K w (vs ++ us) (ds ++ es)
  | _, _, _, _, .nil, h => h
  | _, _, _, _, .cons a t, h => .cons a (Reps.append t h)
theorem Reps.one {v : V} {d : D} (r : Rep K w v d) : Reps K w [v] [d] := .cons r .nil
theorem Reps.take : ∀ {vs : List V} {ds : List D} (n : Nat), Reps K w vs ds → Reps K w (vs.take n) (ds.take n)
  | _, _, 0, _ => by simp; exact .nil
  | _, _, n + 1, .nil => .nil
  | _, _, n + 1, .cons a t => .cons a (Reps.take n t)
theorem Reps.drop : ∀ {vs : List V} {ds : List D} (n : Nat), Reps K w vs ds → Reps K w (vs.drop n) (ds.drop n)
  | _, _, 0, h => h
  | _, _, n + 1, .nil => .nil
  | _, _, n + 1, .cons _ t => Reps.drop n t
theorem Reps.set {v : V} {d : D} (r : Rep K w v d) : ∀ {vs : List V} {ds : List D} (n : Nat), Reps K w vs ds → Reps K w (vs.set n v) (ds.set n d)
  | _, _, _, .nil => .nil
  | _, _, 0, .cons _ t => .cons r t
  | _, _, n + 1, .cons a t => .cons a (Reps.set r n t)
theorem Reps.dropLast : ∀ {vs : List V} {ds : List D}, Reps K w vs ds → Reps K w vs.dropLast ds.dropLast
  | _, _, .nil => .nil
  | _, _, .cons _ .nil => .nil
  | _, _, .cons a (.cons b t) => .cons a (Reps.dropLast (.cons b t))
theorem Reps.eraseIdx : ∀ {vs : List V} {ds : List D} (n : Nat), Reps K w vs ds → Reps K w (vs.eraseIdx n) (ds.eraseIdx n)
  | _, _, _, .nil => .nil
  | _, _, 0, .cons _ t => t
  | _, _, n + 1, .cons a t => .cons a (Reps.eraseIdx n t)
theorem Reps.reverse : ∀ {vs : List V} {ds : List D}, Reps K w vs ds → Reps K w vs.reverse ds.reverse
  | _, _, .nil => .nil
  | _, _, .cons a t => by simp only [List.reverse_cons]; exact (Reps.reverse t).append (.one a)
theorem Reps.ints : ∀ (ns : List Int), Reps K w (ns.map V.int) (ns.map D.int)
  | [] => .nil
  | n :: r => .cons (.int n) (Reps.ints r)

/-! ### the state -/
theorem FsR.mono {v : List (Str × V)} {d : List (Str × D)} {S : Addr → Prop} {H H' : Hp} (r : FsR K w v d) (e : Ext S w H w' H') : FsR K w' v d := r.mono' e.b e.r
inductive KvR {κ : Type} (K : PySem.W.Frag) (w : Wd) : List (κ × V) → List (κ × D) → Prop
  | nil : KvR K w [] []
  | cons {f : κ} {v : V} {d : D} {vs : List (κ × V)} {ds : List (κ × D)} : Rep K w v d → KvR K w vs ds → KvR K w ((f, v) :: vs) ((f, d) :: ds)
theorem KvR.mono' {κ : Type} {vs : List (κ × V)} {ds : List (κ × D)} (h : KvR K w vs ds) (hb : Same w.B w'.B) (hr : ∀ (n : Nat) (a : Addr), w.ρ[n]? = some a → w'.ρ[n]? = some a) : KvR K w' vs ds := by
  induction h with
  | nil => exact .nil
  | cons r _ ih => exact .cons (r.mono' hb hr) ih
theorem KvR.mono {κ : Type} {vs : List (κ × V)} {ds : List (κ × D)} {S : Addr → Prop} {H H' : Hp} (h : KvR K w vs ds) (e : Ext S w H w' H') : KvR K w' vs ds := by
  induction h with
  | nil => exact .nil
  | cons r _ ih => exact .cons (r.mono e) ih
def CellOk (K : PySem.W.Frag) (w : Wd) (H : Hp) (a : Addr) : MO → Prop
  | .lst ds => w.B a = none ∧ ∃ us, H a = some (.lst us) ∧ Reps K w us ds
  | .dic kvs => w.B a = none ∧ ∃ us, H a = some (.dK us) ∧ KvR K w us kvs
  | .dit kvs => w.B a = none ∧ ∃ us, H a = some (.dT us) ∧ KvR K w us kvs
  | .ins C fs => w.B a = none ∧ ∃ dx us, H a = some (.ins C dx us) ∧ FsR K w us fs
  | .dead => ∃ o, H a = some o
structure HS (K : PySem.W.Frag) (w : Wd) (M : Mem) (H : Hp) : Prop where
  same : Same w.B H
  len : w.ρ.length = M.length
  nd : w.ρ.Nodup
  cells : ∀ (n : Nat) (a : Addr) (o : MO), w.ρ[n]? = some a → M[n]? = some o → CellOk K w H a o
  tabs : ∀ (P : Addr) (ps : Array Value), H P = some (.tbl ps) → TriplesOk ps.toList ∧ w.B P = none ∧ P ∉ w.ρ
  tups : ∀ (b : Addr) (us : List V), H b = some (.tup us) → w.B b = some (.tup us)
theorem CellOk.there {H : Hp} {a : Addr} {o : MO} (h : CellOk K w H a o) : ∃ u, H a = some u := by
  cases o with
  | lst ds => obtain ⟨_, us, h, _⟩ := h; exact ⟨_, h⟩
  | dic ds => obtain ⟨_, us, h, _⟩ := h; exact ⟨_, h⟩
  | dit ds => obtain ⟨_, us, h, _⟩ := h; exact ⟨_, h⟩
  | ins C fs => obtain ⟨_, dx, us, h, _⟩ := h; exact ⟨_, h⟩
  | dead => exact h
theorem HS.at {M : Mem} {H : Hp} (h : HS K w M H) {n : Nat} {a : Addr} (e : w.ρ[n]? = some a) : ∃ o, M[n]? = some o ∧ CellOk K w H a o := by
  have hl : n < M.length := by rw [← h.len]; exact (List.getElem?_eq_some_iff.mp e).1
  exact ⟨M[n], by simp [hl], h.cells n a _ e (by simp [hl])⟩
theorem HS.tracked {M : Mem} {H : Hp} (h : HS K w M H) {a : Addr} (e : a ∈ w.ρ) : ∃ u, H a = some u := by
  obtain ⟨n, hn⟩ := List.mem_iff_getElem?.mp e
  obtain ⟨o, _, c⟩ := h.at hn
  exact c.there
theorem HS.fresh {M : Mem} {H : Hp} (h : HS K w M H) {p : Addr} (e : H p = none) : p ∉ w.ρ := fun hm => by
  obtain ⟨u, q⟩ := h.tracked hm
  rw [e] at q; cases q
/-- neither a table nor a tuple -/
abbrev NU (o : HO) : Prop := (∀ ps, o ≠ .tbl ps) ∧ ∀ us, o ≠ .tup us
theorem tup_upd {H : Hp} {p b : Addr} {o : HO} {us : List V} (ho : ∀ us, o ≠ .tup us) (e : upd H p o b = some (.tup us)) : b ≠ p ∧ H b = some (.tup us) := by
  by_cases hp : b = p
  · subst hp; rw [upd_same] at e; exact absurd (Option.some.inj e) (ho us)
  · rw [upd_ne hp] at e; exact ⟨hp, e⟩
theorem tbl_upd {H : Hp} {p P : Addr} {o : HO} {ps : Array Value} (ho : NT o) (e : upd H p o P = some (.tbl ps)) : P ≠ p ∧ H P = some (.tbl ps) := by
  by_cases hp : P = p
  · subst hp; rw [upd_same] at e; exact absurd (Option.some.inj e) (ho ps)
  · rw [upd_ne hp] at e; exact ⟨hp, e⟩
/-- kept by a new thing -/
theorem CellOk.ext {S : Addr → Prop} {H H' : Hp} {a : Addr} {o : MO} (h : CellOk K w H a o) (e : Ext S w H w' H') (hH : H' a = H a) (hB : w.B a = none → (∃ u, H a = some u) → w'.B a = none) : CellOk K w' H' a o := by
  have hs := h.there
  cases o with
  | lst ds => obtain ⟨b, us, h, r⟩ := h; exact ⟨hB b hs, us, by rw [hH]; exact h, r.mono e⟩
  | dic ds => obtain ⟨b, us, h, r⟩ := h; exact ⟨hB b hs, us, by rw [hH]; exact h, r.mono e⟩
  | dit ds => obtain ⟨b, us, h, r⟩ := h; exact ⟨hB b hs, us, by rw [hH]; exact h, r.mono e⟩
  | ins C fs => obtain ⟨b, dx, us, h, r⟩ := h; exact ⟨hB b hs, dx, us, by rw [hH]; exact h, r.mono e⟩
  | dead => obtain ⟨u, h⟩ := h; exact ⟨u, by rw [hH]; exact h⟩
/-- a new immutable object at p -/
theorem HS.imm {M : Mem} {H : Hp} (h : HS K w M H) {p : Addr} {o : HO} (hp : H p = none) (ho : NT o := by intro _ z; cases z) : HS K ⟨upd w.B p o, w.ρ⟩ M (upd H p o) ∧ Ext All w H ⟨upd w.B p o, w.ρ⟩ (upd H p o) := by
  have hB : w.B p = none := h.same.free hp
  have ne : ∀ {a : Addr} {u : HO}, H a = some u → a ≠ p := fun {a u} e q => by rw [q, hp] at e; cases e
  have neB : ∀ {a : Addr} {u : HO}, w.B a = some u → a ≠ p := fun {a u} e q => by rw [q, hB] at e; cases e
  have ex : Ext All w H ⟨upd w.B p o, w.ρ⟩ (upd H p o) := ⟨fun b u e => by show upd w.B p o b = _; rw [upd_ne (neB e)]; exact e, fun _ _ h => h, fun _ h => .inl h, fun a u _ e _ _ => by rw [upd_ne (ne e)]; exact e, fun a u e => ⟨u, by rw [upd_ne (ne e)]; exact e⟩, fun a u e => by
      by_cases ha : a = p
      · subst ha; exact .inr (.inl hp)
      · have e : upd w.B p o a = some u := e
        rw [upd_ne ha] at e; exact .inl e⟩
  refine ⟨⟨fun b u e => ?_, h.len, h.nd, fun n a m e1 e2 => ?_, fun P ps e => ?_, fun b us e => ?_⟩, ex⟩
  · by_cases hb : b = p
    · subst hb
      have e : upd w.B b o b = some u := e
      rw [upd_same] at e ⊢; exact e
    · have e : upd w.B p o b = some u := e
      rw [upd_ne hb] at e ⊢; exact h.same b u e
  · have c := h.cells n a m e1 e2
    obtain ⟨u, hu⟩ := c.there
    exact c.ext ex (upd_ne (ne hu)) fun hb _ => by show upd w.B p o a = none; rw [upd_ne (ne hu)]; exact hb
  · obtain ⟨n1, e1⟩ := tbl_upd ho e
    obtain ⟨t1, t2, t3⟩ := h.tabs P ps e1
    exact ⟨t1, by show upd w.B p o P = none; rw [upd_ne n1]; exact t2, t3⟩
  · by_cases hb : b = p
    · subst hb
      show upd w.B b o b = _
      rw [upd_same] at e ⊢; exact e
    · show upd w.B p o b = _
      rw [upd_ne hb] at e ⊢; exact h.tups b us e
theorem getE {α : Type} {l : List α} {x y : α} {n : Nat} (h : (l ++ [x])[n]? = some y) : (n < l.length ∧ l[n]? = some y) ∨ (n = l.length ∧ y = x) := by
  by_cases hl : n < l.length
  · rw [List.getElem?_append_left hl] at h; exact .inl ⟨hl, h⟩
  · rw [List.getElem?_append_right (by omega)] at h
    have : n - l.length = 0 := by
      cases e : n - l.length with
      | zero => rfl
      | succ k => rw [e] at h; simp at h
    rw [this] at h
    simp at h
    exact .inr ⟨by omega, h.symm⟩
/-- a cell written -/
theorem HS.write {M : Mem} {H : Hp} (h : HS K w M H) {n : Nat} {p : Addr} {m : MO} {o : HO} (hn : w.ρ[n]? = some p) (hb : w.B p = none)
    (hc : CellOk K w (upd H p o) p m) (ho : NU o := by constructor <;> intro _ z <;> cases z) : HS K w (M.set n m) (upd H p o) ∧ Ext All w H w (upd H p o) := by
  have ex : Ext All w H w (upd H p o) := ⟨fun _ _ e => e, fun _ _ e => e, fun _ e => .inl e, fun a u _ e hna _ => by
      rw [upd_ne (fun q => hna (by rw [q]; exact List.mem_of_getElem? hn))]; exact e,
    fun a u e => by
      by_cases ha : a = p
      · subst ha; exact ⟨o, upd_same⟩
      · exact ⟨u, by rw [upd_ne ha]; exact e⟩, fun _ _ e => .inl e⟩
  refine ⟨⟨fun b u e => ?_, by simp [h.len], h.nd, fun k a q e1 e2 => ?_, fun P ps e => h.tabs P ps (tbl_upd ho.1 e).2, fun b us e => h.tups b us (tup_upd ho.2 e).2⟩, ex⟩
  · rw [upd_ne (fun q => by rw [q, hb] at e; cases e)]; exact h.same b u e
  · by_cases hk : k = n
    · subst hk
      rw [hn] at e1; cases e1
      have hl : k < M.length := by rw [← h.len]; exact (List.getElem?_eq_some_iff.mp hn).1
      rw [List.getElem?_set_self hl] at e2; cases e2; exact hc
    · rw [List.getElem?_set_ne (Ne.symm hk)] at e2
      have c := h.cells k a q e1 e2
      have ha : a ≠ p := fun z => hk (nd_ix h.nd e1 (show w.ρ[n]? = some a by rw [z]; exact hn))
      exact c.ext ex (upd_ne ha) fun hb _ => hb
/-- a list cell given up: from now on it is data -/
theorem HS.freeze {M : Mem} {H : Hp} (h : HS K w M H) {n : Nat} {p : Addr} {ds : List D} (hn : w.ρ[n]? = some p) (hm : M[n]? = some (.lst ds)) :
    ∃ us, HS K ⟨upd w.B p (.lst us), w.ρ⟩ (M.set n .dead) H ∧ Ext All w H ⟨upd w.B p (.lst us), w.ρ⟩ H ∧ Rep K ⟨upd w.B p (.lst us), w.ρ⟩ (.ref p) (.lst ds) := by
  obtain ⟨hb, us, hH, hr⟩ := h.cells n p _ hn hm
  have neB : ∀ {a : Addr} {u : HO}, w.B a = some u → a ≠ p := fun {a u} e q => by rw [q, hb] at e; cases e
  have ex : Ext All w H ⟨upd w.B p (.lst us), w.ρ⟩ H := ⟨fun b u e => by show upd w.B p _ b = _; rw [upd_ne (neB e)]; exact e, fun _ _ h => h, fun _ h => .inl h, fun _ _ _ e _ _ => e, fun _ u e => ⟨u, e⟩, fun a u e => by
    by_cases ha : a = p
    · subst ha; exact .inr (.inr (.inl (List.mem_of_getElem? hn)))
    · have e : upd w.B p (.lst us) a = some u := e
      rw [upd_ne ha] at e; exact .inl e⟩
  refine ⟨us, ⟨fun b u e => ?_, by simp [h.len], h.nd, fun k a q e1 e2 => ?_, fun P ps e => ?_, fun b us2 e => ?_⟩, ex, .lst upd_same (hr.mono ex)⟩
  · by_cases hbp : b = p
    · subst hbp
      have e : upd w.B b (.lst us) b = some u := e
      rw [upd_same] at e; rw [hH]; exact e
    · have e : upd w.B p (.lst us) b = some u := e
      rw [upd_ne hbp] at e; exact h.same b u e
  · by_cases hk : k = n
    · subst hk
      have e1 : w.ρ[k]? = some a := e1
      rw [hn] at e1; cases e1
      have hl : k < M.length := by rw [← h.len]; exact (List.getElem?_eq_some_iff.mp hn).1
      rw [List.getElem?_set_self hl] at e2; cases e2; exact ⟨_, hH⟩
    · rw [List.getElem?_set_ne (Ne.symm hk)] at e2
      have c := h.cells k a q e1 e2
      have ha : a ≠ p := fun z => hk (nd_ix h.nd e1 (show w.ρ[n]? = some a by rw [z]; exact hn))
      exact c.ext ex rfl fun hb _ => by show upd w.B p _ a = none; rw [upd_ne ha]; exact hb
  · obtain ⟨t1, t2, t3⟩ := h.tabs P ps e
    exact ⟨t1, by show upd w.B p _ P = none; rw [upd_ne (fun z => by rw [z, hH] at e; cases e)]; exact t2, t3⟩
  · show upd w.B p _ b = _
    rw [upd_ne (fun z => by rw [z, hH] at e; cases e)]; exact h.tups b us2 e
/-- a list that no cell holds, given up: from now on it is data -/
theorem HS.freezeO {S : Addr → Prop} {M : Mem} {H : Hp} (h : HS K w M H) {p : Addr} {o : HO} (hb : w.B p = none) (hr : p ∉ w.ρ) (hH : H p = some o) (hS : ¬ S p) (ho : NT o := by intro _ z; cases z) :
    HS K ⟨upd w.B p o, w.ρ⟩ M H ∧ Ext S w H ⟨upd w.B p o, w.ρ⟩ H := by
  have neB : ∀ {a : Addr} {u : HO}, w.B a = some u → a ≠ p := fun {a u} e q => by rw [q, hb] at e; cases e
  have ex : Ext S w H ⟨upd w.B p o, w.ρ⟩ H := ⟨fun b u e => by show upd w.B p _ b = _; rw [upd_ne (neB e)]; exact e, fun _ _ h => h, fun _ h => .inl h, fun _ _ _ e _ _ => e, fun _ u e => ⟨u, e⟩, fun a u e => by
    by_cases ha : a = p
    · subst ha; exact .inr (.inr (.inr hS))
    · have e : upd w.B p o a = some u := e
      rw [upd_ne ha] at e; exact .inl e⟩
  refine ⟨⟨fun b u e => ?_, h.len, h.nd, fun k a q e1 e2 => ?_, fun P ps e => ?_, fun b us e => ?_⟩, ex⟩
  · by_cases hbp : b = p
    · subst hbp
      have e : upd w.B b o b = some u := e
      rw [upd_same] at e; rw [hH]; exact e
    · have e : upd w.B p o b = some u := e
      rw [upd_ne hbp] at e; exact h.same b u e
  · have c := h.cells k a q e1 e2
    have ha : a ≠ p := fun z => hr (by rw [← z]; exact List.mem_of_getElem? e1)
    exact c.ext ex rfl fun hb _ => by show upd w.B p _ a = none; rw [upd_ne ha]; exact hb
  · obtain ⟨t1, t2, t3⟩ := h.tabs P ps e
    exact ⟨t1, by show upd w.B p _ P = none; rw [upd_ne (fun z => by rw [z, hH] at e; exact ho ps (Option.some.inj e))]; exact t2, t3⟩
  · by_cases hbp : b = p
    · subst hbp
      show upd w.B b o b = _
      rw [upd_same, ← hH]; exact e
    · show upd w.B p o b = _
      rw [upd_ne hbp]; exact h.tups b us e
/-- an untracked object written -/
theorem HS.writeO {S : Addr → Prop} {M : Mem} {H : Hp} (h : HS K w M H) {p : Addr} {o : HO} (hb : w.B p = none) (hr : p ∉ w.ρ) (hS : ¬ S p) (ho : NU o := by constructor <;> intro _ z <;> cases z) :
    HS K w M (upd H p o) ∧ Ext S w H w (upd H p o) := by
  have ex : Ext S w H w (upd H p o) := ⟨fun _ _ e => e, fun _ _ e => e, fun _ e => .inl e, fun a u s e hna _ => by
      rw [upd_ne (fun q => hS (by rw [← q]; exact s))]; exact e,
    fun a u e => by
      by_cases ha : a = p
      · subst ha; exact ⟨o, upd_same⟩
      · exact ⟨u, by rw [upd_ne ha]; exact e⟩, fun _ _ e => .inl e⟩
  refine ⟨⟨fun b u e => ?_, h.len, h.nd, fun k a q e1 e2 => ?_, fun P ps e => h.tabs P ps (tbl_upd ho.1 e).2, fun b us e => h.tups b us (tup_upd ho.2 e).2⟩, ex⟩
  · rw [upd_ne (fun q => by rw [q, hb] at e; cases e)]; exact h.same b u e
  · have c := h.cells k a q e1 e2
    have ha : a ≠ p := fun z => hr (by rw [← z]; exact List.mem_of_getElem? e1)
    exact c.ext ex (upd_ne ha) fun hb _ => hb
/-- a new object that nothing tracks -/
theorem HS.loose {M : Mem} {H : Hp} (h : HS K w M H) {p : Addr} {o : HO} (hp : H p = none) (ho : NU o := by constructor <;> intro _ z <;> cases z) :
    HS K w M (upd H p o) ∧ Ext All w H w (upd H p o) := by
  have hB : w.B p = none := h.same.free hp
  have hr : p ∉ w.ρ := h.fresh hp
  have x := h.writeO (S := fun a => a ≠ p) (o := o) hB hr (fun z => z rfl) ho
  refine ⟨x.1, x.2.sub fun a _ e => ?_⟩
  obtain ⟨u, e⟩ := e
  intro q
  rw [q, hp] at e; cases e
/-- a code object's table has grown -/
theorem HS.grown {M : Mem} {H : Hp} (h : HS K w M H) {P : Addr} {ps qs : Array Value} (hP : H P = some (.tbl ps)) (ht : TriplesOk qs.toList) :
    HS K w M (upd H P (.tbl qs)) ∧ Ext All w H w (upd H P (.tbl qs)) := by
  obtain ⟨_, t2, t3⟩ := h.tabs P ps hP
  have ex : Ext All w H w (upd H P (.tbl qs)) := ⟨fun _ _ e => e, fun _ _ e => e, fun _ e => .inl e, fun a u s e hna k => by
      rw [upd_ne (fun q => by rw [q, hP] at e; exact k ps (Option.some.inj e).symm)]; exact e,
    fun a u e => by
      by_cases ha : a = P
      · subst ha; exact ⟨_, upd_same⟩
      · exact ⟨u, by rw [upd_ne ha]; exact e⟩, fun _ _ e => .inl e⟩
  refine ⟨⟨fun b u e => ?_, h.len, h.nd, fun k a q e1 e2 => ?_, fun P' ps' e => ?_, fun b us e => h.tups b us (tup_upd (fun _ z => by cases z) e).2⟩, ex⟩
  · rw [upd_ne (fun q => by rw [q, t2] at e; cases e)]; exact h.same b u e
  · have c := h.cells k a q e1 e2
    have ha : a ≠ P := fun z => t3 (by rw [← z]; exact List.mem_of_getElem? e1)
    exact c.ext ex (upd_ne ha) fun hb _ => hb
  · by_cases hp : P' = P
    · subst hp; rw [upd_same] at e; cases e; exact ⟨ht, t2, t3⟩
    · rw [upd_ne hp] at e; exact h.tabs P' ps' e
end
end L3
namespace L3
open PySem PySem.Spec PyProof.Rows L2

/-! ## outcomes -/
inductive R (α : Type) where
  | ok (a : α) (M : Mem) | exc (C : Addr) (fs : List (Str × D)) (M : Mem) | bad
@[inline] def R.bind {α β : Type} (r : R α) (k : α → Mem → R β) : R β := match r with
  | .ok a M => k a M | .exc C fs M => .exc C fs M | .bad => .bad
theorem R.bind_ok {α β : Type} (a : α) (M : Mem) (k : α → Mem → R β) : (R.ok a M).bind k = k a M := rfl
theorem R.bind_exc {α β : Type} (C : Addr) (fs : List (Str × D)) (M : Mem) (k : α → Mem → R β) : (R.exc C fs M).bind k = .exc C fs M := rfl
theorem R.bind_bad {α β : Type} (k : α → Mem → R β) : (R.bad).bind k = .bad := rfl
abbrev En := List (Option D)
abbrev SE := En → Mem → R D
abbrev SA := En → Mem → R (List D)
abbrev SB := En → Mem → R Bool
abbrev WX := Value → Option Addr → L2.St → Hp → Prop

/-! ## relations -/
/-- a list that a slot owns, or that was just made, or that is looked at -/
def Loose (K : PySem.W.Frag) (w : Wd) (H : Hp) (v : V) (ds : List D) (P : Addr → Prop) : Prop :=
  ∃ a us, v = .ref a ∧ P a ∧ w.B a = none ∧ a ∉ w.ρ ∧ H a = some (.lst us) ∧ Reps K w us ds
/-- an expression's answer; H0: where its evaluation began -/
def RepO (K : PySem.W.Frag) (S : Addr → Prop) (H0 : Hp) (w : Wd) (H : Hp) (v : V) (d : D) : Prop :=
  Rep K w v d ∨ (∃ ds, d = .own ds ∧ Loose K w H v ds fun a => H0 a = none) ∨ (∃ ds, d = .brw ds ∧ Loose K w H v ds fun a => ¬ S a)
/-- .. read only -/
def RepR (K : PySem.W.Frag) (w : Wd) (H : Hp) (v : V) (d : D) : Prop :=
  Rep K w v d ∨ ∃ ds, (d = .own ds ∨ d = .brw ds) ∧ Loose K w H v ds fun _ => True
/-- a slot -/
def RepV (K : PySem.W.Frag) (S : Addr → Prop) (w : Wd) (H : Hp) (v : V) (d : D) : Prop :=
  Rep K w v d ∨ ∃ ds, d = .own ds ∧ Loose K w H v ds fun a => ¬ S a
inductive RepRs (K : PySem.W.Frag) (w : Wd) (H : Hp) : List V → List D → Prop
  | nil : RepRs K w H [] []
  | cons {v : V} {d : D} {vs : List V} {ds : List D} : RepR K w H v d → RepRs K w H vs ds → RepRs K w H (v :: vs) (d :: ds)
section
variable {K : PySem.W.Frag} {S : Addr → Prop} {H0 H H' : Hp} {w w' : Wd} {v : V} {d : D}
theorem Loose.imp {ds : List D} {P P' : Addr → Prop} (h : Loose K w H v ds P) (i : ∀ a, P a → P' a) : Loose K w H v ds P' := by
  obtain ⟨a, us, e, p, r⟩ := h
  exact ⟨a, us, e, i a p, r⟩
theorem Ext.keepB (x : Ext All w H w' H') {a : Addr} {o : HO} (hb : w.B a = none) (hr : a ∉ w.ρ) (hH : H a = some o) (ho : NT o := by intro _ z; cases z) : w'.B a = none ∧ a ∉ w'.ρ ∧ H' a = some o := by
  refine ⟨?_, fun h => ?_, x.fr a o trivial hH hr ho⟩
  · cases e : w'.B a with
    | none => rfl
    | some u =>
      rcases x.bn a u e with q | q | q | q
      · rw [hb] at q; cases q
      · rw [hH] at q; cases q
      · exact absurd q hr
      · exact absurd trivial q
  · rcases x.nw a h with q | q
    · exact hr q
    · rw [hH] at q; cases q
theorem Loose.mono {ds : List D} {P : Addr → Prop} (h : Loose K w H v ds P) (x : Ext All w H w' H') : Loose K w' H' v ds P := by
  obtain ⟨a, us, e, p, hb, hr, hH, r⟩ := h
  obtain ⟨b1, r1, h1⟩ := x.keepB hb hr hH
  exact ⟨a, us, e, p, b1, r1, h1, r.mono x⟩
theorem RepO.mono (h : RepO K S H0 w H v d) (x : Ext All w H w' H') : RepO K S H0 w' H' v d := by
  rcases h with h | ⟨ds, e, h⟩ | ⟨ds, e, h⟩
  · exact .inl (h.mono x)
  · exact .inr (.inl ⟨ds, e, h.mono x⟩)
  · exact .inr (.inr ⟨ds, e, h.mono x⟩)
theorem RepV.mono (h : RepV K S w H v d) (x : Ext All w H w' H') : RepV K S w' H' v d := by
  rcases h with h | ⟨ds, e, h⟩
  · exact .inl (h.mono x)
  · exact .inr ⟨ds, e, h.mono x⟩
theorem RepR.mono (h : RepR K w H v d) (x : Ext All w H w' H') : RepR K w' H' v d := by
  rcases h with h | ⟨ds, e, h⟩
  · exact .inl (h.mono x)
  · exact .inr ⟨ds, e, h.mono x⟩
theorem RepO.toR (h : RepO K S H0 w H v d) : RepR K w H v d := by
  rcases h with h | ⟨ds, e, h⟩ | ⟨ds, e, h⟩
  · exact .inl h
  · exact .inr ⟨ds, .inl e, h.imp fun _ _ => trivial⟩
  · exact .inr ⟨ds, .inr e, h.imp fun _ _ => trivial⟩
theorem RepRs.mono {vs : List V} {ds : List D} (h : RepRs K w H vs ds) (x : Ext All w H w' H') : RepRs K w' H' vs ds := by
  induction h with
  | nil => exact .nil
  | cons a _ ih => exact .cons (a.mono x) ih
theorem Ext.back (x : Ext All w H w' H') {a : Addr} (h : H' a = none) : H a = none := by
  cases e : H a with
  | none => rfl
  | some o =>
    obtain ⟨o', e'⟩ := x.tr a o e
    rw [h] at e'; cases e'
theorem RepO.back (x : Ext All w H w' H') {w2 : Wd} {H2 : Hp} (h : RepO K S H' w2 H2 v d) : RepO K S H w2 H2 v d := by
  rcases h with h | ⟨ds, e, h⟩ | ⟨ds, e, h⟩
  · exact .inl h
  · exact .inr (.inl ⟨ds, e, h.imp fun _ => x.back⟩)
  · exact .inr (.inr ⟨ds, e, h⟩)
end
/-- the names' slots, for expressions -/
structure SX (K : PySem.W.Frag) (S : Addr → Prop) (w : Wd) (H : Hp) (σ : L2.St) (e : En) : Prop where
  len : e.length = σ.length
  at_ : ∀ (i : Nat) (d : D), e[i]? = some (some d) → ∃ v, σ[i]? = some (some v) ∧ RepV K S w H v d
theorem SX.mono {K : PySem.W.Frag} {S : Addr → Prop} {w w' : Wd} {H H' : Hp} {σ : L2.St} {e : En} (h : SX K S w H σ e) (x : Ext All w H w' H') : SX K S w' H' σ e :=
  ⟨h.len, fun i d q => let ⟨v, q1, r⟩ := h.at_ i d q; ⟨v, q1, r.mono x⟩⟩
/-- an exception's fields -/
def XF (K : PySem.W.Frag) (w : Wd) (H : Hp) (od : Option Addr) (fs : List (Str × D)) : Prop :=
  (fs = [] ∧ od = none) ∨ ∃ dx us, fs ≠ [] ∧ od = some dx ∧ w.B dx = some (.xd us) ∧ FsR K w us fs

/-! ## what an expression is to give -/
abbrev Rl (β α : Type) := Hp → Wd → Hp → β → α → Prop
def Pst {α β : Type} (K : PySem.W.Frag) (W : WX) (w : Wd) (H : Hp) (σ : L2.St) (rel : Rl β α) (Q : β → Hp → Prop) : R α → Prop
  | .ok a M' => ∀ w' H' v, Ext All w H w' H' → HS K w' M' H' → rel H w' H' v a → Q v H'
  | .exc C fs M' => ∀ w' H' od, Ext All w H w' H' → HS K w' M' H' → XF K w' H' od fs → W (.ref C) od σ H'
  | .bad => False
abbrev rlE (K : PySem.W.Frag) (S : Addr → Prop) : Rl V D := fun H0 w H v d => RepO K S H0 w H v d
abbrev rlF (K : PySem.W.Frag) : Rl V D := fun _ w _ v d => Rep K w v d
abbrev rlA (K : PySem.W.Frag) : Rl (List V) (List D) := fun _ w H vs ds => RepRs K w H vs ds
abbrev rlAf (K : PySem.W.Frag) : Rl (List V) (List D) := fun _ w _ vs ds => Reps K w vs ds
abbrev rlB : Rl Bool Bool := fun _ _ _ b c => b = c
/-- it may begin earlier -/
def Bk {β α : Type} (rel : Rl β α) : Prop := ∀ (w w' w2 : Wd) (H H' H2 : Hp) (v : β) (a : α), Ext All w H w' H' → rel H' w2 H2 v a → rel H w2 H2 v a
theorem bkE {K : PySem.W.Frag} {S : Addr → Prop} : Bk (rlE K S) := fun _ _ _ _ _ _ _ _ x h => h.back x
theorem bkF {K : PySem.W.Frag} : Bk (rlF K) := fun _ _ _ _ _ _ _ _ _ h => h
theorem bkA {K : PySem.W.Frag} : Bk (rlA K) := fun _ _ _ _ _ _ _ _ _ h => h
theorem bkAf {K : PySem.W.Frag} : Bk (rlAf K) := fun _ _ _ _ _ _ _ _ _ h => h
theorem bkB : Bk rlB := fun _ _ _ _ _ _ _ _ _ h => h
section
variable {K : PySem.W.Frag} {W : WX} {S : Addr → Prop} {w w' : Wd} {H H' : Hp} {σ : L2.St}
theorem Pst.shift {α β : Type} {rel : Rl β α} {Q : β → Hp → Prop} {r : R α} (b : Bk rel) (x : Ext All w H w' H') (h : Pst K W w H σ rel Q r) : Pst K W w' H' σ rel Q r := by
  cases r with
  | ok a M' => exact fun w2 H2 v y s q => h w2 H2 v (x.trans y) s (b _ _ _ _ _ _ _ _ x q)
  | exc C fs M' => exact fun w2 H2 od y s q => h w2 H2 od (x.trans y) s q
  | bad => exact h
theorem Pst.bind {α β γ δ : Type} {rel : Rl β α} {rel2 : Rl δ γ} {Q : β → Hp → Prop} {Q2 : δ → Hp → Prop} {r : R α} {k : α → Mem → R γ} (b : Bk rel2)
    (h : Pst K W w H σ rel2 Q2 (r.bind k))
    (hk : ∀ a M' w' H' v, Ext All w H w' H' → HS K w' M' H' → rel H w' H' v a → Pst K W w' H' σ rel2 Q2 (k a M') → Q v H') : Pst K W w H σ rel Q r := by
  cases r with
  | ok a M' => exact fun w' H' v x s q => hk a M' w' H' v x s q (Pst.shift b x h)
  | exc C fs M' => exact h
  | bad => exact h
theorem Pst.imp {α β : Type} {rel rel' : Rl β α} {Q Q' : β → Hp → Prop} {r : R α} (h : Pst K W w H σ rel Q r)
    (hk : ∀ a M' w' H' v, Ext All w H w' H' → HS K w' M' H' → r = .ok a M' → rel' H w' H' v a → (∀ u, rel H w' H' u a → Q u H') → Q' v H') : Pst K W w H σ rel' Q' r := by
  cases r with
  | ok a M' => exact fun w' H' v x s q => hk a M' w' H' v x s rfl q fun u qu => h w' H' u x s qu
  | exc C fs M' => exact h
  | bad => exact h
end
def tG {α β : Type} (K : PySem.W.Frag) (W : WX) (rel : (Addr → Prop) → Rl β α) (f : En → Mem → R α) : L2.St → Hp → (β → Hp → Prop) → Prop := fun σ H Q =>
  ∃ S w e M, HS K w M H ∧ SX K S w H σ e ∧ Pst K W w H σ (rel S) Q (f e M)
abbrev tE (K : PySem.W.Frag) (W : WX) (f : SE) : TE := tG K W (rlE K) f
abbrev tF (K : PySem.W.Frag) (W : WX) (f : SE) : TE := tG K W (fun _ => rlF K) f
abbrev tA (K : PySem.W.Frag) (W : WX) (f : SA) : TA := tG K W (fun _ => rlA K) f
abbrev tAf (K : PySem.W.Frag) (W : WX) (f : SA) : TA := tG K W (fun _ => rlAf K) f
abbrev tB (K : PySem.W.Frag) (W : WX) (f : SB) : TT := tG K W (fun _ => rlB) f
abbrev AE (X : Cx) (W : WX) (e : Expr) (f : SE) : Prop := PE X e (tE X.K W f)
abbrev AF (X : Cx) (W : WX) (e : Expr) (f : SE) : Prop := PE X e (tF X.K W f)
abbrev AA (X : Cx) (W : WX) (es : List Expr) (f : SA) : Prop := PA X es (tA X.K W f)
abbrev AAf (X : Cx) (W : WX) (es : List Expr) (f : SA) : Prop := PA X es (tAf X.K W f)
abbrev AB (X : Cx) (W : WX) (e : Expr) (f : SB) : Prop := PT X e (tB X.K W f)
theorem PE.imp {X : Cx} {e : Expr} {t t' : TE} (h : PE X e t) (i : ∀ σ H Q, t' σ H Q → t σ H Q) : PE X e t' := ⟨fun pins s σ H Q I q => h.run pins s σ H Q I (i σ H Q q)⟩
theorem PT.imp {X : Cx} {e : Expr} {t t' : TT} (h : PT X e t) (i : ∀ σ H Q, t' σ H Q → t σ H Q) : PT X e t' := ⟨fun pins s σ H Q I q => h.run pins s σ H Q I (i σ H Q q)⟩
theorem PA.imp {X : Cx} {e : List Expr} {t t' : TA} (h : PA X e t) (i : ∀ σ H Q, t' σ H Q → t σ H Q) : PA X e t' := ⟨fun p pins s σ H Q I q => h.run p pins s σ H Q I (i σ H Q q)⟩
theorem PS.imp {X : Cx} {e : Stmt} {t t' : TS} (h : PS X e t) (i : ∀ D σ H, t' D σ H → t D σ H) : PS X e t' := ⟨fun pins s σ H D I q => h.run pins s σ H D I (i D σ H q)⟩
theorem PSs.imp {X : Cx} {e : List Stmt} {t t' : TS} (h : PSs X e t) (i : ∀ D σ H, t' D σ H → t D σ H) : PSs X e t' := ⟨fun pins s σ H D I q => h.run pins s σ H D I (i D σ H q)⟩
theorem PI.imp {X : Cx} {tg e : Expr} {t t' : TI} (h : PI X tg e t) (i : ∀ σ H R, t' σ H R → t σ H R) : PI X tg e t' := ⟨fun pins s σ H D I q => h.run pins s σ H D I (i σ H D q)⟩
/-- the step: the first part, then the rest -/
theorem tG.step {α β γ δ : Type} {K : PySem.W.Frag} {W : WX} {rel : (Addr → Prop) → Rl β α} {rel2 : (Addr → Prop) → Rl δ γ} {f : En → Mem → R α} {k : En → α → Mem → R γ} {σ : L2.St} {H : Hp} {Q : β → Hp → Prop} {Q2 : δ → Hp → Prop}
    (b : ∀ S, Bk (rel2 S)) (h : tG K W rel2 (fun (e : En) (M : Mem) => (f e M).bind (k e)) σ H Q2)
    (hk : ∀ (S : Addr → Prop) (w : Wd) (e : En) (w' : Wd) (M' : Mem) (H' : Hp) (v : β) (a : α), HS K w' M' H' → SX K S w' H' σ e → Ext All w H w' H' → rel S H w' H' v a → Pst K W w' H' σ (rel2 S) Q2 (k e a M') → Q v H') : tG K W rel f σ H Q := by
  obtain ⟨S, w, e, M, hs, sx, p⟩ := h
  exact ⟨S, w, e, M, hs, sx, p.bind (b S) fun a M' w' H' v x s q p' => hk S w e w' M' H' v a s (sx.mono x) x q p'⟩
end L3
namespace L3
open PySem PySem.Spec PyProof.Rows L2

/-! ## expressions: names, constants, displays -/
def eget : En → Nat → Option D
  | [], _ => none
  | d :: _, 0 => d
  | _ :: r, i + 1 => eget r i
theorem eget_iff : ∀ {e : En} {i : Nat} {d : D}, eget e i = some d ↔ e[i]? = some (some d)
  | [], _, _ => by simp [eget]
  | d :: _, 0, _ => by simp [eget]
  | _ :: r, i + 1, _ => by simp only [eget, List.getElem?_cons_succ]; exact eget_iff
def sVar (i : Nat) : SE := fun e M => match eget e i with
  | some (.own ds) => .ok (.brw ds) M
  | some d => .ok d M
  | none => .bad
def sC (d : D) : SE := fun _ M => .ok d M
/-- given up as data -/
def fz1 (d : D) (M : Mem) : R D := match d with
  | .own ds => .ok (.lst ds) M
  | .brw _ => .bad
  | d => .ok d M
def fz (f : SE) : SE := fun e M => (f e M).bind fz1
def sNil : SA := fun _ M => .ok [] M
def sCons (f : SE) (g : SA) : SA := fun e M => (f e M).bind fun d M => (g e M).bind fun ds M => .ok (d :: ds) M
def sTup (g : SA) : SE := fun e M => (g e M).bind fun ds M => if ds.length ≤ 64 then .ok (.tup ds) M else .bad
def sLst (g : SA) : SE := fun e M => (g e M).bind fun ds M => if ds.length ≤ 64 then .ok (.own ds) M else .bad
section
variable {X : Cx} {W : WX} {pos : Pos}
theorem Rep.not_own {K : PySem.W.Frag} {w : Wd} {v : V} {ds : List D} : ¬ Rep K w v (.own ds) := fun h => nomatch h
theorem Rep.not_brw {K : PySem.W.Frag} {w : Wd} {v : V} {ds : List D} : ¬ Rep K w v (.brw ds) := fun h => nomatch h
theorem a_var {i : Nat} {x : Str} (hN : X.N[i]? = some x) (hv : Vis X.env.scope x) (hd : (x == ("__debug__" : Str)) = false := by decide) (hcd : (x == ("__classdict__" : Str)) = false := by decide) : AE X W (.Name x pos) (sVar i) :=
  PE.imp (pe_var hN hv hd hcd) fun σ H Q h => by
    obtain ⟨S, w, e, M, hs, sx, p⟩ := h
    unfold sVar at p
    cases he : eget e i with
    | none => rw [he] at p; exact p.elim
    | some d =>
      rw [he] at p
      obtain ⟨v, hv, r⟩ := sx.at_ i d (eget_iff.mp he)
      refine ⟨v, hv, ?_⟩
      rcases r with r | ⟨ds, rfl, l⟩
      · cases d <;> first | exact p w H v (.refl _ _) hs (.inl r) | exact (Rep.not_own r).elim
      · exact p w H v (.refl _ _) hs (.inr (.inr ⟨ds, rfl, l⟩))
theorem a_const {e : Expr} {v : V} {d : D} (h : PE X e (tC v)) (r : ∀ w, Rep X.K w v d) : AE X W e (sC d) :=
  PE.imp h fun σ H Q h => by
    obtain ⟨S, w, e, M, hs, sx, p⟩ := h
    exact p w H v (.refl _ _) hs (.inl (r w))
theorem a_int {i : Int} {j pos} : AE X W (.Constant (.int i) j pos) (sC (.int i)) := a_const pe_int fun _ => .int _
theorem a_bl {i : Bool} {j pos} : AE X W (.Constant (.bool i) j pos) (sC (.bl i)) := a_const pe_bl fun _ => .bl _
theorem a_non {j pos} : AE X W (.Constant .none j pos) (sC .non) := a_const pe_non fun _ => .non
theorem a_str {i : Str} {j pos} : AE X W (.Constant (.str i) j pos) (sC (.str i)) := a_const pe_str fun _ => .str _
theorem Ext.but {w w' w2 : Wd} {H H' H2 : Hp} {a : Addr} (x : Ext All w H w' H') (h : H a = none) (y : Ext (fun b => b ≠ a) w' H' w2 H2) : Ext All w H w2 H2 :=
  (Ext.trans (S := fun b => b ≠ a) x.of y).sub fun b _ ⟨o, e⟩ z => by rw [z, h] at e; cases e
/-- data, whatever it was -/
theorem RepO.fz {K : PySem.W.Frag} {S : Addr → Prop} {w0 w : Wd} {H0 H : Hp} {M M' : Mem} {v : V} {d d' : D} (h : RepO K S H0 w H v d) (x : Ext All w0 H0 w H) (hs : HS K w M H) (e : fz1 d M = .ok d' M') :
    M' = M ∧ ∃ w', HS K w' M H ∧ Ext All w0 H0 w' H ∧ Rep K w' v d' := by
  rcases h with h | ⟨ds, rfl, a, us, rfl, hn, hb, hr, hH, q⟩ | ⟨ds, rfl, l⟩
  · cases d <;> first | (cases e; exact ⟨rfl, w, hs, x, h⟩) | exact (Rep.not_own h).elim | exact (Rep.not_brw h).elim
  · cases e
    obtain ⟨s2, y⟩ := hs.freezeO (S := fun b => b ≠ a) hb hr hH (fun z => z rfl)
    exact ⟨rfl, _, s2, x.but hn y, .lst upd_same (q.mono y)⟩
  · cases e
theorem fz1_cases (d : D) (M : Mem) : fz1 d M = .bad ∨ ∃ d', fz1 d M = .ok d' M := by
  cases d <;> first | exact .inr ⟨_, rfl⟩ | exact .inl rfl
theorem fz_of {K : PySem.W.Frag} {f : SE} {σ : L2.St} {H : Hp} {Q : VK} (h : tF K W (fz f) σ H Q) : tE K W f σ H Q := by
    obtain ⟨S, w, e, M, hs, sx, p⟩ := h
    refine ⟨S, w, e, M, hs, sx, ?_⟩
    unfold fz at p
    cases hf : f e M with
    | bad => rw [hf] at p; exact p
    | exc C fs M' => rw [hf] at p; exact p
    | ok d M' =>
      rw [hf] at p
      intro w' H' v x s q
      have p : Pst K W w H σ (rlF K) Q (fz1 d M') := p
      rcases fz1_cases d M' with e1 | ⟨d', e1⟩
      · rw [e1] at p; exact p.elim
      · rw [e1] at p
        obtain ⟨_, w2, s2, y, r⟩ := RepO.fz q x s e1
        exact p w2 H' v y s2 r
theorem a_fz {e : Expr} {f : SE} (h : AE X W e f) : AF X W e (fz f) := PE.imp h fun σ H Q h => fz_of h
theorem a_data {e : Expr} {f : SE} (h : AF X W e f) : AE X W e f :=
  PE.imp h fun σ H Q h => by
    obtain ⟨S, w, e, M, hs, sx, p⟩ := h
    exact ⟨S, w, e, M, hs, sx, p.imp fun a M' w' H' v x s _ q k => k v (.inl q)⟩
theorem aa_nil : AA X W [] sNil := PA.imp pa_nil fun σ H Q h => by
  obtain ⟨S, w, e, M, hs, sx, p⟩ := h
  exact p w H [] (.refl _ _) hs .nil
theorem aa_cons {e : Expr} {es : List Expr} {f : SE} {g : SA} (h : AE X W e f) (t : AA X W es g) (hs : starEach (e :: es) X.env = (false, eval e X.env) :: starEach es X.env := by rfl) : AA X W (e :: es) (sCons f g) :=
  PA.imp (pa_cons h t hs) fun σ H Q q => tG.step (k := fun e d M => (g e M).bind fun ds M => .ok (d :: ds) M) (fun _ => bkA) q fun S w e w' M' H' v d s sx x r p =>
    ⟨S, w', e, M', s, sx, p.bind bkA fun ds M2 w2 H2 vs y s2 q2 p3 => p3 w2 H2 (v :: vs) (.refl _ _) s2 (.cons (r.toR.mono y) q2)⟩
theorem af_nil : AAf X W [] sNil := PA.imp pa_nil fun σ H Q h => by
  obtain ⟨S, w, e, M, hs, sx, p⟩ := h
  exact p w H [] (.refl _ _) hs .nil
theorem af_cons {e : Expr} {es : List Expr} {f : SE} {g : SA} (h : AF X W e f) (t : AAf X W es g) (hs : starEach (e :: es) X.env = (false, eval e X.env) :: starEach es X.env := by rfl) : AAf X W (e :: es) (sCons f g) :=
  PA.imp (pa_cons h t hs) fun σ H Q q => tG.step (k := fun e d M => (g e M).bind fun ds M => .ok (d :: ds) M) (fun _ => bkAf) q fun S w e w' M' H' v d s sx x r p =>
    ⟨S, w', e, M', s, sx, p.bind bkAf fun ds M2 w2 H2 vs y s2 q2 p3 => p3 w2 H2 (v :: vs) (.refl _ _) s2 (.cons (r.mono y) q2)⟩
theorem small {n : Nat} (h : n ≤ 64) : n ≤ sizeLine := Nat.le_trans h (by decide)
theorem a_tup {es : List Expr} {x1} {g : SA} (h : AAf X W es g) : AF X W (.Tuple es x1 pos) (sTup g) :=
  PE.imp (pe_tup h) fun σ H Q q => tG.step (k := fun e ds M => if ds.length ≤ 64 then .ok (.tup ds) M else .bad) (fun _ => bkF) q fun S w e w' M' H' vs ds s sx x r p => by
    by_cases hl : ds.length ≤ 64
    · rw [if_pos hl] at p
      refine ⟨by rw [r.length]; exact small hl, fun a ha => ?_⟩
      obtain ⟨s2, y⟩ := s.imm (o := .tup vs) ha
      exact p _ _ _ y s2 (.tup (.of upd_same) (r.mono y))
    · rw [if_neg hl] at p; exact p.elim
theorem fresh_own {S : Addr → Prop} {w : Wd} {M : Mem} {H : Hp} {us : List V} {ds : List D} {a : Addr} {σ : L2.St} {Q : VK} (s : HS X.K w M H) (r : Reps X.K w us ds) (p : Pst X.K W w H σ (rlE X.K S) Q (.ok (.own ds) M)) (ha : H a = none) : Q (.ref a) (upd H a (.lst us)) := by
  obtain ⟨s2, y⟩ := s.loose (o := .lst us) ha
  exact p _ _ _ y s2 (.inr (.inl ⟨ds, rfl, a, us, rfl, ha, s.same.free ha, s.fresh ha, upd_same, r⟩))
theorem a_lst {es : List Expr} {g : SA} (h : AAf X W es g) : AE X W (.List es pos) (sLst g) :=
  PE.imp (pe_lst h) fun σ H Q q => tG.step (k := fun e ds M => if ds.length ≤ 64 then .ok (.own ds) M else .bad) (fun _ => bkE) q fun S w e w' M' H' vs ds s sx x r p => by
    by_cases hl : ds.length ≤ 64
    · rw [if_pos hl] at p
      exact ⟨by rw [r.length]; exact small hl, fun a ha => fresh_own s r p ha⟩
    · rw [if_neg hl] at p; exact p.elim
end

/-! ## what stands behind a value -/
/-- a list that H tracks -/
def cellL (M : Mem) (n : Nat) : Option (List D) := match M[n]? with
  | some (.lst xs) => some xs
  | _ => none
def trk (d : D) (M : Mem) : Option (List D) := match d with
  | .lst xs => some xs
  | .own xs => some xs
  | .brw xs => some xs
  | .cell n => cellL M n
  | _ => none
theorem cellL_some {M : Mem} {n : Nat} {xs : List D} (h : cellL M n = some xs) : M[n]? = some (.lst xs) := by
  unfold cellL at h
  cases hm : M[n]? with
  | none => rw [hm] at h; cases h
  | some o =>
    rw [hm] at h
    cases o with
    | lst ys => cases h; rfl
    | _ => cases h
/-- a list -/
def lsq (d : D) (M : Mem) : Option (List D) := match d with
  | .rol xs => some xs
  | d => trk d M
section
variable {K : PySem.W.Frag} {w : Wd} {H : Hp} {M : Mem} {v : V} {d : D}
theorem RepR.trk (h : RepR K w H v d) (s : HS K w M H) {ds : List D} (e : trk d M = some ds) : ∃ a us, v = .ref a ∧ H a = some (.lst us) ∧ Reps K w us ds := by
  rcases h with h | ⟨xs, h | h, a, us, rfl, _, _, _, hH, r⟩
  · cases h with
    | lst hb r => cases e; exact ⟨_, _, rfl, s.same _ _ hb, r⟩
    | @cell n a hn =>
      obtain ⟨_, us, hH, r⟩ := s.cells n a _ hn (cellL_some e)
      exact ⟨_, _, rfl, hH, r⟩
    | _ => cases e
  · subst h; cases e; exact ⟨_, _, rfl, hH, r⟩
  · subst h; cases e; exact ⟨_, _, rfl, hH, r⟩
theorem RepR.lsq (h : RepR K w H v d) (s : HS K w M H) {ds : List D} (e : lsq d M = some ds) : ∃ a us, v = .ref a ∧ SqL K H a us ∧ Reps K w us ds := by
  by_cases hr : ∃ xs, d = .rol xs
  · obtain ⟨xs, rfl⟩ := hr
    cases e
    rcases h with h | ⟨xs, h | h, _⟩
    · cases h with
      | rol hq r => exact ⟨_, _, rfl, s.same.seq hq, r⟩
    · cases h
    · cases h
  · have e' : L3.trk d M = some ds := by
      cases d <;> first | exact e | exact absurd ⟨_, rfl⟩ hr
    obtain ⟨a, us, q, hH, r⟩ := h.trk s e'
    exact ⟨a, us, q, .of hH, r⟩
theorem RepR.tup {ds : List D} (h : RepR K w H v (.tup ds)) (s : HS K w M H) : ∃ a us, v = .ref a ∧ SqT K H a us ∧ Reps K w us ds := by
  rcases h with h | ⟨xs, h | h, _⟩
  · cases h with
    | tup hq r => exact ⟨_, _, rfl, seqT s.same hq.sq, r⟩
  · cases h
  · cases h
theorem RepR.int {i : Int} (h : RepR K w H v (.int i)) : v = .int i := by
  rcases h with h | ⟨xs, h | h, _⟩
  · cases h; rfl
  · cases h
  · cases h
theorem RepR.bl {i : Bool} (h : RepR K w H v (.bl i)) : v = .bl i := by
  rcases h with h | ⟨xs, h | h, _⟩
  · cases h; rfl
  · cases h
  · cases h
theorem RepR.str {i : Str} (h : RepR K w H v (.str i)) : v = .str i := by
  rcases h with h | ⟨xs, h | h, _⟩
  · cases h; rfl
  · cases h
  · cases h
theorem RepR.non (h : RepR K w H v .non) : v = .non := by
  rcases h with h | ⟨xs, h | h, _⟩
  · cases h; rfl
  · cases h
  · cases h
theorem RepR.ty {n : String} (h : RepR K w H v (.ty n)) : v = .ty n := by
  rcases h with h | ⟨xs, h | h, _⟩
  · cases h; rfl
  · cases h
  · cases h
end

/-! ## two-place operations -/
def sOp (g : D → D → Mem → R D) (fa fb : SE) : SE := fun e M => (fa e M).bind fun d1 M => (fb e M).bind fun d2 M => g d1 d2 M
def OpG (X : Cx) (W : WX) (r : R2) (g : D → D → Mem → R D) : Prop :=
  ∀ (S : Addr → Prop) (w : Wd) (M : Mem) (H : Hp) (σ : L2.St) (x y : V) (d1 d2 : D) (Q : VK), HS X.K w M H → RepR X.K w H x d1 → RepR X.K w H y d2 → Pst X.K W w H σ (rlE X.K S) Q (g d1 d2 M) → r x y H Q
section
variable {X : Cx} {W : WX} {pos : Pos}
theorem tOp_of {r : R2} {g : D → D → Mem → R D} {fa fb : SE} (hg : OpG X W r g) {σ : L2.St} {H : Hp} {Q : VK} (q : tE X.K W (sOp g fa fb) σ H Q) : tOp r (tE X.K W fa) (tE X.K W fb) σ H Q :=
  tG.step (k := fun e d1 M => (fb e M).bind fun d2 M => g d1 d2 M) (fun _ => bkE) q fun S w e w' M' H' v d s sx x r1 p =>
    ⟨S, w', e, M', s, sx, p.bind bkE fun d2 M2 w2 H2 v2 y s2 q2 p3 => hg S w2 M2 H2 σ v v2 d d2 Q s2 (r1.toR.mono y) q2.toR p3⟩
theorem a_op {op : Operator} {r : R2} {g : D → D → Mem → R D} {a b : Expr} {fa fb : SE} (ho : OpR X (binaryOp op) r) (hg : OpG X W r g) (ha : AE X W a fa) (hb : AE X W b fb) : AE X W (.BinOp a op b pos) (sOp g fa fb) :=
  PE.imp (pe_op ho ha hb) fun σ H Q q => tOp_of hg q
theorem a_cmp {op : CmpOp} {r : R2} {g : D → D → Mem → R D} {a b : Expr} {fa fb : SE} (ho : OpR X (compareOp op) r) (hg : OpG X W r g) (ha : AE X W a fa) (hb : AE X W b fb) (hm : behindInMarks op b = false) : AE X W (.Compare a [op] [b] pos) (sOp g fa fb) :=
  PE.imp (pe_cmpR ho ha hb hm) fun σ H Q q => tOp_of hg q
/-- a bool -/
def bl1 (d : D) (M : Mem) : R Bool := match d with
  | .bl b => .ok b M
  | _ => .bad
def sT (f : SE) : SB := fun e M => (f e M).bind bl1
theorem Pst.bl {K : PySem.W.Frag} {S : Addr → Prop} {w : Wd} {H : Hp} {σ : L2.St} {r : R D} {Q : Bool → Hp → Prop} (h : Pst K W w H σ rlB Q (r.bind bl1)) : Pst K W w H σ (rlE K S) (fun x H' => ∃ k, x = .bl k ∧ Q k H') r :=
  h.bind bkB fun d M' w' H' v x s q p => by
    cases d with
    | bl b => exact ⟨b, q.toR.bl, p w' H' b (.refl _ _) s rfl⟩
    | _ => exact p.elim
theorem b_cmp {op : CmpOp} {r : R2} {g : D → D → Mem → R D} {a b : Expr} {fa fb : SE} (ho : OpR X (compareOp op) r) (hg : OpG X W r g) (ha : AE X W a fa) (hb : AE X W b fb) (hm : behindInMarks op b = false) : AB X W (.Compare a [op] [b] pos) (sT (sOp g fa fb)) :=
  PT.imp (pt_cmpR ho ha hb hm) fun σ H Q q => by
    obtain ⟨S, w, e, M, hs, sx, p⟩ := q
    exact tOp_of hg ⟨S, w, e, M, hs, sx, p.bl⟩
def sChain (g g' : D → D → Mem → R D) (fa fb fc : SE) : SE := fun e M => (fa e M).bind fun d1 M => (fb e M).bind fun d2 M => (g d1 d2 M).bind fun z M => (bl1 z M).bind fun k M => if k = true then (fc e M).bind fun d3 M => g' d2 d3 M else .ok (.bl false) M
end
end L3
namespace L3
open PySem PySem.Spec PyProof.Rows L2

section
variable {X : Cx} {W : WX} {pos : Pos}
/-! ## arithmetic -/
theorem opI0_G {g : Int → Int → Int} {h : D → D → Mem → R D} (e : ∀ i j M, h (.int i) (.int j) M = .ok (.int (g i j)) M) (n : ∀ d1 d2 M, (∃ i j, d1 = .int i ∧ d2 = .int j) ∨ h d1 d2 M = .bad) : OpG X W (rI0 fun i j => .int (g i j)) h := by
  intro S w M H σ x y d1 d2 Q hs r1 r2 p
  rcases n d1 d2 M with ⟨i, j, rfl, rfl⟩ | z
  · rw [e] at p
    exact ⟨i, j, r1.int, r2.int, p w H _ (.refl _ _) hs (.inl (.int _))⟩
  · rw [z] at p; exact p.elim
theorem opI_G {C : Int → Int → Prop} {c : Int → Int → Bool} {g : Int → Int → Int} {h : D → D → Mem → R D} (hc : ∀ i j, c i j = true → C i j) (e : ∀ i j M, h (.int i) (.int j) M = if c i j = true then .ok (.int (g i j)) M else .bad) (n : ∀ d1 d2 M, (∃ i j, d1 = .int i ∧ d2 = .int j) ∨ h d1 d2 M = .bad) : OpG X W (rI C fun i j => .int (g i j)) h := by
  intro S w M H σ x y d1 d2 Q hs r1 r2 p
  rcases n d1 d2 M with ⟨i, j, rfl, rfl⟩ | z
  · rw [e] at p
    by_cases hh : c i j = true
    · rw [if_pos hh] at p
      exact ⟨i, j, r1.int, r2.int, hc i j hh, p w H _ (.refl _ _) hs (.inl (.int _))⟩
    · rw [if_neg hh] at p; exact p.elim
  · rw [z] at p; exact p.elim
def subD (a b : D) (M : Mem) : R D := match a, b with
  | .int i, .int j => .ok (.int (i - j)) M
  | _, _ => .bad
theorem subG : OpG X W (rI0 fun i j => .int (i - j)) subD := opI0_G (fun _ _ _ => rfl) fun d1 d2 M => by
  cases d1 <;> cases d2 <;> first | exact .inl ⟨_, _, rfl, rfl⟩ | exact .inr rfl
def mulOk (i j : Int) : Bool := (decide (-(2 ^ 64) < i) && decide (i < 2 ^ 64)) || (decide (-(2 ^ 64) < j) && decide (j < 2 ^ 64))
def mulD (a b : D) (M : Mem) : R D := match a, b with
  | .int i, .int j => if mulOk i j = true then .ok (.int (i * j)) M else .bad
  | _, _ => .bad
theorem mulG : OpG X W (rI CMul fun i j => .int (i * j)) mulD := opI_G (c := mulOk) (fun i j h => by
    unfold mulOk at h
    simp only [Bool.or_eq_true, Bool.and_eq_true, decide_eq_true_eq] at h
    exact h) (fun _ _ _ => rfl) fun d1 d2 M => by
  cases d1 <;> cases d2 <;> first | exact .inl ⟨_, _, rfl, rfl⟩ | exact .inr rfl
def divOk (_i j : Int) : Bool := decide (j ≠ 0) && decide (j.natAbs < 1073741824)
def fdivD (a b : D) (M : Mem) : R D := match a, b with
  | .int i, .int j => if divOk i j = true then .ok (.int (i.fdiv j)) M else .bad
  | _, _ => .bad
theorem fdivG : OpG X W (rI CDivN fun i j => .int (i.fdiv j)) fdivD := opI_G (c := divOk) (fun i j h => by
    unfold divOk at h
    simp only [Bool.and_eq_true, decide_eq_true_eq] at h
    exact h) (fun _ _ _ => rfl) fun d1 d2 M => by
  cases d1 <;> cases d2 <;> first | exact .inl ⟨_, _, rfl, rfl⟩ | exact .inr rfl
def modOk (_i j : Int) : Bool := decide (j ≠ 0)
def modD (a b : D) (M : Mem) : R D := match a, b with
  | .int i, .int j => if modOk i j = true then .ok (.int (i.fmod j)) M else .bad
  | _, _ => .bad
theorem modG : OpG X W (rI (fun _ j => j ≠ 0) fun i j => .int (i.fmod j)) modD := opI_G (c := modOk) (fun i j h => of_decide_eq_true h) (fun _ _ _ => rfl) fun d1 d2 M => by
  cases d1 <;> cases d2 <;> first | exact .inl ⟨_, _, rfl, rfl⟩ | exact .inr rfl
def powOk (i j : Int) : Bool := decide (0 ≤ j) && decide (j ≤ 1000000) && decide (i.natAbs < 2 ^ 64)
def powD (a b : D) (M : Mem) : R D := match a, b with
  | .int i, .int j => if powOk i j = true then .ok (.int (i ^ j.toNat)) M else .bad
  | _, _ => .bad
theorem powG : OpG X W (rI CPow fun i j => .int (i ^ j.toNat)) powD := opI_G (c := powOk) (fun i j h => by
    unfold powOk at h
    simp only [Bool.and_eq_true, decide_eq_true_eq] at h
    exact ⟨h.1.1, h.1.2, h.2⟩) (fun _ _ _ => rfl) fun d1 d2 M => by
  cases d1 <;> cases d2 <;> first | exact .inl ⟨_, _, rfl, rfl⟩ | exact .inr rfl
/-! ### + -/
def addL (a b : D) (M : Mem) : R D := match trk a M, trk b M with
  | some xs, some ys => if xs.length + ys.length ≤ sizeLine then .ok (.own (xs ++ ys)) M else .bad
  | _, _ => .bad
def addD (a b : D) (M : Mem) : R D := match a, b with
  | .int i, .int j => .ok (.int (i + j)) M
  | .str x, .str y => if x.length + y.length ≤ sizeLine then .ok (.str (x ++ y)) M else .bad
  | .tup xs, .tup ys => if xs.length + ys.length ≤ sizeLine then .ok (.tup (xs ++ ys)) M else .bad
  | a, b => addL a b M
def rAddU (K : PySem.W.Frag) : R2 := fun x y H Q => rI0 (fun i j => .int (i + j)) x y H Q ∨ (∃ i j, x = .str i ∧ y = .str j ∧ i.length + j.length ≤ sizeLine ∧ Q (.str (i ++ j)) H) ∨ rCatA K x y H Q ∨ rCat x y H Q
theorem op_addU : OpR X (binaryOp .Add) (rAddU X.K) := op_add.or (op_add_str.or (op_catA.or op_cat))
theorem addL_G {S : Addr → Prop} {w : Wd} {M : Mem} {H : Hp} {σ : L2.St} {x y : V} {d1 d2 : D} {Q : VK} (hs : HS X.K w M H) (r1 : RepR X.K w H x d1) (r2 : RepR X.K w H y d2) (p : Pst X.K W w H σ (rlE X.K S) Q (addL d1 d2 M)) : rCat x y H Q := by
  unfold addL at p
  cases e1 : trk d1 M with
  | none => rw [e1] at p; exact p.elim
  | some xs =>
    cases e2 : trk d2 M with
    | none => rw [e1, e2] at p; exact p.elim
    | some ys =>
      rw [e1, e2] at p
      obtain ⟨a, us, rfl, h1, q1⟩ := r1.trk hs e1
      obtain ⟨b, vs, rfl, h2, q2⟩ := r2.trk hs e2
      by_cases hl : xs.length + ys.length ≤ sizeLine
      · have p : Pst X.K W w H σ (rlE X.K S) Q (.ok (.own (xs ++ ys)) M) := by
          have p : Pst X.K W w H σ (rlE X.K S) Q (if xs.length + ys.length ≤ sizeLine then .ok (.own (xs ++ ys)) M else .bad) := p
          rw [if_pos hl] at p; exact p
        exact ⟨a, b, us, vs, rfl, rfl, h1, h2, by rw [q1.length, q2.length]; exact hl, fun a ha => fresh_own hs (q1.append q2) p ha⟩
      · have p : Pst X.K W w H σ (rlE X.K S) Q (if xs.length + ys.length ≤ sizeLine then .ok (.own (xs ++ ys)) M else .bad) := p
        rw [if_neg hl] at p; exact p.elim
theorem addG : OpG X W (rAddU X.K) addD := by
  intro S w M H σ x y d1 d2 Q hs r1 r2 p
  by_cases hi : ∃ i j, d1 = .int i ∧ d2 = .int j
  · obtain ⟨i, j, rfl, rfl⟩ := hi
    exact .inl ⟨i, j, r1.int, r2.int, p w H _ (.refl _ _) hs (.inl (.int _))⟩
  by_cases ht : ∃ i j, d1 = .str i ∧ d2 = .str j
  · obtain ⟨i, j, rfl, rfl⟩ := ht
    have p : Pst X.K W w H σ (rlE X.K S) Q (if i.length + j.length ≤ sizeLine then .ok (.str (i ++ j)) M else .bad) := p
    by_cases hl : i.length + j.length ≤ sizeLine
    · rw [if_pos hl] at p
      exact .inr (.inl ⟨i, j, r1.str, r2.str, hl, p w H _ (.refl _ _) hs (.inl (.str _))⟩)
    · rw [if_neg hl] at p; exact p.elim
  by_cases hp : ∃ i j, d1 = .tup i ∧ d2 = .tup j
  · obtain ⟨i, j, rfl, rfl⟩ := hp
    have p : Pst X.K W w H σ (rlE X.K S) Q (if i.length + j.length ≤ sizeLine then .ok (.tup (i ++ j)) M else .bad) := p
    by_cases hl : i.length + j.length ≤ sizeLine
    · rw [if_pos hl] at p
      obtain ⟨a, us, rfl, h1, q1⟩ := r1.tup hs
      obtain ⟨b, vs, rfl, h2, q2⟩ := r2.tup hs
      have nilOf : ∀ {us : List V}, Reps X.K w us [] → us = [] := fun h => by cases h; rfl
      refine .inr (.inr (.inl ⟨a, b, us, vs, rfl, rfl, h1, h2, by rw [q1.length, q2.length]; exact hl, fun e => ?_, fun e1 e2 => ?_, fun e1 e2 c hc => ?_⟩))
      · subst e; cases q1
        have b0 : Rep X.K w (.ref b) (.tup j) := by
          rcases r2 with r2 | ⟨_, r2 | r2, _⟩
          · exact r2
          · cases r2
          · cases r2
        exact p w H _ (.refl _ _) hs (.inl b0)
      · subst e2; cases q2
        have b0 : Rep X.K w (.ref a) (.tup i) := by
          rcases r1 with r1 | ⟨_, r1 | r1, _⟩
          · exact r1
          · cases r1
          · cases r1
        exact p w H _ (.refl _ _) hs (.inl (by rw [List.append_nil]; exact b0))
      · obtain ⟨s2, y⟩ := hs.imm (o := .tup (us ++ vs)) hc
        exact p _ _ _ y s2 (.inl (.tup (.of upd_same) ((q1.append q2).mono y)))
    · rw [if_neg hl] at p; exact p.elim
  · have e : addD d1 d2 M = addL d1 d2 M := by
      cases d1 <;> cases d2 <;> first | rfl | exact absurd ⟨_, _, rfl, rfl⟩ hi | exact absurd ⟨_, _, rfl, rfl⟩ ht | exact absurd ⟨_, _, rfl, rfl⟩ hp
    rw [e] at p
    exact .inr (.inr (.inr (addL_G hs r1 r2 p)))
/-! ## comparisons -/
def cmpI (g : Int → Int → Bool) (a b : D) (M : Mem) : R D := match a, b with
  | .int i, .int j => .ok (.bl (g i j)) M
  | _, _ => .bad
theorem cmpG {g : Int → Int → Bool} : OpG X W (rI0 fun i j => .bl (g i j)) (cmpI g) := by
  intro S w M H σ x y d1 d2 Q hs r1 r2 p
  by_cases hi : ∃ i j, d1 = .int i ∧ d2 = .int j
  · obtain ⟨i, j, rfl, rfl⟩ := hi
    exact ⟨i, j, r1.int, r2.int, p w H _ (.refl _ _) hs (.inl (.bl _))⟩
  · have e : cmpI g d1 d2 M = .bad := by cases d1 <;> cases d2 <;> first | rfl | exact absurd ⟨_, _, rfl, rfl⟩ hi
    rw [e] at p; exact p.elim
abbrev ltD := cmpI fun i j => decide (i < j)
abbrev leD := cmpI fun i j => decide (i ≤ j)
abbrev gtD := cmpI fun i j => decide (j < i)
abbrev geD := cmpI fun i j => decide (j ≤ i)
def isNon (d : D) : Bool := match d with
  | .non => true
  | _ => false
theorem RepR.isNon {K : PySem.W.Frag} {w : Wd} {H : Hp} {v : V} {d : D} (h : RepR K w H v d) : decide (v = .non) = isNon d := by
  rcases h with h | ⟨xs, h | h, a, us, rfl, _⟩
  · cases h <;> rfl
  · subst h; rfl
  · subst h; rfl
/-- is, is not: against None, True, False -/
def isD (neg : Bool) (a b : D) (M : Mem) : R D := match b with
  | .non => .ok (.bl (if neg then !isNon a else isNon a)) M
  | .bl c => match a with
    | .bl b => .ok (.bl (if neg then !(b == c) else (b == c))) M
    | .non => .ok (.bl neg) M
    | _ => .bad
  | _ => .bad
def rIsB (neg : Bool) : R2 := fun x y H Q => (y = .non ∧ Q (.bl (if neg then !decide (x = .non) else decide (x = .non))) H) ∨ (∃ b c, x = .bl b ∧ y = .bl c ∧ Q (.bl (if neg then !(b == c) else (b == c))) H) ∨ (∃ c, x = .non ∧ y = .bl c ∧ Q (.bl neg) H)
theorem op_isB : OpR X (compareOp .Is) (rIsB false) := OpR.or op_isN (OpR.or (fun pins s σ H x y v u Q I rx ry h => by
    obtain ⟨b, c, rfl, rfl, q⟩ := h
    cases rx
    cases ry
    exact is_bool ⟨.bl _, H, I, rfl, q⟩) fun pins s σ H x y v u Q I rx ry h => by
    obtain ⟨c, rfl, rfl, q⟩ := h
    cases rx
    cases ry
    exact wpAny_is_other rfl (by intro z; cases z) ⟨.bl _, H, I, rfl, q⟩)
theorem op_isnotB : OpR X (compareOp .IsNot) (rIsB true) := OpR.or op_notN (OpR.or (fun pins s σ H x y v u Q I rx ry h => by
    obtain ⟨b, c, rfl, rfl, q⟩ := h
    cases rx
    cases ry
    exact isnot_bool ⟨.bl _, H, I, rfl, q⟩) fun pins s σ H x y v u Q I rx ry h => by
    obtain ⟨c, rfl, rfl, q⟩ := h
    cases rx
    cases ry
    exact wpAny_isNot_other rfl (by intro z; cases z) ⟨.bl _, H, I, rfl, q⟩)
theorem isG (neg : Bool) : OpG X W (rIsB neg) (isD neg) := by
  intro S w M H σ x y d1 d2 Q hs r1 r2 p
  by_cases hn : d2 = .non
  · subst hn
    refine .inl ⟨r2.non, ?_⟩
    have e := r1.isNon
    have p : Pst X.K W w H σ (rlE X.K S) Q (.ok (.bl (if neg then !isNon d1 else isNon d1)) M) := p
    rw [e]
    exact p w H _ (.refl _ _) hs (.inl (.bl _))
  by_cases hb : ∃ b c, d1 = .bl b ∧ d2 = .bl c
  · obtain ⟨b, c, rfl, rfl⟩ := hb
    exact .inr (.inl ⟨b, c, r1.bl, r2.bl, p w H _ (.refl _ _) hs (.inl (.bl _))⟩)
  by_cases hc : ∃ c, d1 = .non ∧ d2 = .bl c
  · obtain ⟨c, rfl, rfl⟩ := hc
    exact .inr (.inr ⟨c, r1.non, r2.bl, p w H _ (.refl _ _) hs (.inl (.bl _))⟩)
  have e : isD neg d1 d2 M = .bad := by
    cases d2 <;> first | rfl | exact absurd rfl hn | (cases d1 <;> first | rfl | exact absurd ⟨_, _, rfl, rfl⟩ hb | exact absurd ⟨_, rfl, rfl⟩ hc)
  rw [e] at p; exact p.elim
/-! ## == -/
mutual
def toPy : D → Option PyData
  | .non => some .none
  | .bl b => some (.bool b)
  | .int i => some (.int i)
  | .str x => some (.str x)
  | .tup ds => (toPys ds).map .tuple
  | .lst ds => (toPys ds).map .list
  | .rol ds => (toPys ds).map .list
  | _ => none
def toPys : List D → Option (List PyData)
  | [] => some []
  | d :: ds => (toPy d).bind fun p => (toPys ds).map fun ps => p :: ps
end
section
variable {K : PySem.W.Frag} {w : Wd} {H : Hp} {M : Mem}
mutual
theorem Rep.dp (hs : HS K w M H) : ∀ {v : V} {d : D} {p : PyData}, Rep K w v d → toPy d = some p → Dp K H v p
  | _, _, _, .non, e => by cases e; exact .non
  | _, _, _, .bl _, e => by cases e; exact .bl _
  | _, _, _, .int _, e => by cases e; exact .int _
  | _, _, _, .str _, e => by cases e; exact .str _
  | _, _, _, .ref _, e => by cases e
  | _, _, _, .ty _, e => by cases e
  | _, _, _, .cell _, e => by cases e
  | _, _, _, .obj _ _, e => by cases e
  | _, _, _, .tup (ds := ds) h q, e => by
    unfold toPy at e
    cases e1 : toPys ds with
    | none => rw [e1] at e; cases e
    | some ps => rw [e1] at e; cases e; exact .tup (seqT hs.same h.sq) (Reps.dps hs q e1)
  | _, _, _, .lst (ds := ds) h q, e => by
    unfold toPy at e
    cases e1 : toPys ds with
    | none => rw [e1] at e; cases e
    | some ps => rw [e1] at e; cases e; exact .lst (.of (hs.same _ _ h)) (Reps.dps hs q e1)
  | _, _, _, .rol (ds := ds) h q, e => by
    unfold toPy at e
    cases e1 : toPys ds with
    | none => rw [e1] at e; cases e
    | some ps => rw [e1] at e; cases e; exact .lst (hs.same.seq h) (Reps.dps hs q e1)
theorem Reps.dps (hs : HS K w M H) : ∀ {vs : List V} {ds : List D} {ps : List PyData}, Reps K w vs ds → toPys ds = some ps → DpAll K H vs ps
  | _, _, _, .nil, e => by cases e; exact .nil
  | _, _, _, .cons (d := d) (ds := ds) a b, e => by
    unfold toPys at e
    cases e1 : toPy d with
    | none => rw [e1] at e; cases e
    | some p =>
      rw [e1] at e
      cases e2 : toPys ds with
      | none => rw [e2] at e; cases e
      | some ps => rw [e2] at e; cases e; exact .cons (Rep.dp hs a e1) (Reps.dps hs b e2)
end
/-- .. of what is looked at -/
def toPyT (d : D) (M : Mem) : Option PyData := match d with
  | .own ds => (toPys ds).map .list
  | .brw ds => (toPys ds).map .list
  | .cell n => (cellL M n).bind fun ds => (toPys ds).map .list
  | d => toPy d
theorem RepR.dp (hs : HS K w M H) {v : V} {d : D} {p : PyData} (r : RepR K w H v d) (e : toPyT d M = some p) : Dp K H v p := by
  have lo : ∀ {a : Addr} {us : List V} {ds : List D}, H a = some (.lst us) → Reps K w us ds → (toPys ds).map PyData.list = some p → Dp K H (.ref a) p := fun {a us ds} h q e => by
    cases e1 : toPys ds with
    | none => rw [e1] at e; cases e
    | some ps => rw [e1] at e; cases e; exact .lst (.of h) (Reps.dps hs q e1)
  rcases r with r | ⟨ds, rfl | rfl, a, us, rfl, _, _, _, hH, q⟩
  · cases r with
    | @cell n a hn =>
      have e : ((cellL M n).bind fun ds => (toPys ds).map .list) = some p := e
      cases e1 : cellL M n with
      | none => rw [e1] at e; cases e
      | some ds =>
        rw [e1] at e
        obtain ⟨_, us, hH, q⟩ := hs.cells n a _ hn (cellL_some e1)
        exact lo hH q e
    | _ => exact Rep.dp hs (by constructor <;> assumption) e
  · exact lo hH q e
  · exact lo hH q e
end
/-- scalars that == tells at once -/
def scalD : D → D → Option Bool
  | .non, .non => some true | .non, .int _ => some false | .int _, .non => some false | .non, .bl _ => some false | .bl _, .non => some false | .non, .str _ => some false | .str _, .non => some false
  | .int i, .int j => some (decide (i = j)) | .bl i, .bl j => some (decide (i = j)) | .str i, .str j => some (decide (i = j))
  | .int _, .str _ => some false | .str _, .int _ => some false | .bl _, .str _ => some false | .str _, .bl _ => some false
  | _, _ => none
def deepD (neg : Bool) (a b : D) (M : Mem) : R D := match toPyT a M, toPyT b M with
  | some p, some q => if (SeqAt.shaped p && SeqAt.shaped q) = true then .ok (.bl (if neg then !PyData.eqv p q else PyData.eqv p q)) M else .bad
  | _, _ => .bad
def eqD (neg : Bool) (a b : D) (M : Mem) : R D := match scalD a b with
  | some k => .ok (.bl (if neg then !k else k)) M
  | none => deepD neg a b M
def rEqU (K : PySem.W.Frag) (neg : Bool) : R2 := fun x y H Q => (scal x y = true ∧ Q (.bl (if neg then !decide (x = y) else decide (x = y))) H) ∨
  ∃ d e, Dp K H x d ∧ Dp K H y e ∧ SeqAt.shaped d = true ∧ SeqAt.shaped e = true ∧ Q (.bl (if neg then !PyData.eqv d e else PyData.eqv d e)) H
theorem op_eqU (hu : X.A.units + 64 < cLine) : OpR X (compareOp .Eq) (rEqU X.K false) := op_eq.or (op_eqD hu)
theorem op_neU (hu : X.A.units + 64 < cLine) : OpR X (compareOp .NotEq) (rEqU X.K true) := op_ne.or (op_neD hu)
theorem RepR.scal {K : PySem.W.Frag} {w : Wd} {H : Hp} {x y : V} {d1 d2 : D} {k : Bool} (r1 : RepR K w H x d1) (r2 : RepR K w H y d2) (e : scalD d1 d2 = some k) : scal x y = true ∧ decide (x = y) = k := by
  cases d1 <;> cases d2 <;> first
    | (cases e; rw [r1.non, r2.non]; exact ⟨rfl, rfl⟩)
    | (cases e; rw [r1.non, r2.int]; exact ⟨rfl, rfl⟩)
    | (cases e; rw [r1.int, r2.non]; exact ⟨rfl, rfl⟩)
    | (cases e; rw [r1.non, r2.bl]; exact ⟨rfl, rfl⟩)
    | (cases e; rw [r1.bl, r2.non]; exact ⟨rfl, rfl⟩)
    | (cases e; rw [r1.non, r2.str]; exact ⟨rfl, rfl⟩)
    | (cases e; rw [r1.str, r2.non]; exact ⟨rfl, rfl⟩)
    | (cases e; rw [r1.int, r2.int]; exact ⟨rfl, by simp⟩)
    | (cases e; rw [r1.bl, r2.bl]; exact ⟨rfl, by simp⟩)
    | (cases e; rw [r1.str, r2.str]; exact ⟨rfl, by simp⟩)
    | (cases e; rw [r1.int, r2.str]; exact ⟨rfl, rfl⟩)
    | (cases e; rw [r1.str, r2.int]; exact ⟨rfl, rfl⟩)
    | (cases e; rw [r1.bl, r2.str]; exact ⟨rfl, rfl⟩)
    | (cases e; rw [r1.str, r2.bl]; exact ⟨rfl, rfl⟩)
    | cases e
theorem eqG (neg : Bool) : OpG X W (rEqU X.K neg) (eqD neg) := by
  intro S w M H σ x y d1 d2 Q hs r1 r2 p
  unfold eqD at p
  cases e : scalD d1 d2 with
  | some k =>
    rw [e] at p
    obtain ⟨h1, h2⟩ := r1.scal r2 e
    refine .inl ⟨h1, ?_⟩
    rw [h2]
    exact p w H _ (.refl _ _) hs (.inl (.bl _))
  | none =>
    rw [e] at p
    have p : Pst X.K W w H σ (rlE X.K S) Q (deepD neg d1 d2 M) := p
    unfold deepD at p
    cases e1 : toPyT d1 M with
    | none => rw [e1] at p; exact p.elim
    | some a =>
      cases e2 : toPyT d2 M with
      | none => rw [e1, e2] at p; exact p.elim
      | some b =>
        rw [e1, e2] at p
        have p : Pst X.K W w H σ (rlE X.K S) Q (if (SeqAt.shaped a && SeqAt.shaped b) = true then .ok (.bl (if neg then !PyData.eqv a b else PyData.eqv a b)) M else .bad) := p
        by_cases hh : (SeqAt.shaped a && SeqAt.shaped b) = true
        · rw [if_pos hh] at p
          rw [Bool.and_eq_true] at hh
          exact .inr ⟨a, b, r1.dp hs e1, r2.dp hs e2, hh.1, hh.2, p w H _ (.refl _ _) hs (.inl (.bl _))⟩
        · rw [if_neg hh] at p; exact p.elim
/-! ## in -/
def flatD : D → Bool
  | .non => true | .bl _ => true | .int _ => true | .str _ => true | _ => false
def eqF : D → D → Bool
  | .non, .non => true
  | .bl a, .bl b => a == b
  | .bl a, .int b => (if a then 1 else 0) == b
  | .int a, .bl b => a == (if b then 1 else 0)
  | .int a, .int b => a == b
  | .str a, .str b => a == b
  | _, _ => false
/-- a list or a tuple -/
def sqs (d : D) (M : Mem) : Option (List D) := match d with
  | .tup xs => some xs
  | d => lsq d M
theorem RepR.sqs {K : PySem.W.Frag} {w : Wd} {H : Hp} {M : Mem} {v : V} {d : D} (h : RepR K w H v d) (s : HS K w M H) {ds : List D} (e : sqs d M = some ds) : ∃ a us, v = .ref a ∧ (SqL K H a us ∨ SqT K H a us) ∧ Reps K w us ds := by
  by_cases ht : ∃ xs, d = .tup xs
  · obtain ⟨xs, rfl⟩ := ht
    cases e
    obtain ⟨a, us, e, q, r⟩ := h.tup s
    exact ⟨a, us, e, .inr q, r⟩
  · have e' : L3.lsq d M = some ds := by cases d <;> first | exact e | exact absurd ⟨_, rfl⟩ ht
    obtain ⟨a, us, e, q, r⟩ := h.lsq s e'
    exact ⟨a, us, e, .inl q, r⟩
def inF (neg : Bool) (a b : D) (M : Mem) : Option (R D) := match sqs b M with
  | some ds => if (flatD a && ds.all flatD) = true then some (.ok (.bl (if neg then !ds.any (fun y => eqF y a) else ds.any fun y => eqF y a)) M) else none
  | none => none
def inDp (neg : Bool) (a b : D) (M : Mem) : R D := match toPyT a M, toPyT b M with
  | some p, some (.list qs) => if (SeqAt.shaped p && SeqAt.shaped (.list qs)) = true then .ok (.bl (if neg then !qs.any (fun z => PyData.eqv z p) else qs.any fun z => PyData.eqv z p)) M else .bad
  | _, _ => .bad
def inD (neg : Bool) (a b : D) (M : Mem) : R D := match inF neg a b M with
  | some r => r
  | none => inDp neg a b M
def rInU (K : PySem.W.Frag) (neg : Bool) : R2 := fun x y H Q => rIn K neg x y H Q ∨ ∃ d ds, Dp K H x d ∧ Dp K H y (.list ds) ∧ SeqAt.shaped d = true ∧ SeqAt.shaped (.list ds) = true ∧ Q (.bl (if neg then !ds.any (fun z => PyData.eqv z d) else ds.any fun z => PyData.eqv z d)) H
theorem op_inU (hu : X.A.units + 65 < cLine) : OpR X (compareOp .In) (rInU X.K false) := op_in_seq.or (op_inD hu)
theorem op_notInU (hu : X.A.units + 65 < cLine) : OpR X (compareOp .NotIn) (rInU X.K true) := op_notIn_seq.or (op_notInD hu)
theorem Rep.flat {K : PySem.W.Frag} {w : Wd} {v : V} {d : D} (r : Rep K w v d) (f : flatD d = true) : flatV v = true := by
  cases r <;> first | rfl | cases f
theorem Reps.flat {K : PySem.W.Frag} {w : Wd} : ∀ {vs : List V} {ds : List D}, Reps K w vs ds → ds.all flatD = true → vs.all flatV = true
  | _, _, .nil, _ => rfl
  | _, _, .cons a b, f => by
    rw [List.all_cons, Bool.and_eq_true] at f ⊢
    exact ⟨a.flat f.1, Reps.flat b f.2⟩
theorem Rep.eqF {K : PySem.W.Frag} {w : Wd} {u v : V} {d e : D} (r1 : Rep K w u d) (r2 : Rep K w v e) (f1 : flatD d = true) (f2 : flatD e = true) : eqV u v = eqF d e := by
  cases r1 <;> cases r2 <;> first | rfl | cases f1 | cases f2
theorem Reps.anyF {K : PySem.W.Frag} {w : Wd} {v : V} {d : D} (r : Rep K w v d) (f : flatD d = true) : ∀ {us : List V} {ds : List D}, Reps K w us ds → ds.all flatD = true → us.any (fun y => eqV y v) = ds.any fun y => L3.eqF y d
  | _, _, .nil, _ => rfl
  | _, _, .cons a b, g => by
    rw [List.all_cons, Bool.and_eq_true] at g
    rw [List.any_cons, List.any_cons, a.eqF r g.1 f, Reps.anyF r f b g.2]
theorem inG (neg : Bool) : OpG X W (rInU X.K neg) (inD neg) := by
  intro S w M H σ x y d1 d2 Q hs r1 r2 p
  unfold inD at p
  cases e : inF neg d1 d2 M with
  | some r =>
    rw [e] at p
    unfold inF at e
    cases e1 : sqs d2 M with
    | none => rw [e1] at e; cases e
    | some ds =>
      rw [e1] at e
      have e : (if (flatD d1 && ds.all flatD) = true then some (R.ok (.bl (if neg then !ds.any (fun y => eqF y d1) else ds.any fun y => eqF y d1)) M) else none) = some r := e
      by_cases hf : (flatD d1 && ds.all flatD) = true
      · rw [if_pos hf] at e
        cases e
        rw [Bool.and_eq_true] at hf
        obtain ⟨a, us, rfl, hq, q⟩ := r2.sqs hs e1
        have r1' : Rep X.K w x d1 := by
          rcases r1 with r1 | ⟨_, rfl | rfl, _⟩
          · exact r1
          · cases hf.1
          · cases hf.1
        refine .inl ⟨a, us, rfl, hq, r1'.flat hf.1, q.flat hf.2, ?_⟩
        have e2 : inV x us = ds.any fun y => eqF y d1 := Reps.anyF r1' hf.1 q hf.2
        rw [e2]
        exact p w H _ (.refl _ _) hs (.inl (.bl _))
      · rw [if_neg hf] at e; cases e
  | none =>
    rw [e] at p
    have p : Pst X.K W w H σ (rlE X.K S) Q (inDp neg d1 d2 M) := p
    unfold inDp at p
    cases e1 : toPyT d1 M with
    | none => rw [e1] at p; exact p.elim
    | some a =>
      cases e2 : toPyT d2 M with
      | none => rw [e1, e2] at p; exact p.elim
      | some b =>
        rw [e1, e2] at p
        cases b with
        | list qs =>
          have p : Pst X.K W w H σ (rlE X.K S) Q (if (SeqAt.shaped a && SeqAt.shaped (.list qs)) = true then .ok (.bl (if neg then !qs.any (fun z => PyData.eqv z a) else qs.any fun z => PyData.eqv z a)) M else .bad) := p
          by_cases hh : (SeqAt.shaped a && SeqAt.shaped (.list qs)) = true
          · rw [if_pos hh] at p
            rw [Bool.and_eq_true] at hh
            exact .inr ⟨a, qs, r1.dp hs e1, r2.dp hs e2, hh.1, hh.2, p w H _ (.refl _ _) hs (.inl (.bl _))⟩
          · rw [if_neg hh] at p; exact p.elim
        | _ => exact p.elim
end
end L3
namespace L3
open PySem PySem.Spec PyProof.Rows L2

/-! ## dicts of ints and texts -/
def keyOf : D → Option Key
  | .int i => some (.inl i)
  | .str x => some (.inr x)
  | _ => none
def dget : List (Key × D) → Key → Option D
  | [], _ => none
  | (k, d) :: r, j => if k = j then some d else dget r j
def dput : List (Key × D) → Key → D → List (Key × D)
  | [], j, d => [(j, d)]
  | (k, x) :: r, j, d => if k = j then (k, d) :: r else (k, x) :: dput r j d
/-- every key once -/
def uniqK : List (Key × D) → Bool
  | [] => true
  | (k, _) :: r => !(r.any fun p => decide (p.1 = k)) && uniqK r
def cellD (M : Mem) (n : Nat) : Option (List (Key × D)) := match M[n]? with
  | some (.dic xs) => some xs
  | _ => none
theorem cellD_some {M : Mem} {n : Nat} {xs : List (Key × D)} (h : cellD M n = some xs) : M[n]? = some (.dic xs) := by
  unfold cellD at h
  cases hm : M[n]? with
  | none => rw [hm] at h; cases h
  | some o =>
    rw [hm] at h
    cases o with
    | dic ys => cases h; rfl
    | _ => cases h
section
variable {K : PySem.W.Frag} {w : Wd} {H : Hp} {M : Mem}
theorem RepR.key {v : V} {d : D} {k : Key} (h : RepR K w H v d) (e : keyOf d = some k) : v = kV k := by
  cases d <;> first
    | (cases e; exact h.int)
    | (cases e; exact h.str)
    | cases e
theorem KvR.get : ∀ {us : List (Key × V)} {ds : List (Key × D)}, KvR K w us ds → ∀ {k : Key} {d : D}, dget ds k = some d → ∃ v, valV us k = some v ∧ Rep K w v d
  | _, _, .nil, _, _, e => by cases e
  | _, _, .cons (f := f) a b, k, d, e => by
    unfold dget at e
    by_cases h : f = k
    · rw [if_pos h] at e
      cases e
      exact ⟨_, valV_pos h, a⟩
    · rw [if_neg h] at e
      obtain ⟨v, q, r⟩ := KvR.get b e
      exact ⟨v, by rw [valV_neg h]; exact q, r⟩
theorem KvR.getN : ∀ {us : List (Key × V)} {ds : List (Key × D)}, KvR K w us ds → ∀ {k : Key}, dget ds k = none → valV us k = none
  | _, _, .nil, _, e => rfl
  | _, _, .cons (f := f) a b, k, e => by
    unfold dget at e
    by_cases h : f = k
    · rw [if_pos h] at e; cases e
    · rw [if_neg h] at e
      rw [valV_neg h]
      exact KvR.getN b e
theorem KvR.length : ∀ {us : List (Key × V)} {ds : List (Key × D)}, KvR K w us ds → us.length = ds.length
  | _, _, .nil => rfl
  | _, _, .cons _ t => congrArg (· + 1) (KvR.length t)
theorem KvR.keys : ∀ {us : List (Key × V)} {ds : List (Key × D)}, KvR K w us ds → us.map (·.1) = ds.map (·.1)
  | _, _, .nil => rfl
  | _, _, .cons _ t => by simp [KvR.keys t]
theorem putK_neg {us : List (Key × V)} {f k : Key} {u v : V} (h : ¬ f = k) : putK ((f, u) :: us) k v = (f, u) :: putK us k v := by
  unfold putK
  rw [List.any_cons]
  simp only [h, decide_false, Bool.false_or, List.map_cons, if_false]
  split <;> rfl
theorem putK_pos {us : List (Key × V)} {k : Key} {u v : V} (h : k ∉ us.map (·.1)) : putK ((k, u) :: us) k v = (k, v) :: us := by
  unfold putK
  rw [List.any_cons]
  simp only [decide_true, Bool.true_or, if_true, List.map_cons]
  congr 1
  have : ∀ us : List (Key × V), k ∉ us.map (·.1) → us.map (fun kv => if kv.1 = k then (kv.1, v) else kv) = us := by
    intro us
    induction us with
    | nil => intro _; rfl
    | cons p r ih =>
      intro h
      rw [List.map_cons, List.mem_cons, not_or] at h
      rw [List.map_cons, if_neg (fun e => h.1 e.symm), ih h.2]
  exact this us h
theorem KvR.put {v : V} {d : D} (r : Rep K w v d) : ∀ {us : List (Key × V)} {ds : List (Key × D)}, KvR K w us ds → uniqK ds = true → ∀ {k : Key}, KvR K w (putK us k v) (dput ds k d)
  | _, _, .nil, _, k => .cons r .nil
  | _, _, .cons (f := f) (vs := us) (ds := ds) a b, hu, k => by
    unfold uniqK at hu
    rw [Bool.and_eq_true] at hu
    unfold dput
    by_cases h : f = k
    · subst h
      rw [if_pos rfl, putK_pos (by
        rw [KvR.keys b]
        intro hm
        obtain ⟨p, hp, e⟩ := List.mem_map.mp hm
        have h1 : (ds.any fun p => decide (p.1 = f)) = true := List.any_eq_true.mpr ⟨p, hp, decide_eq_true e⟩
        rw [h1] at hu
        exact Bool.noConfusion hu.1)]
      exact .cons r b
    · rw [if_neg h, putK_neg h]
      exact .cons a (KvR.put r b hu.2)
end

/-! ## o[i], o[i:j] -/
def ofO (o : Option D) (M : Mem) : R D := match o with
  | some d => .ok d M
  | none => .bad
def idxI (a : D) (i : Int) (M : Mem) : R D := match a with
  | .tup xs => ofO (atI xs i) M
  | .str z => if z.length ≤ sizeLine then (match atI z.cps.toList i with
    | some c => .ok (.str ⟨#[c]⟩) M
    | none => .bad) else .bad
  | a => match lsq a M with
    | some xs => ofO (atI xs i) M
    | none => .bad
def idxD (a b : D) (M : Mem) : R D := match a with
  | .cell n => match cellD M n with
    | some kvs => match keyOf b with
      | some k => ofO (dget kvs k) M
      | none => .bad
    | none => match b with
      | .int i => idxI (.cell n) i M
      | _ => .bad
  | a => match b with
    | .int i => idxI a i M
    | _ => .bad
section
variable {X : Cx} {W : WX} {pos : Pos}
def rIxD : R2 := fun x y H Q => ∃ a v, x = .ref a ∧ DGet H a y (some v) ∧ Q v H
theorem ix_dict (hu : X.A.units + 1 < cLine) : IxR X rIxD := by
  intro value slice pins s σ H x y v u Q I rx ry h hs
  obtain ⟨a, z, rfl, g, q⟩ := h
  cases rx
  have hT : s.TypeIs (.ref a) "dict" := dict_typeIs I g
  have h2 : wpAny (model X.prog X.w) X.A (getItem (.ref a) u) (EP X pins σ Q) X.xe s := d_getItem hu I g ry fun w' s3 I3 rw' => ⟨z, H, I3, rw', q⟩
  unfold subscriptTail
  refine wpAny_bind ?_
  rw [getitemInPython_of_ne hT.not_modules]
  refine wpAny_bind (wpAny_specialOf hT PySem.F.slot_dict_getitem.lookup ?_)
  have fin : wpAny (model X.prog X.w) X.A (subscripted slice false (.ref a) u) (fun r s₃ => wpAny (model X.prog X.w) X.A (letTemporaryGo value (.ref a) r >>= fun _ => pure r) (EP X pins σ Q) X.xe s₃) X.xe s := by
    rw [hs]
    exact wpAny_operating (wpAny_mono h2 (fun r s₃ h₃ => wpAny_bind (wpAny_letTemporaryGo (wpAny_pure h₃))) fun _ _ x => x)
  first
    | exact wpAny_pure (wpAny_bind fin)
    | exact wpAny_bind (wpAny_pure (wpAny_bind fin))
    | exact wpAny_bind fin
def rIxU (K : PySem.W.Frag) : R2 := fun x y H Q => rIx K x y H Q ∨ rIxD x y H Q
theorem ix_U (hu : X.A.units + 1 < cLine) : IxR X (rIxU X.K) := ix_seq.or (ix_dict hu)
theorem Reps.atI {K : PySem.W.Frag} {w : Wd} {vs : List V} {ds : List D} (h : Reps K w vs ds) {i : Int} {d : D} (e : atI ds i = some d) : ∃ v, L2.atI vs i = some v ∧ Rep K w v d := by
  unfold L2.atI at e ⊢
  rw [h.length]
  cases e1 : ixN ds.length i with
  | none => rw [e1] at e; cases e
  | some j =>
    rw [e1] at e
    obtain ⟨v, q, r⟩ := h.get (i := j) e
    exact ⟨v, q, r⟩
theorem ofO_G {K : PySem.W.Frag} {S : Addr → Prop} {w : Wd} {H : Hp} {σ : L2.St} {o : Option D} {M : Mem} {Q : VK} (hs : HS K w M H) (p : Pst K W w H σ (rlE K S) Q (ofO o M)) : ∃ d, o = some d ∧ ∀ v, Rep K w v d → Q v H := by
  cases o with
  | none => exact p.elim
  | some d => exact ⟨d, rfl, fun v r => p w H v (.refl _ _) hs (.inl r)⟩
theorem idxI_G {S : Addr → Prop} {w : Wd} {M : Mem} {H : Hp} {σ : L2.St} {x y : V} {d1 : D} {i : Int} {Q : VK} (hs : HS X.K w M H) (r1 : RepR X.K w H x d1) (p : Pst X.K W w H σ (rlE X.K S) Q (idxI d1 i M)) : rIx X.K x (.int i) H Q := by
  have li : ∀ {r : R D}, r = (match lsq d1 M with
    | some xs => ofO (L2.atI xs i) M
    | none => .bad) → Pst X.K W w H σ (rlE X.K S) Q r → rIx X.K x (.int i) H Q := fun {r} e p => by
    subst e
    cases e1 : lsq d1 M with
    | none => rw [e1] at p; exact p.elim
    | some xs =>
      rw [e1] at p
      obtain ⟨a, us, rfl, hq, q⟩ := r1.lsq hs e1
      obtain ⟨d, e2, k⟩ := ofO_G hs p
      obtain ⟨v, h1, h2⟩ := q.atI e2
      exact .inl ⟨a, us, i, v, rfl, rfl, hq, h1, k v h2⟩
  cases d1 with
  | tup xs =>
    obtain ⟨a, us, rfl, hq, q⟩ := r1.tup hs
    obtain ⟨d, e, k⟩ := ofO_G hs p
    obtain ⟨v, h1, h2⟩ := q.atI e
    exact .inr (.inl ⟨a, us, i, v, rfl, rfl, hq, h1, k v h2⟩)
  | str z =>
    have p : Pst X.K W w H σ (rlE X.K S) Q (if z.length ≤ sizeLine then (match L2.atI z.cps.toList i with
      | some c => .ok (.str ⟨#[c]⟩) M
      | none => .bad) else .bad) := p
    by_cases hz : z.length ≤ sizeLine
    · rw [if_pos hz] at p
      cases e : L2.atI z.cps.toList i with
      | none => rw [e] at p; exact p.elim
      | some c =>
        rw [e] at p
        exact .inr (.inr ⟨z, i, c, r1.str, rfl, hz, e, p w H _ (.refl _ _) hs (.inl (.str _))⟩)
    · rw [if_neg hz] at p; exact p.elim
  | _ => exact li rfl p
theorem idxG : OpG X W (rIxU X.K) idxD := by
  intro S w M H σ x y d1 d2 Q hs r1 r2 p
  have ii : (∀ n, d1 = .cell n → cellD M n = none) → rIxU X.K x y H Q := fun hn => by
    cases d2 with
    | int i =>
      have p : Pst X.K W w H σ (rlE X.K S) Q (idxI d1 i M) := by
        cases d1 with
        | cell n =>
          unfold idxD at p
          simp only [hn n rfl] at p
          exact p
        | _ => exact p
      rw [r2.int]
      exact .inl (idxI_G (y := y) hs r1 p)
    | _ =>
      exfalso
      cases d1 with
      | cell n =>
        unfold idxD at p
        simp only [hn n rfl] at p
        exact p.elim
      | _ => exact p.elim
  cases d1 with
  | cell n =>
    cases e1 : cellD M n with
    | none => exact ii fun m e => by cases e; exact e1
    | some kvs =>
      unfold idxD at p
      simp only [e1] at p
      cases e2 : keyOf d2 with
      | none => rw [e2] at p; exact p.elim
      | some k =>
        rw [e2] at p
        rcases r1 with r1 | ⟨_, h | h, _⟩
        · cases r1 with
          | cell hn =>
            obtain ⟨_, us, hH, q⟩ := hs.cells n _ _ hn (cellD_some e1)
            obtain ⟨d, e3, kk⟩ := ofO_G hs p
            obtain ⟨v, h1, h2⟩ := KvR.get q e3
            have ky := r2.key e2
            subst ky
            exact .inr ⟨_, v, rfl, by have := DGet.k (k := k) hH; rw [h1] at this; exact this, kk v h2⟩
        · cases h
        · cases h
  | _ => exact ii fun m e => by cases e
theorem a_ix {a b : Expr} {fa fb : SE} (hu : X.A.units + 1 < cLine) (ha : AE X W a fa) (hb : AE X W b fb) (hs : PlainIx b := by intro _ _; rfl) : AE X W (.Subscript a b pos) (sOp idxD fa fb) :=
  PE.imp (pe_ix (ix_U hu) ha hb hs) fun σ H Q q => tOp_of idxG q
/-! ### slices -/
abbrev SO := En → Mem → R (Option Int)
abbrev rlO : Rl (Option Int) (Option Int) := fun _ _ _ b c => b = c
theorem bkO : Bk rlO := fun _ _ _ _ _ _ _ _ _ h => h
abbrev AO (X : Cx) (W : WX) (e : Option Expr) (f : SO) : Prop := PO X e (tG X.K W (fun _ => rlO) f)
def sNoP : SO := fun _ M => .ok none M
def pInt (d : D) (M : Mem) : R (Option Int) := match d with
  | .int i => .ok (some i) M
  | _ => .bad
def sPart (f : SE) : SO := fun e M => (f e M).bind pInt
theorem PO.imp {X : Cx} {e : Option Expr} {t t' : TO} (h : PO X e t) (i : ∀ σ H Q, t' σ H Q → t σ H Q) : PO X e t' := ⟨fun pins s σ H Q I q => h.run pins s σ H Q I (i σ H Q q)⟩
theorem o_none : AO X W none sNoP := PO.imp po_none fun σ H Q h => by
  obtain ⟨S, w, e, M, hs, sx, p⟩ := h
  exact p w H none (.refl _ _) hs rfl
theorem o_some {e : Expr} {f : SE} (h : AE X W e f) : AO X W (some e) (sPart f) := PO.imp (po_some h) fun σ H Q q => tG.step (k := fun _ d M => pInt d M) (fun _ => bkO) q fun S w e w' M' H' v d s sx x r p => by
  cases d with
  | int i => exact ⟨i, r.toR.int, p w' H' _ (.refl _ _) s rfl⟩
  | _ => exact p.elim
def cutL {α : Type} (xs : List α) (lo hi : Option Int) : List α := (xs.drop (HT.sIx xs.length 0 lo)).take (HT.sIx xs.length xs.length hi - HT.sIx xs.length 0 lo)
def slD (a : D) (lo hi : Option Int) (M : Mem) : R D := match a with
  | .tup xs => .ok (.tup (cutL xs lo hi)) M
  | .str z => if z.length ≤ sizeLine then .ok (.str (cutS z lo hi)) M else .bad
  | a => match lsq a M with
    | some xs => .ok (.own (cutL xs lo hi)) M
    | none => .bad
theorem Reps.cut {K : PySem.W.Frag} {w : Wd} {us : List V} {ds : List D} (h : Reps K w us ds) (lo hi : Option Int) : Reps K w (cutV us lo hi) (cutL ds lo hi) := by
  unfold cutV cutL
  rw [h.length]
  exact (h.drop _).take _
def rSlU (K : PySem.W.Frag) : V → Option Int → Option Int → Hp → VK → Prop := fun x lo hi H Q => rSlL K x lo hi H Q ∨ rSlA K x lo hi H Q ∨ rSlS x lo hi H Q
theorem sl_U : SlR X (rSlU X.K) := sl_list.or (sl_tupA.or sl_str)
def sSl (f : SE) (lo hi : SO) : SE := fun e M => (f e M).bind fun d M => (lo e M).bind fun l M => (hi e M).bind fun h M => slD d l h M
theorem slG {S : Addr → Prop} {w : Wd} {M : Mem} {H : Hp} {σ : L2.St} {x : V} {d : D} {lo hi : Option Int} {Q : VK} (hs : HS X.K w M H) (r1 : RepR X.K w H x d) (p : Pst X.K W w H σ (rlE X.K S) Q (slD d lo hi M)) : rSlU X.K x lo hi H Q := by
  have li : ∀ {r : R D}, r = (match lsq d M with
    | some xs => .ok (.own (cutL xs lo hi)) M
    | none => .bad) → Pst X.K W w H σ (rlE X.K S) Q r → rSlU X.K x lo hi H Q := fun {r} e p => by
    subst e
    cases e1 : lsq d M with
    | none => rw [e1] at p; exact p.elim
    | some xs =>
      rw [e1] at p
      obtain ⟨a, us, rfl, hq, q⟩ := r1.lsq hs e1
      exact .inl ⟨a, us, rfl, hq, fun b hb => fresh_own hs (q.cut lo hi) p hb⟩
  cases d with
  | tup xs =>
    obtain ⟨a, us, rfl, hq, q⟩ := r1.tup hs
    refine .inr (.inl ⟨a, us, rfl, hq, fun e => ?_, fun e b hb => ?_⟩)
    · have e2 : cutL xs lo hi = xs := by
        unfold cutL
        rw [← q.length, e.1, e.2, q.length]
        simp
      have b0 : Rep X.K w (.ref a) (.tup xs) := by
        rcases r1 with r1 | ⟨_, r1 | r1, _⟩
        · exact r1
        · cases r1
        · cases r1
      have p : Pst X.K W w H σ (rlE X.K S) Q (.ok (.tup (cutL xs lo hi)) M) := p
      rw [e2] at p
      exact p w H _ (.refl _ _) hs (.inl b0)
    · obtain ⟨s2, y⟩ := hs.imm (o := .tup (cutV us lo hi)) hb
      exact p _ _ _ y s2 (.inl (.tup (.of upd_same) ((q.cut lo hi).mono y)))
  | str z =>
    have p : Pst X.K W w H σ (rlE X.K S) Q (if z.length ≤ sizeLine then .ok (.str (cutS z lo hi)) M else .bad) := p
    by_cases hz : z.length ≤ sizeLine
    · rw [if_pos hz] at p
      exact .inr (.inr ⟨z, r1.str, hz, p w H _ (.refl _ _) hs (.inl (.str _))⟩)
    · rw [if_neg hz] at p; exact p.elim
  | _ => exact li rfl p
theorem a_sl {e : Expr} {lo hi : Option Expr} {p2 : Pos} {f : SE} {fl fh : SO} (ha : AE X W e f) (hl : AO X W lo fl) (hh : AO X W hi fh) : AE X W (.Subscript e (.Slice lo hi none p2) pos) (sSl f fl fh) :=
  PE.imp (pe_slice sl_U ha hl hh) fun σ H Q q =>
    tG.step (k := fun e d M => (fl e M).bind fun l M => (fh e M).bind fun h M => slD d l h M) (fun _ => bkE) q fun S w e w' M' H' v d s sx x r p =>
      ⟨S, w', e, M', s, sx, p.bind bkE fun l M2 w2 H2 v2 y s2 q2 p3 => by
        have q2 : v2 = l := q2
        subst q2
        exact ⟨S, w2, e, M2, s2, sx.mono y, p3.bind bkE fun h M4 w4 H4 v4 z s4 q4 p5 => by
          have q4 : v4 = h := q4
          subst q4
          exact slG s4 ((r.toR.mono y).mono z) p5⟩⟩
end
end L3
namespace L3
open PySem PySem.Spec PyProof.Rows L2

/-! ## truth, and, or, not, if -/
def truD (d : D) (M : Mem) : Option Bool := match d with
  | .non => some false
  | .bl b => some b
  | .int i => some (i != 0)
  | .str y => if y.length ≤ sizeLine then some ((y.length : Int) != 0) else none
  | .tup xs => some (!xs.isEmpty)
  | .cell n => match cellD M n with
    | some kvs => some (!kvs.isEmpty)
    | none => (cellL M n).map fun xs => !xs.isEmpty
  | d => (lsq d M).map fun xs => !xs.isEmpty
def ofB (o : Option Bool) (M : Mem) : R Bool := match o with
  | some d => .ok d M
  | none => .bad
def tru1 (d : D) (M : Mem) : R Bool := ofB (truD d M) M
def sTru (f : SE) : SB := fun e M => (f e M).bind tru1
/-- not a list just made -/
def nown (d : D) (M : Mem) : R D := match d with
  | .own _ => .bad
  | d => .ok d M
def sAnd (f g : SE) : SE := fun e M => (f e M).bind fun d M => (tru1 d M).bind fun k M => if k = true then g e M else nown d M
def sOr (f g : SE) : SE := fun e M => (f e M).bind fun d M => (tru1 d M).bind fun k M => if k = true then nown d M else g e M
def sNot (f : SE) : SE := fun e M => (f e M).bind fun d M => (tru1 d M).bind fun k M => .ok (.bl (!k)) M
def bAnd (f g : SB) : SB := fun e M => (f e M).bind fun k M => if k = true then g e M else .ok false M
def bOr (f g : SB) : SB := fun e M => (f e M).bind fun k M => if k = true then .ok true M else g e M
def bNot (f : SB) : SB := fun e M => (f e M).bind fun k M => .ok (!k) M
def sIf (c : SB) (f g : SE) : SE := fun e M => (c e M).bind fun k M => if k = true then f e M else g e M
section
variable {X : Cx} {W : WX} {pos : Pos}
theorem Reps.isEmpty {K : PySem.W.Frag} {w : Wd} : ∀ {vs : List V} {ds : List D}, Reps K w vs ds → (!vs.isEmpty) = !ds.isEmpty
  | _, _, .nil => rfl
  | _, _, .cons _ _ => rfl
theorem KvR.isEmpty {K : PySem.W.Frag} {w : Wd} : ∀ {vs : List (Key × V)} {ds : List (Key × D)}, KvR K w vs ds → (!vs.isEmpty) = !ds.isEmpty
  | _, _, .nil => rfl
  | _, _, .cons _ _ => rfl
theorem RepR.tru {K : PySem.W.Frag} {w : Wd} {H : Hp} {M : Mem} {v : V} {d : D} {k : Bool} (r : RepR K w H v d) (hs : HS K w M H) (e : truD d M = some k) : TruV K v H k := by
  have li : (L3.lsq d M).map (fun xs => !xs.isEmpty) = some k → TruV K v H k := fun e => by
    cases e1 : L3.lsq d M with
    | none => rw [e1] at e; cases e
    | some xs =>
      rw [e1] at e
      obtain ⟨a, us, rfl, hq, q⟩ := r.lsq hs e1
      cases e
      exact .inl ⟨us, hq, q.isEmpty.symm⟩
  cases d with
  | non => rw [r.non]; cases e; exact rfl
  | bl b => rw [r.bl]; cases e; exact rfl
  | int b => rw [r.int]; cases e; exact rfl
  | str b =>
    rw [r.str]
    unfold truD at e
    by_cases hz : b.length ≤ sizeLine
    · simp only [if_pos hz] at e
      cases e; exact ⟨hz, rfl⟩
    · simp only [if_neg hz] at e; cases e
  | tup xs =>
    obtain ⟨a, us, rfl, hq, q⟩ := r.tup hs
    cases e
    exact .inr (.inl ⟨us, hq, q.isEmpty.symm⟩)
  | cell n =>
    unfold truD at e
    cases e1 : cellD M n with
    | none => simp only [e1] at e; exact li e
    | some kvs =>
      simp only [e1] at e
      cases e
      rcases r with r | ⟨_, h | h, _⟩
      · cases r with
        | cell hn =>
          obtain ⟨_, us, hH, q⟩ := hs.cells n _ _ hn (cellD_some e1)
          exact .inr (.inr ⟨us, hH, q.isEmpty.symm⟩)
      · cases h
      · cases h
  | _ => exact li e
theorem Pst.tru {K : PySem.W.Frag} {α β : Type} {rel : Rl β α} {w : Wd} {H : Hp} {σ : L2.St} {M : Mem} {v : V} {d : D} {k : Bool → Mem → R α} {Q : β → Hp → Prop} (r : RepR K w H v d) (hs : HS K w M H) (p : Pst K W w H σ rel Q ((tru1 d M).bind k)) :
    ∃ c, TruV K v H c ∧ Pst K W w H σ rel Q (k c M) := by
  unfold tru1 at p
  cases e : truD d M with
  | none => rw [e] at p; exact p.elim
  | some c => rw [e] at p; exact ⟨c, r.tru hs e, p⟩
theorem b_truth {e : Expr} {f : SE} (h : AE X W e f) (he : ∀ whole, isTrue e X.env whole = (do let v ← whole; standAt e.pos; holding [v] (truthy v)) := by intro _; rfl) : AB X W e (sTru f) :=
  PT.imp (pt_truth h he) fun σ H Q q => tG.step (k := fun _ d M => tru1 d M) (fun _ => bkB) q fun S w e w' M' H' v d s sx x r p => by
    unfold tru1 at p
    cases e1 : truD d M' with
    | none => rw [e1] at p; exact p.elim
    | some c => rw [e1] at p; exact ⟨c, r.toR.tru s e1, p w' H' c (.refl _ _) s rfl⟩
abbrev AW (X : Cx) (W : WX) (e : Expr) (f : SB) : Prop := PW X e (tB X.K W f)
theorem PW.imp {X : Cx} {e : Expr} {t t' : TT} (h : PW X e t) (i : ∀ σ H Q, t' σ H Q → t σ H Q) : PW X e t' := ⟨fun wh pins s σ H Q I q => h.run wh pins s σ H Q I (i σ H Q q)⟩
variable {a b : Expr} {rest : List Expr}
theorem w_and1 {f : SB} (h : AB X W a f) : AW X W (.BoolOp .And [a] pos) f := pw_and1 h
theorem w_or1 {f : SB} (h : AB X W a f) : AW X W (.BoolOp .Or [a] pos) f := pw_or1 h
theorem w_and {f g : SB} (h : AB X W a f) (t : AW X W (.BoolOp .And (b :: rest) pos) g) : AW X W (.BoolOp .And (a :: b :: rest) pos) (bAnd f g) :=
  PW.imp (pw_and h t) fun σ H Q q => tG.step (k := fun e k M => if k = true then g e M else .ok false M) (fun _ => bkB) q fun S w e w' M' H' v d s sx x r p => by
    have r : v = d := r
    subst r
    cases v with
    | true => exact ⟨S, w', e, M', s, sx, p⟩
    | false => exact p w' H' false (.refl _ _) s rfl
theorem w_or {f g : SB} (h : AB X W a f) (t : AW X W (.BoolOp .Or (b :: rest) pos) g) : AW X W (.BoolOp .Or (a :: b :: rest) pos) (bOr f g) :=
  PW.imp (pw_or h t) fun σ H Q q => tG.step (k := fun e k M => if k = true then .ok true M else g e M) (fun _ => bkB) q fun S w e w' M' H' v d s sx x r p => by
    have r : v = d := r
    subst r
    cases v with
    | true => exact p w' H' true (.refl _ _) s rfl
    | false => exact ⟨S, w', e, M', s, sx, p⟩
theorem b_not {f : SB} (h : AB X W a f) : AB X W (.UnaryOp .Not a pos) (bNot f) :=
  PT.imp (pt_not h) fun σ H Q q => tG.step (k := fun e k M => .ok (!k) M) (fun _ => bkB) q fun S w e w' M' H' v d s sx x r p => by
    have r : v = d := r
    subst r
    exact p w' H' _ (.refl _ _) s rfl
theorem a_one {op} {f : SE} (h : AE X W a f) : AE X W (.BoolOp op [a] pos) f := pe_one h
theorem Pst.nown {K : PySem.W.Frag} {S : Addr → Prop} {w : Wd} {H H0 : Hp} {σ : L2.St} {M : Mem} {v : V} {d : D} {Q : VK} (r : RepO K S H0 w H v d) (hs : HS K w M H) (p : Pst K W w H σ (rlE K S) Q (nown d M)) : Q v H := by
  rcases r with r | ⟨ds, rfl, _⟩ | ⟨ds, rfl, l⟩
  · cases d <;> first | exact p w H v (.refl _ _) hs (.inl r) | exact p.elim
  · exact p.elim
  · exact p w H v (.refl _ _) hs (.inr (.inr ⟨ds, rfl, l⟩))
theorem a_and {f g : SE} (h : AE X W a f) (t : AE X W (.BoolOp .And (b :: rest) pos) g) : AE X W (.BoolOp .And (a :: b :: rest) pos) (sAnd f g) :=
  PE.imp (pe_andT h t) fun σ H Q q => tG.step (k := fun e d M => (tru1 d M).bind fun k M => if k = true then g e M else nown d M) (fun _ => bkE) q fun S w e w' M' H' v d s sx x r p => by
    obtain ⟨c, h1, p⟩ := Pst.tru (K := X.K) r.toR s p
    refine ⟨c, h1, ?_⟩
    cases c with
    | true => exact ⟨S, w', e, M', s, sx, p⟩
    | false => exact p.nown r s
theorem a_or {f g : SE} (h : AE X W a f) (t : AE X W (.BoolOp .Or (b :: rest) pos) g) : AE X W (.BoolOp .Or (a :: b :: rest) pos) (sOr f g) :=
  PE.imp (pe_orT h t) fun σ H Q q => tG.step (k := fun e d M => (tru1 d M).bind fun k M => if k = true then nown d M else g e M) (fun _ => bkE) q fun S w e w' M' H' v d s sx x r p => by
    obtain ⟨c, h1, p⟩ := Pst.tru (K := X.K) r.toR s p
    refine ⟨c, h1, ?_⟩
    cases c with
    | true => exact p.nown r s
    | false => exact ⟨S, w', e, M', s, sx, p⟩
theorem a_not {f : SE} (h : AE X W a f) : AE X W (.UnaryOp .Not a pos) (sNot f) :=
  PE.imp (pe_notT h) fun σ H Q q => tG.step (k := fun e d M => (tru1 d M).bind fun k M => .ok (.bl (!k)) M) (fun _ => bkE) q fun S w e w' M' H' v d s sx x r p => by
    obtain ⟨c, h1, p⟩ := Pst.tru (K := X.K) r.toR s p
    exact ⟨c, h1, p w' H' _ (.refl _ _) s (.inl (.bl _))⟩
theorem a_if {c : Expr} {fc : SB} {f g : SE} (hc : AB X W c fc) (ha : AE X W a f) (hb : AE X W b g) : AE X W (.IfExp c a b pos) (sIf fc f g) :=
  PE.imp (pe_ifExp hc ha hb) fun σ H Q q => tG.step (k := fun e k M => if k = true then f e M else g e M) (fun _ => bkE) q fun S w e w' M' H' v d s sx x r p => by
    have r : v = d := r
    subst r
    cases v with
    | true => exact ⟨S, w', e, M', s, sx, p⟩
    | false => exact ⟨S, w', e, M', s, sx, p⟩
/-- a op1 b op2 c, as a value, as a test -/
def kChain (g g' : D → D → Mem → R D) (fc : SE) (e : En) (d1 d2 : D) (M : Mem) : R D := (g d1 d2 M).bind fun z M => (bl1 z M).bind fun k M => if k = true then (fc e M).bind fun d3 M => g' d2 d3 M else .ok (.bl false) M
def sChn (g g' : D → D → Mem → R D) (fa fb fc : SE) : SE := fun e M => (fa e M).bind fun d1 M => (fb e M).bind fun d2 M => kChain g g' fc e d1 d2 M
theorem tChain_of {r r' : R2} {g g' : D → D → Mem → R D} {fa fb fc : SE} (hg : OpG X W r g) (hg' : OpG X W r' g') {σ : L2.St} {H : Hp} {Q : VK} (q : tE X.K W (sChn g g' fa fb fc) σ H Q) : tChain r r' (tE X.K W fa) (tE X.K W fb) (tE X.K W fc) σ H Q :=
  tG.step (k := fun e d1 M => (fb e M).bind fun d2 M => kChain g g' fc e d1 d2 M) (fun _ => bkE) q fun S w e w' M' H' v d s sx x r1 p =>
    ⟨S, w', e, M', s, sx, p.bind bkE fun d2 M2 w2 H2 v2 y s2 q2 p3 => by
      refine hg S w2 M2 H2 σ v v2 d d2 _ s2 (r1.toR.mono y) q2.toR ?_
      have p3 : Pst X.K W w2 H2 σ (rlE X.K S) Q ((g d d2 M2).bind fun z M => (bl1 z M).bind fun k M => if k = true then (fc e M).bind fun d3 M => g' d2 d3 M else .ok (.bl false) M) := p3
      refine p3.bind bkE fun z M4 w4 H4 v4 y4 s4 q4 p5 => ?_
      cases z with
      | bl k =>
        refine ⟨k, q4.toR.bl, ?_⟩
        have p5 : Pst X.K W w4 H4 σ (rlE X.K S) Q (if k = true then (fc e M4).bind fun d3 M => g' d2 d3 M else .ok (.bl false) M4) := p5
        cases k with
        | true => exact ⟨S, w4, e, M4, s4, (sx.mono y).mono y4, Pst.bind bkE p5 fun d3 M6 w6 H6 v6 y6 s6 q6 p7 => hg' S w6 M6 H6 σ v2 v6 d2 d3 Q s6 ((q2.toR.mono y4).mono y6) q6.toR p7⟩
        | false => exact p5 w4 H4 _ (.refl _ _) s4 (.inl (.bl _))
      | _ => exact p5.elim⟩
theorem a_chain {c : Expr} {op op' : CmpOp} {r r' : R2} {g g' : D → D → Mem → R D} {fa fb fc : SE} (ho : OpR X (compareOp op) r) (hg : OpG X W r g) (ho' : OpR X (compareOp op') r') (hg' : OpG X W r' g') (ha : AE X W a fa) (hb : AE X W b fb) (hc : AE X W c fc)
    (hm : lastMarks [op, op'] [b, c] = false := by with_unfolding_all rfl) : AE X W (.Compare a [op, op'] [b, c] pos) (sChn g g' fa fb fc) :=
  PE.imp (pe_chain ho ho' ha hb hc hm) fun σ H Q q => tChain_of hg hg' q
theorem b_chain {c : Expr} {op op' : CmpOp} {r r' : R2} {g g' : D → D → Mem → R D} {fa fb fc : SE} (ho : OpR X (compareOp op) r) (hg : OpG X W r g) (ho' : OpR X (compareOp op') r') (hg' : OpG X W r' g') (ha : AE X W a fa) (hb : AE X W b fb) (hc : AE X W c fc)
    (hm : lastMarks [op, op'] [b, c] = false := by with_unfolding_all rfl) : AB X W (.Compare a [op, op'] [b, c] pos) (sT (sChn g g' fa fb fc)) :=
  PT.imp (pt_chain ho ho' ha hb hc hm) fun σ H Q q => by
    obtain ⟨S, w, e, M, hs, sx, p⟩ := q
    exact tChain_of hg hg' ⟨S, w, e, M, hs, sx, p.bl⟩

/-! ## calls of what is built in -/
def CallG (X : Cx) (W : WX) (r : List V → Hp → VK → Prop) (g : List D → Mem → R D) : Prop :=
  ∀ (S : Addr → Prop) (w : Wd) (M : Mem) (H : Hp) (σ : L2.St) (xs : List V) (ds : List D) (Q : VK), HS X.K w M H → RepRs X.K w H xs ds → Pst X.K W w H σ (rlE X.K S) Q (g ds M) → r xs H Q
def sCall (g : List D → Mem → R D) (fa : SA) : SE := fun e M => (fa e M).bind g
theorem tCB_of {r : List V → Hp → VK → Prop} {g : List D → Mem → R D} {fa : SA} (hg : CallG X W r g) {σ : L2.St} {H : Hp} {Q : VK} (q : tE X.K W (sCall g fa) σ H Q) : tCB r (tA X.K W fa) σ H Q :=
  tG.step (k := fun _ ds M => g ds M) (fun _ => bkE) q fun S w e w' M' H' v d s sx x r1 p => hg S w' M' H' σ v d Q s r1 p
theorem a_callB {x : Str} {p pos : Pos} {e : Expr} {es : List Expr} {fa : SA} {id : String} {r : List V → Hp → VK → Prop} {g : List D → Mem → R D} (hc : CallR X (.builtin id) r) (hg : CallG X W r g) (hgl : Gl X x) (hm : X.mg x = none) (hv : bootBuiltins x = some (.builtin id)) (ha : AA X W (e :: es) fa)
    (hn : x ≠ "__name__" := by decide) (hdb : (x == ("__debug__" : Str)) = false := by decide) (he : starEach (e :: es) X.env = (false, eval e X.env) :: starEach es X.env := by rfl) (hpl : (backTo pos (starEach es X.env)).any (·.1) = false := by rfl) : AE X W (.Call (.Name x p) (e :: es) [] pos) (sCall g fa) :=
  PE.imp (pe_callB hc hgl hm hv ha hn hdb he hpl) fun σ H Q q => tCB_of hg q
theorem a_callT {x : Str} {p pos : Pos} {e : Expr} {es : List Expr} {fa : SA} {T : String} {r : List V → Hp → VK → Prop} {g : List D → Mem → R D} (hc : CallR X (.type T) r) (hg : CallG X W r g) (hgl : Gl X x) (hm : X.mg x = none) (hv : bootBuiltins x = some (.type T)) (ha : AA X W (e :: es) fa)
    (hn : x ≠ "__name__" := by decide) (hdb : (x == ("__debug__" : Str)) = false := by decide) (he : starEach (e :: es) X.env = (false, eval e X.env) :: starEach es X.env := by rfl) (hpl : (backTo pos (starEach es X.env)).any (·.1) = false := by rfl) : AE X W (.Call (.Name x p) (e :: es) [] pos) (sCall g fa) :=
  PE.imp (pe_callTy hc hgl hm hv ha hn hdb he hpl) fun σ H Q q => tCB_of hg q
theorem RepRs.one {K : PySem.W.Frag} {w : Wd} {H : Hp} {xs : List V} {d : D} (h : RepRs K w H xs [d]) : ∃ x, xs = [x] ∧ RepR K w H x d := by
  cases h with
  | cons r t => cases t; exact ⟨_, rfl, r⟩
theorem RepRs.two {K : PySem.W.Frag} {w : Wd} {H : Hp} {xs : List V} {d d' : D} (h : RepRs K w H xs [d, d']) : ∃ x y, xs = [x, y] ∧ RepR K w H x d ∧ RepR K w H y d' := by
  cases h with
  | cons r t =>
    obtain ⟨y, rfl, q⟩ := t.one
    exact ⟨_, y, rfl, r, q⟩
/-- len -/
def lenD (ds : List D) (M : Mem) : R D := match ds with
  | [.str z] => if z.length ≤ sizeLine then .ok (.int z.length) M else .bad
  | [.cell n] => match cellD M n with
    | some kvs => .ok (.int kvs.length) M
    | none => ofO ((cellL M n).map fun xs => .int xs.length) M
  | [d] => ofO ((sqs d M).map fun xs => .int xs.length) M
  | _ => .bad
def rLenU (K : PySem.W.Frag) : List V → Hp → VK → Prop := fun xs H Q => (∃ p ys, xs = [.ref p] ∧ (SqL K H p ys ∨ SqT K H p ys) ∧ Q (.int ys.length) H) ∨ (∃ z, xs = [.str z] ∧ z.length ≤ sizeLine ∧ Q (.int z.length) H) ∨ ∃ a kvs, xs = [.ref a] ∧ H a = some (.dK kvs) ∧ Q (.int kvs.length) H
theorem call_lenU : CallR X (.builtin "len") (rLenU X.K) := call_len_seq.or (call_len_str.or call_lenD)
theorem lenG : CallG X W (rLenU X.K) lenD := by
  intro S w M H σ xs ds Q hs rs p
  cases ds with
  | nil => exact p.elim
  | cons d t =>
    cases t with
    | cons _ _ => exact absurd p (by cases d <;> exact id)
    | nil =>
      obtain ⟨x, rfl, r⟩ := rs.one
      have li : Pst X.K W w H σ (rlE X.K S) Q (ofO ((sqs d M).map fun xs => .int xs.length) M) → rLenU X.K [x] H Q := fun p => by
        cases e1 : sqs d M with
        | none => rw [e1] at p; exact p.elim
        | some ys =>
          rw [e1] at p
          obtain ⟨a, us, rfl, hq, q⟩ := r.sqs hs e1
          exact .inl ⟨a, us, rfl, hq, by rw [q.length]; exact p w H _ (.refl _ _) hs (.inl (.int _))⟩
      cases d with
      | str z =>
        have p : Pst X.K W w H σ (rlE X.K S) Q (if z.length ≤ sizeLine then .ok (.int z.length) M else .bad) := p
        by_cases hz : z.length ≤ sizeLine
        · rw [if_pos hz] at p
          exact .inr (.inl ⟨z, by rw [r.str], hz, p w H _ (.refl _ _) hs (.inl (.int _))⟩)
        · rw [if_neg hz] at p; exact p.elim
      | cell n =>
        unfold lenD at p
        cases e1 : cellD M n with
        | none => simp only [e1] at p; exact li p
        | some kvs =>
          simp only [e1] at p
          rcases r with r | ⟨_, h | h, _⟩
          · cases r with
            | cell hn =>
              obtain ⟨_, us, hH, q⟩ := hs.cells n _ _ hn (cellD_some e1)
              exact .inr (.inr ⟨_, us, rfl, hH, by rw [q.length]; exact p w H _ (.refl _ _) hs (.inl (.int _))⟩)
          · cases h
          · cases h
      | _ => exact li p
/-- int -/
def intD (ds : List D) (M : Mem) : R D := match ds with
  | [.int i] => .ok (.int i) M
  | [.bl b] => .ok (.int (if b then 1 else 0)) M
  | _ => .bad
theorem intG : CallG X W (fun xs H Q => (∃ i, xs = [.int i] ∧ Q (.int i) H) ∨ ∃ k, xs = [.bl k] ∧ Q (.int (if k then 1 else 0)) H) intD := by
  intro S w M H σ xs ds Q hs rs p
  cases ds with
  | nil => exact p.elim
  | cons d t =>
    cases t with
    | cons _ _ => exact absurd p (by cases d <;> exact id)
    | nil =>
      obtain ⟨x, rfl, r⟩ := rs.one
      cases d with
      | int i => exact .inl ⟨i, by rw [r.int], p w H _ (.refl _ _) hs (.inl (.int _))⟩
      | bl i => exact .inr ⟨i, by rw [r.bl], p w H _ (.refl _ _) hs (.inl (.int _))⟩
      | _ => exact p.elim
/-- list, tuple -/
def listD (ds : List D) (M : Mem) : R D := match ds with
  | [d] => ofO ((sqs d M).map .own) M
  | _ => .bad
def tupleD (ds : List D) (M : Mem) : R D := match ds with
  | [d] => ofO ((sqs d M).map .tup) M
  | _ => .bad
theorem listG : CallG X W (fun xs H Q => ∃ p ys, xs = [.ref p] ∧ (SqL X.K H p ys ∨ SqT X.K H p ys) ∧ ∀ l, H l = none → Q (.ref l) (upd H l (.lst ys))) listD := by
  intro S w M H σ xs ds Q hs rs p
  cases ds with
  | nil => exact p.elim
  | cons d t =>
    cases t with
    | cons _ _ => exact p.elim
    | nil =>
      obtain ⟨x, rfl, r⟩ := rs.one
      have p : Pst X.K W w H σ (rlE X.K S) Q (ofO ((sqs d M).map .own) M) := p
      cases e1 : sqs d M with
      | none => rw [e1] at p; exact p.elim
      | some ys =>
        rw [e1] at p
        obtain ⟨a, us, rfl, hq, q⟩ := r.sqs hs e1
        exact ⟨a, us, rfl, hq, fun b hb => fresh_own hs q p hb⟩
theorem tupleG : CallG X W (fun xs H Q => ∃ p ys, xs = [.ref p] ∧ ((SqL X.K H p ys ∧ ∀ l, H l = none → Q (.ref l) (upd H l (.tup ys))) ∨ (SqT X.K H p ys ∧ Q (.ref p) H))) tupleD := by
  intro S w M H σ xs ds Q hs rs p
  cases ds with
  | nil => exact p.elim
  | cons d t =>
    cases t with
    | cons _ _ => exact p.elim
    | nil =>
      obtain ⟨x, rfl, r⟩ := rs.one
      have p : Pst X.K W w H σ (rlE X.K S) Q (ofO ((sqs d M).map .tup) M) := p
      by_cases ht : ∃ ys, d = .tup ys
      · obtain ⟨ys, rfl⟩ := ht
        obtain ⟨a, us, rfl, hq, q⟩ := r.tup hs
        have b0 : Rep X.K w (.ref a) (.tup ys) := by
          rcases r with r1 | ⟨_, r1 | r1, _⟩
          · exact r1
          · cases r1
          · cases r1
        exact ⟨a, us, rfl, .inr ⟨hq, p w H _ (.refl _ _) hs (.inl b0)⟩⟩
      · have es : sqs d M = lsq d M := by cases d <;> first | rfl | exact absurd ⟨_, rfl⟩ ht
        rw [es] at p
        cases e1 : lsq d M with
        | none => rw [e1] at p; exact p.elim
        | some ys =>
          rw [e1] at p
          obtain ⟨a, us, rfl, hq, q⟩ := r.lsq hs e1
          refine ⟨a, us, rfl, .inl ⟨hq, fun b hb => ?_⟩⟩
          obtain ⟨s2, y⟩ := hs.imm (o := .tup us) hb
          exact p _ _ _ y s2 (.inl (.tup (.of upd_same) (q.mono y)))
/-- isinstance, of a built-in class -/
def tyName (d : D) (M : Mem) : Option String := match d with
  | .non => some "NoneType"
  | .bl _ => some "bool"
  | .int _ => some "int"
  | .str _ => some "str"
  | .tup _ => some "tuple"
  | .cell n => match cellD M n with
    | some _ => some "dict"
    | none => (cellL M n).map fun _ => "list"
  | d => (lsq d M).map fun _ => "list"
def isiD (ds : List D) (M : Mem) : R D := match ds with
  | [d, .ty n] => match tyName d M with
    | some t => ofO ((kitB t n).map .bl) M
    | none => .bad
  | _ => .bad
theorem RepR.tyx {K : PySem.W.Frag} {w : Wd} {H : Hp} {M : Mem} {v : V} {d : D} {t : String} (r : RepR K w H v d) (hs : HS K w M H) (e : tyName d M = some t) : TyX K H v (.type t) := by
  have li : (L3.lsq d M).map (fun _ => "list") = some t → TyX K H v (.type t) := fun e => by
    cases e1 : L3.lsq d M with
    | none => rw [e1] at e; cases e
    | some xs =>
      rw [e1] at e
      cases e
      obtain ⟨a, us, rfl, (hq | ⟨o, hq⟩) | ⟨o, its, n, hk, hc, _⟩, q⟩ := r.lsq hs e1
      · exact .base (.lst hq)
      · exact .base (.frz hq)
      · exact .kList hk hc
  cases d with
  | non => rw [r.non]; cases e; exact .base .non
  | bl b => rw [r.bl]; cases e; exact .base (.bl _)
  | int b => rw [r.int]; cases e; exact .base (.int _)
  | str b => rw [r.str]; cases e; exact .base (.str _)
  | tup xs =>
    cases e
    obtain ⟨a, us, rfl, (hq | ⟨o, hq⟩) | ⟨o, its, n, hk, hc, _⟩, q⟩ := r.tup hs
    · exact .base (.tup hq)
    · exact .fTuple hq
    · exact .kTuple hk hc
  | cell n =>
    unfold tyName at e
    cases e1 : cellD M n with
    | none => simp only [e1] at e; exact li e
    | some kvs =>
      simp only [e1] at e
      cases e
      rcases r with r | ⟨_, h | h, _⟩
      · cases r with
        | cell hn =>
          obtain ⟨_, us, hH, q⟩ := hs.cells n _ _ hn (cellD_some e1)
          exact .base (.dK hH)
      · cases h
      · cases h
  | _ => exact li e
theorem isiG : CallG X W (rIsi X.K) isiD := by
  intro S w M H σ xs ds Q hs rs p
  by_cases h : ∃ d n, ds = [d, .ty n]
  · obtain ⟨d, n, rfl⟩ := h
    obtain ⟨x, y, rfl, r1, r2⟩ := rs.two
    have p : Pst X.K W w H σ (rlE X.K S) Q (match tyName d M with
      | some t => ofO ((kitB t n).map .bl) M
      | none => .bad) := p
    cases e1 : tyName d M with
    | none => rw [e1] at p; exact p.elim
    | some t =>
      rw [e1] at p
      have p : Pst X.K W w H σ (rlE X.K S) Q (ofO ((kitB t n).map .bl) M) := p
      cases e2 : kitB t n with
      | none => rw [e2] at p; exact p.elim
      | some b =>
        rw [e2] at p
        rw [r2.ty]
        exact ⟨x, .ty n, .type t, .type n, b, rfl, .ty n, r1.tyx hs e1, kit_ty e2, p w H _ (.refl _ _) hs (.inl (.bl _))⟩
  · have e : isiD ds M = .bad := by
      cases ds with
      | nil => rfl
      | cons d t =>
        cases t with
        | nil => rfl
        | cons d2 t =>
          cases t with
          | nil => cases d2 <;> first | rfl | exact absurd ⟨_, _, rfl⟩ h
          | cons _ _ => cases d2 <;> rfl
    rw [e] at p; exact p.elim
end
end L3
namespace L3
open PySem PySem.Spec PyProof.Rows L2

/-! ## statements -/
inductive RS where
  | nx (e : En) (M : Mem) | rt (d : D) (M : Mem) | bk (e : En) (M : Mem) | ct (e : En) (M : Mem) | exc (C : Addr) (fs : List (Str × D)) (e : En) (M : Mem) | bad
abbrev SS := En → Mem → RS
@[inline] def R.bindS {α : Type} (r : R α) (e : En) (k : α → Mem → RS) : RS := match r with
  | .ok a M => k a M | .exc C fs M => .exc C fs e M | .bad => .bad
theorem R.bindS_ok {α : Type} (a : α) (M : Mem) (e : En) (k : α → Mem → RS) : (R.ok a M).bindS e k = k a M := rfl
theorem R.bindS_exc {α : Type} (C : Addr) (fs : List (Str × D)) (M : Mem) (e : En) (k : α → Mem → RS) : (R.exc C fs M).bindS e k = .exc C fs e M := rfl
theorem R.bindS_bad {α : Type} (e : En) (k : α → Mem → RS) : (R.bad).bindS e k = .bad := rfl
/-- what each slot owns stands apart -/
structure SR (K : PySem.W.Frag) (S : Addr → Prop) (w : Wd) (H : Hp) (σ : L2.St) (e : En) : Prop extends SX K S w H σ e where
  dist : ∀ (i j : Nat) (ds ds' : List D) (a : Addr), i ≠ j → e[i]? = some (some (.own ds)) → e[j]? = some (some (.own ds')) → σ[i]? = some (some (.ref a)) → σ[j]? = some (some (.ref a)) → False
def PstS (K : PySem.W.Frag) (W : WX) (S : Addr → Prop) (w : Wd) (H : Hp) (E : Ends) : RS → Prop
  | .nx e' M' => ∀ w' H' σ', Ext S w H w' H' → HS K w' M' H' → SR K S w' H' σ' e' → E.nx σ' H'
  | .bk e' M' => ∀ w' H' σ', Ext S w H w' H' → HS K w' M' H' → SR K S w' H' σ' e' → E.bk σ' H'
  | .ct e' M' => ∀ w' H' σ', Ext S w H w' H' → HS K w' M' H' → SR K S w' H' σ' e' → E.ct σ' H'
  | .rt d M' => ∀ w' H' v, Ext S w H w' H' → HS K w' M' H' → Rep K w' v d → E.rt v H'
  | .exc C fs e' M' => ∀ w' H' σ' od, Ext S w H w' H' → HS K w' M' H' → SR K S w' H' σ' e' → XF K w' H' od fs → W (.ref C) od σ' H'
  | .bad => False
abbrev Live (S : Addr → Prop) (H : Hp) : Prop := ∀ a, S a → ∃ o, H a = some o
def tS (K : PySem.W.Frag) (W : WX) (f : SS) : TS := fun E σ H => ∃ S w e M, HS K w M H ∧ SR K S w H σ e ∧ Live S H ∧ PstS K W S w H E (f e M)
abbrev AS (X : Cx) (W : WX) (st : Stmt) (f : SS) : Prop := PS X st (tS X.K W f)
abbrev ASs (X : Cx) (W : WX) (st : List Stmt) (f : SS) : Prop := PSs X st (tS X.K W f)
section
variable {K : PySem.W.Frag} {W : WX} {S : Addr → Prop} {w w' : Wd} {H H' : Hp} {σ : L2.St} {e : En} {M : Mem}
theorem SR.mono (h : SR K S w H σ e) (x : Ext All w H w' H') : SR K S w' H' σ e := ⟨h.toSX.mono x, h.dist⟩
theorem Live.on (h : Live S H) (x : Ext S w H w' H') : Live S H' := fun a s => let ⟨o, q⟩ := h a s; x.tr a o q
theorem PstS.shift {E : Ends} {r : RS} (x : Ext S w H w' H') (h : PstS K W S w H E r) : PstS K W S w' H' E r := by
  cases r with
  | nx e M => exact fun w2 H2 σ2 y s q => h w2 H2 σ2 (x.trans y) s q
  | bk e M => exact fun w2 H2 σ2 y s q => h w2 H2 σ2 (x.trans y) s q
  | ct e M => exact fun w2 H2 σ2 y s q => h w2 H2 σ2 (x.trans y) s q
  | rt d M => exact fun w2 H2 σ2 y s q => h w2 H2 σ2 (x.trans y) s q
  | exc C fs e M => exact fun w2 H2 σ2 od y s q => h w2 H2 σ2 od (x.trans y) s q
  | bad => exact h
theorem PstS.bindE {α β : Type} {rel : Rl β α} {Q : β → Hp → Prop} {r : R α} {k : α → Mem → RS} {E : Ends} (sr : SR K S w H σ e) (h : PstS K W S w H E (r.bindS e k))
    (hk : ∀ a M' w' H' v, Ext All w H w' H' → HS K w' M' H' → rel H w' H' v a → PstS K W S w' H' E (k a M') → Q v H') : Pst K W w H σ rel Q r := by
  cases r with
  | ok a M' => exact fun w' H' v x s q => hk a M' w' H' v x s q (PstS.shift x.of h)
  | exc C fs M' => exact fun w' H' od x s q => h w' H' σ od x.of s (sr.mono x) q
  | bad => exact h
/-- a statement that begins with an expression -/
theorem tS.step {α β : Type} {rel : (Addr → Prop) → Rl β α} {f : En → Mem → R α} {k : En → α → Mem → RS} {Q : β → Hp → Prop} {E : Ends} (h : tS K W (fun e M => (f e M).bindS e (k e)) E σ H)
    (hk : ∀ (S : Addr → Prop) (w : Wd) (e : En) (w' : Wd) (M' : Mem) (H' : Hp) (v : β) (a : α), HS K w' M' H' → SR K S w' H' σ e → Live S H → Ext All w H w' H' → rel S H w' H' v a → PstS K W S w' H' E (k e a M') → SR K S w H σ e → PstS K W S w H E (k e a M') → Q v H') : tG K W rel f σ H Q := by
  obtain ⟨S, w, e, M, hs, sr, lv, p⟩ := h
  refine ⟨S, w, e, M, hs, sr.toSX, ?_⟩
  have p : PstS K W S w H E ((f e M).bindS e (k e)) := p
  cases hf : f e M with
  | ok a M' =>
    rw [hf] at p
    exact fun w' H' v x s q => hk S w e w' M' H' v a s (sr.mono x) lv x q (PstS.shift x.of p) sr p
  | exc C fs M' => rw [hf] at p; exact fun w' H' od x s q => p w' H' σ od x.of s (sr.mono x) q
  | bad => rw [hf] at p; exact p
/-- a loose list becomes a cell -/
theorem HS.adopt {w0 : Wd} {H0 : Hp} {a : Addr} {us : List V} {ds : List D} (h : HS K w M H) (hb : w.B a = none) (hr : a ∉ w.ρ) (hH : H a = some (.lst us)) (q : Reps K w us ds) (x : Ext All w0 H0 w H) (h0 : H0 a = none) :
    HS K ⟨w.B, w.ρ ++ [a]⟩ (M ++ [.lst ds]) H ∧ Ext All w0 H0 ⟨w.B, w.ρ ++ [a]⟩ H := by
  have hr' : ∀ (n : Nat) (b : Addr), w.ρ[n]? = some b → (w.ρ ++ [a])[n]? = some b := fun n b e => by
    rw [List.getElem?_append_left (List.getElem?_eq_some_iff.mp e).1]; exact e
  have mo : ∀ {us : List V} {ds : List D}, Reps K w us ds → Reps K ⟨w.B, w.ρ ++ [a]⟩ us ds := fun {us ds} r => Reps.mono' (w := w) (w' := ⟨w.B, w.ρ ++ [a]⟩) (fun _ _ z => z) hr' r
  have moK : ∀ {us : List (Key × V)} {ds : List (Key × D)}, KvR K w us ds → KvR K ⟨w.B, w.ρ ++ [a]⟩ us ds := fun {us ds} r => KvR.mono' (w := w) (w' := ⟨w.B, w.ρ ++ [a]⟩) r (fun _ _ z => z) hr'
  have moT : ∀ {us : List (List Key × V)} {ds : List (List Key × D)}, KvR K w us ds → KvR K ⟨w.B, w.ρ ++ [a]⟩ us ds := fun {us ds} r => KvR.mono' (w := w) (w' := ⟨w.B, w.ρ ++ [a]⟩) r (fun _ _ z => z) hr'
  have moF : ∀ {us : List (Str × V)} {ds : List (Str × D)}, FsR K w us ds → FsR K ⟨w.B, w.ρ ++ [a]⟩ us ds := fun {us ds} r => FsR.mono' (w := w) (w' := ⟨w.B, w.ρ ++ [a]⟩) (fun _ _ z => z) hr' r
  have ex : Ext All w0 H0 ⟨w.B, w.ρ ++ [a]⟩ H := ⟨x.b, fun n b e => hr' n b (x.r n b e), fun b e => by
      rcases List.mem_append.mp e with e | e
      · exact x.nw b e
      · have : b = a := by simpa using e
        subst this
        exact .inr h0, x.fr, x.tr, x.bn⟩
  refine ⟨⟨h.same, by simp [h.len], ?_, fun n b o e1 e2 => ?_, fun P ps e => ?_, h.tups⟩, ex⟩
  · refine List.nodup_append.mpr ⟨h.nd, by simp, fun c hc d hd e => ?_⟩
    have : d = a := by simpa using hd
    subst this; subst e; exact hr hc
  · have e1 : (w.ρ ++ [a])[n]? = some b := e1
    rcases getE e1 with ⟨l1, q1⟩ | ⟨l1, q1⟩
    · rcases getE e2 with ⟨l2, q2⟩ | ⟨l2, q2⟩
      · have c := h.cells n b o q1 q2
        cases o with
        | lst ds => obtain ⟨b1, us, h1, r⟩ := c; exact ⟨b1, us, h1, mo r⟩
        | dic ds => obtain ⟨b1, us, h1, r⟩ := c; exact ⟨b1, us, h1, moK r⟩
        | dit ds => obtain ⟨b1, us, h1, r⟩ := c; exact ⟨b1, us, h1, moT r⟩
        | ins C fs => obtain ⟨b1, dx, us, h1, r⟩ := c; exact ⟨b1, dx, us, h1, moF r⟩
        | dead => exact c
      · have := h.len; omega
    · rcases getE e2 with ⟨l2, q2⟩ | ⟨l2, q2⟩
      · have := h.len; omega
      · subst q1; subst q2
        exact ⟨hb, us, hH, mo q⟩
  · obtain ⟨t1, t2, t3⟩ := h.tabs P ps e
    refine ⟨t1, t2, fun hm => ?_⟩
    rcases List.mem_append.mp hm with hm | hm
    · exact t3 hm
    · have : P = a := by simpa using hm
      rw [this, hH] at e; cases e
theorem get_set {α : Type} {l : List α} {i j : Nat} {x y : α} (h : (l.set i x)[j]? = some y) : (j = i ∧ y = x) ∨ (j ≠ i ∧ l[j]? = some y) := by
  by_cases hj : j = i
  · subst hj
    by_cases hl : j < l.length
    · rw [List.getElem?_set_self hl] at h; cases h; exact .inl ⟨rfl, rfl⟩
    · rw [List.getElem?_eq_none (by simpa using hl)] at h; cases h
  · rw [List.getElem?_set_ne (Ne.symm hj)] at h; exact .inr ⟨hj, h⟩
/-- a slot gets a value -/
theorem SR.set {v : V} {d : D} {i : Nat} (h : SR K S w H σ e) (r : RepV K S w H v d) (hd : ∀ ds a, d = .own ds → v = .ref a → ∀ j ds', e[j]? = some (some (.own ds')) → j ≠ i → σ[j]? ≠ some (some (.ref a))) : SR K S w H (σ.set i (some v)) (e.set i (some d)) := by
  refine ⟨⟨by simp [h.len], fun j d' q => ?_⟩, fun j k ds ds' a hjk q1 q2 q3 q4 => ?_⟩
  · have hl0 : j < (e.set i (some d)).length := (List.getElem?_eq_some_iff.mp q).1
    rcases get_set q with ⟨e1, e2⟩ | ⟨hj, q⟩
    · subst e1
      have e2 : d' = d := by simpa using e2
      subst e2
      have hl : j < σ.length := by
        rw [← h.len]
        simpa using hl0
      exact ⟨v, by rw [List.getElem?_set_self hl], r⟩
    · obtain ⟨u, e1, r1⟩ := h.at_ j d' q
      exact ⟨u, by rw [List.getElem?_set_ne (Ne.symm hj)]; exact e1, r1⟩
  · rcases get_set q1 with ⟨rfl, e1⟩ | ⟨hj, e1⟩
    · rcases get_set q2 with ⟨rfl, e2⟩ | ⟨hk, e2⟩
      · exact hjk rfl
      · rcases get_set q3 with ⟨_, e3⟩ | ⟨z, _⟩
        · cases e1; cases e3
          rw [List.getElem?_set_ne (Ne.symm hk)] at q4
          exact hd _ a rfl rfl k ds' e2 hk q4
        · exact z rfl
    · rcases get_set q2 with ⟨rfl, e2⟩ | ⟨hk, e2⟩
      · rcases get_set q4 with ⟨_, e4⟩ | ⟨z, _⟩
        · cases e2; cases e4
          rw [List.getElem?_set_ne (Ne.symm hj)] at q3
          exact hd _ a rfl rfl j ds e1 hj q3
        · exact z rfl
      · rw [List.getElem?_set_ne (Ne.symm hj)] at q3
        rw [List.getElem?_set_ne (Ne.symm hk)] at q4
        exact h.dist j k ds ds' a hjk e1 e2 q3 q4
theorem SR.setD {v : V} {d : D} {i : Nat} (h : SR K S w H σ e) (r : Rep K w v d) : SR K S w H (σ.set i (some v)) (e.set i (some d)) :=
  h.set (.inl r) fun ds a ed _ => by subst ed; exact (Rep.not_own r).elim
end

/-! ### the simple ones -/
def sNext : SS := fun e M => .nx e M
def sBreak : SS := fun e M => .bk e M
def sCont : SS := fun e M => .ct e M
def sSeq (a b : SS) : SS := fun e M => match a e M with
  | .nx e' M' => b e' M'
  | r => r
def sIfS (c : SB) (a b : SS) : SS := fun e M => (c e M).bindS e fun k M => if k = true then a e M else b e M
def sExpr (f : SE) : SS := fun e M => (f e M).bindS e fun _ M => .nx e M
def ret1 (d : D) (M : Mem) : RS := match d with
  | .own ds => .rt (.lst ds) M
  | .brw ds => .rt (.lst ds) M
  | d => .rt d M
def sRet (f : SE) : SS := fun e M => (f e M).bindS e ret1
def sRetN : SS := fun _ M => .rt .non M
/-- name = data -/
def sAsg (i : Nat) (f : SE) : SS := fun e M => (f e M).bindS e fun d M => .nx (e.set i (some d)) M
/-- name = a list just made, owned by the name -/
def own1 (i : Nat) (e : En) (d : D) (M : Mem) : RS := match d with
  | .own ds => .nx (e.set i (some (.own ds))) M
  | _ => .bad
def sAsgO (i : Nat) (f : SE) : SS := fun e M => (f e M).bindS e (own1 i e)
/-- name = a list just made, a cell from now on -/
def cell1 (i : Nat) (e : En) (d : D) (M : Mem) : RS := match d with
  | .own ds => .nx (e.set i (some (.cell M.length))) (M ++ [.lst ds])
  | _ => .bad
def sAsgC (i : Nat) (f : SE) : SS := fun e M => (f e M).bindS e (cell1 i e)
section
variable {X : Cx} {W : WX} {pos : Pos}
theorem ss_nil : ASs X W [] sNext := PSs.imp pss_nil fun E σ H h => by
  obtain ⟨S, w, e, M, hs, sr, lv, p⟩ := h
  exact p w H σ (.refl _ _) hs sr
theorem ss_one {st : Stmt} {f : SS} (h : AS X W st f) : ASs X W [st] f := pss_one h
theorem PstS.seq {K : PySem.W.Frag} {S : Addr → Prop} {w : Wd} {H : Hp} {E : Ends} {r : RS} {b : SS} (lv : Live S H) (h : PstS K W S w H E (match r with
  | .nx e' M' => b e' M'
  | r => r)) : PstS K W S w H { E with nx := tS K W b E } r := by
  cases r with
  | nx e M => exact fun w' H' σ' x s q => ⟨S, w', e, M, s, q, lv.on x, h.shift x⟩
  | bk e M => exact h
  | ct e M => exact h
  | rt d M => exact h
  | exc C fs e M => exact h
  | bad => exact h
theorem ss_cons {st : Stmt} {rest : List Stmt} {f g : SS} (h : AS X W st f) (t : ASs X W rest g) : ASs X W (st :: rest) (sSeq f g) := PSs.imp (pss_cons h t) fun E σ H q => by
  obtain ⟨S, w, e, M, hs, sr, lv, p⟩ := q
  exact ⟨S, w, e, M, hs, sr, lv, PstS.seq lv p⟩
theorem s_pass : AS X W (.Pass pos) sNext := PS.imp ps_pass fun E σ H h => by
  obtain ⟨S, w, e, M, hs, sr, lv, p⟩ := h
  exact p w H σ (.refl _ _) hs sr
theorem s_doc {x j pos pos'} : AS X W (.Expr (.Constant (.str x) j pos) pos') sNext := PS.imp ps_doc fun E σ H h => by
  obtain ⟨S, w, e, M, hs, sr, lv, p⟩ := h
  exact p w H σ (.refl _ _) hs sr
theorem s_break : AS X W (.Break pos) sBreak := PS.imp ps_break fun E σ H h => by
  obtain ⟨S, w, e, M, hs, sr, lv, p⟩ := h
  exact p w H σ (.refl _ _) hs sr
theorem s_cont : AS X W (.Continue pos) sCont := PS.imp ps_continue fun E σ H h => by
  obtain ⟨S, w, e, M, hs, sr, lv, p⟩ := h
  exact p w H σ (.refl _ _) hs sr
theorem s_expr {e : Expr} {f : SE} (h : AE X W e f) (hs : swapsWith e none pos.line X.env = pure false := by rfl) : AS X W (.Expr e pos) (sExpr f) := PS.imp (ps_expr h hs) fun E σ H q =>
  tS.step (k := fun e _ M => .nx e M) q fun S w e w' M' H' v d s sr lv x r p _ _ => p w' H' σ (.refl _ _) s sr
theorem RepO.ret {K : PySem.W.Frag} {S : Addr → Prop} {w0 w : Wd} {H0 H : Hp} {M : Mem} {v : V} {d : D} {E : Ends} (lv : Live S H0) (x : Ext All w0 H0 w H) (r : RepO K S H0 w H v d) (hs : HS K w M H) (p : PstS K W S w H E (ret1 d M)) : E.rt v H := by
  have lo : ∀ {ds : List D}, Loose K w H v ds (fun a => ¬ S a) → PstS K W S w H E (.rt (.lst ds) M) → E.rt v H := fun {ds} l p => by
    obtain ⟨a, us, rfl, hn, hb, hr, hH, q⟩ := l
    obtain ⟨s2, y⟩ := hs.freezeO (S := S) hb hr hH hn
    exact p _ _ _ y s2 (.lst upd_same (q.mono y))
  rcases r with r | ⟨ds, rfl, l⟩ | ⟨ds, rfl, l⟩
  · cases d <;> first | exact p w H v (.refl _ _) hs r | exact (Rep.not_own r).elim | exact (Rep.not_brw r).elim
  · exact lo (l.imp fun a ha sa => by obtain ⟨o, e⟩ := lv a sa; rw [ha] at e; cases e) p
  · exact lo l p
theorem s_ret {e : Expr} {f : SE} (h : AE X W e f) : AS X W (.Return (some e) pos) (sRet f) := PS.imp (ps_ret h) fun E σ H q =>
  tS.step (k := fun _ d M => ret1 d M) q fun S w e w' M' H' v d s sr lv x r p _ _ => RepO.ret lv x r s p
theorem s_retN : AS X W (.Return none pos) sRetN := PS.imp ps_retN fun E σ H h => by
  obtain ⟨S, w, e, M, hs, sr, lv, p⟩ := h
  exact p w H .non (.refl _ _) hs .non
theorem s_if {c : Expr} {a b : List Stmt} {fc : SB} {f g : SS} (hc : AB X W c fc) (ha : ASs X W a f) (hb : ASs X W b g) : AS X W (.If c a b pos) (sIfS fc f g) := PS.imp (ps_if hc ha hb) fun E σ H q =>
  tS.step (k := fun e k M => if k = true then f e M else g e M) q fun S w e w' M' H' v d s sr lv x r p _ _ => by
    have r : v = d := r
    subst r
    have lv' : Live S H' := lv.on x.of
    cases v with
    | true => exact ⟨S, w', e, M', s, sr, lv', p⟩
    | false => exact ⟨S, w', e, M', s, sr, lv', p⟩
theorem asg_of {K : PySem.W.Frag} {i : Nat} {f : SE} {E : Ends} {σ : L2.St} {H : Hp} (q : tS K W (sAsg i f) E σ H) : tF K W f σ H fun x H1 => E.nx (σ.set i (some x)) H1 :=
  tS.step (k := fun e d M => .nx (e.set i (some d)) M) q fun S w e w' M' H' v d s sr lv x r p _ _ => p w' H' _ (.refl _ _) s (sr.setD r)
theorem s_asg {i : Nat} {x : Str} {e : Expr} {f : SE} {pos' : Pos} (hN : X.N.Nodup) (hi : X.N[i]? = some x) (hx : Loc X.env.scope x) (h : AF X W e f) (hs : swapsWith e (some (.Name x pos')) pos.line X.env = pure false := by rfl) (hf : X.fn x = true ∨ X.env.scope.names.lookup x = some .local := by first | exact .inl rfl | exact .inr rfl | assumption) :
    AS X W (.Assign [.Name x pos'] e pos) (sAsg i f) := PS.imp (ps_set hN hi hx h hs hf) fun E σ H q => asg_of q
theorem Loose.toV {K : PySem.W.Frag} {S : Addr → Prop} {w : Wd} {H0 H : Hp} {v : V} {ds : List D} (lv : Live S H0) (l : Loose K w H v ds fun a => H0 a = none) : Loose K w H v ds fun a => ¬ S a :=
  l.imp fun a ha sa => by obtain ⟨o, e⟩ := lv a sa; rw [ha] at e; cases e
/-- a list just made is no slot's -/
theorem SR.fresh {K : PySem.W.Frag} {S : Addr → Prop} {w : Wd} {H : Hp} {σ : L2.St} {e : En} {a : Addr} (h : SR K S w H σ e) (ha : H a = none) {j : Nat} {ds : List D} (q : e[j]? = some (some (.own ds))) : σ[j]? ≠ some (some (.ref a)) := fun z => by
  obtain ⟨v, e1, r⟩ := h.at_ j _ q
  rw [z] at e1
  cases e1
  rcases r with r | ⟨ds', _, b, us, eb, _, _, _, hH, _⟩
  · exact Rep.not_own r
  · cases eb; rw [ha] at hH; cases hH
theorem asgO_of {K : PySem.W.Frag} {i : Nat} {f : SE} {E : Ends} {σ : L2.St} {H : Hp} (q : tS K W (sAsgO i f) E σ H) : tE K W f σ H fun x H1 => E.nx (σ.set i (some x)) H1 :=
  tS.step (k := fun e d M => own1 i e d M) q fun S w e w' M' H' v d s sr lv x r p sr0 p0 => by
    cases d with
    | own ds =>
      rcases r with r | ⟨ds', ed, l⟩ | ⟨ds', ed, l⟩
      · exact (Rep.not_own r).elim
      · cases ed
        refine p w' H' _ (.refl _ _) s (sr.set (.inr ⟨ds, rfl, l.toV lv⟩) fun ds2 a _ ev j ds3 q3 _ => ?_)
        obtain ⟨b, us, eb, hb, _⟩ := l
        rw [ev] at eb
        cases eb
        exact sr0.fresh hb q3
      · cases ed
    | _ => exact p.elim
theorem s_asgO {i : Nat} {x : Str} {e : Expr} {f : SE} {pos' : Pos} (hN : X.N.Nodup) (hi : X.N[i]? = some x) (hx : Loc X.env.scope x) (h : AE X W e f) (hs : swapsWith e (some (.Name x pos')) pos.line X.env = pure false := by rfl) (hf : X.fn x = true ∨ X.env.scope.names.lookup x = some .local := by first | exact .inl rfl | exact .inr rfl | assumption) :
    AS X W (.Assign [.Name x pos'] e pos) (sAsgO i f) := PS.imp (ps_set hN hi hx h hs hf) fun E σ H q => asgO_of q
theorem asgC_of {K : PySem.W.Frag} {i : Nat} {f : SE} {E : Ends} {σ : L2.St} {H : Hp} (q : tS K W (sAsgC i f) E σ H) : tE K W f σ H fun x H1 => E.nx (σ.set i (some x)) H1 :=
  tS.step (k := fun e d M => cell1 i e d M) q fun S w e w' M' H' v d s sr lv x r p sr0 p0 => by
    cases d with
    | own ds =>
      rcases r with r | ⟨ds', ed, a, us, rfl, ha, hb, hr, hH, q⟩ | ⟨ds', ed, l⟩
      · exact (Rep.not_own r).elim
      · cases ed
        obtain ⟨s2, y⟩ := s.adopt hb hr hH q x ha
        refine p0 _ _ _ y.of s2 (SR.setD (sr0.mono y) (.cell ?_))
        show (w'.ρ ++ [a])[M'.length]? = some a
        rw [← s.len]
        simp
      · cases ed
    | _ => exact p.elim
theorem s_asgC {i : Nat} {x : Str} {e : Expr} {f : SE} {pos' : Pos} (hN : X.N.Nodup) (hi : X.N[i]? = some x) (hx : Loc X.env.scope x) (h : AE X W e f) (hs : swapsWith e (some (.Name x pos')) pos.line X.env = pure false := by rfl) (hf : X.fn x = true ∨ X.env.scope.names.lookup x = some .local := by first | exact .inl rfl | exact .inr rfl | assumption) :
    AS X W (.Assign [.Name x pos'] e pos) (sAsgC i f) := PS.imp (ps_set hN hi hx h hs hf) fun E σ H q => asgC_of q
end
end L3
namespace L3
open PySem PySem.Spec PyProof.Rows L2

section
variable {K : PySem.W.Frag} {W : WX} {S : Addr → Prop} {w w' : Wd} {H H' : Hp} {σ : L2.St} {e : En} {M : Mem}
theorem PstS.expr {α β : Type} {rel : Rl β α} {Q : β → Hp → Prop} {r : R α} {k : α → Mem → RS} {E : Ends} (sr : SR K S w H σ e) (p : PstS K W S w H E (r.bindS e k))
    (hk : ∀ (a : α) (M' : Mem) (w' : Wd) (H' : Hp) (v : β), Ext All w H w' H' → HS K w' M' H' → SR K S w' H' σ e → rel H w' H' v a → PstS K W S w H E (k a M') → Q v H') : Pst K W w H σ rel Q r := by
  cases r with
  | ok a M' => exact fun w' H' v x s q => hk a M' w' H' v x s (sr.mono x) q p
  | exc C fs M' => exact fun w' H' od x s q => p w' H' σ od x.of s (sr.mono x) q
  | bad => exact p
/-- an owned list is written -/
theorem SR.wr {i : Nat} {ds ds' : List D} {a : Addr} {us' : List V} (h : SR K S w H σ e) (he : e[i]? = some (some (.own ds))) (hσ : σ[i]? = some (some (.ref a))) (hb : w.B a = none) (hr : a ∉ w.ρ) (hS : ¬ S a) (q : Reps K w us' ds') :
    SR K S w (upd H a (.lst us')) σ (e.set i (some (.own ds'))) := by
  refine ⟨⟨by simp [h.len], fun j d' z => ?_⟩, fun j k d1 d2 b hjk q1 q2 q3 q4 => ?_⟩
  · rcases get_set z with ⟨rfl, e2⟩ | ⟨hj, z⟩
    · cases e2
      exact ⟨_, hσ, .inr ⟨ds', rfl, a, us', rfl, hS, hb, hr, upd_same, q⟩⟩
    · obtain ⟨u, e1, r1⟩ := h.at_ j d' z
      refine ⟨u, e1, ?_⟩
      rcases r1 with r1 | ⟨d3, rfl, b, us, rfl, b1, b2, b3, b4, b5⟩
      · exact .inl r1
      · have hba : b ≠ a := fun z2 => by
          subst z2
          exact h.dist i j ds d3 b (Ne.symm hj) he z hσ e1
        exact .inr ⟨d3, rfl, b, us, rfl, b1, b2, b3, by rw [upd_ne hba]; exact b4, b5⟩
  · have old : ∀ {j : Nat} {d : List D}, (e.set i (some (.own ds')))[j]? = some (some (.own d)) → ∃ d', e[j]? = some (some (.own d')) := fun {j d} z => by
      rcases get_set z with ⟨rfl, _⟩ | ⟨_, z⟩
      · exact ⟨_, he⟩
      · exact ⟨_, z⟩
    obtain ⟨d3, q1⟩ := old q1
    obtain ⟨d4, q2⟩ := old q2
    exact h.dist j k d3 d4 b hjk q1 q2 q3 q4
/-- a slot that may be written: an owned list, a cell -/
inductive Wr (K : PySem.W.Frag) (S : Addr → Prop) (w : Wd) (M : Mem) (H : Hp) (σ : L2.St) (e : En) (i : Nat) : D → Prop
  | own {ds : List D} {a : Addr} {us : List V} : e[i]? = some (some (.own ds)) → σ[i]? = some (some (.ref a)) → ¬ S a → w.B a = none → a ∉ w.ρ → H a = some (.lst us) → Reps K w us ds → Wr K S w M H σ e i (.own ds)
end
/-- what stands in a slot that is to be written -/
def lstAt (e : En) (i : Nat) (M : Mem) : Option (List D) := match eget e i with
  | some (.own ds) => some ds
  | some (.cell n) => cellL M n
  | _ => none
/-- it is written -/
def putAt (e : En) (i : Nat) (ds : List D) (M : Mem) : RS := match eget e i with
  | some (.own _) => .nx (e.set i (some (.own ds))) M
  | some (.cell n) => .nx e (M.set n (.lst ds))
  | _ => .bad
section
variable {K : PySem.W.Frag} {W : WX} {S : Addr → Prop} {w w' : Wd} {H H' : Hp} {σ : L2.St} {e : En} {M : Mem}
theorem SR.lstAt {i : Nat} {ds : List D} (sr : SR K S w H σ e) (hs : HS K w M H) (h : lstAt e i M = some ds) : ∃ a us, σ[i]? = some (some (.ref a)) ∧ H a = some (.lst us) ∧ Reps K w us ds ∧
    ∀ (us' : List V) (ds' : List D) (E : Ends), Reps K w us' ds' → PstS K W S w H E (putAt e i ds' M) → E.nx σ (upd H a (.lst us')) := by
  unfold L3.lstAt at h
  cases he : eget e i with
  | none => rw [he] at h; cases h
  | some d =>
    rw [he] at h
    have he' := eget_iff.mp he
    obtain ⟨v, hσ, r⟩ := sr.at_ i d he'
    cases d with
    | own xs =>
      cases h
      rcases r with r | ⟨_, hx, a, us, rfl, hS, hb, hr, hH, q⟩
      · exact (Rep.not_own r).elim
      · cases hx
        refine ⟨a, us, hσ, hH, q, fun us' ds' E q' p => ?_⟩
        unfold putAt at p
        rw [he] at p
        obtain ⟨s2, y⟩ := hs.writeO (S := S) (o := .lst us') hb hr hS
        exact p w _ σ y s2 (sr.wr he' hσ hb hr hS q')
    | cell n =>
      rcases r with r | ⟨_, hx, _⟩
      · cases r with
        | cell hn =>
          obtain ⟨hb, us, hH, q⟩ := hs.cells n _ _ hn (cellL_some h)
          refine ⟨_, us, hσ, hH, q, fun us' ds' E q' p => ?_⟩
          unfold putAt at p
          rw [he] at p
          obtain ⟨s2, y⟩ := hs.write (o := .lst us') (m := .lst ds') hn hb ⟨hb, us', upd_same, q'⟩
          exact p w _ σ y.of s2 (sr.mono y)
      · cases hx
    | _ => cases h
theorem cell_only {i : Nat} {ds : List D} (h : L3.lstAt e i M = some ds) {M' : Mem} (hM : ∀ n, eget e i = some (.cell n) → cellL M' n = cellL M n) : L3.lstAt e i M' = some ds := by
  unfold L3.lstAt at h ⊢
  cases he : eget e i with
  | none => rw [he] at h; cases h
  | some d =>
    rw [he] at h
    cases d with
    | cell n => rw [← h]; exact hM n he
    | own xs => exact h
    | _ => cases h
end
/-! ### x.append(e), x.pop(), y = x.pop() of a name -/
def app1 (i : Nat) (e : En) (d : D) (M : Mem) : RS := match lstAt e i M with
  | some ds => if ds.length < sizeLine then putAt e i (ds ++ [d]) M else .bad
  | none => .bad
def sApp (i : Nat) (f : SE) : SS := fun e M => match lstAt e i M with
  | some _ => (f e M).bindS e (app1 i e)
  | none => .bad
section
variable {X : Cx} {W : WX} {pos : Pos}
theorem s_app {i : Nat} {x : Str} {e : Expr} {f : SE} {p1 apos cpos : Pos} (hN : X.N[i]? = some x) (hv : Vis X.env.scope x) (h : AF X W e f)
    (hfew : ((backTo cpos (starEach (e :: []) X.env)).all (fun x => !x.1) && (backToKw cpos (keywordEach [] X.env)).all (fun x => x.1.isSome)
      && decide ((e :: []).length + ([] : List Keyword).length + (if ([] : List Keyword).isEmpty then 0 else 1) < 30)) = true := by rfl)
    (hline : (apos.endLine == cpos.line) = true := by rfl) (hs : starEach (e :: []) X.env = (false, eval e X.env) :: starEach [] X.env := by rfl) (hsw : swapsWith (.Call (.Attribute (.Name x p1) "append" apos) [e] [] cpos) none pos.line X.env = pure false := by rfl)
    (hd : (x == ("__debug__" : Str)) = false := by decide) (hcd : (x == ("__classdict__" : Str)) = false := by decide) :
    AS X W (.Expr (.Call (.Attribute (.Name x p1) "append" apos) [e] [] cpos) pos) (sApp i f) :=
  PS.imp (ps_expr (pe_bm PySem.F.plainAttrs_list PySem.F.slot_list_append PySem.F.type_list_append (fun pins s σ H x xs v us Q I rx rs q => mt_append pins s σ H x xs v us Q I rx rs q) (pe_var hN hv hd hcd) (pa_cons h pa_nil hs) rfl hfew hline hs rfl) hsw) fun E σ H q => by
    obtain ⟨S, w, e, M, hs, sr, lv, p⟩ := q
    unfold sApp at p
    cases hl : lstAt e i M with
    | none => rw [hl] at p; exact p.elim
    | some ds0 =>
      rw [hl] at p
      have p : PstS X.K W S w H E ((f e M).bindS e (app1 i e)) := p
      obtain ⟨a, us, hσ, hH, q0, _⟩ := SR.lstAt (W := W) sr hs hl
      refine ⟨.ref a, hσ, .inl ⟨rfl, us, .of hH⟩, S, w, e, M, hs, sr.toSX, p.expr sr fun d M' w' H' v x s sr' r p' => ?_⟩
      unfold app1 at p'
      cases hl' : lstAt e i M' with
      | none => rw [hl'] at p'; exact p'.elim
      | some ds =>
        rw [hl'] at p'
        obtain ⟨a', us', hσ', hH', q', k⟩ := SR.lstAt (W := W) sr' s hl'
        rw [hσ] at hσ'
        cases hσ'
        have p' : PstS X.K W S w H E (if ds.length < sizeLine then putAt e i (ds ++ [d]) M' else .bad) := p'
        by_cases hz : ds.length < sizeLine
        · rw [if_pos hz] at p'
          exact ⟨a, us', v, rfl, rfl, hH', by rw [q'.length]; exact hz, k _ _ E (q'.append (.one r)) (p'.shift x.of)⟩
        · rw [if_neg hz] at p'; exact p'.elim
def pop1 (i : Nat) (k : D → En → SS) : SS := fun e M => match lstAt e i M with
  | some ds => match ds.getLast? with
    | some d => match putAt e i ds.dropLast M with
      | .nx e' M' => k d e e' M'
      | _ => .bad
    | none => .bad
  | none => .bad
def sPop (i : Nat) : SS := pop1 i fun _ _ e M => .nx e M
theorem Reps.last {K : PySem.W.Frag} {w : Wd} {us : List V} {ds : List D} (h : Reps K w us ds) {d : D} (e : ds.getLast? = some d) : ∃ v, us[us.length - 1]? = some v ∧ Rep K w v d := by
  rw [List.getLast?_eq_getElem?] at e
  rw [h.length]
  exact h.get e
theorem putAt_nx {e : En} {i : Nat} {ds ds' : List D} {M : Mem} (h : lstAt e i M = some ds) : ∃ e' M', putAt e i ds' M = .nx e' M' := by
  unfold lstAt at h
  unfold putAt
  cases he : eget e i with
  | none => rw [he] at h; cases h
  | some d =>
    rw [he] at h
    cases d with
    | own xs => exact ⟨_, _, rfl⟩
    | cell n => exact ⟨_, _, rfl⟩
    | _ => cases h
theorem s_pop {i : Nat} {x : Str} {p1 apos cpos : Pos} (hN : X.N[i]? = some x) (hv : Vis X.env.scope x)
    (hline : (apos.endLine == cpos.line) = true := by rfl) (hsw : swapsWith (.Call (.Attribute (.Name x p1) "pop" apos) [] [] cpos) none pos.line X.env = pure false := by rfl)
    (hd : (x == ("__debug__" : Str)) = false := by decide) (hcd : (x == ("__classdict__" : Str)) = false := by decide) :
    AS X W (.Expr (.Call (.Attribute (.Name x p1) "pop" apos) [] [] cpos) pos) (sPop i) :=
  PS.imp (ps_expr (pe_bm0 PySem.F.plainAttrs_list PySem.F.slot_list_pop PySem.F.type_list_pop (fun pins s σ H x xs v us Q I rx rs q => mt_pop pins s σ H x xs v us Q I rx rs q) (pe_var hN hv hd hcd) rfl hline) hsw) fun E σ H q => by
    obtain ⟨S, w, e, M, hs, sr, lv, p⟩ := q
    unfold sPop pop1 at p
    cases hl : lstAt e i M with
    | none => rw [hl] at p; exact p.elim
    | some ds =>
      rw [hl] at p
      obtain ⟨a, us, hσ, hH, q0, k⟩ := SR.lstAt (W := W) sr hs hl
      have p : PstS X.K W S w H E (match ds.getLast? with
        | some d => match putAt e i ds.dropLast M with
          | .nx e' M' => .nx e' M'
          | _ => .bad
        | none => .bad) := p
      cases hg : ds.getLast? with
      | none => rw [hg] at p; exact p.elim
      | some d =>
        rw [hg] at p
        obtain ⟨e', M', hp⟩ := putAt_nx (ds' := ds.dropLast) hl
        have p : PstS X.K W S w H E (match putAt e i ds.dropLast M with
          | .nx e' M' => .nx e' M'
          | _ => .bad) := p
        rw [hp] at p
        obtain ⟨v, e1, r⟩ := q0.last hg
        exact ⟨.ref a, hσ, .inl ⟨rfl, us, .of hH⟩, a, us, v, rfl, rfl, hH, e1, k _ _ E q0.dropLast (by rw [hp]; exact p)⟩
end
end L3
namespace L3
open PySem PySem.Spec PyProof.Rows L2

/-! ### y = x.pop(), return x.pop() -/
def sPopA (j i : Nat) : SS := pop1 i fun d _ e M => .nx (e.set j (some d)) M
/-! ### x[k] = v of a name -/
def set2 (i : Nat) (k d : D) (e : En) (M : Mem) : RS := match k with
  | .int j => match lstAt e i M with
    | some ds => match ixN ds.length j with
      | some m => putAt e i (ds.set m d) M
      | none => .bad
    | none => .bad
  | _ => .bad
def dicAt (e : En) (i : Nat) (M : Mem) : Option (Nat × List (Key × D)) := match eget e i with
  | some (.cell n) => (cellD M n).map fun kvs => (n, kvs)
  | _ => none
def set1 (i : Nat) (k d : D) (e : En) (M : Mem) : RS := match dicAt e i M with
  | some (n, kvs) => match keyOf k with
    | some ky => if (uniqK kvs && decide (kvs.length < sizeLine)) = true then .nx e (M.set n (.dic (dput kvs ky d))) else .bad
    | none => .bad
  | none => set2 i k d e M
def sSet (i : Nat) (fk fv : SE) : SS := fun e M => match eget e i with
  | some _ => (fv e M).bindS e fun d M => (fk e M).bindS e fun k M => set1 i k d e M
  | none => .bad
section
variable {X : Cx} {W : WX} {pos : Pos}
theorem s_popA {j i : Nat} {x y : Str} {p1 apos cpos py : Pos} (hNd : X.N.Nodup) (hj : X.N[j]? = some y) (hy : Loc X.env.scope y) (hN : X.N[i]? = some x) (hv : Vis X.env.scope x)
    (hline : (apos.endLine == cpos.line) = true := by rfl) (hsw : swapsWith (.Call (.Attribute (.Name x p1) "pop" apos) [] [] cpos) (some (.Name y py)) pos.line X.env = pure false := by rfl)
    (hd : (x == ("__debug__" : Str)) = false := by decide) (hcd : (x == ("__classdict__" : Str)) = false := by decide) (hf : X.fn y = true ∨ X.env.scope.names.lookup y = some .local := by first | exact .inl rfl | exact .inr rfl | assumption) :
    AS X W (.Assign [.Name y py] (.Call (.Attribute (.Name x p1) "pop" apos) [] [] cpos) pos) (sPopA j i) :=
  PS.imp (ps_set hNd hj hy (pe_bm0 PySem.F.plainAttrs_list PySem.F.slot_list_pop PySem.F.type_list_pop (fun pins s σ H x xs v us Q I rx rs q => mt_pop pins s σ H x xs v us Q I rx rs q) (pe_var hN hv hd hcd) rfl hline) hsw hf) fun E σ H q => by
    obtain ⟨S, w, e, M, hs, sr, lv, p⟩ := q
    unfold sPopA pop1 at p
    cases hl : lstAt e i M with
    | none => rw [hl] at p; exact p.elim
    | some ds =>
      rw [hl] at p
      obtain ⟨a, us, hσ, hH, q0, k⟩ := SR.lstAt (W := W) sr hs hl
      have p : PstS X.K W S w H E (match ds.getLast? with
        | some d => match putAt e i ds.dropLast M with
          | .nx e' M' => .nx (e'.set j (some d)) M'
          | _ => .bad
        | none => .bad) := p
      cases hg : ds.getLast? with
      | none => rw [hg] at p; exact p.elim
      | some d =>
        rw [hg] at p
        obtain ⟨e', M', hp⟩ := putAt_nx (ds' := ds.dropLast) hl
        have p : PstS X.K W S w H E (match putAt e i ds.dropLast M with
          | .nx e' M' => .nx (e'.set j (some d)) M'
          | _ => .bad) := p
        rw [hp] at p
        have p : PstS X.K W S w H E (.nx (e'.set j (some d)) M') := p
        obtain ⟨v, e1, r⟩ := q0.last hg
        exact ⟨.ref a, hσ, .inl ⟨rfl, us, .of hH⟩, a, us, v, rfl, rfl, hH, e1, k us.dropLast ds.dropLast { E with nx := fun σ' H' => E.nx (σ'.set j (some v)) H' } q0.dropLast (by
          rw [hp]
          exact fun w' H' σ' x s sr' => p w' H' _ x s (sr'.setD (r.mono x)))⟩
def rSetU : V → V → V → Hp → (Hp → Prop) → Prop := fun o i v H Q => rSetL o i v H Q ∨ ∃ a H4, o = .ref a ∧ DPut H a i v H4 ∧ Q H4
theorem set_U (hu : X.A.units + 1 < cLine) : PSet X rSetU := by
  intro pins s σ H o i v ov iv u Q I ro ri rv h
  rcases h with h | ⟨a, H4, rfl, g, q⟩
  · exact set_list pins s σ H o i v ov iv u Q I ro ri rv h
  · cases ro
    exact d_setItem hu I g ri rv fun s4 I4 => ⟨H4, I4, q⟩
theorem set1_G {S : Addr → Prop} {w : Wd} {M : Mem} {H : Hp} {σ : L2.St} {e : En} {i : Nat} {k d : D} {u v : V} {E : Ends} {o : V} (sr : SR X.K S w H σ e) (hs : HS X.K w M H) (ho : σ[i]? = some (some o)) (rk : RepR X.K w H u k) (rv : Rep X.K w v d) (p : PstS X.K W S w H E (set1 i k d e M)) : rSetU o u v H fun H' => E.nx σ H' := by
  unfold set1 at p
  by_cases hd : ∃ n kvs, eget e i = some (.cell n) ∧ cellD M n = some kvs
  · obtain ⟨n, kvs, he, hc⟩ := hd
    have e0 : dicAt e i M = some (n, kvs) := by unfold dicAt; rw [he]; simp only [hc, Option.map_some]
    rw [e0] at p
    have p : PstS X.K W S w H E (match keyOf k with
      | some ky => if (uniqK kvs && decide (kvs.length < sizeLine)) = true then .nx e (M.set n (.dic (dput kvs ky d))) else .bad
      | none => .bad) := p
    cases hk : keyOf k with
    | none => rw [hk] at p; exact p.elim
    | some ky =>
      rw [hk] at p
      have p : PstS X.K W S w H E (if (uniqK kvs && decide (kvs.length < sizeLine)) = true then .nx e (M.set n (.dic (dput kvs ky d))) else .bad) := p
      by_cases hz : (uniqK kvs && decide (kvs.length < sizeLine)) = true
      · rw [if_pos hz] at p
        rw [Bool.and_eq_true] at hz
        obtain ⟨x, hσ, r⟩ := sr.at_ i _ (eget_iff.mp he)
        rw [ho] at hσ
        cases hσ
        rcases r with r | ⟨_, hx, _⟩
        · cases r with
          | cell hn =>
            obtain ⟨hb, us, hH, q⟩ := hs.cells n _ _ hn (cellD_some hc)
            have ek := rk.key hk
            subst ek
            have q' := KvR.put rv q hz.1 (k := ky)
            obtain ⟨s2, y⟩ := hs.write (o := .dK (putK us ky v)) (m := .dic (dput kvs ky d)) hn hb ⟨hb, _, upd_same, q'⟩
            exact .inr ⟨_, _, rfl, .k hH (by rw [q.length]; exact of_decide_eq_true hz.2), p w _ σ y.of s2 (sr.mono y)⟩
        · cases hx
      · rw [if_neg hz] at p; exact p.elim
  · have e0 : dicAt e i M = none := by
      unfold dicAt
      cases he : eget e i with
      | none => rfl
      | some x =>
        cases x with
        | cell n =>
          cases hc : cellD M n with
          | none => simp only [hc, Option.map_none]
          | some kvs => exact absurd ⟨n, kvs, he, hc⟩ hd
        | _ => rfl
    rw [e0] at p
    have p : PstS X.K W S w H E (set2 i k d e M) := p
    unfold set2 at p
    cases k with
    | int j =>
      cases hl : lstAt e i M with
      | none => simp only [hl] at p; exact p.elim
      | some ds =>
        simp only [hl] at p
        obtain ⟨a, us, hσ, hH, q0, kk⟩ := SR.lstAt (W := W) sr hs hl
        rw [ho] at hσ
        cases hσ
        cases hi : ixN ds.length j with
        | none => rw [hi] at p; exact p.elim
        | some m =>
          rw [hi] at p
          rw [rk.int]
          exact .inl ⟨a, us, j, m, rfl, rfl, hH, by rw [q0.length]; exact hi, kk _ _ E (q0.set rv m) p⟩
    | _ => exact p.elim
theorem s_set {i : Nat} {x : Str} {k v : Expr} {fk fv : SE} {p1 tpos : Pos} (hu : X.A.units + 1 < cLine) (hN : X.N[i]? = some x) (hv : Vis X.env.scope x) (hk : AE X W k fk) (h : AF X W v fv)
    (hs : swapsWithSole [.Subscript (.Name x p1) k tpos] v pos.line X.env = pure false := by rfl) (hw : swappedStores [.Subscript (.Name x p1) k tpos] v X.env = pure none := by rfl)
    (h1 : (assignEach [.Subscript (.Name x p1) k tpos] X.env).map (·.2) = [assign (.Subscript (.Name x p1) k tpos) X.env] := by rfl)
    (ha : ∀ v, assign (.Subscript (.Name x p1) k tpos) X.env v = (do
      let ov ← holding [v] (eval (.Name x p1) X.env)
      let iv ← holding [v, ov] (eval k X.env)
      standAt tpos
      holding [v, ov, iv] (setItem ov iv v)
      release [v, ov, iv] []) := by intro _; rfl)
    (hd : (x == ("__debug__" : Str)) = false := by decide) (hcd : (x == ("__classdict__" : Str)) = false := by decide) :
    AS X W (.Assign [.Subscript (.Name x p1) k tpos] v pos) (sSet i fk fv) :=
  PS.imp (ps_asg h (pg_sub (pe_var hN hv hd hcd) hk (set_U hu) ha) hs hw h1) fun E σ H q =>
    by
      obtain ⟨S, w, e, M, hs, sr, lv, p⟩ := q
      unfold sSet at p
      cases he : eget e i with
      | none => rw [he] at p; exact p.elim
      | some d0 =>
        rw [he] at p
        have p : PstS X.K W S w H E ((fv e M).bindS e fun d M => (fk e M).bindS e fun k M => set1 i k d e M) := p
        obtain ⟨o, ho, _⟩ := sr.at_ i d0 (eget_iff.mp he)
        refine ⟨S, w, e, M, hs, sr.toSX, p.expr sr fun d M' w' H' v x s sr' r p => ?_⟩
        refine ⟨o, ho, S, w', e, M', s, sr'.toSX, (p.shift x.of).expr sr' fun kd M2 w2 H2 v2 y s2 sr2 r2 p2 => ?_⟩
        have r2 : RepO X.K S H' w2 H2 v2 kd := r2
        exact set1_G sr2 s2 ho r2.toR (r.mono y) (p2.shift y.of)
end
end L3
namespace L3
open PySem PySem.Spec PyProof.Rows L2

/-! ### targets -/
abbrev SG := D → En → Option En
/-- slots get data, one after another -/
inductive Sets (K : PySem.W.Frag) (w : Wd) : List Nat → L2.St → En → L2.St → En → Prop
  | nil {σ : L2.St} {e : En} : Sets K w [] σ e σ e
  | cons {i : Nat} {is : List Nat} {v : V} {d : D} {σ σ' : L2.St} {e e' : En} : Rep K w v d → Sets K w is (σ.set i (some v)) (e.set i (some d)) σ' e' → Sets K w (i :: is) σ e σ' e'
section
variable {K : PySem.W.Frag} {w : Wd} {S : Addr → Prop} {H : Hp}
theorem Sets.trans {is js : List Nat} {σ σ1 σ2 : L2.St} {e e1 e2 : En} (h : Sets K w is σ e σ1 e1) (h2 : Sets K w js σ1 e1 σ2 e2) : Sets K w (is ++ js) σ e σ2 e2 := by
  induction h with
  | nil => exact h2
  | cons r _ ih => exact .cons r (ih h2)
theorem Sets.sr {is : List Nat} {σ σ1 : L2.St} {e e1 : En} (h : Sets K w is σ e σ1 e1) (sr : SR K S w H σ e) : SR K S w H σ1 e1 := by
  induction h with
  | nil => exact sr
  | cons r _ ih => exact ih (sr.setD r)
theorem SX.setD {v : V} {d : D} {i : Nat} {σ : L2.St} {e : En} (h : SX K S w H σ e) (r : Rep K w v d) : SX K S w H (σ.set i (some v)) (e.set i (some d)) := by
  refine ⟨by simp [h.len], fun j d' q => ?_⟩
  have hl0 : j < (e.set i (some d)).length := (List.getElem?_eq_some_iff.mp q).1
  rcases get_set q with ⟨e1, e2⟩ | ⟨hj, q⟩
  · subst e1
    have e2 : d' = d := by simpa using e2
    subst e2
    have hl : j < σ.length := by
      rw [← h.len]
      simpa using hl0
    exact ⟨v, by rw [List.getElem?_set_self hl], .inl r⟩
  · obtain ⟨u, e1, r1⟩ := h.at_ j d' q
    exact ⟨u, by rw [List.getElem?_set_ne (Ne.symm hj)]; exact e1, r1⟩
theorem Sets.sx {is : List Nat} {σ σ1 : L2.St} {e e1 : En} (h : Sets K w is σ e σ1 e1) (sr : SX K S w H σ e) : SX K S w H σ1 e1 := by
  induction h with
  | nil => exact sr
  | cons r _ ih => exact ih (sr.setD r)
theorem wipe_set {v : Option V} {i : Nat} : ∀ {vs : List Nat} {σ : L2.St}, i ∈ vs → wipe (σ.set i v) vs = wipe σ vs
  | j :: vs, σ, h => by
    unfold wipe
    by_cases hi : i ∈ vs
    · rw [wipe_set hi]
    · have hj : i = j := by
        rcases List.mem_cons.mp h with e | e
        · exact e
        · exact absurd e hi
      subst hj
      have out : ∀ (us : List Nat) (τ : L2.St), i ∉ us → wipe (τ.set i v) us = (wipe τ us).set i v := by
        intro us
        induction us with
        | nil => intro τ _; rfl
        | cons u us ih =>
          intro τ hn
          rw [List.mem_cons, not_or] at hn
          unfold wipe
          rw [ih τ hn.2, List.set_comm _ _ hn.1]
      rw [out vs σ hi, List.set_set]
theorem Sets.wipe {is : List Nat} {σ σ1 : L2.St} {e e1 : En} (h : Sets K w is σ e σ1 e1) {vs : List Nat} (hv : ∀ i ∈ is, i ∈ vs) : L2.wipe σ1 vs = L2.wipe σ vs := by
  induction h with
  | nil => rfl
  | cons r _ ih =>
    rw [ih fun i hi => hv i (List.mem_cons_of_mem _ hi), wipe_set (hv _ List.mem_cons_self)]
end
def KG (K : PySem.W.Frag) (t : TG) (is : List Nat) (sg : SG) : Prop := ∀ (w : Wd) (M : Mem) (H : Hp) (σ : L2.St) (e : En) (v : V) (d : D) (e' : En) (Q : L2.St → Hp → Prop), HS K w M H → Rep K w v d → sg d e = some e' → (∀ σ', Sets K w is σ e σ' e' → Q σ' H) → t v σ H Q
def AG (X : Cx) (tg : Expr) (is : List Nat) (sg : SG) : Prop := ∃ t, PG X tg t ∧ KG X.K t is sg
abbrev SGs := List D → En → Option En
def KGs (K : PySem.W.Frag) (t : TGs) (is : List Nat) (sg : SGs) : Prop := ∀ (w : Wd) (M : Mem) (H : Hp) (σ : L2.St) (e : En) (v : List V) (d : List D) (e' : En) (Q : L2.St → Hp → Prop), HS K w M H → Reps K w v d → sg d e = some e' → (∀ σ', Sets K w is σ e σ' e' → Q σ' H) → t v σ H Q
def gN (i : Nat) : SG := fun d e => some (e.set i (some d))
def gNi : SGs := fun ds e => match ds with
  | [] => some e
  | _ => none
def gCo (a : SG) (b : SGs) : SGs := fun ds e => match ds with
  | d :: r => (a d e).bind fun e1 => b r e1
  | [] => none
def gTu (n : Nat) (a : SGs) : SG := fun d e => match d with
  | .tup ds => if ds.length = n then a ds e else none
  | _ => none
section
variable {X : Cx} {W : WX} {pos : Pos}
variable {K : PySem.W.Frag}
theorem k_name {i : Nat} : KG K (gName i) [i] (gN i) := fun w M H σ e v d e' Q hs r h k => by
  cases h
  exact k _ (.cons r .nil)
theorem ks_nil : KGs K gNil [] gNi := fun w M H σ e v d e' Q hs r h k => by
  cases r with
  | nil => cases h; exact ⟨rfl, k _ .nil⟩
  | cons _ _ => cases h
theorem ks_cons {is js : List Nat} {t : TG} {t2 : TGs} {a : SG} {b : SGs} (k1 : KG K t is a) (k2 : KGs K t2 js b) : KGs K (gCons t t2) (is ++ js) (gCo a b) := fun w M H σ e v d e' Q hs r h k => by
  cases r with
  | nil => cases h
  | @cons v vs d ds r1 r2 =>
    unfold gCo at h
    cases h1 : a d e with
    | none => simp only [h1] at h; cases h
    | some e1 =>
      simp only [h1] at h
      exact ⟨v, vs, rfl, k1 w M H σ e v d e1 _ hs r1 h1 fun σ' sr' => k2 w M H σ' e1 vs ds e' Q hs r2 h fun σ2 sr2 => k σ2 (sr'.trans sr2)⟩
theorem k_tup {is : List Nat} {n : Nat} {t : TGs} {a : SGs} (k : KGs K t is a) : KG K (gTup K n t) is (gTu n a) := fun w M H σ e v d e' Q hs r h kk => by
  cases d with
  | tup ds =>
    have h : (if ds.length = n then a ds e else none) = some e' := h
    by_cases hl : ds.length = n
    · rw [if_pos hl] at h
      cases r with
      | @tup b us _ hq q => exact ⟨b, us, rfl, seqT hs.same hq.sq, by rw [q.length]; exact hl, k w M H σ e us ds e' Q hs q h kk⟩
    · rw [if_neg hl] at h; cases h
  | _ => cases h
/-- target = data -/
def asg1 (g : SG) (e : En) (d : D) (M : Mem) : RS := match g d e with
  | some e' => .nx e' M
  | none => .bad
def sAsgT (g : SG) (f : SE) : SS := fun e M => (f e M).bindS e (asg1 g e)
theorem s_asgT {tg e : Expr} {is : List Nat} {g : SG} {f : SE} (h : AF X W e f) (hg : AG X tg is g) (hs : swapsWithSole [tg] e pos.line X.env = pure false := by rfl) (hw : swappedStores [tg] e X.env = pure none := by rfl)
    (h1 : (assignEach [tg] X.env).map (·.2) = [assign tg X.env] := by rfl) : AS X W (.Assign [tg] e pos) (sAsgT g f) := by
  obtain ⟨t, p, k⟩ := hg
  exact PS.imp (ps_asg h p hs hw h1) fun E σ H q => tS.step (k := fun e d M => asg1 g e d M) q fun S w e w' M' H' v d s sr lv x r p _ _ => by
    unfold asg1 at p
    cases hg : g d e with
    | none => rw [hg] at p; exact p.elim
    | some e' =>
      rw [hg] at p
      exact k w' M' H' σ e v d e' _ s r hg fun σ' z => p w' H' σ' (.refl _ _) s (z.sr sr)
/-! ### name op= e -/
def augI (g : Int → Int → Int) (a b : D) (M : Mem) : R D := match a, b with
  | .int i, .int j => .ok (.int (g i j)) M
  | _, _ => .bad
def augAdd (a b : D) (M : Mem) : R D := match a, b with
  | .int i, .int j => .ok (.int (i + j)) M
  | .str x, .str y => if x.length + y.length ≤ sizeLine then .ok (.str (x ++ y)) M else .bad
  | _, _ => .bad
def rAugAdd : R2 := fun x y H Q => rI0 (fun i j => .int (i + j)) x y H Q ∨ (∃ i j, x = .str i ∧ y = .str j ∧ i.length + j.length ≤ sizeLine ∧ Q (.str (i ++ j)) H)
theorem iop_addU : OpR X (inplaceOp .Add) rAugAdd := iop_add.or iop_add_str
theorem augAddG : OpG X W rAugAdd augAdd := by
  intro S w M H σ x y d1 d2 Q hs r1 r2 p
  by_cases hi : ∃ i j, d1 = .int i ∧ d2 = .int j
  · obtain ⟨i, j, rfl, rfl⟩ := hi
    exact .inl ⟨i, j, r1.int, r2.int, p w H _ (.refl _ _) hs (.inl (.int _))⟩
  by_cases ht : ∃ i j, d1 = .str i ∧ d2 = .str j
  · obtain ⟨i, j, rfl, rfl⟩ := ht
    have p : Pst X.K W w H σ (rlE X.K S) Q (if i.length + j.length ≤ sizeLine then .ok (.str (i ++ j)) M else .bad) := p
    by_cases hl : i.length + j.length ≤ sizeLine
    · rw [if_pos hl] at p
      exact .inr ⟨i, j, r1.str, r2.str, hl, p w H _ (.refl _ _) hs (.inl (.str _))⟩
    · rw [if_neg hl] at p; exact p.elim
  · have e : augAdd d1 d2 M = .bad := by cases d1 <;> cases d2 <;> first | rfl | exact absurd ⟨_, _, rfl, rfl⟩ hi | exact absurd ⟨_, _, rfl, rfl⟩ ht
    rw [e] at p; exact p.elim
def augK (i : Nat) (e : En) (z : D) (M : Mem) : RS := match z with
  | .own _ => .bad
  | .brw _ => .bad
  | z => .nx (e.set i (some z)) M
def sAug (i : Nat) (g : D → D → Mem → R D) (f : SE) : SS := fun e M => match eget e i with
  | some d0 => (f e M).bindS e fun d M => (g d0 d M).bindS e (augK i e)
  | none => .bad
theorem s_aug {i : Nat} {x : Str} {op : Operator} {r : R2} {g : D → D → Mem → R D} {e : Expr} {f : SE} {pos' : Pos} (ho : OpR X (inplaceOp op) r) (hg : OpG X W r g) (hN : X.N.Nodup) (hi : X.N[i]? = some x) (hx : Loc X.env.scope x) (h : AE X W e f) (hf : X.fn x = true ∨ X.env.scope.names.lookup x = some .local := by first | exact .inl rfl | exact .inr rfl | assumption) :
    AS X W (.AugAssign (.Name x pos') op e pos) (sAug i g f) := PS.imp (ps_aug (ti := r) hN hi hx h (fun pins s σ H x y v u Q I rx ry q => ho pins s σ H x y v u Q I rx ry q) hf) fun E σ H q => by
  obtain ⟨S, w, e, M, hs, sr, lv, p⟩ := q
  unfold sAug at p
  cases he : eget e i with
  | none => rw [he] at p; exact p.elim
  | some d0 =>
    rw [he] at p
    have p : PstS X.K W S w H E ((f e M).bindS e fun d M => (g d0 d M).bindS e (augK i e)) := p
    obtain ⟨v, hσ, rv⟩ := sr.at_ i d0 (eget_iff.mp he)
    refine ⟨v, hσ, S, w, e, M, hs, sr.toSX, p.expr sr fun d M' w' H' u x s sr' r p => ?_⟩
    have rv' := rv.mono x
    have rr : RepR X.K w' H' v d0 := by
      rcases rv' with q | ⟨ds, q, l⟩
      · exact .inl q
      · exact .inr ⟨ds, .inl q, l.imp fun _ _ => trivial⟩
    have r : RepO X.K S H w' H' u d := r
    refine hg S w' M' H' σ v u d0 d _ s rr r.toR ((p.shift x.of).expr sr' fun z M2 w2 H2 v2 y s2 sr2 r2 p2 => ?_)
    rcases r2 with r2 | ⟨ds, rfl, _⟩ | ⟨ds, rfl, _⟩
    · cases z <;> first | exact (p2.shift y.of) w2 H2 _ (.refl _ _) s2 (sr2.setD r2) | exact (Rep.not_own r2).elim | exact (Rep.not_brw r2).elim
    · exact p2.elim
    · exact p2.elim
/-! ### what a loop walks -/
def ItOk (K : PySem.W.Frag) (w0 : Wd) (J : It) (ds : List D) : Prop := ∀ (w : Wd) (M : Mem) (H : Hp), Same w0.B w.B → (∀ (n : Nat) (a : Addr), w0.ρ[n]? = some a → w.ρ[n]? = some a) → HS K w M H →
  (∀ i d, ds[i]? = some d → J.go i H ∧ ∀ x H', J.yld i H x H' → ∃ w', HS K w' M H' ∧ Ext All w H w' H' ∧ Rep K w' x d) ∧ ∀ i, ds.length ≤ i → J.stop i H
abbrev rlI (K : PySem.W.Frag) : Rl It (List D) := fun _ w _ J ds => ItOk K w J ds
theorem bkI {K : PySem.W.Frag} : Bk (rlI K) := fun _ _ _ _ _ _ _ _ _ h => h
abbrev AI (X : Cx) (W : WX) (tg iter : Expr) (f : SA) : Prop := PI X tg iter (tG X.K W (fun _ => rlI X.K) f)
theorem itl_ok {K : PySem.W.Frag} {w0 : Wd} {a : Addr} {us : List V} {ds : List D} (h : SqL K w0.B a us) (q : Reps K w0 us ds) : ItOk K w0 (Itl K a) ds := fun w M H hb hr hs => by
  have h1 : SqL K H a us := hs.same.seq (hb.seq h)
  have q1 := q.mono' hb hr
  refine ⟨fun i d e => ?_, fun i hi => ⟨us, h1, by rw [q.length]; exact hi⟩⟩
  obtain ⟨v, e1, r⟩ := q1.get e
  refine ⟨⟨us, v, h1, e1⟩, fun x H' ⟨e2, k⟩ => ?_⟩
  subst e2
  have := k us h1
  rw [e1] at this
  cases this
  exact ⟨w, hs, .refl _ _, r⟩
theorem itt_ok {K : PySem.W.Frag} {w0 : Wd} {a : Addr} {us : List V} {ds : List D} (h : SqT K w0.B a us) (q : Reps K w0 us ds) : ItOk K w0 (Itt K a) ds := fun w M H hb hr hs => by
  have h1 : SqT K H a us := seqT hs.same (seqT hb h)
  have q1 := q.mono' hb hr
  refine ⟨fun i d e => ?_, fun i hi => ⟨us, h1, by rw [q.length]; exact hi⟩⟩
  obtain ⟨v, e1, r⟩ := q1.get e
  refine ⟨⟨us, v, h1, e1⟩, fun x H' ⟨e2, k⟩ => ?_⟩
  subst e2
  have := k us h1
  rw [e1] at this
  cases this
  exact ⟨w, hs, .refl _ _, r⟩
def enumL (k : Nat) : List D → List D
  | [] => []
  | d :: r => .tup [.int (k : Nat), d] :: enumL (k + 1) r
theorem enumL_len : ∀ (k : Nat) (ds : List D), (enumL k ds).length = ds.length
  | _, [] => rfl
  | k, _ :: r => congrArg (· + 1) (enumL_len (k + 1) r)
theorem enumL_get : ∀ (k : Nat) (ds : List D) (i : Nat) (d : D), (enumL k ds)[i]? = some d → ∃ d', ds[i]? = some d' ∧ d = .tup [.int ((k + i : Nat) : Int), d']
  | _, [], _, _, h => by simp [enumL] at h
  | k, x :: r, 0, d, h => by
    simp [enumL] at h
    exact ⟨x, rfl, by simp [h]⟩
  | k, x :: r, i + 1, d, h => by
    simp only [enumL, List.getElem?_cons_succ] at h
    obtain ⟨d', e1, e2⟩ := enumL_get (k + 1) r i d h
    exact ⟨d', by simpa using e1, by rw [e2, show k + 1 + i = k + (i + 1) by omega]⟩
theorem ite_ok {K : PySem.W.Frag} {w0 : Wd} {a : Addr} {us : List V} {ds : List D} (h : SqL K w0.B a us) (q : Reps K w0 us ds) : ItOk K w0 (Ite K a) (enumL 0 ds) := fun w M H hb hr hs => by
  have h1 : SqL K H a us := hs.same.seq (hb.seq h)
  have q1 := q.mono' hb hr
  refine ⟨fun i d e => ?_, fun i hi => ⟨us, h1, by rw [q.length, ← enumL_len 0 ds]; exact hi⟩⟩
  obtain ⟨d', e0, rfl⟩ := enumL_get 0 ds i d e
  obtain ⟨v, e1, r⟩ := q1.get e0
  refine ⟨⟨us, v, h1, e1⟩, fun x H' ⟨T, y, ex, hT, eH, k⟩ => ?_⟩
  subst ex eH
  have := k us h1
  rw [e1] at this
  cases this
  obtain ⟨s2, y⟩ := hs.imm (o := .tup [.int (i : Nat), v]) hT
  exact ⟨_, s2, y, .tup (.of upd_same) (.cons (by rw [Nat.zero_add]; exact .int _) (.one (r.mono y)))⟩
def rangeL (lo : Int) (n : Nat) : List D := (List.range n).map fun (i : Nat) => D.int (lo + i)
theorem itr_ok {K : PySem.W.Frag} {w0 : Wd} {lo : Int} {n : Nat} : ItOk K w0 (Itr lo n) (rangeL lo n) := fun w M H hb hr hs => by
  refine ⟨fun i d e => ?_, fun i hi => by show n ≤ i; simpa [rangeL] using hi⟩
  unfold rangeL at e
  rw [List.getElem?_map] at e
  by_cases hi : i < n
  · rw [List.getElem?_range hi] at e
    cases e
    exact ⟨hi, fun x H' ⟨e1, e2⟩ => by subst e1 e2; exact ⟨w, hs, .refl _ _, .int _⟩⟩
  · rw [List.getElem?_eq_none (by simpa using hi)] at e; cases e
def walk1 (d : D) (M : Mem) : R (List D) := match d with
  | .tup xs => .ok xs M
  | .lst xs => .ok xs M
  | .rol xs => .ok xs M
  | _ => .bad
def sWalk (f : SE) : SA := fun e M => (f e M).bind walk1
/-- a list or a tuple -/
theorem i_seq {tg l : Expr} {f : SE} (h : AF X W l f) : AI X W tg l (sWalk f) := by
  refine ⟨fun pins s σ H R I q => ?_⟩
  refine thn (h.run pins s σ H (fun x H1 => ∃ a, x = .ref a ∧ ((∃ xs, SqL X.K H1 a xs ∧ R (Itl X.K a) H1) ∨ ∃ xs, SqT X.K H1 a xs ∧ R (Itt X.K a) H1)) I ?_) fun v s1 ⟨x, H1, I1, r1, q1⟩ => ?_
  · refine tG.step (k := fun _ d M => walk1 d M) (fun _ => bkI) q fun S w e w' M' H' v d s sx x r p => ?_
    cases d with
    | tup ds =>
      cases r with
      | tup hq q => exact ⟨_, rfl, .inr ⟨_, seqT s.same hq.sq, p w' H' _ (.refl _ _) s (itt_ok hq.sq q)⟩⟩
    | lst ds =>
      cases r with
      | lst hq q => exact ⟨_, rfl, .inl ⟨_, .of (s.same _ _ hq), p w' H' _ (.refl _ _) s (itl_ok (.of hq) q)⟩⟩
    | rol ds =>
      cases r with
      | rol hq q => exact ⟨_, rfl, .inl ⟨_, s.same.seq hq, p w' H' _ (.refl _ _) s (itl_ok hq q)⟩⟩
    | _ => exact p.elim
  · obtain ⟨a, e, q1⟩ := q1
    subst e
    cases r1
    rcases q1 with ⟨xs, hq, q⟩ | ⟨xs, hq, q⟩
    · obtain ⟨its, rv, p, hz⟩ := I1.list hq
      refine wpAny_pyIter_list p.isList ?_
      refine ⟨s1.heap.objs.size, [s1.heap.objs.size], _, _, H1, rfl, I1.kept (t' := s1.toks) fun b o e => Heap.get?_push_of_some _ e, turn_list a _, ⟨_, Heap.get?_push_size _ rfl, rfl, rfl⟩, fun b hb => ?_, q⟩
      have e : b = s1.heap.objs.size := by simpa using hb
      subst e
      exact I1.fpOk (Nat.le_refl _) (I1.hok.fresh (Nat.le_refl _))
    · obtain ⟨its, rv, p, hz⟩ := I1.tuple hq
      refine wpAny_pyIter_tuple (show s1.heap.IsTuple a its.toArray from p) ?_
      refine ⟨s1.heap.objs.size, [s1.heap.objs.size], _, _, H1, rfl, I1.kept (t' := s1.toks) fun b o e => Heap.get?_push_of_some _ e, turn_tuple a _, ⟨_, Heap.get?_push_size _ rfl, rfl, rfl⟩, fun b hb => ?_, q⟩
      have e : b = s1.heap.objs.size := by simpa using hb
      subst e
      exact I1.fpOk (Nat.le_refl _) (I1.hok.fresh (Nat.le_refl _))
def in62 (j : Int) : Bool := decide (-(2 ^ 62) ≤ j) && decide (j < 2 ^ 62)
def rng1 (ds : List D) (M : Mem) : R (List D) := match ds with
  | [.int j] => if in62 j = true then .ok (rangeL 0 j.toNat) M else .bad
  | _ => .bad
def rng2 (ds : List D) (M : Mem) : R (List D) := match ds with
  | [.int i, .int j] => if (in62 i && in62 j) = true then .ok (rangeL i (j - i).toNat) M else .bad
  | _ => .bad
def sRng1 (f : SA) : SA := fun e M => (f e M).bind rng1
def sRng2 (f : SA) : SA := fun e M => (f e M).bind rng2
theorem i_rng1 {tg a : Expr} {f : SA} {p pos : Pos} (hg : Gl X "range") (hm : X.mg "range" = none) (h : AA X W [a] f) (hs : starEach [a] X.env = [(false, eval a X.env)] := by rfl) : AI X W tg (.Call (.Name "range" p) [a] [] pos) (sRng1 f) :=
  PI.imp (pi_range1 hg hm h hs) fun σ H R q => tG.step (k := fun _ d M => rng1 d M) (fun _ => bkI) q fun S w e w' M' H' vs ds s sx x r p => by
    by_cases hd : ∃ j, ds = [.int j]
    · obtain ⟨j, rfl⟩ := hd
      obtain ⟨v, rfl, rv⟩ := RepRs.one r
      have p : Pst X.K W w' H' σ (rlI X.K) R (if in62 j = true then .ok (rangeL 0 j.toNat) M' else .bad) := p
      by_cases hj : in62 j = true
      · rw [if_pos hj] at p
        unfold in62 at hj
        rw [Bool.and_eq_true] at hj
        exact ⟨j, by rw [rv.int], of_decide_eq_true hj.1, of_decide_eq_true hj.2, p w' H' _ (.refl _ _) s itr_ok⟩
      · rw [if_neg hj] at p; exact p.elim
    · have e : rng1 ds M' = .bad := by
        cases ds with
        | nil => rfl
        | cons d t =>
          cases t with
          | nil => cases d <;> first | rfl | exact absurd ⟨_, rfl⟩ hd
          | cons _ _ => cases d <;> rfl
      rw [e] at p; exact p.elim
theorem i_rng2 {tg a b : Expr} {f : SA} {p pos : Pos} (hg : Gl X "range") (hm : X.mg "range" = none) (h : AA X W [a, b] f) (hs : starEach [a, b] X.env = [(false, eval a X.env), (false, eval b X.env)] := by rfl) (hs2 : starEach [b] X.env = [(false, eval b X.env)] := by rfl) : AI X W tg (.Call (.Name "range" p) [a, b] [] pos) (sRng2 f) :=
  PI.imp (pi_range2 hg hm h hs hs2) fun σ H R q => tG.step (k := fun _ d M => rng2 d M) (fun _ => bkI) q fun S w e w' M' H' vs ds s sx x r p => by
    by_cases hd : ∃ i j, ds = [.int i, .int j]
    · obtain ⟨i, j, rfl⟩ := hd
      obtain ⟨u, v, rfl, ru, rv⟩ := RepRs.two r
      have p : Pst X.K W w' H' σ (rlI X.K) R (if (in62 i && in62 j) = true then .ok (rangeL i (j - i).toNat) M' else .bad) := p
      by_cases hj : (in62 i && in62 j) = true
      · rw [if_pos hj] at p
        unfold in62 at hj
        simp only [Bool.and_eq_true, decide_eq_true_eq] at hj
        exact ⟨i, j, by rw [ru.int, rv.int], ⟨hj.1.1, hj.1.2, hj.2.1, hj.2.2⟩, p w' H' _ (.refl _ _) s itr_ok⟩
      · rw [if_neg hj] at p; exact p.elim
    · have e : rng2 ds M' = .bad := by
        cases ds with
        | nil => rfl
        | cons d t =>
          cases t with
          | nil => cases d <;> rfl
          | cons d2 t =>
            cases t with
            | nil => cases d <;> cases d2 <;> first | rfl | exact absurd ⟨_, _, rfl⟩ hd
            | cons _ _ => cases d <;> cases d2 <;> rfl
      rw [e] at p; exact p.elim
def enm1 (ds : List D) (M : Mem) : R (List D) := match ds with
  | [.lst xs] => .ok (enumL 0 xs) M
  | [.rol xs] => .ok (enumL 0 xs) M
  | _ => .bad
def sEnm (f : SA) : SA := fun e M => (f e M).bind enm1
theorem i_enum {e : Expr} {f : SA} {p pos tpos : Pos} {elts : List Expr} {kk : Nat} (hg : Gl X "enumerate") (hm : X.mg "enumerate" = none) (h : AAf X W [e] f) (hs : starEach [e] X.env = [(false, eval e X.env)] := by rfl) :
    AI X W (.Tuple elts kk tpos) (.Call (.Name "enumerate" p) [e] [] pos) (sEnm f) :=
  PI.imp (pi_enum hg hm h hs) fun σ H R q => tG.step (k := fun _ d M => enm1 d M) (fun _ => bkI) q fun S w e w' M' H' vs ds s sx x r p => by
    cases r with
    | nil => exact p.elim
    | @cons v vs d ds r t =>
      cases t with
      | cons _ _ => exact absurd p (by cases d <;> exact id)
      | nil =>
        cases d with
        | lst xs =>
          cases r with
          | lst hq q => exact ⟨_, _, rfl, .of (s.same _ _ hq), p w' H' _ (.refl _ _) s (ite_ok (.of hq) q)⟩
        | rol xs =>
          cases r with
          | rol hq q => exact ⟨_, _, rfl, s.same.seq hq, p w' H' _ (.refl _ _) s (ite_ok hq q)⟩
        | _ => exact p.elim
/-! ### for -/
def forL (g : SG) (b : SS) : List D → SS
  | [], e, M => .nx e M
  | d :: r, e, M => match g d e with
    | none => .bad
    | some e1 => match b e1 M with
      | .nx e2 M2 => forL g b r e2 M2
      | .ct e2 M2 => forL g b r e2 M2
      | .bk e2 M2 => .nx e2 M2
      | o => o
def sFor (it : SA) (g : SG) (b : SS) : SS := fun e M => (it e M).bindS e fun ds M => forL g b ds e M
theorem drop_cons {α : Type} {l : List α} {i : Nat} (h : i < l.length) : l.drop i = l[i] :: l.drop (i + 1) := by
  simp
theorem s_for {tg iter : Expr} {body : List Stmt} {is : List Nat} {it : SA} {g : SG} {b : SS} (hp : PassesOwn (model X.prog X.w) X.A X.env X.xe) (hc : X.calm = true) (hi : AI X W tg iter it) (hg : AG X tg is g) (hb : ASs X W body b)
    (hs : ∀ x, foldedSetIterable iter X.env x = pure x := by intro _; rfl) : AS X W (.For tg iter body [] pos) (sFor it g b) := by
  obtain ⟨t, pg, kg⟩ := hg
  exact PS.imp (ps_for hp hc hi pg hb hs) fun E σ H q => tS.step (k := fun e ds M => forL g b ds e M) q fun S w e w' M' H' J ds s sr lv x r p _ _ => by
    have r : ItOk X.K w' J ds := r
    refine ⟨fun i m σ H => m = ds.length - i ∧ i ≤ ds.length ∧ ∃ (w : Wd) (e : En) (M : Mem), HS X.K w M H ∧ SR X.K S w H σ e ∧ Live S H ∧ Ext S w' H' w H ∧ PstS X.K W S w H E (forL g b (ds.drop i) e M), ⟨ds.length, by simp, Nat.zero_le _, w', e, M', s, sr, lv.on x.of, .refl _ _, p⟩, ?_⟩
    rintro i m σ2 H2 ⟨rfl, hi, w2, e2, M2, s2, sr2, lv2, x2, p2⟩
    obtain ⟨ri, rs⟩ := r w2 M2 H2 x2.b x2.r s2
    by_cases hlt : i < ds.length
    · refine .inr ⟨(ri i ds[i] (by simp [hlt])).1, fun σ3 H3 => ∃ (w : Wd) (e : En) (M : Mem), HS X.K w M H3 ∧ SR X.K S w H3 σ3 e ∧ Live S H3 ∧ Ext S w' H' w H3 ∧ PstS X.K W S w H3 E (forL g b (ds.drop (i + 1)) e M), fun σ3 H3 h => ⟨ds.length - (i + 1), by omega, rfl, hlt, h⟩, fun y H3 hy => ?_⟩
      obtain ⟨w3, s3, x3, rd⟩ := (ri i ds[i] (by simp [hlt])).2 y H3 hy
      rw [drop_cons hlt] at p2
      unfold forL at p2
      cases hgd : g ds[i] e2 with
      | none => simp only [hgd] at p2; exact p2.elim
      | some e3 =>
        simp only [hgd] at p2
        refine kg w3 M2 H3 σ2 e2 y ds[i] e3 _ s3 rd hgd fun σ4 z4 => ⟨S, w3, e3, M2, s3, z4.sr (sr2.mono x3), lv2.on x3.of, ?_⟩
        have p3 := p2.shift x3.of
        have x4 : Ext S w' H' w3 H3 := x2.trans x3.of
        cases hbd : b e3 M2 with
        | nx e5 M5 => simp only [hbd] at p3; exact fun w6 H6 σ6 x6 s6 sr6 => ⟨w6, e5, M5, s6, sr6, (lv2.on x3.of).on x6, x4.trans x6, p3.shift x6⟩
        | ct e5 M5 => simp only [hbd] at p3; exact fun w6 H6 σ6 x6 s6 sr6 => ⟨w6, e5, M5, s6, sr6, (lv2.on x3.of).on x6, x4.trans x6, p3.shift x6⟩
        | bk e5 M5 => simp only [hbd] at p3; exact p3
        | rt d M5 => simp only [hbd] at p3; exact p3
        | exc C fs e5 M5 => simp only [hbd] at p3; exact p3
        | bad => simp only [hbd] at p3; exact p3.elim
    · have e1 : ds.drop i = [] := List.drop_of_length_le (by omega)
      rw [e1] at p2
      exact .inl ⟨rs i (by omega), p2 w2 H2 σ2 (.refl _ _) s2 sr2⟩
/-! ### while -/
def whileN (c : SB) (b : SS) : Nat → SS
  | 0, _, _ => .bad
  | n + 1, e, M => (c e M).bindS e fun k M1 => if k = true then (match b e M1 with
      | .nx e2 M2 => whileN c b n e2 M2
      | .ct e2 M2 => whileN c b n e2 M2
      | .bk e2 M2 => .nx e2 M2
      | o => o) else .nx e M1
open Classical in
noncomputable def sWhile (c : SB) (b : SS) : SS := fun e M => if h : ∃ n, whileN c b n e M ≠ .bad then whileN c b (Classical.choose h) e M else .bad
theorem whileN_mono (c : SB) (b : SS) : ∀ (n k : Nat) (e : En) (M : Mem), whileN c b n e M ≠ .bad → whileN c b (n + k) e M = whileN c b n e M
  | 0, _, _, _, h => absurd rfl h
  | n + 1, k, e, M, h => by
    rw [show n + 1 + k = (n + k) + 1 by omega]
    unfold whileN at h ⊢
    cases hc : c e M with
    | bad => rfl
    | exc C fs M => rfl
    | ok kk M1 =>
      rw [hc] at h
      simp only [R.bindS_ok] at h ⊢
      cases kk with
      | false => rfl
      | true =>
        simp only [if_true] at h ⊢
        cases hb : b e M1 with
        | nx e2 M2 => simp only [hb] at h ⊢; exact whileN_mono c b n k e2 M2 h
        | ct e2 M2 => simp only [hb] at h ⊢; exact whileN_mono c b n k e2 M2 h
        | _ => rfl
theorem sWhile_eq {c : SB} {b : SS} {n : Nat} {e : En} {M : Mem} (h : whileN c b n e M ≠ .bad) : sWhile c b e M = whileN c b n e M := by
  have hx : ∃ n, whileN c b n e M ≠ .bad := ⟨n, h⟩
  unfold sWhile
  rw [dif_pos hx]
  have h2 := Classical.choose_spec hx
  generalize Classical.choose hx = m at h2 ⊢
  have e1 := whileN_mono c b n m e M h
  have e2 := whileN_mono c b m n e M h2
  rw [← e2, Nat.add_comm, e1]
theorem s_while {c : Expr} {body : List Stmt} {fc : SB} {b : SS} (hp : PassesOwn (model X.prog X.w) X.A X.env X.xe) (hc : AB X W c fc) (hb : ASs X W body b) : AS X W (.While c body [] pos) (sWhile fc b) :=
  PS.imp (ps_while hp hc hb) fun E σ H q => by
    obtain ⟨S, w, e, M, hs, sr, lv, p⟩ := q
    have hx : ∃ n, PstS X.K W S w H E (whileN fc b n e M) := by
      unfold sWhile at p
      by_cases h : ∃ n, whileN fc b n e M ≠ .bad
      · rw [dif_pos h] at p; exact ⟨_, p⟩
      · rw [dif_neg h] at p; exact p.elim
    obtain ⟨n, p⟩ := hx
    refine ⟨fun m σ H => ∃ (w : Wd) (e : En) (M : Mem), HS X.K w M H ∧ SR X.K S w H σ e ∧ Live S H ∧ PstS X.K W S w H E (whileN fc b m e M), ⟨n, w, e, M, hs, sr, lv, p⟩, ?_⟩
    rintro m σ2 H2 ⟨w2, e2, M2, s2, sr2, lv2, p2⟩
    cases m with
    | zero => exact p2.elim
    | succ m =>
      unfold whileN at p2
      refine ⟨S, w2, e2, M2, s2, sr2.toSX, p2.expr sr2 fun k M3 w3 H3 v3 x3 s3 sr3 r3 p3 => ?_⟩
      have r3 : v3 = k := r3
      subst r3
      have p4 := p3.shift x3.of
      have lv3 := lv2.on (x3.of (S := S))
      cases v3 with
      | false =>
        simp only [Bool.false_eq_true, if_false] at p4 ⊢
        exact p4 w3 H3 σ2 (.refl _ _) s3 sr3
      | true =>
        simp only [if_true] at p4 ⊢
        refine ⟨fun σ4 H4 => ∃ (w : Wd) (e : En) (M : Mem), HS X.K w M H4 ∧ SR X.K S w H4 σ4 e ∧ Live S H4 ∧ PstS X.K W S w H4 E (whileN fc b m e M), fun σ4 H4 h => ⟨m, Nat.lt_succ_self m, h⟩, S, w3, e2, M3, s3, sr3, lv3, ?_⟩
        cases hbd : b e2 M3 with
        | nx e5 M5 => simp only [hbd] at p4; exact fun w6 H6 σ6 x6 s6 sr6 => ⟨w6, e5, M5, s6, sr6, lv3.on x6, p4.shift x6⟩
        | ct e5 M5 => simp only [hbd] at p4; exact fun w6 H6 σ6 x6 s6 sr6 => ⟨w6, e5, M5, s6, sr6, lv3.on x6, p4.shift x6⟩
        | bk e5 M5 => simp only [hbd] at p4; exact p4
        | rt d M5 => simp only [hbd] at p4; exact p4
        | exc C fs e5 M5 => simp only [hbd] at p4; exact p4
        | bad => simp only [hbd] at p4; exact p4.elim
end
end L3
namespace L3
open PySem PySem.Spec PyProof.Rows L2

/-! ### ghost: names give up what they own -/
def frzE : List Nat → En → En
  | [], e => e
  | i :: r, e => frzE r (match eget e i with
    | some (.own ds) => e.set i (some (.lst ds))
    | _ => e)
def sFrz (is : List Nat) (f : SS) : SS := fun e M => f (frzE is e) M
section
variable {X : Cx} {W : WX} {pos : Pos}
theorem SR.frz {K : PySem.W.Frag} {S : Addr → Prop} {w : Wd} {M : Mem} {H : Hp} {σ : L2.St} {e : En} {i : Nat} {ds : List D} (hs : HS K w M H) (sr : SR K S w H σ e) (he : e[i]? = some (some (.own ds))) :
    ∃ w', HS K w' M H ∧ Ext S w H w' H ∧ SR K S w' H σ (e.set i (some (.lst ds))) := by
  obtain ⟨v, hσ, r⟩ := sr.at_ i _ he
  rcases r with r | ⟨_, hx, a, us, rfl, hS, hb, hr, hH, q⟩
  · exact (Rep.not_own r).elim
  · cases hx
    obtain ⟨s2, y⟩ := hs.freezeO (S := S) hb hr hH hS
    refine ⟨_, s2, y, ⟨⟨by simp [sr.len], fun j d z => ?_⟩, fun j k d1 d2 b hjk q1 q2 q3 q4 => ?_⟩⟩
    · rcases get_set z with ⟨rfl, e2⟩ | ⟨hj, z⟩
      · cases e2
        exact ⟨_, hσ, .inl (.lst upd_same (q.mono y))⟩
      · obtain ⟨u, e1, r1⟩ := sr.at_ j d z
        refine ⟨u, e1, ?_⟩
        rcases r1 with r1 | ⟨d3, rfl, b, us', rfl, b1, b2, b3, b4, b5⟩
        · exact .inl (r1.mono y)
        · have hba : b ≠ a := fun z2 => by
            subst z2
            exact sr.dist i j ds d3 b (Ne.symm hj) he z hσ e1
          exact .inr ⟨d3, rfl, b, us', rfl, b1, by show upd w.B a _ b = none; rw [upd_ne hba]; exact b2, b3, b4, b5.mono y⟩
    · have old : ∀ {j : Nat} {d : List D}, (e.set i (some (.lst ds)))[j]? = some (some (.own d)) → e[j]? = some (some (.own d)) := fun {j d} z => by
        rcases get_set z with ⟨_, z⟩ | ⟨_, z⟩
        · cases z
        · exact z
      exact sr.dist j k d1 d2 b hjk (old q1) (old q2) q3 q4
theorem frzE_ok {K : PySem.W.Frag} {S : Addr → Prop} {M : Mem} {H : Hp} {σ : L2.St} : ∀ (is : List Nat) {w : Wd} {e : En}, HS K w M H → SR K S w H σ e → ∃ w', HS K w' M H ∧ Ext S w H w' H ∧ SR K S w' H σ (frzE is e)
  | [], w, e, hs, sr => ⟨w, hs, .refl _ _, sr⟩
  | i :: r, w, e, hs, sr => by
    unfold frzE
    have skip : ∀ e', (e' = e) → ∃ w', HS K w' M H ∧ Ext S w H w' H ∧ SR K S w' H σ (frzE r e') := fun e' q => by
      subst q; exact frzE_ok r hs sr
    cases he : eget e i with
    | none => exact skip _ rfl
    | some d =>
      cases d with
      | own ds =>
        obtain ⟨w1, s1, x1, r1⟩ := SR.frz hs sr (eget_iff.mp he)
        obtain ⟨w2, s2, x2, r2⟩ := frzE_ok r s1 r1
        exact ⟨w2, s2, x1.trans x2, r2⟩
      | _ => exact skip _ rfl
theorem s_frz {st : Stmt} {f : SS} (is : List Nat) (h : AS X W st f) : AS X W st (sFrz is f) := PS.imp h fun E σ H q => by
  obtain ⟨S, w, e, M, hs, sr, lv, p⟩ := q
  obtain ⟨w', s', x, sr'⟩ := frzE_ok is hs sr
  exact ⟨S, w', frzE is e, M, s', sr', lv, PstS.shift x p⟩
/-! ## a def -/
abbrev Fn := List D → Mem → R D
def runF (N : Nat) (b : SS) : Fn := fun ds M => match b (ds.map some ++ List.replicate (N - ds.length) none) M with
  | .nx _ M' => .ok .non M'
  | .rt d M' => .ok d M'
  | .exc C fs _ M' => .exc C fs M'
  | _ => .bad
/-- the tables that are tracked -/
def TOk (T : List Addr) (H : Hp) : Prop := ∀ P ∈ T, ∃ ps : Array Value, H P = some (.tbl ps)
theorem TOk.at {X : Cx} {T : List Addr} {pins : List (Addr × Obj)} {σ : L2.St} {H : Hp} {s : Shared} (h : TOk T X.H_0) (I : Inv X pins σ H s) : TOk T H := fun P hP => by
  obtain ⟨ps, e⟩ := h P hP
  obtain ⟨more, e2⟩ := I.base.tbls P ps e
  exact ⟨_, e2⟩
theorem PA.tok {X : Cx} {T : List Addr} {es : List Expr} {t : TA} (h : PA X es t) (hT : TOk T X.H_0) : PA X es (fun σ H Q => t σ H fun vs H1 => TOk T H1 → Q vs H1) :=
  ⟨fun p pins s σ H Q I q => thn (h.run p pins s σ H _ I q) fun us s1 ⟨vs, H1, I1, r1, q1⟩ => ⟨vs, H1, I1, r1, q1 (hT.at I1)⟩⟩
def spS (T : List Addr) (K : PySem.W.Frag) (n : Nat) (g : Fn) : Sp := fun vs H Q E => vs.length = n ∧ TOk T H ∧ ∃ w ds M, HS K w M H ∧ Reps K w vs ds ∧ Pst K (fun c od _ H' => E c od H') w H [] (rlF K) Q (g ds M)
theorem start_len {N : List Str} {vs : List V} (h : vs.length ≤ N.length) : (L2.start N vs).length = N.length := by
  unfold L2.start; simp; omega
theorem start_get {N : List Str} {vs : List V} {i : Nat} {v : V} (h : vs[i]? = some v) : (L2.start N vs)[i]? = some (some v) := by
  unfold L2.start
  have hl : i < (vs.map some).length := by simpa using (List.getElem?_eq_some_iff.mp h).1
  rw [List.getElem?_append_left hl, List.getElem?_map, h]
  rfl
theorem en_get {n : Nat} {ds : List D} {i : Nat} {d : D} (h : (ds.map some ++ List.replicate n none)[i]? = some (some d)) : ds[i]? = some d := by
  by_cases hl : i < (ds.map some).length
  · rw [List.getElem?_append_left hl, List.getElem?_map] at h
    cases e : ds[i]? with
    | none => rw [e] at h; cases h
    | some x => rw [e] at h; cases h; rfl
  · rw [List.getElem?_append_right (by omega), List.getElem?_replicate] at h
    split at h <;> cases h
theorem Reps.not_own {K : PySem.W.Frag} {w : Wd} {vs : List V} {ds : List D} (h : Reps K w vs ds) {i : Nat} {xs : List D} : ds[i]? ≠ some (.own xs) := fun e => by
  obtain ⟨v, _, r⟩ := h.get e
  exact Rep.not_own r
theorem run_start {K : PySem.W.Frag} {w : Wd} {M : Mem} {H : Hp} {N : List Str} {vs : List V} {ds : List D} {b : SS} {Q : VK} {E : XK} (hl : vs.length ≤ N.length) (hs : HS K w M H) (r : Reps K w vs ds) (p : Pst K (fun c od _ H' => E c od H') w H [] (rlF K) Q (runF N.length b ds M)) :
    tS K (fun c od _ H' => E c od H') b { nx := fun _ H' => Q .non H', rt := Q } (L2.start N vs) H := by
  refine ⟨fun a => ∃ o, H a = some o, w, ds.map some ++ List.replicate (N.length - ds.length) none, M, hs, ⟨⟨?_, fun i d e => ?_⟩, fun i j d1 d2 a hij q1 q2 _ _ => ?_⟩, fun a h => h, ?_⟩
  · rw [start_len hl, List.length_append, List.length_map, List.length_replicate, ← r.length]; omega
  · obtain ⟨v, e1, r1⟩ := r.get (en_get e)
    exact ⟨v, start_get e1, .inl r1⟩
  · exact (r.not_own (en_get q1)).elim
  · have xx : ∀ {w' H'}, Ext (fun a => ∃ o, H a = some o) w H w' H' → Ext All w H w' H' := fun {w' H'} x => x.sub fun a _ e => e
    unfold runF at p
    cases hb : b (ds.map some ++ List.replicate (N.length - ds.length) none) M with
    | nx e M' => rw [hb] at p; exact fun w' H' σ' x s _ => p w' H' .non (xx x) s .non
    | rt d M' => rw [hb] at p; exact fun w' H' v x s q => p w' H' v (xx x) s q
    | exc C fs e M' => rw [hb] at p; exact fun w' H' σ' od x s _ q => p w' H' od (xx x) s q
    | bk e M' => rw [hb] at p; exact p.elim
    | ct e M' => rw [hb] at p; exact p.elim
    | bad => rw [hb] at p; exact p.elim
theorem Pst.nil {α β : Type} {K : PySem.W.Frag} {E : XK} {W : WX} {w : Wd} {H : Hp} {σ : L2.St} {rel : Rl β α} {Q : β → Hp → Prop} {r : R α} (hW : ∀ c od H', W c od σ H' → E c od H') (p : Pst K W w H σ rel Q r) : Pst K (fun c od _ H' => E c od H') w H [] rel Q r := by
  cases r with
  | ok a M => exact p
  | exc C fs M => exact fun w' H' od x s q => hW _ _ _ (p w' H' od x s q)
  | bad => exact p
/-- a call of an own def -/
theorem a_call {T : List Addr} {k : Nat} {f : Addr} {fd : FuncData} {ps : List Str} {n : Nat} {g : Fn} {x : Str} {p pos : Pos} {e : Expr} {es : List Expr} {fa : SA} (F : FnOk X.prog X.w X.K X.mg X.base (L2.CX X.prog X.w) k f fd ps (spS T X.K n g)) (hT : TOk T X.H_0) (hr : Room k X.A) (hg : Gl X x) (hm : X.mg x = some (.ref f)) (hk : PySem.W.keepIn X.K (.ref f) = true) (hb : Binds X.K fd ps []) (hx : ∀ σ, PassesAt (L2.CX X.prog X.w) X σ (WE W σ))
    (ha : AAf X W (e :: es) fa) (hn : (e :: es).length = n) (hl : ∀ en M ds M', fa en M = .ok ds M' → ds.length = n) (hdb : (x == ("__debug__" : Str)) = false := by decide) (he : starEach (e :: es) X.env = (false, eval e X.env) :: starEach es X.env := by rfl) (hpl : (backTo pos (starEach es X.env)).any (·.1) = false := by rfl) :
    AE X W (.Call (.Name x p) (e :: es) [] pos) (sCall g fa) :=
  PE.imp (pe_callSD F hr hg hm hk hb .nil hx (PA.tok ha hT) hdb he hpl) fun σ H Q q => by
    obtain ⟨S, w, en, M, hs, sx, p⟩ := q
    refine ⟨S, w, en, M, hs, sx, ?_⟩
    unfold sCall at p
    cases hf : fa en M with
    | bad => rw [hf] at p; exact p
    | exc C fs M' => rw [hf] at p; exact p
    | ok ds M' =>
      rw [hf] at p
      intro w' H' vs x s r hTO
      have r : Reps X.K w' vs ds := r
      refine ⟨by rw [List.append_nil, r.length]; exact hl _ _ _ _ hf, hTO, w', ds, M', s, by rw [List.append_nil]; exact r, ?_⟩
      have p1 : Pst X.K W w' H' σ (rlE X.K S) Q (g ds M') := Pst.shift bkE x p
      exact Pst.nil (W := W) (σ := σ) (fun c od H' h => h) (p1.imp fun a M2 w2 H2 v y s2 _ q2 k2 => k2 v (.inl q2))
theorem sNil_len {en : En} {M : Mem} {ds : List D} {M' : Mem} (h : sNil en M = .ok ds M') : ds.length = 0 := by
  cases h; rfl
theorem sCons_len {f : SE} {g : SA} {n : Nat} (hg : ∀ en M ds M', g en M = .ok ds M' → ds.length = n) (en : En) (M : Mem) (ds : List D) (M' : Mem) (h : sCons f g en M = .ok ds M') : ds.length = n + 1 := by
  unfold sCons at h
  cases hf : f en M with
  | bad => rw [hf] at h; cases h
  | exc C fs M2 => rw [hf] at h; cases h
  | ok d M2 =>
    rw [hf] at h
    simp only [R.bind_ok] at h
    cases hg2 : g en M2 with
    | bad => rw [hg2] at h; cases h
    | exc C fs M2 => rw [hg2] at h; cases h
    | ok ds2 M3 =>
      rw [hg2] at h
      cases h
      show ds2.length + 1 = n + 1
      rw [hg _ _ _ _ hg2]
/-- the def itself -/
theorem fn_mk {P : Program} {w0 : World} {K : PySem.W.Frag} {mg : Str → Option Value} {base : Heap} {x qual : Str} {st : Stmt} {f : Addr} {fd : FuncData} {N ps : List Str} {T : List Addr} {k : Nat} {b : SS} (F : Fun K x qual st f fd) (Sc : FnScope N ps (defScope st)) (hl : ps.length ≤ N.length)
    (hb : ∀ (cdv : Value) (A : Around) (outer : List Env) (s : Shared) (H : Hp) (E : XK), Room k (A.deeper (envOfC qual (defScope st) s.heap.objs.size f cdv)) → TOk T H →
      ASs (cxOf (L2.CX P w0) P w0 K mg base N qual (defScope st) f cdv A outer s H E) (fun c od _ H' => E c od H') (defBody st) b) : FnOk P w0 K mg base (L2.CX P w0) (k + 1) f fd ps (spS T K ps.length (runF N.length b)) := by
  refine F.okX Sc (fun vs H Q E h => h.1) fun cdv A outer s H vs Q E hr h => ?_
  obtain ⟨hlen, hTO, w, ds, M, hs, r, p⟩ := h
  exact ⟨_, hb cdv A outer s H E hr hTO, run_start (by rw [hlen]; exact hl) hs r p⟩
end
end L3
namespace L3
open PySem PySem.Spec PyProof.Rows L2

/-! ## list comprehensions -/
def wipeE (e : En) : List Nat → En
  | [] => e
  | v :: vs => (wipeE e vs).set v none
abbrev W0 : WX := fun _ _ _ _ => False
theorem wipeE_some {e : En} {i : Nat} {x : D} : ∀ {vs : List Nat}, (wipeE e vs)[i]? = some (some x) → e[i]? = some (some x) ∧ i ∉ vs
  | [], h => ⟨h, by simp⟩
  | v :: vs, h => by
    unfold wipeE at h
    by_cases hi : v = i
    · subst hi
      by_cases hv : v < (wipeE e vs).length
      · rw [List.getElem?_set_self hv] at h; cases h
      · rw [List.getElem?_eq_none (by simpa using hv)] at h; cases h
    · rw [List.getElem?_set_ne hi] at h
      obtain ⟨h1, h2⟩ := wipeE_some h
      exact ⟨h1, by simp only [List.mem_cons, not_or]; exact ⟨fun e => hi e.symm, h2⟩⟩
theorem wipeE_length (e : En) : ∀ vs : List Nat, (wipeE e vs).length = e.length
  | [] => rfl
  | v :: vs => by unfold wipeE; rw [List.length_set, wipeE_length e vs]
theorem wipe_out' {σ : L2.St} {i : Nat} : ∀ {vs : List Nat}, i ∉ vs → (wipe σ vs)[i]? = σ[i]?
  | [], _ => rfl
  | v :: vs, h => by
    rw [List.mem_cons, not_or] at h
    unfold wipe
    rw [List.getElem?_set_ne (fun e => h.1 e.symm)]
    exact wipe_out' h.2
theorem SX.wipe {K : PySem.W.Frag} {S : Addr → Prop} {w : Wd} {H : Hp} {σ : L2.St} {e : En} (h : SX K S w H σ e) (vs : List Nat) : SX K S w H (wipe σ vs) (wipeE e vs) := by
  refine ⟨by rw [wipeE_length, wipe_length]; exact h.len, fun i d q => ?_⟩
  obtain ⟨q1, q2⟩ := wipeE_some q
  obtain ⟨v, e1, r⟩ := h.at_ i d q1
  exact ⟨v, by rw [wipe_out' q2]; exact e1, r⟩
theorem wipe_wipe (σ : L2.St) (vs : List Nat) : wipe (wipe σ vs) vs = wipe σ vs := by
  apply List.ext_getElem?
  intro i
  by_cases hi : i ∈ vs
  · have z : ∀ (us : List Nat) (τ : L2.St), i ∈ us → i < τ.length → (wipe τ us)[i]? = some none := by
      intro us
      induction us with
      | nil => intro τ h _; cases h
      | cons u us ih =>
        intro τ h hl
        unfold wipe
        by_cases hu : u = i
        · subst hu
          rw [List.getElem?_set_self (by rw [wipe_length]; exact hl)]
        · rw [List.getElem?_set_ne hu]
          refine ih τ ?_ hl
          rcases List.mem_cons.mp h with e | e
          · exact absurd e.symm hu
          · exact e
    by_cases hl : i < σ.length
    · rw [z vs _ hi (by rw [wipe_length]; exact hl), z vs _ hi hl]
    · rw [List.getElem?_eq_none (by rw [wipe_length, wipe_length]; omega), List.getElem?_eq_none (by rw [wipe_length]; omega)]
  · rw [wipe_out' hi]
def lcL (g : SG) (t : SB) (f : SE) : List D → List D → En → Mem → R (List D)
  | [], acc, _, M => .ok acc M
  | d :: r, acc, e, M => match g d e with
    | none => .bad
    | some e1 => match t e1 M with
      | .ok true M1 => match f e1 M1 with
        | .ok y M2 => if acc.length < sizeLine then lcL g t f r (acc ++ [y]) e M2 else .bad
        | _ => .bad
      | .ok false M1 => lcL g t f r acc e M1
      | _ => .bad
def lcE (r : R (List D)) : R D := match r with
  | .ok acc M => .ok (.own acc) M
  | _ => .bad
def sLc (it : SA) (g : SG) (t : SB) (f : SE) (vs : List Nat) : SE := fun e M => (it e M).bind fun ds M => lcE (lcL g t f ds [] (wipeE e vs) M)
def bYes : SB := fun _ M => .ok true M
abbrev AT (X : Cx) (W : WX) (ifs : List Expr) (f : SB) : Prop := PTs X ifs (tB X.K W f)
section
variable {X : Cx} {W : WX} {pos : Pos}
theorem t_nil : AT X W [] bYes := ⟨fun pins s σ H Q I q => by
  obtain ⟨S, w, e, M, hs, sx, p⟩ := q
  exact pts_nil.run pins s σ H Q I (p w H true (.refl _ _) hs rfl)⟩
theorem t_one {c : Expr} {f : SB} (h : AB X W c f) : AT X W [c] f := pts_one h
theorem pass0W {P : Program} {w : World} {σ : L2.St} : PassesAt (L2.CX P w) X σ (WE W0 σ) := fun pins H s e s' I h => by
  obtain ⟨_, _, _, _, _, _, _, _, _, _, _, _, z⟩ := h
  exact z.elim
variable {elt tg iter : Expr} {ifs : List Expr} {scope : Scope} {own : List (Str × Nat)}
theorem tLc_of {it : SA} {g : SG} {t : SB} {f : SE} {is vs : List Nat} {tt : TG} {σ : L2.St} {H : Hp} {Q : VK} {K : PySem.W.Frag} (kg : KG K tt is g) (hv : ∀ i ∈ is, i ∈ vs)
    (q : tE K W (sLc it g t f vs) σ H Q) : tLc (tG K W (fun _ => rlI K) it) tt (tB K W0 t) (tF K W0 f) vs σ H Q :=
  tG.step (k := fun e ds M => lcE (lcL g t f ds [] (wipeE e vs) M)) (fun _ => bkE) q fun S w0 e w1 M1 H1 J ds s1 sx1 x1 r p A hA => by
    have r : ItOk K w1 J ds := r
    cases hl : lcL g t f ds [] (wipeE e vs) M1 with
    | bad => rw [hl] at p; exact p.elim
    | exc C fs M2 => rw [hl] at p; exact p.elim
    | ok accF MF =>
      rw [hl] at p
      have hB : w1.B A = none := s1.same.free hA
      have hR : A ∉ w1.ρ := s1.fresh hA
      refine ⟨fun i m H => m = ds.length - i ∧ i ≤ ds.length ∧ ∃ (w : Wd) (M : Mem) (acc : List D) (us : List V), HS K w M H ∧ Ext All w1 H1 w H ∧ H A = some (.lst us) ∧ Reps K w us acc ∧ w.B A = none ∧ A ∉ w.ρ ∧ lcL g t f (ds.drop i) acc (wipeE e vs) M = .ok accF MF, ⟨ds.length, ?_⟩, ?_⟩
      · obtain ⟨s2, y⟩ := s1.loose (o := .lst []) hA
        exact ⟨by simp, Nat.zero_le _, w1, M1, [], [], s2, y, upd_same, .nil, hB, hR, hl⟩
      · rintro i m H2 ⟨rfl, hi, w2, M2, acc, us, s2, x2, hH2, q2, b2, r2, e2⟩
        obtain ⟨ri, rs⟩ := r w2 M2 H2 x2.b x2.r s2
        by_cases hlt : i < ds.length
        · refine .inr ⟨(ri i ds[i] (by simp [hlt])).1, fun H3 => ∃ (w : Wd) (M : Mem) (acc : List D) (us : List V), HS K w M H3 ∧ Ext All w1 H1 w H3 ∧ H3 A = some (.lst us) ∧ Reps K w us acc ∧ w.B A = none ∧ A ∉ w.ρ ∧ lcL g t f (ds.drop (i + 1)) acc (wipeE e vs) M = .ok accF MF, fun H3 h => ⟨ds.length - (i + 1), by omega, rfl, hlt, h⟩, fun y H3 hy => ?_⟩
          obtain ⟨w3, s3, x3, rd⟩ := (ri i ds[i] (by simp [hlt])).2 y H3 hy
          rw [drop_cons hlt] at e2
          unfold lcL at e2
          obtain ⟨b3, r3, hH3⟩ := x3.keepB b2 r2 hH2
          have q3 := q2.mono x3
          have x13 := x2.trans x3
          have sx3 : SX K S w3 H3 (wipe σ vs) (wipeE e vs) := (sx1.mono x13).wipe vs
          cases hgd : g ds[i] (wipeE e vs) with
          | none => simp only [hgd] at e2; cases e2
          | some e3 =>
            simp only [hgd] at e2
            refine kg w3 M2 H3 (wipe σ vs) (wipeE e vs) y ds[i] e3 _ s3 rd hgd fun σ4 z4 => ⟨by rw [z4.wipe hv, wipe_wipe], S, w3, e3, M2, s3, z4.sx sx3, ?_⟩
            cases ht : t e3 M2 with
            | bad => simp only [ht] at e2; cases e2
            | exc C fs M4 => simp only [ht] at e2; cases e2
            | ok k M4 =>
              simp only [ht] at e2
              intro w4 H4 k' x4 s4 rk
              have rk : k' = k := rk
              subst rk
              obtain ⟨b4, r4, hH4⟩ := x4.keepB b3 r3 hH3
              have x14 := x13.trans x4
              cases k' with
              | false =>
                simp only [Bool.false_eq_true, if_false] at e2 ⊢
                exact ⟨w4, M4, acc, us, s4, x14, hH4, q3.mono x4, b4, r4, e2⟩
              | true =>
                simp only [if_true] at e2 ⊢
                refine ⟨S, w4, e3, M4, s4, (z4.sx sx3).mono x4, ?_⟩
                cases hf : f e3 M4 with
                | bad => simp only [hf] at e2; cases e2
                | exc C fs M5 => simp only [hf] at e2; cases e2
                | ok d M5 =>
                  simp only [hf] at e2
                  by_cases hz : acc.length < sizeLine
                  · simp only [if_pos hz] at e2
                    intro w5 H5 v x5 s5 rv
                    have rv : Rep K w5 v d := rv
                    obtain ⟨b5, r5, hH5⟩ := x5.keepB b4 r4 hH4
                    have q5 := (q3.mono x4).mono x5
                    refine ⟨us, hH5, by rw [q2.length]; exact hz, w5, M5, acc ++ [d], us ++ [v], ?_, ?_, upd_same, q5.append (.one rv), b5, r5, e2⟩
                    · exact (s5.writeO (S := fun b => b ≠ A) b5 r5 (fun z => z rfl)).1
                    · exact Ext.but (x14.trans x5) hA (s5.writeO (S := fun b => b ≠ A) b5 r5 (fun z => z rfl)).2
                  · simp only [if_neg hz] at e2; cases e2
        · have e1 : ds.drop i = [] := List.drop_of_length_le (by omega)
          rw [e1] at e2
          unfold lcL at e2
          cases e2
          refine .inl ⟨rs i (by omega), ?_⟩
          exact p w2 H2 (.ref A) x2 s2 (.inr (.inl ⟨_, rfl, A, us, rfl, hA, b2, r2, hH2, q2⟩))
/-! a comprehension whose parts may call: what is tracked at the block's start is told to them -/
def BlkT (X : Cx) (T : List Addr) (scope : Scope) (J : Cx → Prop) : Prop := ∀ (s : Shared) (H : Hp) (C : Addr) (cl : List (Str × Addr)) (fp : List Addr), TOk T H → J (X.blk s H scope (compEnvC scope cl C X.env) fp)
theorem lcT_core {T : List Addr} {pins : List (Addr × Obj)} {s : Shared} {σ : L2.St} {H : Hp} {Q : VK} {q1 q2 : Pos} {wi : TI} {g : TG} {tt : TT} {te : TE} {use : Option (Value → Sem Unit)} {Qf : Value → Shared → Prop}
    (hc : X.calm = true) (hT : TOk T X.H_0) (hN : X.N.Nodup) (I : Inv X pins σ H s) (hi : PI X tg iter wi) (ok : BlkOk X.N X.env.scope scope own)
    (hg : BlkT X T scope fun B => PG B tg g) (ht : BlkT X T scope fun B => PTs B ifs tt) (he : BlkT X T scope fun B => PE B elt te) (hs : ∀ x, foldedSetIterable iter X.env x = pure x)
    (h : tLc wi g tt te (own.map (·.2)) σ H Q)
    (back : ∀ L C s' m H', Inv X pins σ H' s' → Q (.ref L) H' → s'.heap.Ns C m → FpOk X pins H' C → compPost (model X.prog X.w) X.A X.xe use Qf (.ref L) C (.ok .next) s') :
    wpAny (model X.prog X.w) X.A (comprehension (.ListComp elt [⟨tg, iter, ifs, 0⟩] scope q1) scope X.env q2 (newList []) false (eval iter X.env) use) Qf X.xe s := by
  have hfr : ∀ z ∈ scope.names, z.2 = .free → ∃ c, X.env.cells.lookup z.1 = some c := fun z hz e => (ok.free z hz e).elim (fun q => I.ok.has _ (.inl q)) fun q => I.ok.has _ (.inr q)
  refine wpAny_comprehension_free (use := use) rfl hs (closure_ok hfr) ok.kind (fun z hz e => by rw [ok.uniq z hz, e]) (thn (hi.run pins s σ H _ I h) fun xv sa h1 => thn h1 fun itv sb h2 => ?_)
  obtain ⟨it, fp, tn, J, Hb, rfl, Ib, Tn, stb, fb, q⟩ := h2
  refine wpAny_newObj_type (newEnv_comp ?_) (by show 0 ≤ sizeLine; decide)
  have hLn : Hb sb.heap.objs.size = none := Ib.hok.fresh (Nat.le_refl _)
  obtain ⟨W, ⟨m0, w0⟩, turn⟩ := q _ hLn
  have hTb : TOk T (upd Hb sb.heap.objs.size (.lst [])) := fun P hP => by
    obtain ⟨ps, e⟩ := hT.at Ib P hP
    exact ⟨ps, by rw [upd_ne (fun z => by rw [z, hLn] at e; cases e)]; exact e⟩
  generalize hsc : ({ sb with heap := sb.heap.push { cls := .type "list", data := .seq ([] : List Value).toArray } } : Shared) = sc
  have Ic : Inv X pins σ (upd Hb sb.heap.objs.size (.lst [])) sc := by
    rw [← hsc]
    exact Ib.laid (t' := sb.toks) (fun b o e => Heap.get?_push_of_some _ e) (Nat.le_refl _) ⟨Nat.zero_le _, [], 0, .nil, Heap.get?_push_size _ rfl⟩
  have ehc : sc.heap = sb.heap.push { cls := .type "list", data := .seq ([] : List Value).toArray } := by rw [← hsc]
  have fc : ∀ b ∈ fp, FpOk X pins (upd Hb sb.heap.objs.size (.lst [])) b ∧ b < sc.heap.objs.size := fun b hb => by
    obtain ⟨o, e, _⟩ := Tn.obj _ _ stb b hb
    have lt := Heap.lt_size e
    exact ⟨⟨by rw [upd_ne (Nat.ne_of_lt lt)]; exact (fb b hb).1, (fb b hb).2⟩, by rw [ehc, Heap.size_push]; exact Nat.lt_succ_of_lt lt⟩
  have stc : tn 0 sc.heap := Tn.keep _ _ _ stb fun b _ o e => by rw [ehc]; exact Heap.get?_push_of_some _ e
  have Id := block_start Ic ok hN fc
  have pg := hg sc _ sc.heap.objs.size (cellsFrom (sc.heap.objs.size + 1) scope.names (cloFrom X.env.cells scope.names [])) fp hTb
  have pt := ht sc _ sc.heap.objs.size (cellsFrom (sc.heap.objs.size + 1) scope.names (cloFrom X.env.cells scope.names [])) fp hTb
  have pe := he sc _ sc.heap.objs.size (cellsFrom (sc.heap.objs.size + 1) scope.names (cloFrom X.env.cells scope.names [])) fp hTb
  have nfp : ∀ b ∈ fp, (upd Hb sb.heap.objs.size (.lst [])) b = none := fun b hb => (fc b hb).1.1
  generalize hL : sb.heap.objs.size = L at *
  generalize hcz : compEnvC scope (cellsFrom (sc.heap.objs.size + 1) scope.names (cloFrom X.env.cells scope.names [])) sc.heap.objs.size X.env = cz at Id pg pt pe
  have zL : cz.locals = sc.heap.objs.size := by subst hcz; rfl
  generalize hHc : upd Hb L (.lst []) = Hc at *
  generalize hsd : ({ sc with heap := pushCells (sc.heap.push { cls := .type "dict", data := .dict #[] }) scope.names } : Shared) = sd at Id
  have std : tn 0 sd.heap := Tn.keep _ _ _ stc fun b _ o e => by rw [← hsd]; exact pushCells_keeps _ _ _ _ (Heap.get?_push_of_some _ e)
  have stat : ∀ {σ' : L2.St} {H' : Hp} {s' : Shared}, Inv (X.blk sc Hc scope cz fp) [] σ' H' s' → (∀ b ∈ fp, H' b = none) → ∀ b ∈ fp, FpOk (X.blk sc Hc scope cz fp) [] H' b := fun {σ' H' s'} I' hn b hb =>
    ⟨hn b hb, (I'.ok.exf b hb).1, I'.ok.exfs b hb, .inl hb, fun x c e => (I'.ok.exf b hb).2 x c e, fun p hp => by cases hp⟩
  have loop : codeAny (model X.prog X.w) X.A (.compLoop (.ListComp elt [⟨tg, iter, ifs, 0⟩] scope q1) 0 (.ref it) (.ref L) cz) (compPost (model X.prog X.w) X.A X.xe use Qf (.ref L) sc.heap.objs.size) sd := by
    refine compLoop_any (fun n s' => ∃ i H', Inv (X.blk sc Hc scope cz fp) [] (wipe σ (own.map (·.2))) H' s' ∧ tn i s'.heap ∧ (∀ b ∈ fp, H' b = none) ∧ W i n H') ?_ m0 ⟨0, Hc, Id, std, nfp, w0⟩
    rintro n s5 ⟨i, H5, I5, st5, n5, w5⟩
    rcases turn i n H5 w5 with ⟨stop, qq⟩ | ⟨go, Nx, hNx, step⟩
    · refine thnF (Tn.done (X.blk sc Hc scope cz fp) rfl rfl rfl hc i [] s5 _ H5 (fun _ _ => False) I5 (stat I5 n5) st5 stop) fun r s6 ⟨hr, I6⟩ => ?_
      subst hr
      have nC : H5 sc.heap.objs.size = none := by rw [← zL]; exact I6.free
      obtain ⟨m, hn, _⟩ := I6.loc
      have hn : s6.heap.Ns cz.locals m := hn
      rw [zL] at hn
      exact back L sc.heap.objs.size s6 m H5 (Ic.call' (ch := fp) I6.os I6.base I6.hok I6.bare fun b hb => let z := (fc b hb).1; ⟨z.2.2.2.1, z.2.1, z.2.2.2.2.1, z.2.2.2.2.2⟩) qq hn (Ic.fpOk (Nat.le_refl _) nC)
    · refine thnF (Tn.item (X.blk sc Hc scope cz fp) rfl rfl rfl hc i [] s5 _ H5 (fun _ _ => False) I5 (stat I5 n5) st5 go) fun r s6 ⟨u, hr, h6⟩ => ?_
      subst hr
      refine thnF h6 fun _ s7 ⟨x, H7, I7, r7, y7, st7, n7⟩ => ?_
      refine thnF (pg.run _ s7 _ H7 x u _ (I7.pinned (stat I7 n7) (Tn.obj _ _ st7)) r7 (step x H7 y7)) fun _ s8 ⟨σ8, H8, I8, hw8, q8⟩ => ?_
      refine thnF (pt.run _ s8 σ8 H8 _ I8 q8) fun b s9 ⟨H9, I9, q9⟩ => ?_
      have fin : ∀ {s' : Shared} {H' : Hp}, Inv (X.blk sc Hc scope cz fp) ([] ++ pinsAt fp s7.heap) σ8 H' s' → Nx H' → ∃ m, m < n ∧ ∃ i H', Inv (X.blk sc Hc scope cz fp) [] (wipe σ (own.map (·.2))) H' s' ∧ tn i s'.heap ∧ (∀ b ∈ fp, H' b = none) ∧ W i m H' := fun {s' H'} I' nx => by
        obtain ⟨m', hm, w'⟩ := hNx H' nx
        have pin' : ∀ b ∈ fp, ∀ o, s7.heap.get? b = some o → s'.heap.get? b = some o ∧ H' b = none := fun b hb o e =>
          let z := I'.pin (b, o) (List.mem_append_right _ (List.mem_append_right _ (mem_pinsAt hb e)))
          ⟨z.1, z.2.1⟩
        refine ⟨m', hm, i + 1, H', (I'.unpinned (pins := [])).weak (by rw [← hw8, wipe_length]) (fun j v e => by rw [← hw8] at e; exact (wipe_some e).1), Tn.keep _ _ _ st7 fun b hb o e => (pin' b hb o e).1, fun b hb => ?_, w'⟩
        obtain ⟨o, e, _⟩ := Tn.obj _ _ st7 b hb
        exact (pin' b hb o e).2
      cases b with
      | false =>
        simp only [Bool.false_eq_true, if_false] at q9 ⊢
        exact fin I9 q9
      | true =>
        simp only [if_true] at q9 ⊢
        refine thnF (pe.run _ s9 σ8 H9 _ I9 q9) fun z sA ⟨yv, HA, IA, rA, acc, hDA, hzA, nx⟩ => ?_
        exact app_ok (X := X.blk sc Hc scope cz fp) IA hDA hzA rA fun sB IB => fin IB nx
  have fin := codeAny_compStart_list loop (Tn.self X.A 0 _ _ _ std loop)
  subst hsd hHc
  rw [← hcz] at fin
  exact fin
theorem pe_lcT {T : List Addr} {wi : TI} {g : TG} {tt : TT} {te : TE} (hc : X.calm = true) (hT : TOk T X.H_0) (hN : X.N.Nodup) (hi : PI X tg iter wi) (ok : BlkOk X.N X.env.scope scope own)
    (hg : BlkT X T scope fun B => PG B tg g) (ht : BlkT X T scope fun B => PTs B ifs tt) (he : BlkT X T scope fun B => PE B elt te) (hs : ∀ x, foldedSetIterable iter X.env x = pure x) :
    PE X (.ListComp elt [⟨tg, iter, ifs, 0⟩] scope pos) (tLc wi g tt te (own.map (·.2))) := by
  refine ⟨fun pins s σ H Q I h => ?_⟩
  rw [eval_ListComp]
  refine lcT_core hc hT hN I hi ok hg ht he hs h fun L C s' m H' I' q hn ⟨f0, f1, _, f3, f4, f5⟩ => ⟨m, hn, fun h'' sb => ?_⟩
  exact ⟨.ref L, H', I'.turned (t' := s'.toks) (fun b o hb e => (sb.2 b hb).trans e) f0 f1 f3 f4 f5, rfl, q⟩
theorem ps_setLcT {T : List Addr} {i : Nat} {y : Str} {py spos : Pos} {wi : TI} {g : TG} {tt : TT} {te : TE} (hc : X.calm = true) (hT : TOk T X.H_0) (hN : X.N.Nodup) (hy : X.N[i]? = some y) (hyl : X.env.scope.names.lookup y = some .local)
    (hsw : swapsWith (.ListComp elt [⟨tg, iter, ifs, 0⟩] scope pos) (some (.Name y py)) spos.line X.env = pure true) (hi : PI X tg iter wi) (ok : BlkOk X.N X.env.scope scope own)
    (hg : BlkT X T scope fun B => PG B tg g) (ht : BlkT X T scope fun B => PTs B ifs tt) (he : BlkT X T scope fun B => PE B elt te) (hs : ∀ x, foldedSetIterable iter X.env x = pure x) :
    PS X (.Assign [.Name y py] (.ListComp elt [⟨tg, iter, ifs, 0⟩] scope pos) spos) (tAsg (tLc wi g tt te (own.map (·.2))) (gName i)) := by
  refine ⟨fun pins s σ H D I h => ?_⟩
  rw [exec_Assign_Name_used _ _ _ _ hsw]
  refine wpAny_bind (wpAny_standAt (wpAny_bind ?_))
  show wpAny _ X.A (do let _ ← comprehension (.ListComp elt [⟨tg, iter, ifs, 0⟩] scope pos) scope X.env (firstIterPos [⟨tg, iter, ifs, 0⟩] pos) (newList []) false (eval iter X.env) (some (assign (.Name y py) X.env))) _ _ s
  have h : tLc wi g tt te (own.map (·.2)) σ H (fun x H1 => gName i x σ H1 D.nx) := h
  refine wpAny_bind (thn (lcT_core (Qf := fun _ s' => SP X pins D .next s') hc hT hN I hi ok hg ht he hs h fun L C s' m H' I' q hn ⟨f0, f1, _, f3, f4, f5⟩ => ?_) fun _ s' hq => wpAny_pure (wpAny_pure hq))
  show wpAny _ _ (assign (.Name y py) X.env (.ref L)) _ _ _
  refine wpAny_assign_Name (store_ok2 (v := V.ref L) I' hN hy (.inl hyl) rfl (fun s2 I2 ⟨a, sb, ha⟩ => ?_) (.inr hyl))
  have ne : C ≠ a := ha.elim (fun z => by rw [z]; exact f1) fun z e => f4 y a z e.symm
  exact ⟨m, hn.sameBut sb ne, fun h3 sb3 => ⟨_, H', I2.turned (t' := s2.toks) (fun b o hb e => (sb3.2 b hb).trans e) f0 f1 f3 f4 f5, q⟩⟩
theorem a_lc {it : SA} {g : SG} {t : SB} {f : SE} {is : List Nat} {T : List Addr} (hc : X.calm = true) (hT : TOk T X.H_0) (hN : X.N.Nodup) (hi : AI X W tg iter it) (ok : BlkOk X.N X.env.scope scope own) {tt : TG}
    (hg : BlkT X T scope fun B => PG B tg tt) (kg : KG X.K tt is g) (hv : ∀ i ∈ is, i ∈ own.map (·.2))
    (ht : BlkT X T scope fun B => AT B W0 ifs t)
    (he : BlkT X T scope fun B => AF B W0 elt f) (hs : ∀ x, foldedSetIterable iter X.env x = pure x := by intro _; rfl) :
    AE X W (.ListComp elt [⟨tg, iter, ifs, 0⟩] scope pos) (sLc it g t f (own.map (·.2))) :=
  PE.imp (pe_lcT hc hT hN hi ok hg ht he hs) fun σ H Q q => tLc_of kg hv q
theorem s_asgLc {i : Nat} {y : Str} {py spos : Pos} {it : SA} {g : SG} {t : SB} {f : SE} {is : List Nat} {T : List Addr} (hc : X.calm = true) (hT : TOk T X.H_0) (hN : X.N.Nodup) (hy : X.N[i]? = some y) (hyl : X.env.scope.names.lookup y = some .local) (hsw : swapsWith (.ListComp elt [⟨tg, iter, ifs, 0⟩] scope pos) (some (.Name y py)) spos.line X.env = pure true) (hi : AI X W tg iter it) (ok : BlkOk X.N X.env.scope scope own) {tt : TG}
    (hg : BlkT X T scope fun B => PG B tg tt) (kg : KG X.K tt is g) (hv : ∀ i ∈ is, i ∈ own.map (·.2))
    (ht : BlkT X T scope fun B => AT B W0 ifs t)
    (he : BlkT X T scope fun B => AF B W0 elt f) (hs : ∀ x, foldedSetIterable iter X.env x = pure x := by intro _; rfl) :
    AS X W (.Assign [.Name y py] (.ListComp elt [⟨tg, iter, ifs, 0⟩] scope pos) spos) (sAsg i (fz (sLc it g t f (own.map (·.2))))) :=
  PS.imp (ps_setLcT hc hT hN hy hyl hsw hi ok hg ht he hs) fun E σ H q => tLc_of kg hv (fz_of (asg_of q))
theorem s_asgLcO {i : Nat} {y : Str} {py spos : Pos} {it : SA} {g : SG} {t : SB} {f : SE} {is : List Nat} {T : List Addr} (hc : X.calm = true) (hT : TOk T X.H_0) (hN : X.N.Nodup) (hy : X.N[i]? = some y) (hyl : X.env.scope.names.lookup y = some .local) (hsw : swapsWith (.ListComp elt [⟨tg, iter, ifs, 0⟩] scope pos) (some (.Name y py)) spos.line X.env = pure true) (hi : AI X W tg iter it) (ok : BlkOk X.N X.env.scope scope own) {tt : TG}
    (hg : BlkT X T scope fun B => PG B tg tt) (kg : KG X.K tt is g) (hv : ∀ i ∈ is, i ∈ own.map (·.2))
    (ht : BlkT X T scope fun B => AT B W0 ifs t)
    (he : BlkT X T scope fun B => AF B W0 elt f) (hs : ∀ x, foldedSetIterable iter X.env x = pure x := by intro _; rfl) :
    AS X W (.Assign [.Name y py] (.ListComp elt [⟨tg, iter, ifs, 0⟩] scope pos) spos) (sAsgO i (sLc it g t f (own.map (·.2)))) :=
  PS.imp (ps_setLcT hc hT hN hy hyl hsw hi ok hg ht he hs) fun E σ H q => tLc_of kg hv (asgO_of q)
theorem s_asgLcC {i : Nat} {y : Str} {py spos : Pos} {it : SA} {g : SG} {t : SB} {f : SE} {is : List Nat} {T : List Addr} (hc : X.calm = true) (hT : TOk T X.H_0) (hN : X.N.Nodup) (hy : X.N[i]? = some y) (hyl : X.env.scope.names.lookup y = some .local) (hsw : swapsWith (.ListComp elt [⟨tg, iter, ifs, 0⟩] scope pos) (some (.Name y py)) spos.line X.env = pure true) (hi : AI X W tg iter it) (ok : BlkOk X.N X.env.scope scope own) {tt : TG}
    (hg : BlkT X T scope fun B => PG B tg tt) (kg : KG X.K tt is g) (hv : ∀ i ∈ is, i ∈ own.map (·.2))
    (ht : BlkT X T scope fun B => AT B W0 ifs t)
    (he : BlkT X T scope fun B => AF B W0 elt f) (hs : ∀ x, foldedSetIterable iter X.env x = pure x := by intro _; rfl) :
    AS X W (.Assign [.Name y py] (.ListComp elt [⟨tg, iter, ifs, 0⟩] scope pos) spos) (sAsgC i (sLc it g t f (own.map (·.2)))) :=
  PS.imp (ps_setLcT hc hT hN hy hyl hsw hi ok hg ht he hs) fun E σ H q => tLc_of kg hv (asgC_of q)
end
end L3
namespace L3
open PySem PySem.Spec PyProof.Rows L2
/-- what the top says of a def -/
structure Dn (K : PySem.W.Frag) (mg : Str → Option Value) (x : Str) (st : Stmt) (ps : List Str) (f : Addr) (fd : FuncData) : Prop where
  g : mg x = some (.ref f)
  F : Fun K x x st f fd
  b : Binds K fd ps []
theorem hu_1 {k : Nat} {A : Around} (r : Room k A) : A.units + 1 < cLine := by have := r.un; omega
theorem hu_64 {k : Nat} {A : Around} (r : Room k A) : A.units + 64 < cLine := by have := r.un; omega
theorem hu_65 {k : Nat} {A : Around} (r : Room k A) : A.units + 65 < cLine := by have := r.un; omega
section
variable {X : Cx} {W : WX} {pos : Pos}
theorem av (i : Nat) {x : Str} (hN : X.N[i]? = some x := by rfl) (hv : Vis X.env.scope x := by first | exact Or.inl rfl | exact Or.inr (Or.inl rfl) | exact Or.inr (Or.inr rfl)) (hd : (x == ("__debug__" : Str)) = false := by decide) (hcd : (x == ("__classdict__" : Str)) = false := by decide) : AE X W (.Name x pos) (sVar i) := a_var hN hv hd hcd
def augSub : D → D → Mem → R D := subD
theorem augSubG : OpG X W (rI0 fun i j => .int (i - j)) augSub := subG
def augMul : D → D → Mem → R D := mulD
theorem augMulG : OpG X W (rI CMul fun i j => .int (i * j)) augMul := mulG
def neg1 (d : D) (M : Mem) : R D := match d with
  | .int i => .ok (.int (-i)) M
  | _ => .bad
def sNeg (f : SE) : SE := fun e M => (f e M).bind neg1
theorem a_neg {a : Expr} {f : SE} (h : AE X W a f) : AE X W (.UnaryOp .USub a pos) (sNeg f) :=
  PE.imp (pe_un un_neg h) fun σ H Q q => tG.step (k := fun e d M => neg1 d M) (fun _ => bkE) q fun S w e w' M' H' v d s sx x r p => by
    cases d with
    | int i => exact ⟨i, r.toR.int, p w' H' _ (.refl _ _) s (.inl (.int _))⟩
    | _ => exact p.elim
end
/-- the law at a script -/
theorem law_end {K : PySem.W.Frag} {T : List Addr} {g : Fn} {H : Hp} {a : Addr} {ns : List Int} (hT : TOk T H) (ht : ∀ (P : Addr) (ps : Array Value), H P = some (.tbl ps) → ps = #[]) (hS : SqL K H a (ns.map V.int)) (h : ∃ M, g [.rol (ns.map D.int)] [] = .ok (.bl true) M) : spS T K 1 g [.ref a] H (fun v _ => v = .bl true) fun _ _ _ => False := by
  obtain ⟨M, e⟩ := h
  have hB : ∀ b o, (match H b with | some (.tbl _) => none | o => o) = some o → H b = some o := fun b o q => by
    cases z : H b with
    | none => rw [z] at q; cases q
    | some u =>
      rw [z] at q
      cases u <;> first | exact q | cases q
  have hN : ∀ b u, H b = some u → NT u → (match H b with | some (.tbl _) => none | o => o) = some u := fun b u z k => by
    rw [z]
    cases u <;> first | rfl | exact absurd rfl (k _)
  have hS' : SqL K (fun b => match H b with | some (.tbl _) => none | o => o) a (ns.map V.int) := by
    rcases hS with (z | ⟨o, z⟩) | z
    · exact .inl (.inl (hN _ _ z (by intro _ q; cases q)))
    · exact .inl (.inr ⟨o, hN _ _ z (by intro _ q; cases q)⟩)
    · exact .inr z
  refine ⟨rfl, hT, ⟨fun b => match H b with | some (.tbl _) => none | o => o, []⟩, [.rol (ns.map D.int)], [], ⟨hB, rfl, .nil, fun n a o e => by simp at e, fun P ps q => ?_, fun b us q => hN b _ q (by intro _ z; cases z)⟩, .one (.rol hS' (Reps.ints ns)), ?_⟩
  · rw [ht P ps q]
    refine ⟨trivial, ?_, by simp⟩
    show (match H P with | some (.tbl _) => none | o => o) = none
    rw [q]
  · rw [e]
    intro w' H' v x s r
    cases r
    rfl
theorem cx_false {P : Program} {w : World} {H : Hp} {s s' : Shared} {e : Value} (h : L2.CX P w [] H s (fun _ _ _ => False) e s') : False := by
  obtain ⟨_, _, _, _, _, _, _, _, _, _, _, _, z⟩ := h
  exact z
theorem fn_mk2 {P : Program} {w0 : World} {K : PySem.W.Frag} {mg : Str → Option Value} {base : Heap} {x qual : Str} {st : Stmt} {f : Addr} {fd : FuncData} {N ps : List Str} {T : List Addr} {k : Nat} {b : SS} (F : Fun K x qual st f fd) (Sc : FnScope N ps (defScope st)) (hl : ps.length ≤ N.length)
    (hb : ∀ (cdv : Value) (A : Around) (outer : List Env) (s : Shared) (H : Hp) (E : XK), Room k (A.deeper (envOfC qual (defScope st) s.heap.objs.size f cdv)) → TOk T H →
      (∀ σ, PassesAt (L2.CX P w0) (cxOf (L2.CX P w0) P w0 K mg base N qual (defScope st) f cdv A outer s H E) σ (WE (fun c od _ H' => E c od H') σ)) →
      PassesOwn (model P w0) (cxOf (L2.CX P w0) P w0 K mg base N qual (defScope st) f cdv A outer s H E).A (cxOf (L2.CX P w0) P w0 K mg base N qual (defScope st) f cdv A outer s H E).env (cxOf (L2.CX P w0) P w0 K mg base N qual (defScope st) f cdv A outer s H E).xe →
      ASs (cxOf (L2.CX P w0) P w0 K mg base N qual (defScope st) f cdv A outer s H E) (fun c od _ H' => E c od H') (defBody st) b) : FnOk P w0 K mg base (L2.CX P w0) (k + 1) f fd ps (spS T K ps.length (runF N.length b)) :=
  fn_mk F Sc hl fun cdv A outer s H E hr hTO =>
    have tk := takes_of (X := cxOf (L2.CX P w0) P w0 K mg base N qual (defScope st) f cdv A outer s H E) (E := E) (E₁ := fun e s'' => L2.CX P w0 outer H s E e s'') rfl rfl rfl rfl
    hb cdv A outer s H E hr hTO (passAt tk) (passes_of (X := cxOf (L2.CX P w0) P w0 K mg base N qual (defScope st) f cdv A outer s H E) (K := fun e s'' => L2.CX P w0 outer H s E e s'') (E₁ := fun e s'' => L2.CX P w0 outer H s E e s'') rfl)
end L3
namespace L3
open PySem PySem.Spec PyProof.Rows L2

theorem nrfl {α : Sort _} {a b : α} (h : a = b) : a = b := h
@[simp] theorem bind_ok {α β : Type} (a : α) (M : Mem) (k : α → Mem → R β) : (R.ok a M).bind k = k a M := nrfl rfl
@[simp] theorem bind_exc {α β : Type} (C : Addr) (fs : List (Str × D)) (M : Mem) (k : α → Mem → R β) : (R.exc C fs M).bind k = .exc C fs M := nrfl rfl
@[simp] theorem bind_bad {α β : Type} (k : α → Mem → R β) : (R.bad).bind k = .bad := nrfl rfl
@[simp] theorem bindS_ok {α : Type} (a : α) (M : Mem) (e : En) (k : α → Mem → RS) : (R.ok a M).bindS e k = k a M := nrfl rfl
@[simp] theorem bindS_exc {α : Type} (C : Addr) (fs : List (Str × D)) (M : Mem) (e : En) (k : α → Mem → RS) : (R.exc C fs M).bindS e k = .exc C fs e M := nrfl rfl
@[simp] theorem bindS_bad {α : Type} (e : En) (k : α → Mem → RS) : (R.bad).bindS e k = .bad := nrfl rfl
/-! ## evaluation: what simp does, step by step -/
def var1 (o : Option D) (M : Mem) : R D := match o with
  | some (.own ds) => .ok (.brw ds) M
  | some d => .ok d M
  | none => .bad
@[simp] theorem sVar_eq (i : Nat) (e : En) (M : Mem) : sVar i e M = var1 (eget e i) M := nrfl rfl
section
variable (M : Mem)
@[simp] theorem var1_own (ds) : var1 (some (.own ds)) M = .ok (.brw ds) M := nrfl rfl
@[simp] theorem var1_non : var1 (some .non) M = .ok .non M := nrfl rfl
@[simp] theorem var1_bl (b) : var1 (some (.bl b)) M = .ok (.bl b) M := nrfl rfl
@[simp] theorem var1_int (b) : var1 (some (.int b)) M = .ok (.int b) M := nrfl rfl
@[simp] theorem var1_str (b) : var1 (some (.str b)) M = .ok (.str b) M := nrfl rfl
@[simp] theorem var1_tup (b) : var1 (some (.tup b)) M = .ok (.tup b) M := nrfl rfl
@[simp] theorem var1_lst (b) : var1 (some (.lst b)) M = .ok (.lst b) M := nrfl rfl
@[simp] theorem var1_rol (b) : var1 (some (.rol b)) M = .ok (.rol b) M := nrfl rfl
@[simp] theorem var1_cell (b) : var1 (some (.cell b)) M = .ok (.cell b) M := nrfl rfl
@[simp] theorem var1_obj (a b) : var1 (some (.obj a b)) M = .ok (.obj a b) M := nrfl rfl
@[simp] theorem var1_ty (b) : var1 (some (.ty b)) M = .ok (.ty b) M := nrfl rfl
@[simp] theorem fz1_own (ds) : fz1 (.own ds) M = .ok (.lst ds) M := nrfl rfl
@[simp] theorem fz1_non : fz1 .non M = .ok .non M := nrfl rfl
@[simp] theorem fz1_bl (b) : fz1 (.bl b) M = .ok (.bl b) M := nrfl rfl
@[simp] theorem fz1_int (b) : fz1 (.int b) M = .ok (.int b) M := nrfl rfl
@[simp] theorem fz1_str (b) : fz1 (.str b) M = .ok (.str b) M := nrfl rfl
@[simp] theorem fz1_tup (b) : fz1 (.tup b) M = .ok (.tup b) M := nrfl rfl
@[simp] theorem fz1_lst (b) : fz1 (.lst b) M = .ok (.lst b) M := nrfl rfl
@[simp] theorem fz1_rol (b) : fz1 (.rol b) M = .ok (.rol b) M := nrfl rfl
@[simp] theorem fz1_cell (b) : fz1 (.cell b) M = .ok (.cell b) M := nrfl rfl
@[simp] theorem fz1_obj (a b) : fz1 (.obj a b) M = .ok (.obj a b) M := nrfl rfl
end
@[simp] theorem eget_nil (i) : eget [] i = none := nrfl rfl
@[simp] theorem eget_zero (d r) : eget (d :: r) 0 = d := nrfl rfl
@[simp] theorem eget_succ (d r i) : eget (d :: r) (i + 1) = eget r i := nrfl rfl
section
variable (e : En) (M : Mem)
@[simp] theorem sC_eq (d) : sC d e M = .ok d M := nrfl rfl
@[simp] theorem fz_eq (f : SE) : fz f e M = (f e M).bind fz1 := nrfl rfl
@[simp] theorem sNil_eq : sNil e M = .ok [] M := nrfl rfl
def cons1 (d : D) (ds : List D) (M : Mem) : R (List D) := .ok (d :: ds) M
def kCons (g : SA) (e : En) (d : D) (M : Mem) : R (List D) := (g e M).bind (cons1 d)
@[simp] theorem sCons_eq (f : SE) (g : SA) : sCons f g e M = (f e M).bind (kCons g e) := nrfl rfl
@[simp] theorem kCons_eq (g : SA) (d) : kCons g e d M = (g e M).bind (cons1 d) := nrfl rfl
@[simp] theorem cons1_eq (d ds) : cons1 d ds M = .ok (d :: ds) M := nrfl rfl
def tup1 (ds : List D) (M : Mem) : R D := if ds.length ≤ 64 then .ok (.tup ds) M else .bad
def lst1 (ds : List D) (M : Mem) : R D := if ds.length ≤ 64 then .ok (.own ds) M else .bad
@[simp] theorem sTup_eq (g : SA) : sTup g e M = (g e M).bind tup1 := nrfl rfl
@[simp] theorem sLst_eq (g : SA) : sLst g e M = (g e M).bind lst1 := nrfl rfl
@[simp] theorem tup1_eq (ds) : tup1 ds M = if ds.length ≤ 64 then .ok (.tup ds) M else .bad := nrfl rfl
@[simp] theorem lst1_eq (ds) : lst1 ds M = if ds.length ≤ 64 then .ok (.own ds) M else .bad := nrfl rfl
def kOp (g : D → D → Mem → R D) (fb : SE) (e : En) (d : D) (M : Mem) : R D := (fb e M).bind (g d)
@[simp] theorem sOp_eq (g : D → D → Mem → R D) (fa fb : SE) : sOp g fa fb e M = (fa e M).bind (kOp g fb e) := nrfl rfl
@[simp] theorem kOp_eq (g : D → D → Mem → R D) (fb : SE) (d) : kOp g fb e d M = (fb e M).bind (g d) := nrfl rfl
@[simp] theorem sCall_eq (g : List D → Mem → R D) (fa : SA) : sCall g fa e M = (fa e M).bind g := nrfl rfl
@[simp] theorem sT_eq (f : SE) : sT f e M = (f e M).bind bl1 := nrfl rfl
@[simp] theorem bl1_bl (b) : bl1 (.bl b) M = .ok b M := nrfl rfl
@[simp] theorem sTru_eq (f : SE) : sTru f e M = (f e M).bind tru1 := nrfl rfl
@[simp] theorem tru1_non : tru1 .non M = .ok false M := nrfl rfl
@[simp] theorem tru1_bl (b) : tru1 (.bl b) M = .ok b M := nrfl rfl
@[simp] theorem tru1_int (b) : tru1 (.int b) M = .ok (b != 0) M := nrfl rfl
@[simp] theorem tru1_tup (b) : tru1 (.tup b) M = .ok (!b.isEmpty) M := nrfl rfl
@[simp] theorem tru1_lst (b) : tru1 (.lst b) M = .ok (!b.isEmpty) M := nrfl rfl
@[simp] theorem tru1_own (b) : tru1 (.own b) M = .ok (!b.isEmpty) M := nrfl rfl
@[simp] theorem tru1_brw (b) : tru1 (.brw b) M = .ok (!b.isEmpty) M := nrfl rfl
@[simp] theorem tru1_rol (b) : tru1 (.rol b) M = .ok (!b.isEmpty) M := nrfl rfl
def kAnd (g : SE) (e : En) (d : D) (M : Mem) : R D := (tru1 d M).bind fun k M => if k = true then g e M else nown d M
def kOr (g : SE) (e : En) (d : D) (M : Mem) : R D := (tru1 d M).bind fun k M => if k = true then nown d M else g e M
def not1 (d : D) (M : Mem) : R D := (tru1 d M).bind fun k M => .ok (.bl (!k)) M
@[simp] theorem sAnd_eq (f g : SE) : sAnd f g e M = (f e M).bind (kAnd g e) := nrfl rfl
@[simp] theorem sOr_eq (f g : SE) : sOr f g e M = (f e M).bind (kOr g e) := nrfl rfl
@[simp] theorem sNot_eq (f : SE) : sNot f e M = (f e M).bind not1 := nrfl rfl
@[simp] theorem kAnd_bl (g : SE) (b) : kAnd g e (.bl b) M = if b = true then g e M else .ok (.bl false) M := by cases b <;> rfl
@[simp] theorem kOr_bl (g : SE) (b) : kOr g e (.bl b) M = if b = true then .ok (.bl true) M else g e M := by cases b <;> rfl
@[simp] theorem not1_bl (b) : not1 (.bl b) M = .ok (.bl (!b)) M := nrfl rfl
@[simp] theorem not1_own (b) : not1 (.own b) M = .ok (.bl b.isEmpty) M := by cases b <;> rfl
@[simp] theorem not1_brw (b) : not1 (.brw b) M = .ok (.bl b.isEmpty) M := by cases b <;> rfl
@[simp] theorem not1_lst (b) : not1 (.lst b) M = .ok (.bl b.isEmpty) M := by cases b <;> rfl
@[simp] theorem not1_tup (b) : not1 (.tup b) M = .ok (.bl b.isEmpty) M := by cases b <;> rfl
def kbAnd (g : SB) (e : En) (k : Bool) (M : Mem) : R Bool := if k = true then g e M else .ok false M
def kbOr (g : SB) (e : En) (k : Bool) (M : Mem) : R Bool := if k = true then .ok true M else g e M
def kbNot (k : Bool) (M : Mem) : R Bool := .ok (!k) M
@[simp] theorem bAnd_eq (f g : SB) : bAnd f g e M = (f e M).bind (kbAnd g e) := nrfl rfl
@[simp] theorem bOr_eq (f g : SB) : bOr f g e M = (f e M).bind (kbOr g e) := nrfl rfl
@[simp] theorem bNot_eq (f : SB) : bNot f e M = (f e M).bind kbNot := nrfl rfl
@[simp] theorem kbAnd_eq (g : SB) (k) : kbAnd g e k M = if k = true then g e M else .ok false M := nrfl rfl
@[simp] theorem kbOr_eq (g : SB) (k) : kbOr g e k M = if k = true then .ok true M else g e M := nrfl rfl
@[simp] theorem kbNot_eq (k) : kbNot k M = .ok (!k) M := nrfl rfl
@[simp] theorem bYes_eq : bYes e M = .ok true M := nrfl rfl
def kIf (f g : SE) (e : En) (k : Bool) (M : Mem) : R D := if k = true then f e M else g e M
@[simp] theorem sIf_eq (c : SB) (f g : SE) : sIf c f g e M = (c e M).bind (kIf f g e) := nrfl rfl
@[simp] theorem kIf_eq (f g : SE) (k) : kIf f g e k M = if k = true then f e M else g e M := nrfl rfl
def kChn (g g' : D → D → Mem → R D) (fb fc : SE) (e : En) (d1 : D) (M : Mem) : R D := (fb e M).bind (kChain g g' fc e d1)
@[simp] theorem sChn_eq (g g' : D → D → Mem → R D) (fa fb fc : SE) : sChn g g' fa fb fc e M = (fa e M).bind (kChn g g' fb fc e) := nrfl rfl
@[simp] theorem kChn_eq (g g' : D → D → Mem → R D) (fb fc : SE) (d) : kChn g g' fb fc e d M = (fb e M).bind (kChain g g' fc e d) := nrfl rfl
def kCh2 (g' : D → D → Mem → R D) (fc : SE) (e : En) (d2 z : D) (M : Mem) : R D := (bl1 z M).bind fun k M => if k = true then (fc e M).bind fun d3 M => g' d2 d3 M else .ok (.bl false) M
@[simp] theorem kChain_eq (g g' : D → D → Mem → R D) (fc : SE) (d1 d2) : kChain g g' fc e d1 d2 M = (g d1 d2 M).bind (kCh2 g' fc e d2) := nrfl rfl
@[simp] theorem kCh2_bl (g' : D → D → Mem → R D) (fc : SE) (d2 b) : kCh2 g' fc e d2 (.bl b) M = if b = true then (fc e M).bind (g' d2) else .ok (.bl false) M := nrfl rfl
/-! ### operations -/
@[simp] theorem addD_int (i j) : addD (.int i) (.int j) M = .ok (.int (i + j)) M := nrfl rfl
@[simp] theorem addD_str (i j) : addD (.str i) (.str j) M = if i.length + j.length ≤ sizeLine then .ok (.str (i ++ j)) M else .bad := nrfl rfl
@[simp] theorem addD_tup (i j) : addD (.tup i) (.tup j) M = if i.length + j.length ≤ sizeLine then .ok (.tup (i ++ j)) M else .bad := nrfl rfl
def catL (i j : List D) (M : Mem) : R D := if i.length + j.length ≤ sizeLine then .ok (.own (i ++ j)) M else .bad
@[simp] theorem catL_eq (i j) : catL i j M = if i.length + j.length ≤ sizeLine then .ok (.own (i ++ j)) M else .bad := nrfl rfl
@[simp] theorem addD_ll (i j) : addD (.lst i) (.lst j) M = catL i j M := nrfl rfl
@[simp] theorem addD_lo (i j) : addD (.lst i) (.own j) M = catL i j M := nrfl rfl
@[simp] theorem addD_lb (i j) : addD (.lst i) (.brw j) M = catL i j M := nrfl rfl
@[simp] theorem addD_ol (i j) : addD (.own i) (.lst j) M = catL i j M := nrfl rfl
@[simp] theorem addD_oo (i j) : addD (.own i) (.own j) M = catL i j M := nrfl rfl
@[simp] theorem addD_ob (i j) : addD (.own i) (.brw j) M = catL i j M := nrfl rfl
@[simp] theorem addD_bl (i j) : addD (.brw i) (.lst j) M = catL i j M := nrfl rfl
@[simp] theorem addD_bo (i j) : addD (.brw i) (.own j) M = catL i j M := nrfl rfl
@[simp] theorem addD_bb (i j) : addD (.brw i) (.brw j) M = catL i j M := nrfl rfl
@[simp] theorem subD_int (i j) : subD (.int i) (.int j) M = .ok (.int (i - j)) M := nrfl rfl
@[simp] theorem mulD_int (i j) : mulD (.int i) (.int j) M = if mulOk i j = true then .ok (.int (i * j)) M else .bad := nrfl rfl
@[simp] theorem fdivD_int (i j) : fdivD (.int i) (.int j) M = if divOk i j = true then .ok (.int (i.fdiv j)) M else .bad := nrfl rfl
@[simp] theorem modD_int (i j) : modD (.int i) (.int j) M = if modOk i j = true then .ok (.int (i.fmod j)) M else .bad := nrfl rfl
@[simp] theorem powD_int (i j) : powD (.int i) (.int j) M = if powOk i j = true then .ok (.int (i ^ j.toNat)) M else .bad := nrfl rfl
@[simp] theorem neg1_int (i) : neg1 (.int i) M = .ok (.int (-i)) M := nrfl rfl
@[simp] theorem sNeg_eq (f : SE) : sNeg f e M = (f e M).bind neg1 := nrfl rfl
@[simp] theorem cmpI_int (g : Int → Int → Bool) (i j) : cmpI g (.int i) (.int j) M = .ok (.bl (g i j)) M := nrfl rfl
@[simp] theorem isD_non (n a) : isD n a .non M = .ok (.bl (if n then !isNon a else isNon a)) M := nrfl rfl
@[simp] theorem isD_bl (n a b) : isD n (.bl a) (.bl b) M = .ok (.bl (if n then !(a == b) else (a == b))) M := nrfl rfl
@[simp] theorem eqD_int (n i j) : eqD n (.int i) (.int j) M = .ok (.bl (if n then !decide (i = j) else decide (i = j))) M := nrfl rfl
@[simp] theorem eqD_str (n i j) : eqD n (.str i) (.str j) M = .ok (.bl (if n then !decide (i = j) else decide (i = j))) M := nrfl rfl
@[simp] theorem eqD_bl (n i j) : eqD n (.bl i) (.bl j) M = .ok (.bl (if n then !decide (i = j) else decide (i = j))) M := nrfl rfl
@[simp] theorem augAdd_int (i j) : augAdd (.int i) (.int j) M = .ok (.int (i + j)) M := nrfl rfl
@[simp] theorem augSub_int (i j) : augSub (.int i) (.int j) M = .ok (.int (i - j)) M := nrfl rfl
@[simp] theorem augMul_int (i j) : augMul (.int i) (.int j) M = if mulOk i j = true then .ok (.int (i * j)) M else .bad := nrfl rfl
@[simp] theorem intD_int (i) : intD [.int i] M = .ok (.int i) M := nrfl rfl
@[simp] theorem intD_bl (i) : intD [.bl i] M = .ok (.int (if i then 1 else 0)) M := nrfl rfl
@[simp] theorem lenD_tup (xs) : lenD [.tup xs] M = .ok (.int xs.length) M := nrfl rfl
@[simp] theorem lenD_lst (xs) : lenD [.lst xs] M = .ok (.int xs.length) M := nrfl rfl
@[simp] theorem lenD_own (xs) : lenD [.own xs] M = .ok (.int xs.length) M := nrfl rfl
@[simp] theorem lenD_brw (xs) : lenD [.brw xs] M = .ok (.int xs.length) M := nrfl rfl
@[simp] theorem lenD_rol (xs) : lenD [.rol xs] M = .ok (.int xs.length) M := nrfl rfl
@[simp] theorem listD_tup (xs) : listD [.tup xs] M = .ok (.own xs) M := nrfl rfl
@[simp] theorem listD_lst (xs) : listD [.lst xs] M = .ok (.own xs) M := nrfl rfl
@[simp] theorem listD_own (xs) : listD [.own xs] M = .ok (.own xs) M := nrfl rfl
@[simp] theorem listD_brw (xs) : listD [.brw xs] M = .ok (.own xs) M := nrfl rfl
@[simp] theorem listD_rol (xs) : listD [.rol xs] M = .ok (.own xs) M := nrfl rfl
@[simp] theorem tupleD_tup (xs) : tupleD [.tup xs] M = .ok (.tup xs) M := nrfl rfl
@[simp] theorem tupleD_lst (xs) : tupleD [.lst xs] M = .ok (.tup xs) M := nrfl rfl
@[simp] theorem tupleD_own (xs) : tupleD [.own xs] M = .ok (.tup xs) M := nrfl rfl
@[simp] theorem tupleD_brw (xs) : tupleD [.brw xs] M = .ok (.tup xs) M := nrfl rfl
@[simp] theorem tupleD_rol (xs) : tupleD [.rol xs] M = .ok (.tup xs) M := nrfl rfl
@[simp] theorem isi_bl_bool (b) : isiD [.bl b, .ty "bool"] M = .ok (.bl true) M := by
  have h : kitB "bool" "bool" = some true := by decide +kernel
  show ofO ((kitB "bool" "bool").map .bl) M = _
  rw [h]; rfl
@[simp] theorem isi_int_bool (b) : isiD [.int b, .ty "bool"] M = .ok (.bl false) M := by
  have h : kitB "int" "bool" = some false := by decide +kernel
  show ofO ((kitB "int" "bool").map .bl) M = _
  rw [h]; rfl
@[simp] theorem isi_int_int (b) : isiD [.int b, .ty "int"] M = .ok (.bl true) M := by
  have h : kitB "int" "int" = some true := by decide +kernel
  show ofO ((kitB "int" "int").map .bl) M = _
  rw [h]; rfl
@[simp] theorem isi_lst_list (b) : isiD [.lst b, .ty "list"] M = .ok (.bl true) M := by
  have h : kitB "list" "list" = some true := by decide +kernel
  show ofO ((kitB "list" "list").map .bl) M = _
  rw [h]; rfl
@[simp] theorem isi_tup_tuple (b) : isiD [.tup b, .ty "tuple"] M = .ok (.bl true) M := by
  have h : kitB "tuple" "tuple" = some true := by decide +kernel
  show ofO ((kitB "tuple" "tuple").map .bl) M = _
  rw [h]; rfl
@[simp] theorem isi_non_tuple : isiD [.non, .ty "tuple"] M = .ok (.bl false) M := by
  have h : kitB "NoneType" "tuple" = some false := by decide +kernel
  show ofO ((kitB "NoneType" "tuple").map .bl) M = _
  rw [h]; rfl
/-! ### o[i] -/
@[simp] theorem ofO_some (d) : ofO (some d) M = .ok d M := nrfl rfl
@[simp] theorem ofO_none : ofO none M = .bad := nrfl rfl
@[simp] theorem idx_tup (xs i) : idxD (.tup xs) (.int i) M = ofO (L2.atI xs i) M := nrfl rfl
@[simp] theorem idx_lst (xs i) : idxD (.lst xs) (.int i) M = ofO (L2.atI xs i) M := nrfl rfl
@[simp] theorem idx_own (xs i) : idxD (.own xs) (.int i) M = ofO (L2.atI xs i) M := nrfl rfl
@[simp] theorem idx_brw (xs i) : idxD (.brw xs) (.int i) M = ofO (L2.atI xs i) M := nrfl rfl
@[simp] theorem idx_rol (xs i) : idxD (.rol xs) (.int i) M = ofO (L2.atI xs i) M := nrfl rfl
theorem idx_cellL (n : Nat) (i : Int) (xs : List D) (h : cellL M n = some xs) : idxD (.cell n) (.int i) M = ofO (L2.atI xs i) M := by
  have hd : cellD M n = none := by unfold cellD; rw [cellL_some h]
  show (match cellD M n with
    | some kvs => match keyOf (.int i) with
      | some k => ofO (dget kvs k) M
      | none => .bad
    | none => idxI (.cell n) i M) = _
  rw [hd]
  show (match lsq (.cell n) M with
    | some xs => ofO (L2.atI xs i) M
    | none => .bad) = _
  rw [show lsq (.cell n) M = some xs from h]
def keyD (k : D) (kvs : List (Key × D)) (M : Mem) : R D := match keyOf k with
  | some k => ofO (dget kvs k) M
  | none => .bad
@[simp] theorem keyD_str (x kvs) : keyD (.str x) kvs M = ofO (dget kvs (.inr x)) M := nrfl rfl
@[simp] theorem keyD_int (x kvs) : keyD (.int x) kvs M = ofO (dget kvs (.inl x)) M := nrfl rfl
theorem idx_cellD (n : Nat) (k : D) (kvs : List (Key × D)) (h : cellD M n = some kvs) : idxD (.cell n) k M = keyD k kvs M := by
  show (match cellD M n with
    | some kvs => match keyOf k with
      | some k => ofO (dget kvs k) M
      | none => .bad
    | none => match k with
      | .int i => idxI (.cell n) i M
      | _ => .bad) = _
  rw [h]; rfl
@[simp] theorem cellL_zero (xs r) : cellL (.lst xs :: r) 0 = some xs := nrfl rfl
@[simp] theorem cellL_zeroD (xs r) : cellL (.dic xs :: r) 0 = none := nrfl rfl
@[simp] theorem cellL_succ (x r n) : cellL (x :: r) (n + 1) = cellL r n := by
  show (match (x :: r)[n + 1]? with | some (.lst xs) => some xs | _ => none) = _
  rw [List.getElem?_cons_succ]; rfl
@[simp] theorem cellD_zero (xs r) : cellD (.dic xs :: r) 0 = some xs := nrfl rfl
@[simp] theorem cellD_zeroL (xs r) : cellD (.lst xs :: r) 0 = none := nrfl rfl
@[simp] theorem cellD_succ (x r n) : cellD (x :: r) (n + 1) = cellD r n := by
  show (match (x :: r)[n + 1]? with | some (.dic xs) => some xs | _ => none) = _
  rw [List.getElem?_cons_succ]; rfl
@[simp] theorem idx_cell0 (i xs r) : idxD (.cell 0) (.int i) (.lst xs :: r) = ofO (L2.atI xs i) (.lst xs :: r) := idx_cellL _ 0 i xs rfl
@[simp] theorem idx_dict0 (k xs r) : idxD (.cell 0) k (.dic xs :: r) = keyD k xs (.dic xs :: r) := idx_cellD _ 0 k xs rfl
@[simp] theorem dget_hit (k d r) : dget ((k, d) :: r) k = some d := by simp [dget]
@[simp] theorem dget_cons (j k d r) : dget ((k, d) :: r) j = if k = j then some d else dget r j := nrfl rfl
@[simp] theorem dput_cons (j k d y r) : dput ((k, d) :: r) j y = if k = j then (k, y) :: r else (k, d) :: dput r j y := nrfl rfl
@[simp] theorem dput_nil (j y) : dput [] j y = [(j, y)] := nrfl rfl
theorem atI_lit {α : Type} (xs : List α) (k : Nat) : L2.atI xs (k : Int) = xs[k]? := by
  unfold L2.atI ixN
  by_cases h : k < xs.length
  · simp [h]
  · rw [if_pos (by omega), if_neg (by omega)]
    simp; omega
@[simp] theorem atI_0 {α : Type} (x : α) (xs : List α) : L2.atI (x :: xs) 0 = some x := by rw [show (0 : Int) = ((0 : Nat) : Int) from rfl, atI_lit]; rfl
@[simp] theorem atI_1 {α : Type} (x y : α) (xs : List α) : L2.atI (x :: y :: xs) 1 = some y := by rw [show (1 : Int) = ((1 : Nat) : Int) from rfl, atI_lit]; rfl
@[simp] theorem atI_2 {α : Type} (x y z : α) (xs : List α) : L2.atI (x :: y :: z :: xs) 2 = some z := by rw [show (2 : Int) = ((2 : Nat) : Int) from rfl, atI_lit]; rfl
@[simp] theorem atI_3 {α : Type} (x y z u : α) (xs : List α) : L2.atI (x :: y :: z :: u :: xs) 3 = some u := by rw [show (3 : Int) = ((3 : Nat) : Int) from rfl, atI_lit]; rfl
@[simp] theorem atI_4 {α : Type} (x y z u v : α) (xs : List α) : L2.atI (x :: y :: z :: u :: v :: xs) 4 = some v := by rw [show (4 : Int) = ((4 : Nat) : Int) from rfl, atI_lit]; rfl
@[simp] theorem atI_5 {α : Type} (x y z u v w : α) (xs : List α) : L2.atI (x :: y :: z :: u :: v :: w :: xs) 5 = some w := by rw [show (5 : Int) = ((5 : Nat) : Int) from rfl, atI_lit]; rfl
@[simp] theorem atI_nat' {α : Type} (xs : List α) (k : Nat) : L2.atI xs (k : Int) = xs[k]? := atI_lit xs k
/-! ### slices -/
@[simp] theorem sNoP_eq : sNoP e M = .ok none M := nrfl rfl
@[simp] theorem sPart_eq (f : SE) : sPart f e M = (f e M).bind pInt := nrfl rfl
@[simp] theorem pInt_int (i) : pInt (.int i) M = .ok (some i) M := nrfl rfl
def kSl (lo hi : SO) (e : En) (d : D) (M : Mem) : R D := (lo e M).bind fun l M => (hi e M).bind fun h M => slD d l h M
def kSl2 (hi : SO) (e : En) (d : D) (l : Option Int) (M : Mem) : R D := (hi e M).bind fun h M => slD d l h M
def kSl3 (d : D) (l h : Option Int) (M : Mem) : R D := slD d l h M
@[simp] theorem sSl_eq (f : SE) (lo hi : SO) : sSl f lo hi e M = (f e M).bind (kSl lo hi e) := nrfl rfl
@[simp] theorem kSl_eq (lo hi : SO) (d) : kSl lo hi e d M = (lo e M).bind (kSl2 hi e d) := nrfl rfl
@[simp] theorem kSl2_eq (hi : SO) (d l) : kSl2 hi e d l M = (hi e M).bind (kSl3 d l) := nrfl rfl
@[simp] theorem kSl3_tup (xs l h) : kSl3 (.tup xs) l h M = .ok (.tup (cutL xs l h)) M := nrfl rfl
@[simp] theorem kSl3_lst (xs l h) : kSl3 (.lst xs) l h M = .ok (.own (cutL xs l h)) M := nrfl rfl
@[simp] theorem kSl3_own (xs l h) : kSl3 (.own xs) l h M = .ok (.own (cutL xs l h)) M := nrfl rfl
@[simp] theorem kSl3_brw (xs l h) : kSl3 (.brw xs) l h M = .ok (.own (cutL xs l h)) M := nrfl rfl
/-! ### comprehensions -/
def kLc (g : SG) (t : SB) (f : SE) (vs : List Nat) (e : En) (ds : List D) (M : Mem) : R D := lcE (lcL g t f ds [] (wipeE e vs) M)
@[simp] theorem sLc_eq (it : SA) (g : SG) (t : SB) (f : SE) (vs) : sLc it g t f vs e M = (it e M).bind (kLc g t f vs e) := nrfl rfl
@[simp] theorem kLc_eq (g : SG) (t : SB) (f : SE) (vs ds) : kLc g t f vs e ds M = lcE (lcL g t f ds [] (wipeE e vs) M) := nrfl rfl
@[simp] theorem lcE_ok (xs) : lcE (.ok xs M) = .ok (.own xs) M := nrfl rfl
@[simp] theorem lcL_nil (g : SG) (t : SB) (f : SE) (acc) : lcL g t f [] acc e M = .ok acc M := nrfl rfl
def lc3 (g : SG) (t : SB) (f : SE) (r acc : List D) (e : En) (o : R D) : R (List D) := match o with
  | .ok y M2 => if acc.length < sizeLine then lcL g t f r (acc ++ [y]) e M2 else .bad
  | _ => .bad
def lc2 (g : SG) (t : SB) (f : SE) (r acc : List D) (e e1 : En) (o : R Bool) : R (List D) := match o with
  | .ok k M1 => if k = true then lc3 g t f r acc e (f e1 M1) else lcL g t f r acc e M1
  | _ => .bad
def lc1 (g : SG) (t : SB) (f : SE) (r acc : List D) (e : En) (M : Mem) (o : Option En) : R (List D) := match o with
  | none => .bad
  | some e1 => lc2 g t f r acc e e1 (t e1 M)
theorem lcL_cons (g : SG) (t : SB) (f : SE) (d r acc) : lcL g t f (d :: r) acc e M = lc1 g t f r acc e M (g d e) := by
  unfold lcL lc1
  cases g d e with
  | none => rfl
  | some e1 =>
    simp only [lc2, lc3]
    cases t e1 M with
    | ok k M1 => cases k <;> simp only [if_true, Bool.false_eq_true, if_false] <;> (try (cases f e1 M1 <;> rfl))
    | exc C fs M1 => rfl
    | bad => rfl
@[simp] theorem lc1_some (g : SG) (t : SB) (f : SE) (r acc e1) : lc1 g t f r acc e M (some e1) = lc2 g t f r acc e e1 (t e1 M) := nrfl rfl
@[simp] theorem lc2_ok (g : SG) (t : SB) (f : SE) (r acc e1 k) : lc2 g t f r acc e e1 (.ok k M) = if k = true then lc3 g t f r acc e (f e1 M) else lcL g t f r acc e M := nrfl rfl
@[simp] theorem lc3_ok (g : SG) (t : SB) (f : SE) (r acc y) : lc3 g t f r acc e (.ok y M) = if acc.length < sizeLine then lcL g t f r (acc ++ [y]) e M else .bad := nrfl rfl
@[simp] theorem wipeE_nil : wipeE e [] = e := nrfl rfl
@[simp] theorem wipeE_cons (v vs) : wipeE e (v :: vs) = (wipeE e vs).set v none := nrfl rfl
/-! ### targets, iterators -/
@[simp] theorem gN_eq (i d) : gN i d e = some (e.set i (some d)) := nrfl rfl
@[simp] theorem gNi_eq : gNi [] e = some e := nrfl rfl
@[simp] theorem gCo_eq (a : SG) (b : SGs) (d r) : gCo a b (d :: r) e = (a d e).bind (b r) := nrfl rfl
@[simp] theorem gTu_eq (n a ds) : gTu n a (.tup ds) e = if ds.length = n then a ds e else none := nrfl rfl
@[simp] theorem sWalk_eq (f : SE) : sWalk f e M = (f e M).bind walk1 := nrfl rfl
@[simp] theorem walk1_tup (xs) : walk1 (.tup xs) M = .ok xs M := nrfl rfl
@[simp] theorem walk1_lst (xs) : walk1 (.lst xs) M = .ok xs M := nrfl rfl
@[simp] theorem walk1_rol (xs) : walk1 (.rol xs) M = .ok xs M := nrfl rfl
@[simp] theorem sRng1_eq (f : SA) : sRng1 f e M = (f e M).bind rng1 := nrfl rfl
@[simp] theorem sRng2_eq (f : SA) : sRng2 f e M = (f e M).bind rng2 := nrfl rfl
@[simp] theorem rng1_eq (j) : rng1 [.int j] M = if in62 j = true then .ok (rangeL 0 j.toNat) M else .bad := nrfl rfl
@[simp] theorem rng2_eq (i j) : rng2 [.int i, .int j] M = if (in62 i && in62 j) = true then .ok (rangeL i (j - i).toNat) M else .bad := nrfl rfl
@[simp] theorem sEnm_eq (f : SA) : sEnm f e M = (f e M).bind enm1 := nrfl rfl
@[simp] theorem enm1_lst (xs) : enm1 [.lst xs] M = .ok (enumL 0 xs) M := nrfl rfl
@[simp] theorem enm1_rol (xs) : enm1 [.rol xs] M = .ok (enumL 0 xs) M := nrfl rfl
/-! ### statements -/
def RS.seq (r : RS) (b : SS) : RS := match r with
  | .nx e' M' => b e' M'
  | r => r
@[simp] theorem sSeq_eq (a b : SS) : sSeq a b e M = RS.seq (a e M) b := by
  unfold sSeq RS.seq
  cases a e M <;> rfl
@[simp] theorem seq_nx (b : SS) : RS.seq (.nx e M) b = b e M := nrfl rfl
@[simp] theorem seq_rt (b : SS) (d) : RS.seq (.rt d M) b = .rt d M := nrfl rfl
@[simp] theorem seq_bk (b : SS) : RS.seq (.bk e M) b = .bk e M := nrfl rfl
@[simp] theorem seq_ct (b : SS) : RS.seq (.ct e M) b = .ct e M := nrfl rfl
@[simp] theorem seq_exc (b : SS) (C fs) : RS.seq (.exc C fs e M) b = .exc C fs e M := nrfl rfl
@[simp] theorem seq_bad (b : SS) : RS.seq .bad b = .bad := nrfl rfl
@[simp] theorem sNext_eq : sNext e M = .nx e M := nrfl rfl
@[simp] theorem sBreak_eq : sBreak e M = .bk e M := nrfl rfl
@[simp] theorem sCont_eq : sCont e M = .ct e M := nrfl rfl
def kIfS (a b : SS) (e : En) (k : Bool) (M : Mem) : RS := if k = true then a e M else b e M
@[simp] theorem sIfS_eq (c : SB) (a b : SS) : sIfS c a b e M = (c e M).bindS e (kIfS a b e) := nrfl rfl
@[simp] theorem kIfS_eq (a b : SS) (k) : kIfS a b e k M = if k = true then a e M else b e M := nrfl rfl
def kExpr (e : En) (_ : D) (M : Mem) : RS := .nx e M
@[simp] theorem sExpr_eq (f : SE) : sExpr f e M = (f e M).bindS e (kExpr e) := nrfl rfl
@[simp] theorem kExpr_eq (d) : kExpr e d M = .nx e M := nrfl rfl
@[simp] theorem sRet_eq (f : SE) : sRet f e M = (f e M).bindS e ret1 := nrfl rfl
@[simp] theorem sRetN_eq : sRetN e M = .rt .non M := nrfl rfl
@[simp] theorem ret1_own (ds) : ret1 (.own ds) M = .rt (.lst ds) M := nrfl rfl
@[simp] theorem ret1_brw (ds) : ret1 (.brw ds) M = .rt (.lst ds) M := nrfl rfl
@[simp] theorem ret1_non : ret1 .non M = .rt .non M := nrfl rfl
@[simp] theorem ret1_bl (b) : ret1 (.bl b) M = .rt (.bl b) M := nrfl rfl
@[simp] theorem ret1_int (b) : ret1 (.int b) M = .rt (.int b) M := nrfl rfl
@[simp] theorem ret1_str (b) : ret1 (.str b) M = .rt (.str b) M := nrfl rfl
@[simp] theorem ret1_tup (b) : ret1 (.tup b) M = .rt (.tup b) M := nrfl rfl
@[simp] theorem ret1_lst (b) : ret1 (.lst b) M = .rt (.lst b) M := nrfl rfl
@[simp] theorem ret1_rol (b) : ret1 (.rol b) M = .rt (.rol b) M := nrfl rfl
@[simp] theorem ret1_cell (b) : ret1 (.cell b) M = .rt (.cell b) M := nrfl rfl
@[simp] theorem ret1_obj (a b) : ret1 (.obj a b) M = .rt (.obj a b) M := nrfl rfl
def kAsg (i : Nat) (e : En) (d : D) (M : Mem) : RS := .nx (e.set i (some d)) M
@[simp] theorem sAsg_eq (i f) : sAsg i f e M = (f e M).bindS e (kAsg i e) := nrfl rfl
@[simp] theorem kAsg_eq (i d) : kAsg i e d M = .nx (e.set i (some d)) M := nrfl rfl
@[simp] theorem sAsgO_eq (i f) : sAsgO i f e M = (f e M).bindS e (own1 i e) := nrfl rfl
@[simp] theorem own1_eq (i ds) : own1 i e (.own ds) M = .nx (e.set i (some (.own ds))) M := nrfl rfl
@[simp] theorem sAsgC_eq (i f) : sAsgC i f e M = (f e M).bindS e (cell1 i e) := nrfl rfl
@[simp] theorem cell1_eq (i ds) : cell1 i e (.own ds) M = .nx (e.set i (some (.cell M.length))) (M ++ [.lst ds]) := nrfl rfl
@[simp] theorem sAsgT_eq (g f) : sAsgT g f e M = (f e M).bindS e (asg1 g e) := nrfl rfl
def asg2 (o : Option En) (M : Mem) : RS := match o with
  | some e' => .nx e' M
  | none => .bad
@[simp] theorem asg1_eq (g : SG) (d) : asg1 g e d M = asg2 (g d e) M := nrfl rfl
@[simp] theorem asg2_some (e') : asg2 (some e') M = .nx e' M := nrfl rfl
@[simp] theorem sFrz_eq (is f) : sFrz is f e M = f (frzE is e) M := nrfl rfl
@[simp] theorem frzE_nil : frzE [] e = e := nrfl rfl
def frz1 (o : Option D) (i : Nat) (e : En) : En := match o with
  | some (.own ds) => e.set i (some (.lst ds))
  | _ => e
@[simp] theorem frzE_cons (i r) : frzE (i :: r) e = frzE r (frz1 (eget e i) i e) := nrfl rfl
@[simp] theorem frz1_own (ds i) : frz1 (some (.own ds)) i e = e.set i (some (.lst ds)) := nrfl rfl
@[simp] theorem frz1_lst (ds i) : frz1 (some (.lst ds)) i e = e := nrfl rfl
@[simp] theorem frz1_tup (ds i) : frz1 (some (.tup ds)) i e = e := nrfl rfl
@[simp] theorem frz1_cell (ds i) : frz1 (some (.cell ds)) i e = e := nrfl rfl
@[simp] theorem frz1_none (i) : frz1 none i e = e := nrfl rfl
def aug2 (i : Nat) (g : D → D → Mem → R D) (e : En) (d0 d : D) (M : Mem) : RS := (g d0 d M).bindS e (augK i e)
def aug1 (i : Nat) (g : D → D → Mem → R D) (f : SE) (e : En) (M : Mem) (o : Option D) : RS := match o with
  | some d0 => (f e M).bindS e (aug2 i g e d0)
  | none => .bad
@[simp] theorem sAug_eq (i g f) : sAug i g f e M = aug1 i g f e M (eget e i) := nrfl rfl
@[simp] theorem aug1_some (i g f d0) : aug1 i g f e M (some d0) = (f e M).bindS e (aug2 i g e d0) := nrfl rfl
@[simp] theorem aug2_eq (i g d0 d) : aug2 i g e d0 d M = (g d0 d M).bindS e (augK i e) := nrfl rfl
@[simp] theorem augK_int (i z) : augK i e (.int z) M = .nx (e.set i (some (.int z))) M := nrfl rfl
@[simp] theorem augK_str (i z) : augK i e (.str z) M = .nx (e.set i (some (.str z))) M := nrfl rfl
def lstO (o : Option D) (M : Mem) : Option (List D) := match o with
  | some (.own ds) => some ds
  | some (.cell n) => cellL M n
  | _ => none
@[simp] theorem lstAt_eq (i) : lstAt e i M = lstO (eget e i) M := nrfl rfl
@[simp] theorem lstO_own (ds) : lstO (some (.own ds)) M = some ds := nrfl rfl
@[simp] theorem lstO_cell (n) : lstO (some (.cell n)) M = cellL M n := nrfl rfl
def putO (o : Option D) (e : En) (i : Nat) (ds : List D) (M : Mem) : RS := match o with
  | some (.own _) => .nx (e.set i (some (.own ds))) M
  | some (.cell n) => .nx e (M.set n (.lst ds))
  | _ => .bad
@[simp] theorem putAt_eq (i ds) : putAt e i ds M = putO (eget e i) e i ds M := nrfl rfl
@[simp] theorem putO_own (i ds xs) : putO (some (.own xs)) e i ds M = .nx (e.set i (some (.own ds))) M := nrfl rfl
@[simp] theorem putO_cell (i ds n) : putO (some (.cell n)) e i ds M = .nx e (M.set n (.lst ds)) := nrfl rfl
def app2 (i : Nat) (e : En) (d : D) (M : Mem) (o : Option (List D)) : RS := match o with
  | some ds => if ds.length < sizeLine then putAt e i (ds ++ [d]) M else .bad
  | none => .bad
def app0 (i : Nat) (f : SE) (e : En) (M : Mem) (o : Option (List D)) : RS := match o with
  | some _ => (f e M).bindS e (app1 i e)
  | none => .bad
@[simp] theorem sApp_eq (i f) : sApp i f e M = app0 i f e M (lstAt e i M) := nrfl rfl
@[simp] theorem app0_some (i f ds) : app0 i f e M (some ds) = (f e M).bindS e (app1 i e) := nrfl rfl
@[simp] theorem app1_eq (i d) : app1 i e d M = app2 i e d M (lstAt e i M) := nrfl rfl
@[simp] theorem app2_some (i d ds) : app2 i e d M (some ds) = if ds.length < sizeLine then putAt e i (ds ++ [d]) M else .bad := nrfl rfl
def pop3 (k : D → En → SS) (e : En) (d : D) (r : RS) : RS := match r with
  | .nx e' M' => k d e e' M'
  | _ => .bad
def pop2 (i : Nat) (k : D → En → SS) (e : En) (M : Mem) (ds : List D) (o : Option D) : RS := match o with
  | some d => pop3 k e d (putAt e i ds.dropLast M)
  | none => .bad
def pop0 (i : Nat) (k : D → En → SS) (e : En) (M : Mem) (o : Option (List D)) : RS := match o with
  | some ds => pop2 i k e M ds ds.getLast?
  | none => .bad
theorem pop1_eq (i k) : pop1 i k e M = pop0 i k e M (lstAt e i M) := by
  unfold pop1 pop0
  cases lstAt e i M with
  | none => rfl
  | some ds =>
    simp only [pop2]
    cases ds.getLast? with
    | none => rfl
    | some d =>
      simp only [pop3]
      try (cases putAt e i ds.dropLast M <;> rfl)
def kPop (_ : D) (_ : En) : SS := fun e M => .nx e M
def kPopA (j : Nat) (d : D) (_ : En) : SS := fun e M => .nx (e.set j (some d)) M
@[simp] theorem sPop_eq (i) : sPop i e M = pop0 i kPop e M (lstAt e i M) := pop1_eq _ _ _ _
@[simp] theorem sPopA_eq (j i) : sPopA j i e M = pop0 i (kPopA j) e M (lstAt e i M) := pop1_eq _ _ _ _
@[simp] theorem pop0_some (i k ds) : pop0 i k e M (some ds) = pop2 i k e M ds ds.getLast? := nrfl rfl
@[simp] theorem pop2_some (i k ds d) : pop2 i k e M ds (some d) = pop3 k e d (putAt e i ds.dropLast M) := nrfl rfl
@[simp] theorem pop3_nx (k e' d) : pop3 k e d (.nx e' M) = k d e e' M := nrfl rfl
@[simp] theorem kPop_eq (d e') : kPop d e' e M = .nx e M := nrfl rfl
@[simp] theorem kPopA_eq (j d e') : kPopA j d e' e M = .nx (e.set j (some d)) M := nrfl rfl
def setK (i : Nat) (e : En) (d k : D) (M : Mem) : RS := set1 i k d e M
def setV (i : Nat) (fk : SE) (e : En) (d : D) (M : Mem) : RS := (fk e M).bindS e (setK i e d)
def set0 (i : Nat) (fk fv : SE) (e : En) (M : Mem) (o : Option D) : RS := match o with
  | some _ => (fv e M).bindS e (setV i fk e)
  | none => .bad
@[simp] theorem sSet_eq (i fk fv) : sSet i fk fv e M = set0 i fk fv e M (eget e i) := nrfl rfl
@[simp] theorem set0_some (i fk fv d) : set0 i fk fv e M (some d) = (fv e M).bindS e (setV i fk e) := nrfl rfl
@[simp] theorem setV_eq (i fk d) : setV i fk e d M = (fk e M).bindS e (setK i e d) := nrfl rfl
def set3 (i : Nat) (d : D) (e : En) (M : Mem) (ds : List D) (o : Option Nat) : RS := match o with
  | some m => putAt e i (ds.set m d) M
  | none => .bad
def set4 (i : Nat) (j : Int) (d : D) (e : En) (M : Mem) (o : Option (List D)) : RS := match o with
  | some ds => set3 i d e M ds (ixN ds.length j)
  | none => .bad
theorem set2_int (i j d) : set2 i (.int j) d e M = set4 i j d e M (lstAt e i M) := by
  unfold set2 set4
  cases lstAt e i M with
  | none => rfl
  | some ds => rfl
@[simp] theorem set4_some (i j d ds) : set4 i j d e M (some ds) = set3 i d e M ds (ixN ds.length j) := nrfl rfl
@[simp] theorem set3_some (i d ds m) : set3 i d e M ds (some m) = putAt e i (ds.set m d) M := nrfl rfl
theorem set1_none {i : Nat} {k d : D} (h : dicAt e i M = none) : set1 i k d e M = set2 i k d e M := by unfold set1; rw [h]
theorem set1_some {i : Nat} {k d : D} {n : Nat} {kvs : List (Key × D)} (h : dicAt e i M = some (n, kvs)) {ky : Key} (hk : keyOf k = some ky) : set1 i k d e M = if (uniqK kvs && decide (kvs.length < sizeLine)) = true then .nx e (M.set n (.dic (dput kvs ky d))) else .bad := by unfold set1; rw [h, hk]
def dicO (o : Option D) (M : Mem) : Option (Nat × List (Key × D)) := match o with
  | some (.cell n) => (cellD M n).map fun kvs => (n, kvs)
  | _ => none
def setX (i : Nat) (k d : D) (e : En) (M : Mem) (o : Option (Nat × List (Key × D))) : RS := match o with
  | some (n, kvs) => match keyOf k with
    | some ky => if (uniqK kvs && decide (kvs.length < sizeLine)) = true then .nx e (M.set n (.dic (dput kvs ky d))) else .bad
    | none => .bad
  | none => set2 i k d e M
@[simp] theorem setK_eq (i d k) : setK i e d k M = setX i k d e M (dicO (eget e i) M) := nrfl rfl
@[simp] theorem dicO_cell (n) : dicO (some (.cell n)) M = (cellD M n).map fun kvs => (n, kvs) := nrfl rfl
@[simp] theorem dicO_own (n) : dicO (some (.own n)) M = none := nrfl rfl
@[simp] theorem setX_none (i j d) : setX i (.int j) d e M none = set4 i j d e M (lstAt e i M) := set2_int _ _ _ _ _
@[simp] theorem setX_str (i k d n kvs) : setX i (.str k) d e M (some (n, kvs)) = if (uniqK kvs && decide (kvs.length < sizeLine)) = true then .nx e (M.set n (.dic (dput kvs (.inr k) d))) else .bad := nrfl rfl
@[simp] theorem setX_int (i k d n kvs) : setX i (.int k) d e M (some (n, kvs)) = if (uniqK kvs && decide (kvs.length < sizeLine)) = true then .nx e (M.set n (.dic (dput kvs (.inl k) d))) else .bad := nrfl rfl
/-! ### loops -/
def kFor (g : SG) (b : SS) (e : En) (ds : List D) (M : Mem) : RS := forL g b ds e M
@[simp] theorem sFor_eq (it g b) : sFor it g b e M = (it e M).bindS e (kFor g b e) := nrfl rfl
@[simp] theorem kFor_eq (g b ds) : kFor g b e ds M = forL g b ds e M := nrfl rfl
@[simp] theorem forL_nil (g b) : forL g b [] e M = .nx e M := nrfl rfl
def for2 (g : SG) (b : SS) (r : List D) (o : RS) : RS := match o with
  | .nx e2 M2 => forL g b r e2 M2
  | .ct e2 M2 => forL g b r e2 M2
  | .bk e2 M2 => .nx e2 M2
  | o => o
def for1 (g : SG) (b : SS) (r : List D) (M : Mem) (o : Option En) : RS := match o with
  | none => .bad
  | some e1 => for2 g b r (b e1 M)
theorem forL_cons (g b d r) : forL g b (d :: r) e M = for1 g b r M (g d e) := by
  unfold forL for1
  cases g d e with
  | none => rfl
  | some e1 =>
    simp only [for2]
    try (cases b e1 M <;> rfl)
@[simp] theorem for1_some (g b r e1) : for1 g b r M (some e1) = for2 g b r (b e1 M) := nrfl rfl
@[simp] theorem for2_nx (g b r) : for2 g b r (.nx e M) = forL g b r e M := nrfl rfl
@[simp] theorem for2_ct (g b r) : for2 g b r (.ct e M) = forL g b r e M := nrfl rfl
@[simp] theorem for2_bk (g b r) : for2 g b r (.bk e M) = .nx e M := nrfl rfl
@[simp] theorem for2_rt (g b r d) : for2 g b r (.rt d M) = .rt d M := nrfl rfl
@[simp] theorem for2_bad (g b r) : for2 g b r .bad = .bad := nrfl rfl
/-! ### defs -/
def env0 : Nat → List D → En
  | 0, _ => []
  | n + 1, [] => none :: env0 n []
  | n + 1, d :: r => some d :: env0 n r
@[simp] theorem env0_zero (ds) : env0 0 ds = [] := nrfl rfl
@[simp] theorem env0_nil (n) : env0 (n + 1) [] = none :: env0 n [] := nrfl rfl
@[simp] theorem env0_cons (n d r) : env0 (n + 1) (d :: r) = some d :: env0 n r := nrfl rfl
theorem env0_eq : ∀ (n : Nat) (ds : List D), ds.length ≤ n → env0 n ds = ds.map some ++ List.replicate (n - ds.length) none
  | 0, [], _ => rfl
  | 0, _ :: _, h => by simp at h
  | n + 1, [], _ => by
    rw [env0_nil, env0_eq n [] (Nat.zero_le _)]
    simp [List.replicate_succ]
  | n + 1, d :: r, h => by
    rw [env0_cons, env0_eq n r (by simpa using h)]
    simp
def RS.out (r : RS) : R D := match r with
  | .nx _ M' => .ok .non M'
  | .rt d M' => .ok d M'
  | .exc C fs _ M' => .exc C fs M'
  | _ => .bad
theorem runF_eq (N : Nat) (b : SS) (ds : List D) (h : ds.length ≤ N) : runF N b ds M = RS.out (b (env0 N ds) M) := by
  rw [env0_eq N ds h]
  unfold runF RS.out
  cases b (ds.map some ++ List.replicate (N - ds.length) none) M <;> rfl
@[simp] theorem out_nx : RS.out (.nx e M) = .ok .non M := nrfl rfl
@[simp] theorem out_rt (d) : RS.out (.rt d M) = .ok d M := nrfl rfl
@[simp] theorem out_exc (C fs) : RS.out (.exc C fs e M) = .exc C fs M := nrfl rfl
end
theorem rangeL_length (lo : Int) (n : Nat) : (rangeL lo n).length = n := by simp [rangeL]
theorem rangeL_succ (lo : Int) (n : Nat) : rangeL lo (n + 1) = .int lo :: rangeL (lo + 1) n := by
  unfold rangeL
  rw [List.range_succ_eq_map]
  simp only [List.map_cons, List.map_map]
  congr 1
  · simp
  · apply List.map_congr_left
    intro a _
    simp only [Function.comp]
    congr 1
    push_cast
    omega
@[simp] theorem rangeL_zero (lo : Int) : rangeL lo 0 = [] := nrfl rfl
@[simp] theorem mulOk_r (i : Int) (j : Int) (h : -(2 ^ 64) < j ∧ j < 2 ^ 64) : mulOk i j = true := by
  unfold mulOk
  simp only [Bool.or_eq_true, Bool.and_eq_true, decide_eq_true_eq]
  exact .inr h
end L3
namespace L3
open PySem PySem.Spec PyProof.Rows L2

/-! ## plain data: no bools, no read-only lists; n bounds the depth -/
mutual
def plD : Nat → D → Bool
  | _, .non => true
  | _, .int _ => true
  | _, .str x => PyData.strOk x
  | n + 1, .tup ds => plDs n ds
  | n + 1, .lst ds => plDs n ds
  | _, _ => false
def plDs : Nat → List D → Bool
  | _, [] => true
  | n, d :: r => plD n d && plDs n r
end
theorem plDs_iff {n : Nat} : ∀ {ds : List D}, plDs n ds = true ↔ ∀ d ∈ ds, plD n d = true
  | [] => by simp [plDs]
  | d :: r => by simp [plDs, plDs_iff]
mutual
theorem plD_py : ∀ {n : Nat} {d : D}, plD n d = true → ∃ p, toPy d = some p ∧ p.canLay0 = true ∧ p.depth ≤ n
  | n, .non, h => ⟨.none, rfl, rfl, Nat.zero_le _⟩
  | n, .int i, h => ⟨.int i, rfl, rfl, Nat.zero_le _⟩
  | n, .str i, h => ⟨.str i, rfl, by unfold plD at h; exact h, Nat.zero_le _⟩
  | n + 1, .tup ds, h => by
    unfold plD at h
    obtain ⟨ps, e, c, dp⟩ := plDs_py h
    exact ⟨.tuple ps, by unfold toPy; rw [e]; rfl, c, by show PyData.depthAll ps + 1 ≤ n + 1; omega⟩
  | n + 1, .lst ds, h => by
    unfold plD at h
    obtain ⟨ps, e, c, dp⟩ := plDs_py h
    exact ⟨.list ps, by unfold toPy; rw [e]; rfl, c, by show PyData.depthAll ps + 1 ≤ n + 1; omega⟩
  | 0, .tup ds, h => by unfold plD at h; cases h
  | 0, .lst ds, h => by unfold plD at h; cases h
  | _, .bl _, h => by unfold plD at h; cases h
  | _, .ref _, h => by unfold plD at h; cases h
  | _, .ty _, h => by unfold plD at h; cases h
  | _, .cell _, h => by unfold plD at h; cases h
  | _, .rol _, h => by unfold plD at h; cases h
  | _, .own _, h => by unfold plD at h; cases h
  | _, .brw _, h => by unfold plD at h; cases h
  | _, .obj _ _, h => by unfold plD at h; cases h
theorem plDs_py : ∀ {n : Nat} {ds : List D}, plDs n ds = true → ∃ ps, toPys ds = some ps ∧ PyData.canLayAll0 ps = true ∧ PyData.depthAll ps ≤ n
  | n, [], h => ⟨[], rfl, rfl, Nat.zero_le _⟩
  | n, d :: r, h => by
    unfold plDs at h
    rw [Bool.and_eq_true] at h
    obtain ⟨p, e1, c1, d1⟩ := plD_py h.1
    obtain ⟨ps, e2, c2, d2⟩ := plDs_py h.2
    refine ⟨p :: ps, ?_, ?_, ?_⟩
    · unfold toPys; rw [e1, e2]; rfl
    · unfold PyData.canLayAll0; rw [c1, c2]; rfl
    · show max p.depth (PyData.depthAll ps) ≤ n
      omega
end
theorem plDs_eqv_of {n m : Nat} (ih : ∀ (a b : D) (p q : PyData), plD n a = true → plD m b = true → toPy a = some p → toPy b = some q → PyData.eqv p q = true → a = b) :
    ∀ (a b : List D) (p q : List PyData), plDs n a = true → plDs m b = true → toPys a = some p → toPys b = some q → PyData.eqvAll p q = true → a = b
  | [], [], _, _, _, _, _, _, _ => rfl
  | [], d :: r, p, q, _, _, e1, e2, h => by
    exfalso
    cases e1
    unfold toPys at e2
    cases z1 : toPy d with
    | none => rw [z1] at e2; cases e2
    | some x =>
      rw [z1] at e2
      cases z2 : toPys r with
      | none => rw [z2] at e2; cases e2
      | some y => rw [z2] at e2; cases e2; simp [PyData.eqvAll] at h
  | d :: r, [], p, q, _, _, e2, e1, h => by
    exfalso
    cases e1
    unfold toPys at e2
    cases z1 : toPy d with
    | none => rw [z1] at e2; cases e2
    | some x =>
      rw [z1] at e2
      cases z2 : toPys r with
      | none => rw [z2] at e2; cases e2
      | some y => rw [z2] at e2; cases e2; simp [PyData.eqvAll] at h
  | d :: r, d' :: r', p, q, h1, h2, e1, e2, h => by
    unfold plDs at h1 h2
    rw [Bool.and_eq_true] at h1 h2
    unfold toPys at e1 e2
    cases z1 : toPy d with
    | none => rw [z1] at e1; cases e1
    | some x =>
      rw [z1] at e1
      cases z2 : toPys r with
      | none => rw [z2] at e1; cases e1
      | some y =>
        rw [z2] at e1; cases e1
        cases z3 : toPy d' with
        | none => rw [z3] at e2; cases e2
        | some x' =>
          rw [z3] at e2
          cases z4 : toPys r' with
          | none => rw [z4] at e2; cases e2
          | some y' =>
            rw [z4] at e2; cases e2
            have h : (PyData.eqv x x' && PyData.eqvAll y y') = true := by simpa [PyData.eqvAll] using h
            rw [Bool.and_eq_true] at h
            rw [ih d d' x x' h1.1 h2.1 z1 z3 h.1, plDs_eqv_of ih r r' y y' h1.2 h2.2 z2 z4 h.2]
theorem plS_eqv {m : Nat} {a b : D} {p q : PyData} (ha : a = .non ∨ (∃ i, a = .int i) ∨ ∃ x, a = .str x) (hb : plD m b = true) (ea : toPy a = some p) (eb : toPy b = some q) (h : PyData.eqv p q = true) : a = b := by
  rcases ha with rfl | ⟨i, rfl⟩ | ⟨i, rfl⟩
  · cases ea
    cases b with
    | non => rfl
    | int _ => cases eb; simp [PyData.eqv] at h
    | str _ => cases eb; simp [PyData.eqv] at h
    | tup ys =>
      unfold toPy at eb
      cases z2 : toPys ys with
      | none => rw [z2] at eb; cases eb
      | some qs => rw [z2] at eb; cases eb; simp [PyData.eqv] at h
    | lst ys =>
      unfold toPy at eb
      cases z2 : toPys ys with
      | none => rw [z2] at eb; cases eb
      | some qs => rw [z2] at eb; cases eb; simp [PyData.eqv] at h
    | _ => unfold plD at hb; cases hb
  · cases ea
    cases b with
    | non => cases eb; simp [PyData.eqv] at h
    | int _ => cases eb; simp [PyData.eqv] at h; rw [h]
    | str _ => cases eb; simp [PyData.eqv] at h
    | tup ys =>
      unfold toPy at eb
      cases z2 : toPys ys with
      | none => rw [z2] at eb; cases eb
      | some qs => rw [z2] at eb; cases eb; simp [PyData.eqv] at h
    | lst ys =>
      unfold toPy at eb
      cases z2 : toPys ys with
      | none => rw [z2] at eb; cases eb
      | some qs => rw [z2] at eb; cases eb; simp [PyData.eqv] at h
    | _ => unfold plD at hb; cases hb
  · cases ea
    cases b with
    | non => cases eb; simp [PyData.eqv] at h
    | int _ => cases eb; simp [PyData.eqv] at h
    | str _ => cases eb; simp [PyData.eqv] at h; rw [h]
    | tup ys =>
      unfold toPy at eb
      cases z2 : toPys ys with
      | none => rw [z2] at eb; cases eb
      | some qs => rw [z2] at eb; cases eb; simp [PyData.eqv] at h
    | lst ys =>
      unfold toPy at eb
      cases z2 : toPys ys with
      | none => rw [z2] at eb; cases eb
      | some qs => rw [z2] at eb; cases eb; simp [PyData.eqv] at h
    | _ => unfold plD at hb; cases hb
theorem plD_eqv : ∀ (n m : Nat) (a b : D) (p q : PyData), plD n a = true → plD m b = true → toPy a = some p → toPy b = some q → PyData.eqv p q = true → a = b := by
  intro n
  induction n with
  | zero =>
    intro m a b p q ha hb ea eb h
    cases a with
    | non => exact plS_eqv (.inl rfl) hb ea eb h
    | int i => exact plS_eqv (.inr (.inl ⟨_, rfl⟩)) hb ea eb h
    | str i => exact plS_eqv (.inr (.inr ⟨_, rfl⟩)) hb ea eb h
    | _ => unfold plD at ha; cases ha
  | succ n ih =>
    intro m a b p q ha hb ea eb h
    have both : ∀ (xs ys : List D) (ps qs : List PyData) (m : Nat), plDs n xs = true → plDs m ys = true → toPys xs = some ps → toPys ys = some qs → PyData.eqvAll ps qs = true → xs = ys :=
      fun xs ys ps qs m => plDs_eqv_of (fun a b p q => ih m a b p q) xs ys ps qs
    cases a with
    | tup xs =>
      unfold plD at ha
      unfold toPy at ea
      cases z : toPys xs with
      | none => rw [z] at ea; cases ea
      | some ps =>
        rw [z] at ea; cases ea
        cases b with
        | tup ys =>
          cases m with
          | zero => unfold plD at hb; cases hb
          | succ m =>
            unfold plD at hb
            unfold toPy at eb
            cases z2 : toPys ys with
            | none => rw [z2] at eb; cases eb
            | some qs =>
              rw [z2] at eb; cases eb
              rw [both xs ys ps qs m ha hb z z2 (by simpa [PyData.eqv] using h)]
        | lst ys =>
          unfold toPy at eb
          cases z2 : toPys ys with
          | none => rw [z2] at eb; cases eb
          | some qs => rw [z2] at eb; cases eb; simp [PyData.eqv] at h
        | non => cases eb; simp [PyData.eqv] at h
        | int _ => cases eb; simp [PyData.eqv] at h
        | str _ => cases eb; simp [PyData.eqv] at h
        | _ => unfold plD at hb; cases hb
    | lst xs =>
      unfold plD at ha
      unfold toPy at ea
      cases z : toPys xs with
      | none => rw [z] at ea; cases ea
      | some ps =>
        rw [z] at ea; cases ea
        cases b with
        | lst ys =>
          cases m with
          | zero => unfold plD at hb; cases hb
          | succ m =>
            unfold plD at hb
            unfold toPy at eb
            cases z2 : toPys ys with
            | none => rw [z2] at eb; cases eb
            | some qs =>
              rw [z2] at eb; cases eb
              rw [both xs ys ps qs m ha hb z z2 (by simpa [PyData.eqv] using h)]
        | tup ys =>
          unfold toPy at eb
          cases z2 : toPys ys with
          | none => rw [z2] at eb; cases eb
          | some qs => rw [z2] at eb; cases eb; simp [PyData.eqv] at h
        | non => cases eb; simp [PyData.eqv] at h
        | int _ => cases eb; simp [PyData.eqv] at h
        | str _ => cases eb; simp [PyData.eqv] at h
        | _ => unfold plD at hb; cases hb
    | non => exact plS_eqv (.inl rfl) hb ea eb h
    | int i => exact plS_eqv (.inr (.inl ⟨_, rfl⟩)) hb ea eb h
    | str i => exact plS_eqv (.inr (.inr ⟨_, rfl⟩)) hb ea eb h
    | _ => unfold plD at ha; cases ha
/-- what is looked at, as data -/
def unO : D → D
  | .own xs => .lst xs
  | .brw xs => .lst xs
  | d => d
theorem unO_py (d : D) (M : Mem) (h : ∀ n, d ≠ .cell n) : toPyT d M = toPy (unO d) := by
  cases d <;> first | rfl | exact absurd rfl (h _)
theorem shaped_of {n : Nat} {p : PyData} (hn : n ≤ 64) (c : p.canLay0 = true) (d : p.depth ≤ n) : SeqAt.shaped p = true := by
  unfold SeqAt.shaped
  rw [c]
  simp
  omega
/-- == of plain data, one of them no scalar -/
theorem deep_eq {n : Nat} {neg : Bool} {a b : D} {M : Mem} (hn : n ≤ 64) (ha : plD n (unO a) = true) (e : unO a = unO b) : deepD neg a b M = .ok (.bl !neg) M := by
  obtain ⟨p, e1, c, dp⟩ := plD_py ha
  have na : ∀ k, a ≠ .cell k := fun k z => by subst z; unfold unO plD at ha; cases ha
  have nb : ∀ k, b ≠ .cell k := fun k z => by
    rw [z] at e
    have e' : unO a = .cell k := e
    rw [e'] at ha; unfold plD at ha; cases ha
  have s := shaped_of hn c dp
  unfold deepD
  rw [unO_py a M na, unO_py b M nb, ← e, e1]
  simp only [s, Bool.and_self, if_true]
  rw [SeqAt.eqv_refl p c]
  cases neg <;> rfl
theorem deep_ne {n : Nat} {neg : Bool} {a b : D} {M : Mem} (hn : n ≤ 64) (ha : plD n (unO a) = true) (hb : plD n (unO b) = true) (e : unO a ≠ unO b) : deepD neg a b M = .ok (.bl neg) M := by
  obtain ⟨p, e1, c, dp⟩ := plD_py ha
  obtain ⟨q, e2, c2, dp2⟩ := plD_py hb
  have na : ∀ k, a ≠ .cell k := fun k z => by subst z; unfold unO plD at ha; cases ha
  have nb : ∀ k, b ≠ .cell k := fun k z => by subst z; unfold unO plD at hb; cases hb
  unfold deepD
  rw [unO_py a M na, unO_py b M nb, e1, e2]
  simp only [shaped_of hn c dp, shaped_of hn c2 dp2, Bool.and_self, if_true]
  have h : PyData.eqv p q = false := by
    cases z : PyData.eqv p q with
    | false => rfl
    | true => exact absurd (plD_eqv n n _ _ p q ha hb e1 e2 z) e
  rw [h]
  cases neg <;> rfl
theorem eqD_deep {neg : Bool} {a b : D} {M : Mem} (h : scalD a b = none) : eqD neg a b M = deepD neg a b M := by unfold eqD; rw [h]
/-! ## comprehensions, pure -/
theorem lcL_pure {g : SG} {t : SB} {f : SE} {e : En} {M : Mem} (p : D → Bool) (h : D → D) : ∀ (ds acc : List D), (∀ d ∈ ds, ∃ e1, g d e = some e1 ∧ t e1 M = .ok (p d) M ∧ (p d = true → f e1 M = .ok (h d) M)) → acc.length + ds.length ≤ sizeLine →
    lcL g t f ds acc e M = .ok (acc ++ (ds.filter p).map h) M
  | [], acc, _, _ => by simp
  | d :: r, acc, hd, hl => by
    obtain ⟨e1, g1, t1, f1⟩ := hd d List.mem_cons_self
    rw [List.length_cons] at hl
    rw [lcL_cons, g1, lc1_some, t1, lc2_ok]
    cases hp : p d with
    | false =>
      rw [if_neg (by simp)]
      rw [lcL_pure p h r acc (fun d' h' => hd d' (List.mem_cons_of_mem _ h')) (by omega), List.filter_cons_of_neg (by simp [hp])]
    | true =>
      rw [if_pos rfl, f1 hp, lc3_ok, if_pos (by omega)]
      rw [lcL_pure p h r (acc ++ [h d]) (fun d' h' => hd d' (List.mem_cons_of_mem _ h')) (by simp; omega), List.filter_cons_of_pos hp]
      simp
theorem big (n : Nat) (h : n ≤ 10000) : n ≤ sizeLine := Nat.le_trans h (by decide)
theorem big' (n : Nat) (h : n ≤ 10000) : n < sizeLine := Nat.lt_of_le_of_lt h (by decide)
end L3
namespace L3
open PySem PySem.Spec PyProof.Rows L2

/-! ## dict displays -/
theorem HS.adoptM {K : PySem.W.Frag} {w : Wd} {M : Mem} {H : Hp} {w0 : Wd} {H0 : Hp} {a : Addr} {m : MO} (h : HS K w M H) (hr : a ∉ w.ρ) (hnt : ∀ ps, H a ≠ some (.tbl ps)) (hc : CellOk K ⟨w.B, w.ρ ++ [a]⟩ H a m) (x : Ext All w0 H0 w H) (h0 : H0 a = none) :
    HS K ⟨w.B, w.ρ ++ [a]⟩ (M ++ [m]) H ∧ Ext All w0 H0 ⟨w.B, w.ρ ++ [a]⟩ H := by
  have hr' : ∀ (n : Nat) (b : Addr), w.ρ[n]? = some b → (w.ρ ++ [a])[n]? = some b := fun n b e => by
    rw [List.getElem?_append_left (List.getElem?_eq_some_iff.mp e).1]; exact e
  have ex : Ext All w0 H0 ⟨w.B, w.ρ ++ [a]⟩ H := ⟨x.b, fun n b e => hr' n b (x.r n b e), fun b e => by
      rcases List.mem_append.mp e with e | e
      · exact x.nw b e
      · have : b = a := by simpa using e
        subst this
        exact .inr h0, x.fr, x.tr, x.bn⟩
  refine ⟨⟨h.same, by simp [h.len], ?_, fun n b o e1 e2 => ?_, fun P ps e => ?_, h.tups⟩, ex⟩
  · refine List.nodup_append.mpr ⟨h.nd, by simp, fun c hcm d hd e => ?_⟩
    have : d = a := by simpa using hd
    subst e; rw [this] at hcm; exact hr hcm
  · have e1 : (w.ρ ++ [a])[n]? = some b := e1
    rcases getE e1 with ⟨l1, q1⟩ | ⟨l1, q1⟩
    · rcases getE e2 with ⟨l2, q2⟩ | ⟨l2, q2⟩
      · have c := h.cells n b o q1 q2
        cases o with
        | lst ds => obtain ⟨b1, us, h1, r⟩ := c; exact ⟨b1, us, h1, Reps.mono' (w := w) (w' := ⟨w.B, w.ρ ++ [a]⟩) (fun _ _ z => z) hr' r⟩
        | dic ds => obtain ⟨b1, us, h1, r⟩ := c; exact ⟨b1, us, h1, KvR.mono' (w := w) (w' := ⟨w.B, w.ρ ++ [a]⟩) r (fun _ _ z => z) hr'⟩
        | dit ds => obtain ⟨b1, us, h1, r⟩ := c; exact ⟨b1, us, h1, KvR.mono' (w := w) (w' := ⟨w.B, w.ρ ++ [a]⟩) r (fun _ _ z => z) hr'⟩
        | ins C fs => obtain ⟨b1, dx, us, h1, r⟩ := c; exact ⟨b1, dx, us, h1, FsR.mono' (w := w) (w' := ⟨w.B, w.ρ ++ [a]⟩) (fun _ _ z => z) hr' r⟩
        | dead => exact c
      · have := h.len; omega
    · rcases getE e2 with ⟨l2, q2⟩ | ⟨l2, q2⟩
      · have := h.len; omega
      · subst q1; subst q2; exact hc
  · obtain ⟨t1, t2, t3⟩ := h.tabs P ps e
    refine ⟨t1, t2, fun hm => ?_⟩
    rcases List.mem_append.mp hm with hm | hm
    · exact t3 hm
    · have : P = a := by simpa using hm
      rw [this] at e; exact hnt ps e
def pair1 (k v : D) (ps : List (Key × D)) (M : Mem) : R (List (Key × D)) := match keyOf k with
  | some ky => .ok ((ky, v) :: ps) M
  | none => .bad
def sPairs : List (SE × SE) → En → Mem → R (List (Key × D))
  | [], _, M => .ok [] M
  | (fk, fv) :: r, e, M => (fk e M).bind fun k M => (fv e M).bind fun v M => (sPairs r e M).bind fun ps M => pair1 k v ps M
def dict1 (kvs : List (Key × D)) (M : Mem) : R D := if (uniqK kvs && decide (kvs.length ≤ 15)) = true then .ok (.cell M.length) (M ++ [.dic kvs]) else .bad
def sDict (ps : List (SE × SE)) : SE := fun e M => (sPairs ps e M).bind dict1
abbrev rlK (K : PySem.W.Frag) : Rl (List (V × V)) (List (Key × D)) := fun _ w _ ps kvs => ∃ us : List (Key × V), ps = us.map (fun kv => (kV kv.1, kv.2)) ∧ KvR K w us kvs
theorem bkK {K : PySem.W.Frag} : Bk (rlK K) := fun _ _ _ _ _ _ _ _ _ h => h
def trsOf (K : PySem.W.Frag) (W : WX) (ps : List (SE × SE)) : List (TE × TE) := ps.map fun p => (tE K W p.1, tF K W p.2)
theorem tPairs_of {K : PySem.W.Frag} {W : WX} {σ : L2.St} : ∀ (ps : List (SE × SE)) {H : Hp} {Q : List (V × V) → Hp → Prop}, tG K W (fun _ => rlK K) (sPairs ps) σ H Q → tPairs (trsOf K W ps) σ H Q := by
  intro ps
  induction ps with
  | nil =>
    intro H Q q
    obtain ⟨S, w, e, M, hs, sx, p⟩ := q
    exact p w H [] (.refl _ _) hs ⟨[], rfl, .nil⟩
  | cons a r ih =>
    intro H Q q
    obtain ⟨fk, fv⟩ := a
    exact tG.step (k := fun e k M => (fv e M).bind fun v M => (sPairs r e M).bind fun ps M => pair1 k v ps M) (fun _ => bkK) q fun S w e w' M' H' v d s sx x rk p =>
      ⟨S, w', e, M', s, sx, p.bind bkK fun d2 M2 w2 H2 v2 y s2 rv p3 => ih ⟨S, w2, e, M2, s2, sx.mono y, p3.bind bkK fun kvs M4 w4 H4 ps z s4 rp p5 => by
        obtain ⟨us, rfl, rp⟩ := rp
        unfold pair1 at p5
        cases hk : keyOf d with
        | none => rw [hk] at p5; exact p5.elim
        | some ky =>
          rw [hk] at p5
          have ek := rk.toR.key hk
          have rv : Rep K w2 v2 d2 := rv
          refine p5 w4 H4 _ (.refl _ _) s4 ⟨(ky, v2) :: us, by rw [ek]; rfl, .cons (rv.mono z) rp⟩⟩⟩
theorem mergeK_uniq : ∀ (us kvs : List (Key × V)), (∀ p ∈ us, p.1 ∉ kvs.map (·.1)) → (us.map (·.1)).Nodup → mergeK kvs us = kvs ++ us
  | [], kvs, _, _ => by simp [mergeK]
  | p :: us, kvs, h, hn => by
    rw [List.map_cons, List.nodup_cons] at hn
    have e : putK kvs p.1 p.2 = kvs ++ [p] := by
      unfold putK
      have : (kvs.any fun kv => decide (kv.1 = p.1)) = false := by
        rw [List.any_eq_false]
        intro kv hkv z
        exact h p List.mem_cons_self (List.mem_map.mpr ⟨kv, hkv, of_decide_eq_true z⟩)
      rw [this, if_neg Bool.false_ne_true]
    show mergeK (putK kvs p.1 p.2) us = _
    rw [e, mergeK_uniq us (kvs ++ [p]) (fun q hq hm => by
      rw [List.map_append] at hm
      rcases List.mem_append.mp hm with hm | hm
      · exact h q (List.mem_cons_of_mem _ hq) hm
      · have : q.1 = p.1 := by simpa using hm
        exact hn.1 (by rw [← this]; exact List.mem_map.mpr ⟨q, hq, rfl⟩)) hn.2]
    simp
theorem uniqK_nodup : ∀ {kvs : List (Key × D)}, uniqK kvs = true → (kvs.map (·.1)).Nodup
  | [], _ => List.nodup_nil
  | (k, d) :: r, h => by
    unfold uniqK at h
    rw [Bool.and_eq_true] at h
    refine List.nodup_cons.mpr ⟨fun hm => ?_, uniqK_nodup h.2⟩
    obtain ⟨p, hp, e⟩ := List.mem_map.mp hm
    have h1 : (r.any fun p => decide (p.1 = k)) = true := List.any_eq_true.mpr ⟨p, hp, decide_eq_true e⟩
    rw [h1] at h
    exact Bool.noConfusion h.1
section
variable {X : Cx} {W : WX} {pos : Pos}
abbrev APs (X : Cx) (W : WX) (pos : Pos) (keys : List (Option Expr)) (values : List Expr) (ps : List (SE × SE)) : Prop := PPs X pos keys values (trsOf X.K W ps)
theorem p_nil : APs X W pos [] [] [] := pps_nil
theorem p_cons {k v : Expr} {ks : List (Option Expr)} {vs : List Expr} {fk fv : SE} {ps : List (SE × SE)} (hk : AE X W k fk) (hv : AF X W v fv) (hr : APs X W pos ks vs ps) : APs X W pos (some k :: ks) (v :: vs) ((fk, fv) :: ps) := pps_cons hk hv hr
theorem a_dict {keys : List (Option Expr)} {values : List Expr} {ps : List (SE × SE)} (h : APs X W pos keys values ps) (hall : keys.all (·.isSome) = true) (hl : keys.length = values.length) (h0 : keys ≠ []) (h15 : keys.length ≤ 15) : AE X W (.Dict keys values pos) (sDict ps) :=
  PE.imp (pe_disp h hall hl h0 h15) fun σ H Q q => by
    obtain ⟨S, w, e, M, hs, sx, p⟩ := q
    intro a ha
    obtain ⟨s1, x1⟩ := hs.loose (o := .dK []) ha
    refine tPairs_of ps ⟨S, w, e, M, s1, sx.mono x1, ?_⟩
    unfold sDict at p
    cases hf : sPairs ps e M with
    | bad => rw [hf] at p; exact p
    | exc C fs M' => rw [hf] at p; exact Pst.shift bkK x1 (r := R.exc C fs M') (rel := rlK X.K) (Q := fun _ _ => True) p
    | ok kvs M' =>
      rw [hf] at p
      intro w2 H2 vs x2 s2 r
      obtain ⟨us, rfl, r⟩ := r
      have hB : w.B a = none := hs.same.free ha
      have hR : a ∉ w.ρ := hs.fresh ha
      obtain ⟨b2, r2, h2⟩ := x2.keepB hB hR upd_same
      refine ⟨h2, us, rfl, ?_⟩
      have p : Pst X.K W w H σ (rlE X.K S) Q (if (uniqK kvs && decide (kvs.length ≤ 15)) = true then .ok (.cell M'.length) (M' ++ [.dic kvs]) else .bad) := p
      by_cases hz : (uniqK kvs && decide (kvs.length ≤ 15)) = true
      · rw [if_pos hz] at p
        rw [Bool.and_eq_true] at hz
        have hu := uniqK_nodup hz.1
        have em : mergeK [] us = us := by
          rw [mergeK_uniq us [] (fun _ _ => by simp) (by rw [KvR.keys r]; exact hu)]; rfl
        refine ⟨by rw [r.length]; exact of_decide_eq_true hz.2, ?_⟩
        rw [em]
        obtain ⟨s3, y3⟩ := s2.writeO (S := fun b => b ≠ a) (o := .dK us) b2 r2 (fun z => z rfl)
        have y4 : Ext All w H w2 (upd H2 a (.dK us)) := Ext.but (x1.trans x2) ha y3
        have hc : CellOk X.K ⟨w2.B, w2.ρ ++ [a]⟩ (upd H2 a (.dK us)) a (.dic kvs) := ⟨b2, us, upd_same, KvR.mono' (w := w2) (w' := ⟨w2.B, w2.ρ ++ [a]⟩) r (fun _ _ z => z) fun n b e => by
          rw [show (Wd.mk w2.B (w2.ρ ++ [a])).ρ = w2.ρ ++ [a] from rfl, List.getElem?_append_left (List.getElem?_eq_some_iff.mp e).1]; exact e⟩
        obtain ⟨s5, y5⟩ := s3.adoptM r2 (fun ps z => by rw [upd_same] at z; cases z) hc y4 ha
        refine p _ _ _ y5 s5 (.inl (.cell ?_))
        show (w2.ρ ++ [a])[M'.length]? = some a
        rw [← s2.len]
        simp
      · rw [if_neg hz] at p; exact p.elim
end
/-! ### evaluation -/
def kPv (k v : D) (ps : List (Key × D)) (M : Mem) : R (List (Key × D)) := pair1 k v ps M
def kPr (r : List (SE × SE)) (e : En) (k v : D) (M : Mem) : R (List (Key × D)) := (sPairs r e M).bind (kPv k v)
def kPk (fv : SE) (r : List (SE × SE)) (e : En) (k : D) (M : Mem) : R (List (Key × D)) := (fv e M).bind (kPr r e k)
section
variable (e : En) (M : Mem)
@[simp] theorem sDict_eq (ps) : sDict ps e M = (sPairs ps e M).bind dict1 := nrfl rfl
@[simp] theorem sPairs_nil : sPairs [] e M = .ok [] M := nrfl rfl
@[simp] theorem sPairs_cons (fk fv r) : sPairs ((fk, fv) :: r) e M = (fk e M).bind (kPk fv r e) := nrfl rfl
@[simp] theorem kPk_eq (fv r k) : kPk fv r e k M = (fv e M).bind (kPr r e k) := nrfl rfl
@[simp] theorem kPr_eq (r k v) : kPr r e k v M = (sPairs r e M).bind (kPv k v) := nrfl rfl
@[simp] theorem kPv_str (k v ps) : kPv (.str k) v ps M = .ok ((.inr k, v) :: ps) M := nrfl rfl
@[simp] theorem kPv_int (k v ps) : kPv (.int k) v ps M = .ok ((.inl k, v) :: ps) M := nrfl rfl
@[simp] theorem dict1_eq (kvs) : dict1 kvs M = if (uniqK kvs && decide (kvs.length ≤ 15)) = true then .ok (.cell M.length) (M ++ [.dic kvs]) else .bad := nrfl rfl
end
/-! ## a def that calls itself -/
def badF : Fn := fun _ _ => .bad
theorem fn_bad {P : Program} {w0 : World} {K : PySem.W.Frag} {mg : Str → Option Value} {base : Heap} {f : Addr} {fd : FuncData} {ps : List Str} {T : List Addr} {k : Nat} : FnOk P w0 K mg base (L2.CX P w0) k f fd ps (spS T K ps.length badF) :=
  ⟨fun _ _ _ _ h => h.1, fun A outer s H args us vs Q E hr e0 hb r h => by
    obtain ⟨_, _, _, _, _, _, _, p⟩ := h
    exact p.elim⟩
end L3
namespace L3
open PySem PySem.Spec PyProof.Rows L2

/-! ## more rules: code never come to, max, min, index, list(range), pop within expressions, constants of the top -/
def sBad : SS := fun _ _ => .bad
section
variable {X : Cx} {W : WX} {pos : Pos}
theorem s_bad {st : Stmt} : AS X W st sBad := PS.imp ps_never fun E σ H q => by
  obtain ⟨S, w, e, M, hs, sr, lv, p⟩ := q
  exact p.elim
def maxD (ds : List D) (M : Mem) : R D := match ds with
  | [.int i, .int j] => .ok (.int (if j > i then j else i)) M
  | _ => .bad
def minD (ds : List D) (M : Mem) : R D := match ds with
  | [.int i, .int j] => .ok (.int (if j < i then j else i)) M
  | _ => .bad
theorem two_int {f : Int → Int → Int} {g : List D → Mem → R D} (e1 : ∀ i j M, g [.int i, .int j] M = .ok (.int (f i j)) M) (e2 : ∀ ds M, (∃ i j, ds = [.int i, .int j]) ∨ g ds M = .bad) :
    CallG X W (fun xs H Q => ∃ i j, xs = [.int i, .int j] ∧ Q (.int (f i j)) H) g := by
  intro S w M H σ xs ds Q hs rs p
  rcases e2 ds M with ⟨i, j, rfl⟩ | z
  · rw [e1] at p
    obtain ⟨x, y, rfl, r1, r2⟩ := rs.two
    exact ⟨i, j, by rw [r1.int, r2.int], p w H _ (.refl _ _) hs (.inl (.int _))⟩
  · rw [z] at p; exact p.elim
theorem maxG : CallG X W (fun xs H Q => ∃ i j, xs = [.int i, .int j] ∧ Q (.int (if j > i then j else i)) H) maxD := two_int (fun _ _ _ => rfl) fun ds M => by
  rcases ds with _ | ⟨d1, _ | ⟨d2, _ | ⟨d3, t⟩⟩⟩
  · exact .inr rfl
  · exact .inr (by cases d1 <;> rfl)
  · cases d1 <;> cases d2 <;> first | exact .inl ⟨_, _, rfl⟩ | exact .inr rfl
  · exact .inr (by cases d1 <;> cases d2 <;> rfl)
theorem minG : CallG X W (fun xs H Q => ∃ i j, xs = [.int i, .int j] ∧ Q (.int (if j < i then j else i)) H) minD := two_int (fun _ _ _ => rfl) fun ds M => by
  rcases ds with _ | ⟨d1, _ | ⟨d2, _ | ⟨d3, t⟩⟩⟩
  · exact .inr rfl
  · exact .inr (by cases d1 <;> rfl)
  · cases d1 <;> cases d2 <;> first | exact .inl ⟨_, _, rfl⟩ | exact .inr rfl
  · exact .inr (by cases d1 <;> cases d2 <;> rfl)
/-! ### list(range(..)), tuple(range(..)) -/
def lrg (d : D) (M : Mem) : R D := match d with
  | .int n => if decide (n.natAbs ≤ 2 ^ 24) = true then .ok (.own (rangeL 0 n.toNat)) M else .bad
  | _ => .bad
def trg (d : D) (M : Mem) : R D := match d with
  | .int n => if decide (n.natAbs ≤ 2 ^ 24) = true then .ok (.tup (rangeL 0 n.toNat)) M else .bad
  | _ => .bad
def sLrg (f : SE) : SE := fun e M => (f e M).bind lrg
def sTrg (f : SE) : SE := fun e M => (f e M).bind trg
def lrg2 (a b : D) (M : Mem) : R D := match a, b with
  | .int i, .int j => if (decide (i.natAbs ≤ 2 ^ 23) && decide (j.natAbs ≤ 2 ^ 23)) = true then .ok (.own (rangeL i (j - i).toNat)) M else .bad
  | _, _ => .bad
def trg2 (a b : D) (M : Mem) : R D := match a, b with
  | .int i, .int j => if (decide (i.natAbs ≤ 2 ^ 23) && decide (j.natAbs ≤ 2 ^ 23)) = true then .ok (.tup (rangeL i (j - i).toNat)) M else .bad
  | _, _ => .bad
theorem reps_rg {K : PySem.W.Frag} {w : Wd} (lo : Int) (n : Nat) : Reps K w ((List.range n).map fun (i : Nat) => V.int (lo + i)) (rangeL lo n) := by
  have h : ∀ l : List Nat, Reps K w (l.map fun (i : Nat) => V.int (lo + i)) (l.map fun (i : Nat) => D.int (lo + i)) := by
    intro l
    induction l with
    | nil => exact .nil
    | cons a l ih => exact .cons (.int _) ih
  exact h _
theorem a_lrg {a : Expr} {f : SE} {p1 p2 q1 q2 : Pos} (hc : X.calm = true) (hg : Gl X "list") (hm : X.mg "list" = none) (hg2 : Gl X "range") (hm2 : X.mg "range" = none) (h : AE X W a f) (hs : starEach [a] X.env = (false, eval a X.env) :: starEach [] X.env := by rfl)
    (na : starEach [.Call (.Name "range" p2) [a] [] q2] X.env = (false, eval (.Call (.Name "range" p2) [a] [] q2) X.env) :: starEach [] X.env := by rfl) :
    AE X W (.Call (.Name "list" p1) [.Call (.Name "range" p2) [a] [] q2] [] q1) (sLrg f) :=
  PE.imp (pe_listRg hc hg hm (prg_1 hg2 hm2 h hs) na) fun σ H Q q => tG.step (k := fun _ d M => lrg d M) (fun _ => bkE) q fun S w e w' M' H' v d s sx x r p => by
    cases d with
    | int n =>
      have p : Pst X.K W w' H' σ (rlE X.K S) Q (if decide (n.natAbs ≤ 2 ^ 24) = true then .ok (.own (rangeL 0 n.toNat)) M' else .bad) := p
      by_cases hn : decide (n.natAbs ≤ 2 ^ 24) = true
      · rw [if_pos hn] at p
        have hn := of_decide_eq_true hn
        refine ⟨n, r.toR.int, ⟨by decide, by decide, by omega, by omega, by omega⟩, fun b hb => ?_⟩
        have q := reps_rg (K := X.K) (w := w') 0 n.toNat
        have e : rgV 0 n = (List.range n.toNat).map fun (i : Nat) => V.int (0 + i) := by unfold rgV; rw [Int.sub_zero]
        rw [e]
        exact fresh_own s q p hb
      · rw [if_neg hn] at p; exact p.elim
    | _ => exact p.elim
theorem a_trg {a : Expr} {f : SE} {p1 p2 q1 q2 : Pos} (hc : X.calm = true) (hg : Gl X "tuple") (hm : X.mg "tuple" = none) (hg2 : Gl X "range") (hm2 : X.mg "range" = none) (h : AE X W a f) (hs : starEach [a] X.env = (false, eval a X.env) :: starEach [] X.env := by rfl)
    (na : starEach [.Call (.Name "range" p2) [a] [] q2] X.env = (false, eval (.Call (.Name "range" p2) [a] [] q2) X.env) :: starEach [] X.env := by rfl) :
    AF X W (.Call (.Name "tuple" p1) [.Call (.Name "range" p2) [a] [] q2] [] q1) (sTrg f) :=
  PE.imp (pe_tupRg hc hg hm (prg_1 hg2 hm2 h hs) na) fun σ H Q q => tG.step (k := fun _ d M => trg d M) (fun _ => bkF) q fun S w e w' M' H' v d s sx x r p => by
    cases d with
    | int n =>
      have p : Pst X.K W w' H' σ (rlF X.K) Q (if decide (n.natAbs ≤ 2 ^ 24) = true then .ok (.tup (rangeL 0 n.toNat)) M' else .bad) := p
      by_cases hn : decide (n.natAbs ≤ 2 ^ 24) = true
      · rw [if_pos hn] at p
        have hn := of_decide_eq_true hn
        refine ⟨n, r.toR.int, ⟨by decide, by decide, by omega, by omega, by omega⟩, fun b hb => ?_⟩
        have e : rgV 0 n = (List.range n.toNat).map fun (i : Nat) => V.int (0 + i) := by unfold rgV; rw [Int.sub_zero]
        rw [e]
        obtain ⟨s2, y⟩ := s.imm (o := .tup ((List.range n.toNat).map fun (i : Nat) => V.int (0 + i))) hb
        exact p _ _ _ y s2 (.tup (.of upd_same) (reps_rg 0 n.toNat))
      · rw [if_neg hn] at p; exact p.elim
    | _ => exact p.elim
/-! ### x.pop(), x.pop(i) within an expression, of a cell -/
def popC1 (n : Nat) (M : Mem) : R D := match cellL M n with
  | some ds => match ds.getLast? with
    | some d => .ok d (M.set n (.lst ds.dropLast))
    | none => .bad
  | none => .bad
def sPopC (i : Nat) : SE := fun e M => match eget e i with
  | some (.cell n) => popC1 n M
  | _ => .bad
def popI1 (n : Nat) (d : D) (M : Mem) : R D := match d with
  | .int j => match cellL M n with
    | some ds => match seqIndex? j ds.length with
      | some k => match ds[k]? with
        | some d => if (decide (-(2 ^ 63) ≤ j) && decide (j < 2 ^ 63)) = true then .ok d (M.set n (.lst (ds.eraseIdx k))) else .bad
        | none => .bad
      | none => .bad
    | none => .bad
  | _ => .bad
def popI0 (n : Nat) (f : SE) (e : En) (M : Mem) : R D := match cellL M n with
  | some _ => (f e M).bind (popI1 n)
  | none => .bad
def sPopI (i : Nat) (f : SE) : SE := fun e M => match eget e i with
  | some (.cell n) => popI0 n f e M
  | _ => .bad
theorem cell_at {K : PySem.W.Frag} {S : Addr → Prop} {w : Wd} {M : Mem} {H : Hp} {σ : L2.St} {e : En} {i n : Nat} {ds : List D} (hs : HS K w M H) (sx : SX K S w H σ e) (he : eget e i = some (.cell n)) (hc : cellL M n = some ds) :
    ∃ a us, σ[i]? = some (some (.ref a)) ∧ w.ρ[n]? = some a ∧ H a = some (.lst us) ∧ Reps K w us ds ∧ w.B a = none := by
  obtain ⟨v, hσ, r⟩ := sx.at_ i _ (eget_iff.mp he)
  rcases r with r | ⟨_, hx, _⟩
  · cases r with
    | @cell n a hn =>
      obtain ⟨hb, us, hH, q⟩ := hs.cells n _ _ hn (cellL_some hc)
      exact ⟨a, us, hσ, hn, hH, q, hb⟩
  · cases hx
theorem a_popC {i : Nat} {x : Str} {p1 apos cpos : Pos} (hN : X.N[i]? = some x) (hv : Vis X.env.scope x)
    (hline : (apos.endLine == cpos.line) = true := by rfl) (hd : (x == ("__debug__" : Str)) = false := by decide) (hcd : (x == ("__classdict__" : Str)) = false := by decide) :
    AF X W (.Call (.Attribute (.Name x p1) "pop" apos) [] [] cpos) (sPopC i) :=
  PE.imp (pe_bm0 PySem.F.plainAttrs_list PySem.F.slot_list_pop PySem.F.type_list_pop (fun pins s σ H x xs v us Q I rx rs q => mt_pop pins s σ H x xs v us Q I rx rs q) (pe_var hN hv hd hcd) rfl hline) fun σ H Q q => by
    obtain ⟨S, w, e, M, hs, sx, p⟩ := q
    unfold sPopC at p
    cases he : eget e i with
    | none => rw [he] at p; exact p.elim
    | some d =>
      rw [he] at p
      cases d with
      | cell n =>
        have p : Pst X.K W w H σ (rlF X.K) Q (popC1 n M) := p
        unfold popC1 at p
        cases hc : cellL M n with
        | none => rw [hc] at p; exact p.elim
        | some ds =>
          rw [hc] at p
          have p : Pst X.K W w H σ (rlF X.K) Q (match ds.getLast? with
            | some d => .ok d (M.set n (.lst ds.dropLast))
            | none => .bad) := p
          obtain ⟨a, us, hσ, hn, hH, r, hb⟩ := cell_at hs sx he hc
          cases hg : ds.getLast? with
          | none => rw [hg] at p; exact p.elim
          | some d =>
            rw [hg] at p
            obtain ⟨v, e1, rv⟩ := r.last hg
            obtain ⟨s2, y⟩ := hs.write (o := .lst us.dropLast) (m := .lst ds.dropLast) hn hb ⟨hb, _, upd_same, r.dropLast⟩
            exact ⟨.ref a, hσ, .inl ⟨rfl, us, .of hH⟩, a, us, v, rfl, rfl, hH, e1, p w _ v y s2 (rv.mono y)⟩
      | _ => exact p.elim
theorem a_popI {i : Nat} {x : Str} {e1 : Expr} {f : SE} {p1 apos cpos : Pos} (hN : X.N[i]? = some x) (hv : Vis X.env.scope x) (h : AE X W e1 f)
    (hfew : ((backTo cpos (starEach (e1 :: []) X.env)).all (fun x => !x.1) && (backToKw cpos (keywordEach [] X.env)).all (fun x => x.1.isSome)
      && decide ((e1 :: []).length + ([] : List Keyword).length + (if ([] : List Keyword).isEmpty then 0 else 1) < 30)) = true := by rfl)
    (hline : (apos.endLine == cpos.line) = true := by rfl) (hs : starEach (e1 :: []) X.env = (false, eval e1 X.env) :: starEach [] X.env := by rfl)
    (hd : (x == ("__debug__" : Str)) = false := by decide) (hcd : (x == ("__classdict__" : Str)) = false := by decide) :
    AF X W (.Call (.Attribute (.Name x p1) "pop" apos) [e1] [] cpos) (sPopI i f) :=
  PE.imp (pe_bm PySem.F.plainAttrs_list PySem.F.slot_list_pop PySem.F.type_list_pop (fun pins s σ H x xs v us Q I rx rs q => mt_popAt pins s σ H x xs v us Q I rx rs q) (pe_var hN hv hd hcd) (pa_cons h pa_nil hs) rfl hfew hline hs rfl) fun σ H Q q => by
    obtain ⟨S, w, e, M, hs, sx, p⟩ := q
    unfold sPopI at p
    cases he : eget e i with
    | none => rw [he] at p; exact p.elim
    | some d =>
      rw [he] at p
      cases d with
      | cell n =>
        have p : Pst X.K W w H σ (rlF X.K) Q (popI0 n f e M) := p
        unfold popI0 at p
        cases hc : cellL M n with
        | none => rw [hc] at p; exact p.elim
        | some ds0 =>
          rw [hc] at p
          have p : Pst X.K W w H σ (rlF X.K) Q ((f e M).bind (popI1 n)) := p
          obtain ⟨a, us0, hσ, hn, hH0, r0, hb0⟩ := cell_at hs sx he hc
          refine ⟨.ref a, hσ, .inl ⟨rfl, us0, .of hH0⟩, S, w, e, M, hs, sx, p.bind bkF fun d M2 w2 H2 v2 y s2 q2 p3 => ?_⟩
          have sx2 := sx.mono y
          cases d with
          | int j =>
            have ev : v2 = .int j := q2.toR.int
            unfold popI1 at p3
            cases hc2 : cellL M2 n with
            | none => simp only [hc2] at p3; exact p3.elim
            | some ds =>
              simp only [hc2] at p3
              obtain ⟨a', us, hσ', hn', hH, r, hb⟩ := cell_at s2 sx2 he hc2
              rw [hσ] at hσ'
              cases hσ'
              cases hk : seqIndex? j ds.length with
              | none => simp only [hk] at p3; exact p3.elim
              | some k =>
                simp only [hk] at p3
                cases hd : ds[k]? with
                | none => simp only [hd] at p3; exact p3.elim
                | some d =>
                  simp only [hd] at p3
                  by_cases hz : (decide (-(2 ^ 63) ≤ j) && decide (j < 2 ^ 63)) = true
                  · rw [if_pos hz] at p3
                    rw [Bool.and_eq_true] at hz
                    obtain ⟨v, e1, rv⟩ := r.get hd
                    obtain ⟨s3, y3⟩ := s2.write (o := .lst (us.eraseIdx k)) (m := .lst (ds.eraseIdx k)) hn' hb ⟨hb, _, upd_same, r.eraseIdx k⟩
                    exact ⟨a, us, j, k, v, rfl, by rw [ev], hH, of_decide_eq_true hz.1, of_decide_eq_true hz.2, by rw [r.length]; exact hk, e1, p3 w2 _ v y3 s3 (rv.mono y3)⟩
                  · rw [if_neg hz] at p3; exact p3.elim
          | _ => exact p3.elim
      | _ => exact p.elim
/-! ### l.index(x) -/
def idx1 (o : Option Nat) (M : Mem) : R D := match o with
  | some j => .ok (.int (j : Nat)) M
  | none => .bad
def indexD (d x : D) (M : Mem) : R D := match toPyT d M, toPyT x M with
  | some (.list ps), some p => if (SeqAt.shaped (.list ps) && SeqAt.shaped p) = true then idx1 (ps.findIdx? fun z => PyData.eqv z p) M else .bad
  | _, _ => .bad
def idx0 (f : SE) (e : En) (d : D) (M : Mem) : R D := match lsq d M with
  | some _ => (f e M).bind (indexD d)
  | none => .bad
def sIdx (fo f : SE) : SE := fun e M => (fo e M).bind (idx0 f e)
theorem findIdx_spec {α : Type} {p : α → Bool} : ∀ {l : List α} {j : Nat}, l.findIdx? p = some j → (∃ z, l[j]? = some z ∧ p z = true) ∧ ∀ (m : Nat) (z : α), m < j → l[m]? = some z → p z = false := by
  intro l j h
  rw [List.findIdx?_eq_some_iff_getElem] at h
  obtain ⟨h1, h2, h3⟩ := h
  refine ⟨⟨l[j], by simp [h1], h2⟩, fun m z hm hz => ?_⟩
  have hl : m < l.length := by omega
  have e : l[m] = z := by
    rw [List.getElem?_eq_getElem hl] at hz; exact Option.some.inj hz
  have := h3 m hm
  rw [e] at this
  simpa using this
theorem a_index {o e1 : Expr} {fo f : SE} {apos cpos : Pos} (hu : X.A.units + 65 < cLine) (ho : AE X W o fo) (h : AE X W e1 f)
    (hbase : attributeBase o "index" X.env (eval o X.env) = eval o X.env := by rfl)
    (hfew : ((backTo cpos (starEach (e1 :: []) X.env)).all (fun x => !x.1) && (backToKw cpos (keywordEach [] X.env)).all (fun x => x.1.isSome)
      && decide ((e1 :: []).length + ([] : List Keyword).length + (if ([] : List Keyword).isEmpty then 0 else 1) < 30)) = true := by rfl)
    (hline : (apos.endLine == cpos.line) = true := by rfl) (hs : starEach (e1 :: []) X.env = (false, eval e1 X.env) :: starEach [] X.env := by rfl) :
    AF X W (.Call (.Attribute o "index" apos) [e1] [] cpos) (sIdx fo f) :=
  PE.imp (pe_bm PySem.F.plainAttrs_list PySem.F.slot_list_index PySem.F.type_list_index (mt_indexD hu) ho (pa_cons h pa_nil hs) hbase hfew hline hs rfl) fun σ H Q q =>
    tG.step (k := fun e d M => idx0 f e d M) (fun _ => bkF) q fun S w e w' M' H' v d s sx x r p => by
      unfold idx0 at p
      cases hl : lsq d M' with
      | none => rw [hl] at p; exact p.elim
      | some xs =>
        rw [hl] at p
        have p : Pst X.K W w' H' σ (rlF X.K) Q ((f e M').bind (indexD d)) := p
        obtain ⟨a, us, rfl, hq, _⟩ := r.toR.lsq s hl
        refine ⟨.inl ⟨rfl, us, hq⟩, S, w', e, M', s, sx, p.bind bkF fun d2 M2 w2 H2 v2 y s2 q2 p3 => ?_⟩
        unfold indexD at p3
        cases e1 : toPyT d M2 with
        | none => simp only [e1] at p3; exact p3.elim
        | some pd =>
          cases pd with
          | list ps =>
            cases e2 : toPyT d2 M2 with
            | none => simp only [e1, e2] at p3; exact p3.elim
            | some pz =>
              simp only [e1, e2] at p3
              by_cases hh : (SeqAt.shaped (.list ps) && SeqAt.shaped pz) = true
              · rw [if_pos hh] at p3
                rw [Bool.and_eq_true] at hh
                cases hf : ps.findIdx? fun z => PyData.eqv z pz with
                | none => rw [hf] at p3; exact p3.elim
                | some j =>
                  rw [hf] at p3
                  obtain ⟨⟨z, hz, hzj⟩, hno⟩ := findIdx_spec hf
                  have rr : RepR X.K w2 H2 (.ref a) d := r.toR.mono y
                  have q2' : RepR X.K w2 H2 v2 d2 := q2.toR
                  exact ⟨a, v2, pz, ps, j, z, rfl, rfl, rr.dp s2 e1, q2'.dp s2 e2, hh.1, hh.2, hz, hzj, fun m z' hm hz' => hno m z' hm hz', p3 w2 H2 _ (.refl _ _) s2 (.int _)⟩
              · rw [if_neg hh] at p3; exact p3.elim
          | _ => simp only [e1] at p3; exact p3.elim
/-! ### constants of the top -/
structure KT (K : PySem.W.Frag) (mg : Str → Option Value) (x : Str) (a : Addr) (ys : List Str) : Prop where
  g : mg x = some (.ref a)
  o : ∃ (o : Obj) (its : Array Value) (n : Nat), K.lookup a = some o ∧ o.cls = .type "tuple" ∧ o.dict = none ∧ o.data = .seq its n ∧ its.size ≤ sizeLine ∧ Vals (ys.map V.str) its.toList
theorem KT.sq {K : PySem.W.Frag} {mg : Str → Option Value} {x : Str} {a : Addr} {ys : List Str} (h : KT K mg x a ys) (H : Hp) : SqT K H a (ys.map V.str) := by
  obtain ⟨o, its, n, h1, h2, h3, h4, h5, h6⟩ := h.o
  exact .inr ⟨o, its, n, h1, h2, h4, h5, h6⟩
theorem reps_str {K : PySem.W.Frag} {w : Wd} : ∀ (ys : List Str), Reps K w (ys.map V.str) (ys.map D.str)
  | [] => .nil
  | y :: r => .cons (.str y) (reps_str r)
theorem a_kt {x : Str} {a : Addr} {ys : List Str} (h : KT X.K X.mg x a ys) (hg : Gl X x) (hy : ys ≠ [] := by intro h; cases h) (hd : (x == ("__debug__" : Str)) = false := by decide) : AE X W (.Name x pos) (sC (.tup (ys.map D.str))) :=
  a_const (pe_glob (v := .ref a) hg h.g rfl hd) fun w => .tup (.inr ⟨h.sq _, fun ⟨ns, e⟩ => by
    cases ys with
    | nil => exact hy rfl
    | cons y r => cases ns <;> simp at e⟩) (reps_str ys)
theorem a_ki {x : Str} {i : Int} {t : Nat} (h : X.mg x = some (.int i t)) (hg : Gl X x) (hd : (x == ("__debug__" : Str)) = false := by decide) : AE X W (.Name x pos) (sC (.int i)) :=
  a_const (pe_glob (v := .int i) hg h ⟨_, rfl⟩ hd) fun w => .int _
def kidx (ys : List Str) (d : D) (M : Mem) : R D := match d with
  | .str z => idx1 (ys.findIdx? fun y => decide (y = z)) M
  | _ => .bad
def sKidx (ys : List Str) (f : SE) : SE := fun e M => (f e M).bind (kidx ys)
theorem a_kidx {x : Str} {a : Addr} {ys : List Str} {e1 : Expr} {f : SE} {p1 apos cpos : Pos} (hk : KT X.K X.mg x a ys) (hg : Gl X x) (h : AE X W e1 f)
    (hbase : attributeBase (.Name x p1) "index" X.env (eval (.Name x p1) X.env) = eval (.Name x p1) X.env := by rfl)
    (hfew : ((backTo cpos (starEach (e1 :: []) X.env)).all (fun x => !x.1) && (backToKw cpos (keywordEach [] X.env)).all (fun x => x.1.isSome)
      && decide ((e1 :: []).length + ([] : List Keyword).length + (if ([] : List Keyword).isEmpty then 0 else 1) < 30)) = true := by rfl)
    (hline : (apos.endLine == cpos.line) = true := by rfl) (hs : starEach (e1 :: []) X.env = (false, eval e1 X.env) :: starEach [] X.env := by rfl) (hd : (x == ("__debug__" : Str)) = false := by decide) :
    AF X W (.Call (.Attribute (.Name x p1) "index" apos) [e1] [] cpos) (sKidx ys f) :=
  PE.imp (pe_bm PySem.F.plainAttrs_tuple PySem.F.slot_tuple_index PySem.F.type_tuple_index mt_tup_index (pe_glob (v := .ref a) hg hk.g rfl hd) (pa_cons h pa_nil hs) hbase hfew hline hs rfl) fun σ H Q q => by
    obtain ⟨o, its, n, h1, h2, h3, _⟩ := hk.o
    refine ⟨.inr (.inl ⟨rfl, o, h1, h2, h3⟩), tG.step (k := fun _ d M => kidx ys d M) (fun _ => bkF) q fun S w e w' M' H' v d s sx x r p => ?_⟩
    cases d with
    | str z =>
      have p' : Pst X.K W w' H' σ (rlF X.K) Q (idx1 (ys.findIdx? fun y => decide (y = z)) M') := p
      cases hf : ys.findIdx? fun y => decide (y = z) with
      | none => rw [hf] at p'; exact p'.elim
      | some j =>
        rw [hf] at p'
        obtain ⟨⟨z', hz, hzj⟩, hno⟩ := findIdx_spec hf
        have ez : z' = z := of_decide_eq_true hzj
        subst ez
        refine ⟨a, ys, z', j, rfl, by rw [r.toR.str], hk.sq _, hz, fun m hm q => ?_, p' w' H' _ (.refl _ _) s (.int _)⟩
        have := hno m z' hm q
        simp at this
    | _ => exact p.elim
end
/-! ### evaluation -/
section
variable (e : En) (M : Mem)
@[simp] theorem sBad_eq : sBad e M = .bad := nrfl rfl
@[simp] theorem maxD_int (i j) : maxD [.int i, .int j] M = .ok (.int (if j > i then j else i)) M := nrfl rfl
@[simp] theorem minD_int (i j) : minD [.int i, .int j] M = .ok (.int (if j < i then j else i)) M := nrfl rfl
@[simp] theorem sLrg_eq (f : SE) : sLrg f e M = (f e M).bind lrg := nrfl rfl
@[simp] theorem sTrg_eq (f : SE) : sTrg f e M = (f e M).bind trg := nrfl rfl
@[simp] theorem lrg_int (n) : lrg (.int n) M = if decide (n.natAbs ≤ 2 ^ 24) = true then .ok (.own (rangeL 0 n.toNat)) M else .bad := nrfl rfl
@[simp] theorem trg_int (n) : trg (.int n) M = if decide (n.natAbs ≤ 2 ^ 24) = true then .ok (.tup (rangeL 0 n.toNat)) M else .bad := nrfl rfl
def popC0 (o : Option D) (M : Mem) : R D := match o with
  | some (.cell n) => popC1 n M
  | _ => .bad
@[simp] theorem sPopC_eq (i) : sPopC i e M = popC0 (eget e i) M := nrfl rfl
@[simp] theorem popC0_cell (n) : popC0 (some (.cell n)) M = popC1 n M := nrfl rfl
def popI00 (o : Option D) (f : SE) (e : En) (M : Mem) : R D := match o with
  | some (.cell n) => popI0 n f e M
  | _ => .bad
@[simp] theorem sPopI_eq (i f) : sPopI i f e M = popI00 (eget e i) f e M := nrfl rfl
@[simp] theorem popI00_cell (n f) : popI00 (some (.cell n)) f e M = popI0 n f e M := nrfl rfl
@[simp] theorem sIdx_eq (fo f) : sIdx fo f e M = (fo e M).bind (idx0 f e) := nrfl rfl
@[simp] theorem idx0_lst (f xs) : idx0 f e (.lst xs) M = (f e M).bind (indexD (.lst xs)) := nrfl rfl
@[simp] theorem idx0_own (f xs) : idx0 f e (.own xs) M = (f e M).bind (indexD (.own xs)) := nrfl rfl
@[simp] theorem idx0_brw (f xs) : idx0 f e (.brw xs) M = (f e M).bind (indexD (.brw xs)) := nrfl rfl
@[simp] theorem sKidx_eq (ys f) : sKidx ys f e M = (f e M).bind (kidx ys) := nrfl rfl
@[simp] theorem kidx_str (ys z) : kidx ys (.str z) M = idx1 (ys.findIdx? fun y => decide (y = z)) M := nrfl rfl
@[simp] theorem idx1_some (j) : idx1 (some j) M = .ok (.int (j : Nat)) M := nrfl rfl
end
end L3
namespace L3
open PySem PySem.Spec PyProof.Rows L2

/-! ## rows of numbers, membership and index by == of plain data, comprehensions over ranges -/
def row (n : Nat) (f : Nat → Nat) : List D := (List.range n).map fun x => D.int (f x : Nat)
theorem row_len (n : Nat) (f : Nat → Nat) : (row n f).length = n := by simp [row]
theorem rangeL_row (n : Nat) : rangeL 0 n = (List.range n).map fun x => D.int (x : Nat) := by
  unfold rangeL
  exact List.map_congr_left fun a _ => by simp
theorem getR {α : Type} {n k : Nat} (f : Nat → α) (h : k < n) : ((List.range n).map f)[k]? = some (f k) := by simp [h]
theorem atR {α : Type} {n k : Nat} (f : Nat → α) (h : k < n) : L2.atI ((List.range n).map f) (k : Int) = some (f k) := by rw [atI_lit, getR f h]
theorem atRow {n k : Nat} (f : Nat → Nat) (h : k < n) : L2.atI (row n f) (k : Int) = some (D.int (f k : Nat)) := atR _ h
theorem row_congr {n : Nat} {f g : Nat → Nat} (h : ∀ k, k < n → f k = g k) : row n f = row n g := by
  unfold row
  exact List.map_congr_left fun a ha => by rw [h a (List.mem_range.mp ha)]
theorem pl_row (m n : Nat) (f : Nat → Nat) : plDs m (row n f) = true := by
  rw [plDs_iff]
  intro d hd
  obtain ⟨k, _, rfl⟩ := List.mem_map.mp hd
  cases m <;> rfl
/-- x in a list of plain data -/
theorem any_eqv {α : Type} [DecidableEq α] {h : α → D} {n : Nat} (hi : ∀ x y, h x = h y → x = y) (hp : ∀ x, plD n (h x) = true) {a : α} {p : PyData} (ha : toPy (h a) = some p) : ∀ {xs : List α} {ps : List PyData}, toPys (xs.map h) = some ps →
    (ps.any fun z => PyData.eqv z p) = decide (a ∈ xs) ∧ ps.findIdx? (fun z => PyData.eqv z p) = xs.findIdx? (fun y => decide (y = a)) := by
  intro xs
  induction xs with
  | nil => intro ps e; cases e; exact ⟨by simp, by simp⟩
  | cons x xs ih =>
    intro ps e
    rw [List.map_cons] at e
    unfold toPys at e
    obtain ⟨q, e1, c1, _⟩ := plD_py (hp x)
    rw [e1] at e
    cases e2 : toPys (xs.map h) with
    | none => rw [e2] at e; cases e
    | some qs =>
      rw [e2] at e
      cases e
      obtain ⟨i1, i2⟩ := ih e2
      have key : PyData.eqv q p = decide (x = a) := by
        by_cases hx : x = a
        · subst hx
          rw [e1] at ha; cases ha
          rw [SeqAt.eqv_refl p c1]; simp
        · cases z : PyData.eqv q p with
          | false => simp [hx]
          | true => exact absurd (hi _ _ (plD_eqv n n _ _ q p (hp x) (hp a) e1 ha z)) hx
      refine ⟨?_, ?_⟩
      · rw [List.any_cons, i1, key]
        by_cases hx : x = a
        · subst hx; simp
        · have : a ≠ x := fun z => hx z.symm
          simp [hx, this]
      · rw [List.findIdx?_cons, List.findIdx?_cons, i2, key]
theorem plDs_map {α : Type} {h : α → D} {n : Nat} (hp : ∀ x, plD n (h x) = true) (xs : List α) : plDs n (xs.map h) = true := by
  rw [plDs_iff]
  intro d hd
  obtain ⟨k, _, rfl⟩ := List.mem_map.mp hd
  exact hp k
theorem canLay_list {ps : List PyData} (c : PyData.canLayAll0 ps = true) : PyData.canLay0 (.list ps) = true := c
theorem list_shaped {n : Nat} {ps : List PyData} (hn : n < 64) (c : PyData.canLayAll0 ps = true) (d : PyData.depthAll ps ≤ n) : SeqAt.shaped (.list ps) = true :=
  shaped_of (n := n + 1) (by omega) c (by show PyData.depthAll ps + 1 ≤ n + 1; omega)
/-- a list, as it may stand -/
def isL (d : D) (xs : List D) : Prop := d = .lst xs ∨ d = .own xs ∨ d = .brw xs
theorem isL.py {d : D} {xs : List D} (h : isL d xs) (M : Mem) : toPyT d M = (toPys xs).map .list := by
  rcases h with rfl | rfl | rfl <;> first | rfl | (show toPy _ = _; unfold toPy; rfl)
theorem isL.sqs {d : D} {xs : List D} (h : isL d xs) (M : Mem) : L3.sqs d M = some xs := by
  rcases h with rfl | rfl | rfl <;> rfl
theorem plain_T {n : Nat} {d : D} {M : Mem} (h : plD n d = true) : toPyT d M = toPy d := by
  cases d <;> first | rfl | (unfold plD at h; cases h)
theorem in_list {α : Type} [DecidableEq α] {h : α → D} {n : Nat} (hn : n < 64) (hi : ∀ x y, h x = h y → x = y) (hp : ∀ x, plD n (h x) = true) (nf : ∀ x, flatD (h x) = false) (neg : Bool) (a : α) (xs : List α) {d : D} (hd : isL d (xs.map h)) (M : Mem) :
    (a ∈ xs → inD neg (h a) d M = .ok (.bl !neg) M) ∧ (a ∉ xs → inD neg (h a) d M = .ok (.bl neg) M) := by
  obtain ⟨p, e1, c1, d1⟩ := plD_py (hp a)
  obtain ⟨ps, e2, c2, d2⟩ := plDs_py (plDs_map hp xs)
  have e0 : inF neg (h a) d M = none := by
    unfold inF
    rw [hd.sqs]
    simp only [nf a, Bool.false_and, Bool.false_eq_true, if_false]
  have key : inD neg (h a) d M = .ok (.bl (if neg then !decide (a ∈ xs) else decide (a ∈ xs))) M := by
    unfold inD
    rw [e0]
    simp only
    unfold inDp
    rw [hd.py, e2, plain_T (hp a), e1]
    simp only [Option.map_some, shaped_of (Nat.le_of_lt hn) c1 d1, list_shaped hn c2 d2, Bool.and_self, if_true]
    rw [(any_eqv hi hp e1 e2).1]
  exact ⟨fun z => by rw [key]; cases neg <;> simp [z], fun z => by rw [key]; cases neg <;> simp [z]⟩
theorem index_list {α : Type} [DecidableEq α] {h : α → D} {n : Nat} (hn : n < 64) (hi : ∀ x y, h x = h y → x = y) (hp : ∀ x, plD n (h x) = true) (a : α) (xs : List α) {d : D} (hd : isL d (xs.map h)) (M : Mem) :
    indexD d (h a) M = idx1 (xs.findIdx? fun y => decide (y = a)) M := by
  obtain ⟨p, e1, c1, d1⟩ := plD_py (hp a)
  obtain ⟨ps, e2, c2, d2⟩ := plDs_py (plDs_map hp xs)
  unfold indexD
  rw [hd.py, e2, plain_T (hp a), e1]
  simp only [Option.map_some, shaped_of (Nat.le_of_lt hn) c1 d1, list_shaped hn c2 d2, Bool.and_self, if_true]
  rw [(any_eqv hi hp e1 e2).2]
theorem findIdx_of {α : Type} [DecidableEq α] {xs : List α} (hn : xs.Nodup) {k : Nat} {a : α} (h : xs[k]? = some a) : xs.findIdx? (fun y => decide (y = a)) = some k := by
  rw [List.findIdx?_eq_some_iff_getElem]
  obtain ⟨hk, e⟩ := List.getElem?_eq_some_iff.mp h
  refine ⟨hk, by simp [e], fun j hj => ?_⟩
  simp only [Bool.not_eq_true, decide_eq_false_iff_not]
  intro z
  have := (List.getElem_inj (i := j) (j := k) (h₀ := by omega) (h₁ := hk) hn).mp (z.trans e.symm)
  omega
/-- a comprehension over 0 .. n - 1 whose element does not write -/
theorem lc_row {i : Nat} {f : SE} {e : En} {M : Mem} (h : Nat → D) (n : Nat) (hn : n ≤ 10000) (hf : ∀ k, k < n → f (e.set i (some (.int (k : Nat)))) M = .ok (h k) M) :
    lcL (gN i) bYes f (rangeL 0 n) [] e M = .ok ((List.range n).map h) M := by
  have aux : ∀ (m lo : Nat) (acc : List D), lo + m = n → acc.length = lo → lcL (gN i) bYes f (rangeL (lo : Int) m) acc e M = .ok (acc ++ (List.range' lo m).map h) M := by
    intro m
    induction m with
    | zero => intro lo acc _ _; simp [rangeL_zero]
    | succ m ih =>
      intro lo acc hl ha
      have hz : acc.length < sizeLine := big' _ (by omega)
      have e1 := ih (lo + 1) (acc ++ [h lo]) (by omega) (by simp [ha])
      have hk := hf lo (by omega)
      rw [rangeL_succ, lcL_cons]
      simp only [gN_eq, lc1_some, bYes_eq, lc2_ok, if_true, hk, lc3_ok, if_pos hz]
      rw [show (lo : Int) + 1 = ((lo + 1 : Nat) : Int) by omega, e1, List.range'_succ]
      simp
  have := aux n 0 [] (by omega) rfl
  rw [List.range_eq_range']
  simpa using this
/-- .. whose element writes; J is kept -/
theorem lc_eff {α : Type} [Inhabited α] {i : Nat} {f : SE} {e : En} (J : Mem → Prop) (P : Nat → α → Prop) (h : α → D) (n : Nat) (hn : n ≤ 10000) (hf : ∀ k, k < n → ∀ M, J M → ∃ a M', f (e.set i (some (.int (k : Nat)))) M = .ok (h a) M' ∧ J M' ∧ P k a) {M : Mem} (hM : J M) :
    ∃ (F : Nat → α) (M' : Mem), lcL (gN i) bYes f (rangeL 0 n) [] e M = .ok ((List.range n).map fun k => h (F k)) M' ∧ J M' ∧ ∀ k, k < n → P k (F k) := by
  have aux : ∀ (m lo : Nat) (acc : List D) (M : Mem), lo + m = n → acc.length = lo → J M → ∃ (F : Nat → α) (M' : Mem), lcL (gN i) bYes f (rangeL (lo : Int) m) acc e M = .ok (acc ++ (List.range' lo m).map fun k => h (F k)) M' ∧ J M' ∧ ∀ k, lo ≤ k → k < n → P k (F k) := by
    intro m
    induction m with
    | zero => intro lo acc M hl ha hM; exact ⟨fun _ => default, M, by simp [rangeL_zero], hM, fun k h1 h2 => by omega⟩
    | succ m ih =>
      intro lo acc M hl ha hM
      have hz : acc.length < sizeLine := big' _ (by omega)
      obtain ⟨a, M1, hk, j1, p1⟩ := hf lo (by omega) M hM
      obtain ⟨F, M2, e1, j2, p2⟩ := ih (lo + 1) (acc ++ [h a]) M1 (by omega) (by simp [ha]) j1
      refine ⟨fun k => if k = lo then a else F k, M2, ?_, j2, fun k h1 h2 => ?_⟩
      · rw [rangeL_succ, lcL_cons]
        simp only [gN_eq, lc1_some, bYes_eq, lc2_ok, if_true, hk, lc3_ok, if_pos hz]
        rw [show (lo : Int) + 1 = ((lo + 1 : Nat) : Int) by omega, e1, List.range'_succ]
        simp only [List.append_assoc, List.singleton_append, List.map_cons, if_true]
        congr 3
        refine List.map_congr_left fun k hk => ?_
        have : k ≠ lo := by
          have := List.mem_range'_1.mp hk
          omega
        simp [this]
      · by_cases hk2 : k = lo
        · subst hk2; simpa using p1
        · simp only [if_neg hk2]; exact p2 k (by omega) h2
  obtain ⟨F, M', e1, j, p⟩ := aux n 0 [] M (by omega) rfl hM
  exact ⟨F, M', by rw [List.range_eq_range']; simpa using e1, j, fun k hk => p k (Nat.zero_le _) hk⟩
/-- .. whose test writes -/
theorem lc_filt {i : Nat} {t : SB} {f : SE} {e : En} (J : Mem → Prop) (h : Nat → D) (n : Nat) (hn : n ≤ 10000) (ht : ∀ k, k < n → ∀ M, J M → ∃ b M', t (e.set i (some (.int (k : Nat)))) M = .ok b M' ∧ J M')
    (hf : ∀ k, k < n → ∀ M, f (e.set i (some (.int (k : Nat)))) M = .ok (h k) M) {M : Mem} (hM : J M) :
    ∃ (p : Nat → Bool) (M' : Mem), lcL (gN i) t f (rangeL 0 n) [] e M = .ok (((List.range n).filter p).map h) M' ∧ J M' := by
  have aux : ∀ (m lo : Nat) (acc : List D) (M : Mem), lo + m = n → acc.length ≤ lo → J M → ∃ (p : Nat → Bool) (M' : Mem), lcL (gN i) t f (rangeL (lo : Int) m) acc e M = .ok (acc ++ ((List.range' lo m).filter p).map h) M' ∧ J M' := by
    intro m
    induction m with
    | zero => intro lo acc M hl ha hM; exact ⟨fun _ => true, M, by simp [rangeL_zero], hM⟩
    | succ m ih =>
      intro lo acc M hl ha hM
      have hz : acc.length < sizeLine := big' _ (by omega)
      obtain ⟨b, M1, hk, j1⟩ := ht lo (by omega) M hM
      have hfk := hf lo (by omega) M1
      cases b with
      | true =>
        obtain ⟨p, M2, e1, j2⟩ := ih (lo + 1) (acc ++ [h lo]) M1 (by omega) (by simp; omega) j1
        refine ⟨fun k => if k = lo then true else p k, M2, ?_, j2⟩
        rw [rangeL_succ, lcL_cons]
        simp only [gN_eq, lc1_some, hk, lc2_ok, if_true, hfk, lc3_ok, if_pos hz]
        rw [show (lo : Int) + 1 = ((lo + 1 : Nat) : Int) by omega, e1, List.range'_succ, List.filter_cons_of_pos (by simp)]
        simp only [List.append_assoc, List.singleton_append, List.map_cons]
        congr 4
        refine List.filter_congr fun k hk => ?_
        have : k ≠ lo := by
          have := List.mem_range'_1.mp hk
          omega
        simp [this]
      | false =>
        obtain ⟨p, M2, e1, j2⟩ := ih (lo + 1) acc M1 (by omega) (by omega) j1
        refine ⟨fun k => if k = lo then false else p k, M2, ?_, j2⟩
        rw [rangeL_succ, lcL_cons]
        simp only [gN_eq, lc1_some, hk, lc2_ok, Bool.false_eq_true, if_false]
        rw [show (lo : Int) + 1 = ((lo + 1 : Nat) : Int) by omega, e1, List.range'_succ, List.filter_cons_of_neg (by simp)]
        congr 3
        refine List.filter_congr fun k hk => ?_
        have : k ≠ lo := by
          have := List.mem_range'_1.mp hk
          omega
        simp [this]
  obtain ⟨p, M', e1, j⟩ := aux n 0 [] M (by omega) (by simp) hM
  exact ⟨p, M', by rw [List.range_eq_range']; simpa using e1, j⟩
/-! ## tables that join values -/
structure Mon (n : Nat) (T : Nat → Nat → Nat) (e : Nat) : Prop where
  pos : 1 ≤ n
  most : n ≤ 9
  u : e < n
  cl : ∀ x y, x < n → y < n → T x y < n
  l : ∀ x, x < n → T e x = x
  r : ∀ x, x < n → T x e = x
  a : ∀ x y z, x < n → y < n → z < n → T (T x y) z = T x (T y z)
/-- the same, of joined ones too -/
structure Mow (n : Nat) (T : Nat → Nat → Nat) (e : Nat) : Prop where
  pos : 1 ≤ n
  most : n ≤ 81
  u : e < n
  cl : ∀ x y, x < n → y < n → T x y < n
  l : ∀ x, x < n → T e x = x
  r : ∀ x, x < n → T x e = x
  a : ∀ x y z, x < n → y < n → z < n → T (T x y) z = T x (T y z)
theorem Mon.ow {n : Nat} {T : Nat → Nat → Nat} {e : Nat} (h : Mon n T e) : Mow n T e := ⟨h.pos, by have := h.most; omega, h.u, h.cl, h.l, h.r, h.a⟩
theorem mon_sum (n : Nat) (h : 1 ≤ n) (h9 : n ≤ 9) : Mon n (fun x y => (x + y) % n) 0 where
  pos := h
  most := h9
  u := h
  cl := fun x y _ _ => Nat.mod_lt _ h
  l := fun x hx => by simp [Nat.mod_eq_of_lt hx]
  r := fun x hx => by simp [Nat.mod_eq_of_lt hx]
  a := fun x y z _ _ _ => by simp [Nat.add_assoc]
theorem mon_max (n : Nat) (h : 1 ≤ n) (h9 : n ≤ 9) : Mon n (fun x y => if y > x then y else x) 0 where
  pos := h
  most := h9
  u := h
  cl := fun x y _ _ => by show (if y > x then y else x) < n; split <;> omega
  l := fun x hx => by show (if x > 0 then x else 0) = x; split <;> omega
  r := fun x hx => by show (if 0 > x then 0 else x) = x; split <;> omega
  a := fun x y z _ _ _ => by
    show (if z > (if y > x then y else x) then z else (if y > x then y else x)) = if (if z > y then z else y) > x then (if z > y then z else y) else x
    by_cases h1 : y > x <;> by_cases h2 : z > y <;> by_cases h3 : z > x <;> simp only [h1, h2, h3, if_true, if_false] <;> omega
theorem mon_last (n : Nat) (h : 1 ≤ n) (h9 : n ≤ 9) : Mon n (fun x y => if y = 0 then x else y) 0 where
  pos := h
  most := h9
  u := h
  cl := fun x y _ _ => by (try dsimp only); split <;> omega
  l := fun x hx => by (try dsimp only); split <;> omega
  r := fun x hx => by (try dsimp only); split <;> omega
  a := fun x y z _ _ _ => by (try dsimp only); repeat' split <;> omega
theorem mon_first (n : Nat) (h : 1 ≤ n) (h9 : n ≤ 9) : Mon n (fun x y => if x = 0 then y else x) 0 where
  pos := h
  most := h9
  u := h
  cl := fun x y _ _ => by (try dsimp only); split <;> omega
  l := fun x hx => by (try dsimp only); split <;> omega
  r := fun x hx => by (try dsimp only); split <;> omega
  a := fun x y z _ _ _ => by (try dsimp only); repeat' split <;> omega
/-- first one, then two -/
def cel (a b : List Nat) (j : Nat) : Nat := b.getD (a.getD j 0) 0
def comp2 (p : Nat) (a b : List Nat) : List Nat := (List.range p).map fun j => b.getD (a.getD j 0) 0
def Pts (p : Nat) (l : List Nat) : Prop := l.length = p ∧ ∀ x ∈ l, x < p
theorem getD_R {n k : Nat} (f : Nat → Nat) (h : k < n) : ((List.range n).map f).getD k 0 = f k := by
  rw [List.getD_eq_getElem?_getD, getR f h]; rfl
theorem Pts.lt {p : Nat} {l : List Nat} (h : Pts p l) {k : Nat} (hk : k < p) : l.getD k 0 < p := by
  have hl : k < l.length := by rw [h.1]; exact hk
  rw [List.getD_eq_getElem?_getD, List.getElem?_eq_getElem hl]
  exact h.2 _ (List.getElem_mem hl)
theorem Pts.ext {p : Nat} {l m : List Nat} (h : Pts p l) (h' : Pts p m) (e : ∀ k, k < p → l.getD k 0 = m.getD k 0) : l = m := by
  apply List.ext_getElem?
  intro k
  by_cases hk : k < p
  · have h1 : k < l.length := by rw [h.1]; exact hk
    have h2 : k < m.length := by rw [h'.1]; exact hk
    have e := e k hk
    rw [List.getD_eq_getElem?_getD, List.getD_eq_getElem?_getD, List.getElem?_eq_getElem h1, List.getElem?_eq_getElem h2] at e
    rw [List.getElem?_eq_getElem h1, List.getElem?_eq_getElem h2]
    exact congrArg some e
  · rw [List.getElem?_eq_none (by rw [h.1]; omega), List.getElem?_eq_none (by rw [h'.1]; omega)]
theorem pts_comp {p : Nat} {a b : List Nat} (ha : Pts p a) (hb : Pts p b) : Pts p (comp2 p a b) := by
  refine ⟨by simp [comp2], fun x hx => ?_⟩
  obtain ⟨j, hj, rfl⟩ := List.mem_map.mp hx
  exact hb.lt (ha.lt (List.mem_range.mp hj))
theorem pts_id (p : Nat) : Pts p (List.range p) := ⟨by simp, fun x hx => List.mem_range.mp hx⟩
theorem comp_at {p : Nat} {a b : List Nat} {k : Nat} (h : k < p) : (comp2 p a b).getD k 0 = b.getD (a.getD k 0) 0 := getD_R _ h
theorem id_at {p k : Nat} (h : k < p) : (List.range p).getD k 0 = k := by
  have := getD_R (n := p) (fun x => x) h
  simpa using this
theorem comp_id {p : Nat} {a : List Nat} (ha : Pts p a) : comp2 p a (List.range p) = a := (pts_comp ha (pts_id p)).ext ha fun k hk => by rw [comp_at hk, id_at (ha.lt hk)]
theorem id_comp {p : Nat} {a : List Nat} (ha : Pts p a) : comp2 p (List.range p) a = a := (pts_comp (pts_id p) ha).ext ha fun k hk => by rw [comp_at hk, id_at hk]
theorem comp_assoc {p : Nat} {a b c : List Nat} (ha : Pts p a) (hb : Pts p b) (hc : Pts p c) : comp2 p (comp2 p a b) c = comp2 p a (comp2 p b c) :=
  (pts_comp (pts_comp ha hb) hc).ext (pts_comp ha (pts_comp hb hc)) fun k hk => by rw [comp_at hk, comp_at hk, comp_at hk, comp_at (ha.lt hk)]
/-- functions closed under joining -/
structure Fns (p : Nat) (fs : List (List Nat)) : Prop where
  nd : fs.Nodup
  pts : ∀ f ∈ fs, Pts p f
  hd : fs[0]? = some (List.range p)
  most : fs.length ≤ 9
def tabF (p : Nat) (fs : List (List Nat)) (x y : Nat) : Nat := (fs.findIdx? fun z => decide (z = comp2 p (fs.getD x []) (fs.getD y []))).getD 0
theorem Fns.add {p : Nat} {fs : List (List Nat)} (h : Fns p fs) {f : List Nat} (hf : Pts p f) (hn : f ∉ fs) (hl : fs.length < 9) : Fns p (fs ++ [f]) := by
  refine ⟨List.nodup_append.mpr ⟨h.nd, by simp, fun a ha b hb e => ?_⟩, fun g hg => ?_, ?_, by simp; omega⟩
  · have : b = f := by simpa using hb
    subst this; subst e; exact hn ha
  · rcases List.mem_append.mp hg with hg | hg
    · exact h.pts g hg
    · have : g = f := by simpa using hg
      subst this; exact hf
  · have hpos : 0 < fs.length := (List.getElem?_eq_some_iff.mp h.hd).1
    rw [List.getElem?_append_left hpos]; exact h.hd
theorem findIdx_mem {α : Type} [DecidableEq α] {xs : List α} {a : α} (h : a ∈ xs) : ∃ k, xs.findIdx? (fun y => decide (y = a)) = some k ∧ xs[k]? = some a := by
  cases e : xs.findIdx? fun y => decide (y = a) with
  | none =>
    rw [List.findIdx?_eq_none_iff] at e
    have := e a h
    simp at this
  | some k =>
    obtain ⟨⟨z, h1, h2⟩, _⟩ := findIdx_spec e
    have : z = a := by simpa using h2
    subst this
    exact ⟨k, rfl, h1⟩
theorem mon_fns {p : Nat} {fs : List (List Nat)} (h : Fns p fs) (hc : ∀ a ∈ fs, ∀ b ∈ fs, comp2 p a b ∈ fs) : Mon fs.length (tabF p fs) 0 := by
  have hpos : 0 < fs.length := (List.getElem?_eq_some_iff.mp h.hd).1
  have mem : ∀ x, x < fs.length → fs.getD x [] ∈ fs ∧ fs[x]? = some (fs.getD x []) := fun x hx => by
    rw [List.getD_eq_getElem?_getD, List.getElem?_eq_getElem hx]
    exact ⟨List.getElem_mem hx, rfl⟩
  have sp : ∀ x y, x < fs.length → y < fs.length → tabF p fs x y < fs.length ∧ fs.getD (tabF p fs x y) [] = comp2 p (fs.getD x []) (fs.getD y []) := fun x y hx hy => by
    obtain ⟨k, e1, e2⟩ := findIdx_mem (hc _ (mem x hx).1 _ (mem y hy).1)
    unfold tabF
    rw [e1]
    refine ⟨(List.getElem?_eq_some_iff.mp e2).1, ?_⟩
    rw [Option.getD_some, List.getD_eq_getElem?_getD, e2]; rfl
  have inj : ∀ x y, x < fs.length → y < fs.length → fs.getD x [] = fs.getD y [] → x = y := fun x y hx hy e => by
    have e1 := (mem x hx).2
    have e2 := (mem y hy).2
    rw [← e] at e2
    obtain ⟨_, q1⟩ := List.getElem?_eq_some_iff.mp e1
    obtain ⟨_, q2⟩ := List.getElem?_eq_some_iff.mp e2
    exact (List.getElem_inj (h₀ := hx) (h₁ := hy) h.nd).mp (q1.trans q2.symm)
  have hd0 : fs.getD 0 [] = List.range p := by rw [List.getD_eq_getElem?_getD, h.hd]; rfl
  refine ⟨hpos, h.most, hpos, fun x y hx hy => (sp x y hx hy).1, fun x hx => ?_, fun x hx => ?_, fun x y z hx hy hz => ?_⟩
  · refine inj _ _ (sp 0 x hpos hx).1 hx ?_
    rw [(sp 0 x hpos hx).2, hd0, id_comp (h.pts _ (mem x hx).1)]
  · refine inj _ _ (sp x 0 hx hpos).1 hx ?_
    rw [(sp x 0 hx hpos).2, hd0, comp_id (h.pts _ (mem x hx).1)]
  · have xy := sp x y hx hy
    have yz := sp y z hy hz
    have a1 := sp _ z xy.1 hz
    have a2 := sp x _ hx yz.1
    refine inj _ _ a1.1 a2.1 ?_
    rw [a1.2, a2.2, xy.2, yz.2, comp_assoc (h.pts _ (mem x hx).1) (h.pts _ (mem y hy).1) (h.pts _ (mem z hz).1)]
end L3
namespace L3
open PySem PySem.Spec PyProof.Rows L2

/-! ## lists of numbers as data -/
def nD (x : Nat) : D := .int (x : Nat)
theorem nD_inj (x y : Nat) (h : nD x = nD y) : x = y := by
  unfold nD at h
  have := D.int.inj h
  omega
theorem nD_pl (x : Nat) : plD 0 (nD x) = true := rfl
def fD (l : List Nat) : D := .tup (l.map nD)
theorem map_inj' {α β : Type} {h : α → β} (hi : ∀ x y, h x = h y → x = y) : ∀ {l m : List α}, l.map h = m.map h → l = m
  | [], [], _ => rfl
  | [], _ :: _, e => by cases e
  | _ :: _, [], e => by cases e
  | x :: l, y :: m, e => by
    rw [List.map_cons, List.map_cons, List.cons.injEq] at e
    rw [hi x y e.1, map_inj' hi e.2]
theorem fD_inj (l m : List Nat) (h : fD l = fD m) : l = m := map_inj' nD_inj (D.tup.inj h)
theorem fD_pl (l : List Nat) : plD 1 (fD l) = true := by
  show plDs 0 (l.map nD) = true
  rw [plDs_iff]
  intro d hd
  obtain ⟨k, _, rfl⟩ := List.mem_map.mp hd
  rfl
theorem atN {l : List Nat} {k : Nat} (h : k < l.length) : L2.atI (l.map nD) (k : Int) = some (nD (l.getD k 0)) := by
  rw [atI_lit, List.getElem?_map, List.getElem?_eq_getElem h, List.getD_eq_getElem?_getD, List.getElem?_eq_getElem h]; rfl
theorem atL {α : Type} (h : α → D) (d : α) {l : List α} {k : Nat} (hk : k < l.length) : L2.atI (l.map h) (k : Int) = some (h (l.getD k d)) := by
  rw [atI_lit, List.getElem?_map, List.getElem?_eq_getElem hk, List.getD_eq_getElem?_getD, List.getElem?_eq_getElem hk]; rfl
theorem list_range {α β : Type} (d : α) (h : α → β) (l : List α) : l.map h = (List.range l.length).map fun i => h (l.getD i d) := by
  apply List.ext_getElem?
  intro k
  by_cases hk : k < l.length
  · rw [List.getElem?_map, getR _ hk, List.getD_eq_getElem?_getD, List.getElem?_eq_getElem hk]; rfl
  · rw [List.getElem?_eq_none (by simpa using hk), List.getElem?_eq_none (by simpa using hk)]
section
variable (l : List Nat) (M : Mem)
@[simp] theorem fz1_fD : fz1 (fD l) M = .ok (fD l) M := nrfl rfl
@[simp] theorem var1_fD : var1 (some (fD l)) M = .ok (fD l) M := nrfl rfl
@[simp] theorem ret1_fD : ret1 (fD l) M = .rt (fD l) M := nrfl rfl
@[simp] theorem lenD_fD : lenD [fD l] M = .ok (.int l.length) M := by show lenD [.tup (l.map nD)] M = _; simp
@[simp] theorem idx_fD (i) : idxD (fD l) (.int i) M = ofO (L2.atI (l.map nD) i) M := nrfl rfl
@[simp] theorem fz1_nD (n) : fz1 (nD n) M = .ok (nD n) M := nrfl rfl
@[simp] theorem var1_nD (n) : var1 (some (nD n)) M = .ok (nD n) M := nrfl rfl
end
theorem getS {l : List Nat} {k : Nat} (h : k < l.length) : ∃ v, l[k]? = some v ∧ l.getD k 0 = v := ⟨l[k], List.getElem?_eq_getElem h, by rw [List.getD_eq_getElem?_getD, List.getElem?_eq_getElem h]; rfl⟩
/-- a comprehension over a list whose element does not write -/
theorem lc_list {α : Type} {i : Nat} {f : SE} {e : En} {M : Mem} (h k : α → D) (xs : List α) (hn : xs.length ≤ 10000) (hf : ∀ x ∈ xs, f (e.set i (some (h x))) M = .ok (k x) M) :
    lcL (gN i) bYes f (xs.map h) [] e M = .ok (xs.map k) M := by
  have aux : ∀ (xs : List α) (acc : List D), acc.length + xs.length ≤ 10000 → (∀ x ∈ xs, f (e.set i (some (h x))) M = .ok (k x) M) → lcL (gN i) bYes f (xs.map h) acc e M = .ok (acc ++ xs.map k) M := by
    intro xs
    induction xs with
    | nil => intro acc _ _; simp
    | cons x xs ih =>
      intro acc hl hf
      rw [List.length_cons] at hl
      have hz : acc.length < sizeLine := big' _ (by omega)
      have e1 := ih (acc ++ [k x]) (by simp; omega) fun y hy => hf y (List.mem_cons_of_mem _ hy)
      have hk := hf x List.mem_cons_self
      rw [List.map_cons, lcL_cons]
      simp only [gN_eq, lc1_some, bYes_eq, lc2_ok, if_true, hk, lc3_ok, if_pos hz]
      rw [e1]
      simp
  have := aux xs [] (by simpa using hn) hf
  simpa using this
theorem map_eraseI {α β : Type} (f : α → β) : ∀ (l : List α) (k : Nat), (l.map f).eraseIdx k = (l.eraseIdx k).map f
  | [], _ => rfl
  | _ :: _, 0 => rfl
  | x :: l, k + 1 => by simp only [List.map_cons, List.eraseIdx_cons_succ, map_eraseI f l k]
theorem erase_perm : ∀ (l : List Nat) (k : Nat), k < l.length → (l.getD k 0 :: l.eraseIdx k).Perm l
  | [], _, h => by simp at h
  | x :: l, 0, _ => by simp
  | x :: l, k + 1, h => by
    have ih := erase_perm l k (by simpa using h)
    have e : (x :: l).getD (k + 1) 0 = l.getD k 0 := by simp [List.getD_eq_getElem?_getD]
    rw [e, List.eraseIdx_cons_succ]
    exact (List.Perm.swap _ _ _).trans (ih.cons x)
/-! ## a cell at the end of the memory -/
theorem cellL_end (M : Mem) (xs : List D) : cellL (M ++ [.lst xs]) M.length = some xs := by
  unfold cellL
  simp
theorem set_end (M : Mem) (a b : MO) : (M ++ [a]).set M.length b = M ++ [b] := by
  rw [List.set_append_right _ _ (Nat.le_refl _)]
  simp
theorem cellL_cons (a : MO) (M : Mem) (n : Nat) : cellL (a :: M) (n + 1) = cellL M n := cellL_succ a M n
theorem popC1_end (M : Mem) (xs : List D) (d : D) : popC1 M.length (M ++ [.lst (xs ++ [d])]) = .ok d (M ++ [.lst xs]) := by
  unfold popC1
  rw [cellL_end]
  simp [set_end]
theorem in_nums (neg : Bool) (a : Nat) (xs : List Nat) {d : D} {M : Mem} (hd : sqs d M = some (xs.map nD)) : (a ∈ xs → inD neg (nD a) d M = .ok (.bl !neg) M) ∧ (a ∉ xs → inD neg (nD a) d M = .ok (.bl neg) M) := by
  have fl : (xs.map nD).all flatD = true := by
    rw [List.all_map]
    exact List.all_eq_true.mpr fun _ _ => rfl
  have e : (xs.map nD).any (fun y => eqF y (nD a)) = decide (a ∈ xs) := by
    clear hd fl
    rw [List.any_map]
    induction xs with
    | nil => simp
    | cons x xs ih =>
      rw [List.any_cons, ih]
      have e0 : ((fun y => eqF y (nD a)) ∘ nD) x = decide (x = a) := by
        show ((x : Int) == (a : Int)) = decide (x = a)
        by_cases h : x = a
        · subst h; simp
        · have : ¬ (x : Int) = (a : Int) := by omega
          simp [h, this]
      rw [e0]
      by_cases h : x = a
      · subst h; simp
      · have : ¬ a = x := fun z => h z.symm
        simp [h, this]
  have key : inD neg (nD a) d M = .ok (.bl (if neg then !decide (a ∈ xs) else decide (a ∈ xs))) M := by
    unfold inD inF
    rw [hd]
    simp only [show flatD (nD a) = true from rfl, fl, Bool.and_self, if_true, e]
  exact ⟨fun z => by rw [key]; cases neg <;> simp [z], fun z => by rw [key]; cases neg <;> simp [z]⟩
theorem sIx_k {n d k : Nat} (h : k ≤ n) : HT.sIx n d (some (k : Int)) = k := by rw [HT.sIx_nat]; omega
theorem cut_from {α : Type} (xs : List α) {k : Nat} (h : k ≤ xs.length) : cutL xs (some (k : Int)) none = xs.drop k := by
  unfold cutL
  rw [sIx_k h]
  show (xs.drop k).take (xs.length - k) = _
  rw [List.take_of_length_le (by simp)]
theorem cut_to {α : Type} (xs : List α) {k : Nat} (h : k ≤ xs.length) : cutL xs none (some (k : Int)) = xs.take k := by
  unfold cutL
  rw [sIx_k h]
  show (xs.drop 0).take (k - 0) = _
  simp
theorem cut_mid {α : Type} (xs : List α) {i j : Nat} (h : i ≤ j) (h2 : j ≤ xs.length) : cutL xs (some (i : Int)) (some (j : Int)) = (xs.drop i).take (j - i) := by
  unfold cutL
  rw [sIx_k h2, sIx_k (by omega)]
theorem rangeL_succN (lo n : Nat) : rangeL (lo : Int) (n + 1) = .int (lo : Nat) :: rangeL ((lo + 1 : Nat) : Int) n := by rw [rangeL_succ]; norm_cast
/-! ## places, texts -/
inductive Pl where
  | lt (a : Nat) | ca (a : Nat) | re (a : Nat)
deriving DecidableEq
def Pl.D : Pl → L3.D
  | .lt a => .tup [.str "letter", .int (a : Nat)]
  | .ca a => .tup [.str "call", .int (a : Nat)]
  | .re a => .tup [.str "return", .int (a : Nat)]
theorem str_ne : (("letter" : Str) = ("call" : Str)) = False ∧ (("letter" : Str) = ("return" : Str)) = False ∧ (("call" : Str) = ("letter" : Str)) = False ∧ (("call" : Str) = ("return" : Str)) = False ∧ (("return" : Str) = ("letter" : Str)) = False ∧ (("return" : Str) = ("call" : Str)) = False := by decide +kernel
theorem Pl.inj (x y : Pl) (h : x.D = y.D) : x = y := by
  obtain ⟨s1, s2, s3, s4, s5, s6⟩ := str_ne
  cases x <;> cases y <;> simp [Pl.D, s1, s2, s3, s4, s5, s6] at h <;> first | (congr 1; omega) | omega
theorem str_ok : PyData.strOk "letter" = true ∧ PyData.strOk "call" = true ∧ PyData.strOk "return" = true := by decide +kernel
theorem Pl.pl (x : Pl) : plD 1 x.D = true := by
  obtain ⟨s1, s2, s3⟩ := str_ok
  cases x <;> simp [Pl.D, plD, plDs, s1, s2, s3]
/-- labels in range; from d open calls to d' -/
def okP (la lb lc : Nat) : Nat → List Pl → Nat → Prop
  | d, [], d' => d = d'
  | d, .lt a :: t, d' => a < la ∧ okP la lb lc d t d'
  | d, .ca a :: t, d' => a < lb ∧ okP la lb lc (d + 1) t d'
  | d, .re b :: t, d' => b < lc ∧ 0 < d ∧ okP la lb lc (d - 1) t d'
section
variable {la lb lc : Nat}
theorem okP.app : ∀ {u : List Pl} {d d1 : Nat}, okP la lb lc d u d1 → ∀ {v : List Pl} {d2 : Nat}, okP la lb lc d1 v d2 → okP la lb lc d (u ++ v) d2
  | [], _, _, h, v, d2, k => by cases (show _ = _ from h); exact k
  | .lt a :: t, d, d1, h, v, d2, k => ⟨h.1, okP.app (u := t) h.2 k⟩
  | .ca a :: t, d, d1, h, v, d2, k => ⟨h.1, okP.app (u := t) h.2 k⟩
  | .re b :: t, d, d1, h, v, d2, k => ⟨h.1, h.2.1, okP.app (u := t) h.2.2 k⟩
inductive Bal (la lb lc : Nat) : List Pl → Prop
  | nil : Bal la lb lc []
  | lt {a : Nat} {t : List Pl} : a < la → Bal la lb lc t → Bal la lb lc (.lt a :: t)
  | arch {a b : Nat} {u v : List Pl} : a < lb → b < lc → Bal la lb lc u → Bal la lb lc v → Bal la lb lc (.ca a :: (u ++ .re b :: v))
theorem Bal.app {u v : List Pl} (h : Bal la lb lc u) (k : Bal la lb lc v) : Bal la lb lc (u ++ v) := by
  induction h with
  | nil => exact k
  | lt h _ ih => exact .lt h ih
  | arch h1 h2 hu _ _ ih =>
    rw [List.cons_append, List.append_assoc, List.cons_append]
    exact .arch h1 h2 hu ih
theorem Bal.okP {u : List Pl} (h : Bal la lb lc u) : ∀ d, L3.okP la lb lc d u d := by
  induction h with
  | nil => intro d; exact rfl
  | lt h _ ih => intro d; exact ⟨h, ih d⟩
  | arch h1 h2 _ _ i1 i2 => intro d; exact ⟨h1, (i1 (d + 1)).app ⟨h2, by omega, i2 d⟩⟩
/-- the place where the depth first falls -/
theorem okP.split : ∀ (n : Nat) (t : List Pl) (d : Nat), t.length ≤ n → L3.okP la lb lc (d + 1) t 0 → ∃ u b v, t = u ++ .re b :: v ∧ Bal la lb lc u ∧ b < lc ∧ L3.okP la lb lc d v 0
  | _, [], d, _, h => by cases (show d + 1 = 0 from h)
  | 0, _ :: _, _, hl, _ => by simp at hl
  | n + 1, .lt a :: t, d, hl, h => by
    obtain ⟨u, b, v, rfl, hu, hb, hv⟩ := okP.split n t d (by simpa using hl) h.2
    exact ⟨.lt a :: u, b, v, rfl, .lt h.1 hu, hb, hv⟩
  | n + 1, .re b :: t, d, hl, h => ⟨[], b, t, rfl, .nil, h.1, by have := h.2.2; simpa using this⟩
  | n + 1, .ca a :: t, d, hl, h => by
    obtain ⟨u, b, v, rfl, hu, hb, hv⟩ := okP.split n t (d + 1) (by simpa using hl) h.2
    obtain ⟨u2, b2, v2, rfl, hu2, hb2, hv2⟩ := okP.split n v d (by simp at hl; omega) hv
    exact ⟨.ca a :: (u ++ .re b :: u2), b2, v2, by simp, .arch h.1 hb hu hu2, hb2, hv2⟩
theorem okP.bal : ∀ (n : Nat) (t : List Pl), t.length ≤ n → L3.okP la lb lc 0 t 0 → Bal la lb lc t
  | _, [], _, _ => .nil
  | 0, _ :: _, hl, _ => by simp at hl
  | n + 1, .lt a :: t, hl, h => .lt h.1 (okP.bal n t (by simpa using hl) h.2)
  | n + 1, .re b :: t, hl, h => by cases h.2.1
  | n + 1, .ca a :: t, hl, h => by
    obtain ⟨u, b, v, rfl, hu, hb, hv⟩ := okP.split n t 0 (by simpa using hl) h.2
    exact .arch h.1 hb hu (okP.bal n v (by simp at hl; omega) hv)
end
def labOk (la lb lc : Nat) : Pl → Prop
  | .lt a => a < la
  | .ca a => a < lb
  | .re a => a < lc
theorem okP.labs {la lb lc : Nat} : ∀ {t : List Pl} {d d' : Nat}, okP la lb lc d t d' → ∀ x ∈ t, labOk la lb lc x
  | [], _, _, _, x, h => by cases h
  | .lt a :: t, d, d', h, x, hx => by
    rcases List.mem_cons.mp hx with rfl | hx
    · exact h.1
    · exact okP.labs h.2 x hx
  | .ca a :: t, d, d', h, x, hx => by
    rcases List.mem_cons.mp hx with rfl | hx
    · exact h.1
    · exact okP.labs h.2 x hx
  | .re a :: t, d, d', h, x, hx => by
    rcases List.mem_cons.mp hx with rfl | hx
    · exact h.1
    · exact okP.labs h.2.2 x hx
/-! ## readers -/
structure Rd where
  la : Nat
  lb : Nat
  lc : Nat
  n : Nat
  e : Nat
  L : Nat → Nat
  mul : Nat → Nat → Nat
  wr : Nat → Nat → Nat → Nat
  p : Nat → Bool
def labD (a b c : Nat) : D := .tup [nD a, nD b, nD c]
def Rd.mulL (r : Rd) : List D := (List.range r.n).map fun x => .tup (row r.n (r.mul x))
def Rd.wrL (r : Rd) : List D := (List.range r.lb).map fun a => .tup ((List.range r.lc).map fun b => .tup (row r.n (r.wr a b)))
def Rd.accN (r : Rd) : List Nat := (List.range r.n).filter r.p
def Rd.D (r : Rd) : L3.D := .tup [labD r.la r.lb r.lc, nD r.e, .tup (row r.la r.L), .tup r.mulL, .tup r.wrL, .tup (r.accN.map nD)]
structure Rd.Ok (r : Rd) : Prop where
  a1 : 1 ≤ r.la ∧ r.la ≤ 3
  b1 : 1 ≤ r.lb ∧ r.lb ≤ 3
  c1 : 1 ≤ r.lc ∧ r.lc ≤ 3
  m : Mow r.n r.mul r.e
  l : ∀ a, a < r.la → r.L a < r.n
  w : ∀ a b x, a < r.lb → b < r.lc → x < r.n → r.wr a b x < r.n
theorem Rd.at_mul (r : Rd) {x : Nat} (h : x < r.n) : L2.atI r.mulL (x : Int) = some (.tup (row r.n (r.mul x))) := atR _ h
theorem Rd.at_wr (r : Rd) {x : Nat} (h : x < r.lb) : L2.atI r.wrL (x : Int) = some (.tup ((List.range r.lc).map fun b => .tup (row r.n (r.wr x b)))) := atR _ h
/-- the value behind a text, with a stack -/
def valS (r : Rd) : List (Nat × Nat) → Nat → List Pl → Nat
  | _, c, [] => c
  | s, c, .lt a :: t => valS r s (r.mul c (r.L a)) t
  | s, c, .ca a :: t => valS r ((c, a) :: s) r.e t
  | [], _, .re _ :: _ => 0
  | (h, k) :: s, c, .re b :: t => valS r s (r.mul h (r.wr k b c)) t
def den (r : Rd) (t : List Pl) : Nat := valS r [] r.e t
theorem valS_bal {r : Rd} (R : r.Ok) {u : List Pl} (h : Bal r.la r.lb r.lc u) : den r u < r.n ∧ ∀ (s : List (Nat × Nat)) (c : Nat) (w : List Pl), c < r.n → valS r s c (u ++ w) = valS r s (r.mul c (den r u)) w := by
  induction h with
  | nil => exact ⟨R.m.u, fun s c w hc => by show valS r s c w = valS r s (r.mul c r.e) w; rw [R.m.r c hc]⟩
  | @lt a t ha _ ih =>
    obtain ⟨d1, i1⟩ := ih
    have hl := R.l a ha
    have e1 : den r (.lt a :: t) = r.mul (r.L a) (den r t) := by
      have := i1 [] (r.mul r.e (r.L a)) [] (R.m.cl _ _ R.m.u hl)
      rw [List.append_nil] at this
      show valS r [] (r.mul r.e (r.L a)) t = _
      rw [this, R.m.l _ hl]; rfl
    refine ⟨by rw [e1]; exact R.m.cl _ _ hl d1, fun s c w hc => ?_⟩
    show valS r s (r.mul c (r.L a)) (t ++ w) = _
    rw [i1 s _ w (R.m.cl _ _ hc hl), e1, R.m.a c _ _ hc hl d1]
  | @arch a b u v ha hb _ _ i1 i2 =>
    obtain ⟨d1, i1⟩ := i1
    obtain ⟨d2, i2⟩ := i2
    have hw := R.w a b _ ha hb d1
    have step : ∀ (s : List (Nat × Nat)) (c : Nat) (w : List Pl), c < r.n → valS r s c (.ca a :: (u ++ .re b :: v) ++ w) = valS r s (r.mul c (r.mul (r.wr a b (den r u)) (den r v))) w := fun s c w hc => by
      rw [List.cons_append, List.append_assoc, List.cons_append]
      show valS r ((c, a) :: s) r.e (u ++ (.re b :: (v ++ w))) = _
      rw [i1 ((c, a) :: s) r.e _ R.m.u, R.m.l _ d1]
      show valS r s (r.mul c (r.wr a b (den r u))) (v ++ w) = _
      rw [i2 s _ w (R.m.cl _ _ hc hw), R.m.a c _ _ hc hw d2]
    have e1 : den r (.ca a :: (u ++ .re b :: v)) = r.mul (r.wr a b (den r u)) (den r v) := by
      have := step [] r.e [] R.m.u
      rw [List.append_nil] at this
      show valS r [] r.e _ = _
      rw [this, R.m.l _ (R.m.cl _ _ hw d2)]; rfl
    refine ⟨by rw [e1]; exact R.m.cl _ _ hw d2, fun s c w hc => ?_⟩
    rw [step s c w hc, e1]
theorem den_lt {r : Rd} (R : r.Ok) {a : Nat} {t : List Pl} (ha : a < r.la) (h : Bal r.la r.lb r.lc t) : den r (.lt a :: t) = r.mul (r.L a) (den r t) := by
  have := (valS_bal R h).2 [] (r.mul r.e (r.L a)) [] (R.m.cl _ _ R.m.u (R.l a ha))
  rw [List.append_nil] at this
  show valS r [] (r.mul r.e (r.L a)) t = _
  rw [this, R.m.l _ (R.l a ha)]; rfl
theorem den_arch {r : Rd} (R : r.Ok) {a b : Nat} {u v : List Pl} (ha : a < r.lb) (hb : b < r.lc) (h1 : Bal r.la r.lb r.lc u) (h2 : Bal r.la r.lb r.lc v) : den r (.ca a :: (u ++ .re b :: v)) = r.mul (r.wr a b (den r u)) (den r v) := by
  obtain ⟨d1, i1⟩ := valS_bal R h1
  obtain ⟨d2, i2⟩ := valS_bal R h2
  show valS r [(r.e, a)] r.e (u ++ .re b :: v) = _
  rw [i1 _ _ _ R.m.u, R.m.l _ d1]
  show valS r [] (r.mul r.e (r.wr a b (den r u))) v = _
  have := i2 [] (r.mul r.e (r.wr a b (den r u))) [] (R.m.cl _ _ R.m.u (R.w a b _ ha hb d1))
  rw [List.append_nil] at this
  rw [this, R.m.l _ (R.w a b _ ha hb d1)]; rfl
theorem den_app {r : Rd} (R : r.Ok) {u v : List Pl} (h1 : Bal r.la r.lb r.lc u) (h2 : Bal r.la r.lb r.lc v) : den r (u ++ v) = r.mul (den r u) (den r v) := by
  obtain ⟨d1, i1⟩ := valS_bal R h1
  obtain ⟨d2, i2⟩ := valS_bal R h2
  show valS r [] r.e (u ++ v) = _
  rw [i1 _ _ _ R.m.u, R.m.l _ d1]
  have := i2 [] (den r u) [] d1
  rw [List.append_nil] at this
  rw [this]; rfl
end L3
namespace L3
open PySem PySem.Spec PyProof.Rows L2

/-! ## sorted: ints, pairs of small numbers -/
def intsOf : List D → Option (List Int)
  | [] => some []
  | .int i :: r => (intsOf r).map fun ns => i :: ns
  | _ => none
def pairOf : D → Option (Nat × Nat)
  | .tup [.int (.ofNat x), .int (.ofNat y)] => if x < 4096 ∧ y < 4096 then some (x, y) else none
  | _ => none
def pairsOf : List D → Option (List (Nat × Nat))
  | [] => some []
  | d :: r => (pairOf d).bind fun p => (pairsOf r).map fun ps => p :: ps
def pD (p : Nat × Nat) : D := .tup [nD p.1, nD p.2]
def cd (p : Nat × Nat) : Nat := p.1 * 4096 + p.2
def sortN (ns : List Int) : List Int := ns.mergeSort fun a b => decide (a ≤ b)
def sortP (ps : List (Nat × Nat)) : List (Nat × Nat) := ps.mergeSort fun p q => decide (cd p ≤ cd q)
theorem intsOf_eq : ∀ {ds : List D} {ns : List Int}, intsOf ds = some ns → ds = ns.map D.int
  | [], _, h => by cases h; rfl
  | d :: r, ns, h => by
    cases d <;> first | (cases h; done) | skip
    rename_i i
    unfold intsOf at h
    cases e : intsOf r with
    | none => rw [e] at h; cases h
    | some m => rw [e] at h; cases h; rw [intsOf_eq e]; rfl
theorem intsOf_map (ns : List Int) : intsOf (ns.map D.int) = some ns := by
  induction ns with
  | nil => rfl
  | cons n r ih => rw [List.map_cons]; unfold intsOf; rw [ih]; rfl
theorem pairOf_eq {d : D} {p : Nat × Nat} (h : pairOf d = some p) : d = pD p ∧ p.1 < 4096 ∧ p.2 < 4096 := by
  unfold pairOf at h
  split at h
  · split at h
    · rename_i hh
      cases h
      exact ⟨rfl, hh.1, hh.2⟩
    · cases h
  · cases h
theorem pairOf_pD (p : Nat × Nat) (h : p.1 < 4096 ∧ p.2 < 4096) : pairOf (pD p) = some p := by
  show (if p.1 < 4096 ∧ p.2 < 4096 then some (p.1, p.2) else none) = some p
  rw [if_pos h]
theorem pairsOf_eq : ∀ {ds : List D} {ps : List (Nat × Nat)}, pairsOf ds = some ps → ds = ps.map pD ∧ ∀ p ∈ ps, p.1 < 4096 ∧ p.2 < 4096
  | [], _, h => by cases h; exact ⟨rfl, by simp⟩
  | d :: r, ps, h => by
    unfold pairsOf at h
    cases e1 : pairOf d with
    | none => rw [e1] at h; cases h
    | some p =>
      cases e2 : pairsOf r with
      | none => rw [e1, e2] at h; cases h
      | some q =>
        rw [e1, e2] at h
        cases h
        obtain ⟨h1, h2⟩ := pairOf_eq e1
        obtain ⟨h3, h4⟩ := pairsOf_eq e2
        refine ⟨by rw [h1, h3]; rfl, fun x hx => ?_⟩
        rcases List.mem_cons.mp hx with rfl | hx
        · exact h2
        · exact h4 x hx
theorem pairsOf_map (ps : List (Nat × Nat)) (h : ∀ p ∈ ps, p.1 < 4096 ∧ p.2 < 4096) : pairsOf (ps.map pD) = some ps := by
  induction ps with
  | nil => rfl
  | cons p r ih =>
    rw [List.map_cons]
    unfold pairsOf
    rw [pairOf_pD p (h p List.mem_cons_self), ih fun q hq => h q (List.mem_cons_of_mem _ hq)]; rfl
theorem sortN_uniq {ns ms : List Int} (h1 : ms.Perm ns) (h2 : ms.Pairwise (· ≤ ·)) : ms = sortN ns := by
  refine List.Perm.eq_of_pairwise (le := (· ≤ ·)) (fun a b _ _ h k => Int.le_antisymm h k) h2 ?_ (h1.trans (List.mergeSort_perm _ _).symm)
  have := List.pairwise_mergeSort (le := fun a b : Int => decide (a ≤ b)) (fun a b c h k => by simp at h k ⊢; omega) (fun a b => by simp; omega) ns
  exact this.imp fun h => by simpa using h
theorem sortP_pair (ps : List (Nat × Nat)) : (sortP ps).Pairwise fun p q => cd p ≤ cd q := by
  have := List.pairwise_mergeSort (le := fun p q : Nat × Nat => decide (cd p ≤ cd q)) (fun a b c h k => by simp at h k ⊢; omega) (fun a b => by simp; omega) ps
  exact this.imp fun h => by simpa using h
theorem cd_inj {p q : Nat × Nat} (hp : p.1 < 4096 ∧ p.2 < 4096) (hq : q.1 < 4096 ∧ q.2 < 4096) (h : cd p = cd q) : p = q := by
  unfold cd at h
  have : p.1 = q.1 := by omega
  have : p.2 = q.2 := by omega
  cases p; cases q; simp_all
theorem sortP_uniq {ps qs : List (Nat × Nat)} (hb : ∀ p ∈ ps, p.1 < 4096 ∧ p.2 < 4096) (h1 : qs.Perm ps) (h2 : qs.Pairwise fun p q => cd p ≤ cd q) : qs = sortP ps := by
  have hm : (sortP ps).Perm ps := List.mergeSort_perm _ _
  refine List.Perm.eq_of_pairwise (le := fun p q => cd p ≤ cd q) (fun a b ha hb' h k => cd_inj (hb a (h1.mem_iff.mp ha)) (hb b (hm.mem_iff.mp hb')) (Nat.le_antisymm h k)) h2 (sortP_pair ps) (h1.trans hm.symm)
def srt1 (xs : List D) (M : Mem) : R D := match intsOf xs with
  | some ns => .ok (.own ((sortN ns).map D.int)) M
  | none => match pairsOf xs with
    | some ps => if ps.length < 64 then .ok (.own ((sortP ps).map pD)) M else .bad
    | none => .bad
def sortedD (ds : List D) (M : Mem) : R D := match ds with
  | [d] => match lsq d M with
    | some xs => srt1 xs M
    | none => .bad
  | _ => .bad
def rSortedU (K : PySem.W.Frag) : List V → Hp → VK → Prop := fun vs H Q => rSortedI K vs H Q ∨ rSortU K 2 4096 vs H Q
section
variable {X : Cx} {W : WX} {pos : Pos}
theorem call_sortedU : CallR X (.builtin "sorted") (rSortedU X.K) := cr_sortedI.or (cr_sortT (by decide))
theorem Reps.perm {K : PySem.W.Frag} {w : Wd} {ys xs : List V} (h : ys.Perm xs) : ∀ {ds : List D}, Reps K w xs ds → ∃ es, es.Perm ds ∧ Reps K w ys es := by
  induction h with
  | nil => intro ds r; cases r; exact ⟨[], .nil, .nil⟩
  | cons x _ ih =>
    intro ds r
    cases r with
    | cons a t =>
      obtain ⟨es, p, q⟩ := ih t
      exact ⟨_, p.cons _, .cons a q⟩
  | swap x y l =>
    intro ds r
    cases r with
    | cons a t =>
      cases t with
      | cons b t => exact ⟨_, .swap _ _ _, .cons b (.cons a t)⟩
  | trans _ _ i1 i2 =>
    intro ds r
    obtain ⟨es, p1, q1⟩ := i2 r
    obtain ⟨fs, p2, q2⟩ := i1 q1
    exact ⟨fs, p2.trans p1, q2⟩
theorem Reps.ints_inv {K : PySem.W.Frag} {w : Wd} : ∀ {us : List V} {ns : List Int}, Reps K w us (ns.map D.int) → us = ns.map V.int
  | _, [], h => by cases h; rfl
  | _, n :: r, h => by
    cases h with
    | cons a t => cases a; rw [Reps.ints_inv t]; rfl
theorem Reps.mem {K : PySem.W.Frag} {w : Wd} : ∀ {us : List V} {ds : List D}, Reps K w us ds → ∀ {u : V}, u ∈ us → ∃ d ∈ ds, Rep K w u d
  | _, _, .nil, _, h => by cases h
  | _, _, .cons a t, u, h => by
    rcases List.mem_cons.mp h with rfl | h
    · exact ⟨_, List.mem_cons_self, a⟩
    · obtain ⟨d, hd, r⟩ := t.mem h
      exact ⟨d, List.mem_cons_of_mem _ hd, r⟩
theorem Reps.memV {K : PySem.W.Frag} {w : Wd} : ∀ {us : List V} {ds : List D}, Reps K w us ds → ∀ {d : D}, d ∈ ds → ∃ y ∈ us, Rep K w y d
  | _, _, .nil, _, h => by cases h
  | _, _, .cons a t, u, h => by
    rcases List.mem_cons.mp h with rfl | h
    · exact ⟨_, List.mem_cons_self, a⟩
    · obtain ⟨d, hd, r⟩ := t.memV h
      exact ⟨d, List.mem_cons_of_mem _ hd, r⟩
theorem Rep.pair {K : PySem.W.Frag} {w : Wd} {M : Mem} {H : Hp} (hs : HS K w M H) {u : V} {p : Nat × Nat} (r : Rep K w u (pD p)) : TupI K H u [(p.1 : Int), (p.2 : Int)] := by
  cases r with
  | @tup a us _ hq q =>
    have e : us = [(p.1 : Int), (p.2 : Int)].map V.int := Reps.ints_inv (ns := [(p.1 : Int), (p.2 : Int)]) q
    exact ⟨a, rfl, by rw [← e]; exact seqT hs.same hq.sq⟩
theorem code2 (x y : Int) : TS.code 4096 [x, y] = x * 4096 + y := by
  show x * 4096 ^ 1 + (y * 4096 ^ 0 + 0) = x * 4096 + y
  rw [show (4096 : Int) ^ 1 = 4096 from rfl, show (4096 : Int) ^ 0 = 1 from rfl, Int.mul_one, Int.add_zero]
theorem sortedG : CallG X W (rSortedU X.K) sortedD := by
  intro S w M H σ xs ds Q hs rs p
  rcases ds with _ | ⟨d, _ | ⟨d2, t⟩⟩
  · exact p.elim
  · obtain ⟨x, rfl, r⟩ := rs.one
    unfold sortedD at p
    simp only at p
    cases hl : lsq d M with
    | none => rw [hl] at p; exact p.elim
    | some zs =>
      rw [hl] at p
      obtain ⟨a, us, rfl, hq, q⟩ := r.lsq hs hl
      have pp : Pst X.K W w H σ (rlE X.K S) Q (srt1 zs M) := p
      clear p
      unfold srt1 at pp
      cases hi : intsOf zs with
      | some ns =>
        simp only [hi] at pp
        have ez := intsOf_eq hi
        subst ez
        have eu := Reps.ints_inv q
        subst eu
        refine .inl ⟨a, ns, rfl, hq, fun ns' b h1 h2 hb => ?_⟩
        have e := sortN_uniq h1 h2
        subst e
        exact fresh_own hs (Reps.ints _) pp hb
      | none =>
        simp only [hi] at pp
        cases hp : pairsOf zs with
        | none => simp only [hp] at pp; exact pp.elim
        | some ps =>
          simp only [hp] at pp
          obtain ⟨ez, hb⟩ := pairsOf_eq hp
          subst ez
          by_cases h64 : ps.length < 64
          · rw [if_pos h64] at pp
            refine .inr ⟨a, us, rfl, hq, by rw [q.length, List.length_map]; exact h64, fun u hu => ?_, fun ys b h1 h2 hb2 => ?_⟩
            · obtain ⟨d, hd, rd⟩ := q.mem hu
              obtain ⟨pq, hpp, rfl⟩ := List.mem_map.mp hd
              refine ⟨_, rd.pair hs, rfl, fun m hm => ?_⟩
              have := hb pq hpp
              simp at hm
              rcases hm with rfl | rfl <;> omega
            · obtain ⟨es, pe, re⟩ := q.perm h1
              have h3 : ∃ qs : List (Nat × Nat), es = qs.map pD ∧ qs.Perm ps := by
                have g : ∀ {es ds : List D}, es.Perm ds → ∀ ps : List (Nat × Nat), ds = ps.map pD → ∃ qs : List (Nat × Nat), es = qs.map pD ∧ qs.Perm ps := by
                  intro es ds hh
                  induction hh with
                  | nil => intro ps e; cases ps with
                    | nil => exact ⟨[], rfl, .nil⟩
                    | cons _ _ => cases e
                  | cons x _ ih => intro ps e; cases ps with
                    | nil => cases e
                    | cons p ps =>
                      rw [List.map_cons, List.cons.injEq] at e
                      obtain ⟨qs, rfl, hq⟩ := ih ps e.2
                      exact ⟨p :: qs, by rw [e.1]; rfl, hq.cons p⟩
                  | swap x y l => intro ps e; match ps, e with
                    | p :: q :: ps, e =>
                      simp only [List.map_cons, List.cons.injEq] at e
                      exact ⟨q :: p :: ps, by rw [e.1, e.2.1, e.2.2]; rfl, .swap _ _ _⟩
                  | trans _ _ i1 i2 =>
                    intro ps e
                    obtain ⟨qs, rfl, h1⟩ := i2 ps e
                    obtain ⟨rs, rfl, h2⟩ := i1 qs rfl
                    exact ⟨rs, rfl, h2.trans h1⟩
                exact g pe ps rfl
              obtain ⟨qs, rfl, hqp⟩ := h3
              have hpw : qs.Pairwise fun p q => cd p ≤ cd q := by
                have g : ∀ {ys : List V} {qs : List (Nat × Nat)}, Reps X.K w ys (qs.map pD) → ys.Pairwise (fun x y => ∀ n m, TupI X.K H x n → TupI X.K H y m → TS.code 4096 n ≤ TS.code 4096 m) → qs.Pairwise fun p q => cd p ≤ cd q := by
                  intro ys qs
                  induction qs generalizing ys with
                  | nil => intro _ _; exact .nil
                  | cons p qs ih =>
                    intro r h
                    cases r with
                    | cons a t =>
                      obtain ⟨h1, h2⟩ := List.pairwise_cons.mp h
                      refine List.pairwise_cons.mpr ⟨fun q' hq' => ?_, ih t h2⟩
                      obtain ⟨y, hy, ry⟩ := t.memV (List.mem_map.mpr ⟨q', hq', rfl⟩)
                      have := h1 y hy _ _ (a.pair hs) (ry.pair hs)
                      rw [code2, code2] at this
                      unfold cd
                      omega
                exact g re h2
              have e := sortP_uniq hb hqp hpw
              subst e
              exact fresh_own hs re pp hb2
          · rw [if_neg h64] at pp; exact pp.elim
  · exact absurd p (by unfold sortedD; exact id)
end
@[simp] theorem sorted_own (xs M) : sortedD [.own xs] M = srt1 xs M := nrfl rfl
@[simp] theorem sorted_brw (xs M) : sortedD [.brw xs] M = srt1 xs M := nrfl rfl
@[simp] theorem sorted_lst (xs M) : sortedD [.lst xs] M = srt1 xs M := nrfl rfl
theorem srt1_ints (ns : List Int) (M : Mem) : srt1 (ns.map D.int) M = .ok (.own ((sortN ns).map D.int)) M := by
  unfold srt1; rw [intsOf_map]
theorem srt1_pairs (ps : List (Nat × Nat)) (h : ∀ p ∈ ps, p.1 < 4096 ∧ p.2 < 4096) (hl : ps.length < 64) (M : Mem) : srt1 (ps.map pD) M = .ok (.own ((sortP ps).map pD)) M := by
  unfold srt1
  cases ps with
  | nil => simp [intsOf, sortN, sortP]
  | cons p r =>
    have : intsOf ((p :: r).map pD) = none := rfl
    rw [this, pairsOf_map _ h]
    simp only [if_pos hl]
end L3
namespace L3
open PySem PySem.Spec PyProof.Rows L2

/-! ## len(set(xs)), xs a list of tuples of ints -/
def tupOf : D → Option (List Int)
  | .tup ds => intsOf ds
  | _ => none
def tupsOf : List D → Option (List (List Int))
  | [] => some []
  | d :: r => (tupOf d).bind fun p => (tupsOf r).map fun ps => p :: ps
def dd : List (List Int) → List (List Int)
  | [] => []
  | x :: r => if x ∈ r then dd r else x :: dd r
theorem dd_mem : ∀ {l : List (List Int)} {x : List Int}, x ∈ dd l ↔ x ∈ l
  | [], x => by simp [dd]
  | y :: r, x => by
    unfold dd
    by_cases h : y ∈ r
    · rw [if_pos h, dd_mem, List.mem_cons]
      exact ⟨.inr, fun z => z.elim (fun e => e ▸ h) id⟩
    · rw [if_neg h, List.mem_cons, dd_mem, List.mem_cons]
theorem dd_nodup : ∀ l : List (List Int), (dd l).Nodup
  | [] => .nil
  | y :: r => by
    unfold dd
    by_cases h : y ∈ r
    · rw [if_pos h]; exact dd_nodup r
    · rw [if_neg h]; exact List.nodup_cons.mpr ⟨fun z => h (dd_mem.mp z), dd_nodup r⟩
theorem dd_len {l : List (List Int)} : (dd l).length ≤ l.length ∧ ((dd l).length = l.length ↔ l.Nodup) := by
  induction l with
  | nil => exact ⟨Nat.le_refl _, by simp [dd]⟩
  | cons y r ih =>
    unfold dd
    by_cases h : y ∈ r
    · rw [if_pos h, List.length_cons, List.nodup_cons]
      exact ⟨by omega, fun e => by omega, fun z => absurd h z.1⟩
    · rw [if_neg h, List.length_cons, List.length_cons, List.nodup_cons]
      refine ⟨by omega, fun e => ⟨h, ih.2.mp (by omega)⟩, fun z => by rw [ih.2.mpr z.2]⟩
def lenSet (d : D) (M : Mem) : R D := match lsq d M with
  | some xs => match tupsOf xs with
    | some ks => if ks.length < 64 then .ok (.int (dd ks).length) M else .bad
    | none => .bad
  | none => .bad
def sLenSet (f : SE) : SE := fun e M => (f e M).bind lenSet
section
variable {X : Cx} {W : WX} {pos : Pos}
def tLenSetT (K : PySem.W.Frag) (ta : TE) : TE := fun σ H Q => ta σ H fun x H1 => ∃ (l : Addr) (ks : List (Addr × List Int)), x = V.ref l ∧ SqL K H1 l (ks.map fun p => V.ref p.1) ∧ (∀ p ∈ ks, SqT K H1 p.1 (p.2.map V.int)) ∧ ks.length < 64 ∧
  ∀ L : List (List Int), L.Nodup → (∀ x, x ∈ L ↔ x ∈ ks.map (·.2)) → Q (.int L.length) H1
theorem pe_lenSetT {a : Expr} {ta : TE} {p p2 q pos : Pos} (hc : X.calm = true) (hu : X.A.units + 64 < cLine) (hg : Gl X "len") (hm : X.mg "len" = none) (hg2 : Gl X "set") (hm2 : X.mg "set" = none) (ha : PE X a ta)
    (na : starEach [a] X.env = (false, eval a X.env) :: starEach [] X.env := by rfl) : PE X (.Call (.Name "len" p) [.Call (.Name "set" p2) [a] [] q] [] pos) (tLenSetT X.K ta) := by
  refine ⟨fun pins s σ H Q I h => ?_⟩
  refine Call_ (ld_blt I hg hm PySem.boot_len ?_)
  refine PyProof.Rows.callWith_builtin1 (PyProof.Rows.args_cons ?_ rfl) rfl rfl
  refine Call_ (ld_blt I hg2 hm2 PyProof.Rows.boot_set ?_)
  refine PyProof.Rows.callWith_type1 (PyProof.Rows.args_cons (thn (ha.run pins s σ H _ I h) fun v s1 ⟨x, H1, I1, r1, q1⟩ => PyProof.Rows.args_nil ?_) na) na rfl
  obtain ⟨l, ks, rfl, hq, hk, h64, q1⟩ := q1
  cases r1
  obtain ⟨its, r, pl, hz⟩ := I1.list hq
  refine call_set_tups (P := X.prog) (w := X.w) ks (I1.ok.hd hc) pl.isList (by simpa using refs_of_vals r) (fun p hp => I1.isT (hk p hp)) h64 (by omega) fun h' tk L es ep t R g k => ?_
  refine PyProof.Rows.args_nil ?_
  have I2 : Inv X pins σ H1 { s1 with heap := h', toks := tk } := I1.kept k
  obtain ⟨o, ho, hex, hd⟩ := R.ob
  have R' : SetTR X.prog X.w ({ s1 with heap := h', toks := tk } : Shared).heap s1.heap.objs.size L es ep t := R
  have hsz := R'.size
  have hf := R'.fits
  have hfew := R.few
  refine call_len_set ho hex hd hf (by rw [hsz]; omega) ⟨.int es.size, H1, I2.tok _, ⟨_, rfl⟩, ?_⟩
  rw [hsz]
  have := q1 (L.map (·.2)) R.nd (fun x => ⟨fun hx => ?_, fun hx => ?_⟩)
  · rw [List.length_map] at this; exact this
  · obtain ⟨p, hp, rfl⟩ := List.mem_map.mp hx
    exact List.mem_map.mpr ⟨p, List.mem_of_mem_take (g.sub p hp), rfl⟩
  · obtain ⟨p, hp, rfl⟩ := List.mem_map.mp hx
    exact g.all p (by rw [List.take_length]; exact hp)
theorem tups_inv {K : PySem.W.Frag} {w : Wd} {M : Mem} {H : Hp} (hs : HS K w M H) : ∀ {us : List V} {ds : List D} {ks : List (List Int)}, Reps K w us ds → tupsOf ds = some ks →
    ∃ qs : List (Addr × List Int), us = qs.map (fun p => V.ref p.1) ∧ qs.map (·.2) = ks ∧ ∀ p ∈ qs, SqT K H p.1 (p.2.map V.int)
  | _, _, _, .nil, e => by cases e; exact ⟨[], rfl, rfl, by simp⟩
  | _, _, _, .cons (d := d) (ds := ds) a t, e => by
    unfold tupsOf at e
    cases e1 : tupOf d with
    | none => rw [e1] at e; cases e
    | some k =>
      cases e2 : tupsOf ds with
      | none => rw [e1, e2] at e; cases e
      | some ks =>
        rw [e1, e2] at e
        cases e
        obtain ⟨qs, rfl, rfl, h⟩ := tups_inv hs t e2
        cases a with
        | @tup b us ds' hq q =>
          have ez := intsOf_eq (show intsOf ds' = some k from e1)
          subst ez
          have eu := Reps.ints_inv q
          subst eu
          refine ⟨(b, k) :: qs, rfl, rfl, fun p hp => ?_⟩
          rcases List.mem_cons.mp hp with rfl | hp
          · exact seqT hs.same hq.sq
          · exact h p hp
        | _ => cases e1
theorem a_lenSet {a : Expr} {f : SE} {p p2 q pos : Pos} (hc : X.calm = true) (hu : X.A.units + 64 < cLine) (hg : Gl X "len") (hm : X.mg "len" = none) (hg2 : Gl X "set") (hm2 : X.mg "set" = none) (ha : AE X W a f)
    (na : starEach [a] X.env = (false, eval a X.env) :: starEach [] X.env := by rfl) : AE X W (.Call (.Name "len" p) [.Call (.Name "set" p2) [a] [] q] [] pos) (sLenSet f) :=
  PE.imp (pe_lenSetT hc hu hg hm hg2 hm2 ha na) fun σ H Q q => tG.step (k := fun _ d M => lenSet d M) (fun _ => bkE) q fun S w e w' M' H' v d s sx x r p => by
    unfold lenSet at p
    cases hl : lsq d M' with
    | none => rw [hl] at p; exact p.elim
    | some xs =>
      simp only [hl] at p
      cases ht : tupsOf xs with
      | none => simp only [ht] at p; exact p.elim
      | some ks =>
        simp only [ht] at p
        obtain ⟨b, us, rfl, hq, q⟩ := r.toR.lsq s hl
        obtain ⟨qs, rfl, rfl, hk⟩ := tups_inv s q ht
        rw [List.length_map] at p
        by_cases h64 : qs.length < 64
        · rw [if_pos h64] at p
          refine ⟨b, qs, rfl, hq, hk, h64, fun L hn hL => ?_⟩
          have e : L.length = (dd (qs.map (·.2))).length := ((List.perm_ext_iff_of_nodup hn (dd_nodup _)).mpr fun x => by rw [hL, dd_mem]).length_eq
          rw [e]
          exact p w' H' _ (.refl _ _) s (.inl (.int _))
        · rw [if_neg h64] at p; exact p.elim
end
section
variable (e : En) (M : Mem)
@[simp] theorem sLenSet_eq (f : SE) : sLenSet f e M = (f e M).bind lenSet := nrfl rfl
end
theorem tupsOf_map {α : Type} (h : α → D) (g : α → List Int) (hg : ∀ x, tupOf (h x) = some (g x)) : ∀ xs : List α, tupsOf (xs.map h) = some (xs.map g)
  | [] => rfl
  | x :: xs => by
    rw [List.map_cons]
    unfold tupsOf
    rw [hg, tupsOf_map h g hg xs]; rfl
end L3
namespace L3
open PySem PySem.Spec PyProof.Rows L2

/-! ## any, all of a generator expression over anything that is walked -/
/-- the generator's own frame -/
abbrev gxc (X : Cx) (A : Around) (s : Shared) (H : Hp) (ce : Env) (fp : List Addr) (pn : List (Addr × Obj)) : Cx :=
  { X with A := A.deeper ce, s_0 := s, H_0 := H, env := ce, outer := X.stack, stack := ce :: X.stack, ex := fp, fn := fun _ => false, calm := true, pn := pn, xe := fun _ _ => False }
section
variable {X : Cx} {pins : List (Addr × Obj)} {σ : L2.St} {H : Hp} {s : Shared}
theorem gx_start {A : Around} (hfr : A.frames = X.A.frames) (hh : A.handled = none) {scope : Scope} {own : List (Str × Nat)} {fp : List Addr} {code : Value} {a : Addr} {go : Obj} {s5 : Shared} {m0 : Str → Option Value}
    (I : Inv X pins σ H s) (ok : BlkOk X.N X.env.scope scope own) (hcell : ∀ y ∈ scope.names, y.2 ≠ .cell) (hN : X.N.Nodup) (hfp : ∀ b ∈ fp, FpOk X pins H b ∧ b < s.heap.objs.size)
    (kp : ∀ b o, s.heap.get? b = some o → s5.heap.get? b = some o) (hns : s5.heap.Ns s.heap.objs.size m0) (hos : s5.os = s.os) (hb : AllBare s5.gens) (ha : s5.heap.get? a = some go) (hsz : s.heap.objs.size < a) (hgo : ∀ v, go.data ≠ .cell v) :
    Inv (gxc X A s H (genEnv scope (cloFrom X.env.cells scope.names []) s.heap.objs.size code builtinsNs X.env) fp [(a, go)]) [] (wipe σ (own.map (·.2))) H s5 := by
  have hfree : ∀ z ∈ scope.names, z.2 = .free → ∃ c, X.env.cells.lookup z.1 = some c := fun z hz e => (ok.free z hz e).elim (fun q => I.ok.has _ (.inl q)) fun q => I.ok.has _ (.inr q)
  generalize hce : genEnv scope (cloFrom X.env.cells scope.names []) s.heap.objs.size code builtinsNs X.env = ce
  have cL : ce.locals = s.heap.objs.size := by subst hce; rfl
  have cC : ce.cells = cloFrom X.env.cells scope.names [] := by subst hce; rfl
  have cS : ce.scope = scope := by subst hce; rfl
  have cF : ce.frame = some ce.locals := by subst hce; rfl
  have cG : ce.globals = X.env.globals := by subst hce; rfl
  have cB : ce.builtins = builtinsNs := by subst hce; rfl
  have cm : ∀ {z c}, ce.cells.lookup z = some c → X.env.cells.lookup z = some c ∧ c < s.heap.objs.size := fun {z c} e => by
    rw [cC] at e
    rcases cloFrom_mem (PySem.mem_of_lookup e) with q | ⟨h1, rfl⟩
    · cases q
    · obtain ⟨c, hc⟩ := hfree _ h1 rfl
      obtain ⟨v, z⟩ := I.cell _ _ hc
      rw [hc]
      exact ⟨rfl, z.lt⟩
  have look : ∀ {z}, scope.names.lookup z = some .free → ∃ c, ce.cells.lookup z = some c ∧ X.env.cells.lookup z = some c := fun {z} hl => by
    obtain ⟨c', e'⟩ := mem_lookup (cloFrom_has (cells := X.env.cells) (acc := []) (PySem.mem_of_lookup hl))
    rw [← cC] at e'
    exact ⟨c', e', (cm e').1⟩
  have noEx : ∀ b o, X.base.get? b = some o → b ∉ fp := fun b o e hb => by
    rcases (hfp b hb).1.2.2.2.1 with z | z
    · exact I.ok.noex b o e z
    · exact absurd (Nat.lt_of_lt_of_le (Heap.lt_size e) (Nat.le_trans I.ok.bsz z)) (Nat.lt_irrefl _)
  have fpSt : ∀ b ∈ fp, b ∉ frs X.stack := fun b hb z => by
    rcases List.mem_cons.mp (I.stkSub b z) with z | z
    · exact (hfp b hb).1.2.1 z
    · exact (hfp b hb).1.2.2.1 z
  have old : ∀ b ∈ frs X.stack, b < s.heap.objs.size := fun b hb => by
    rcases List.mem_cons.mp (I.stkSub b hb) with z | z
    · rw [z]; exact I.lt
    · obtain ⟨_, o, ho, _⟩ := I.funs.mem z
      exact Heap.lt_size ho
  have okG : (gxc X A s H ce fp [(a, go)]).Ok :=
    { mod := I.ok.mod
      kind := by show ce.scope.kind = _; rw [cS]; exact ok.kind
      glob := cG.trans I.ok.glob
      blt := cB
      above := by show s.heap.objs.size ≤ ce.locals; rw [cL]; exact Nat.le_refl _
      inj := fun x y c e1 e2 => I.ok.inj x y c (cm e1).1 (cm e2).1
      has := fun x hx => by
        have hx : ce.scope.names.lookup x = some .cell ∨ ce.scope.names.lookup x = some .free := hx
        rw [cS] at hx
        rcases hx with hx | hx
        · exact absurd rfl (hcell _ (PySem.mem_of_lookup hx))
        · obtain ⟨c, h1, _⟩ := look hx
          exact ⟨c, h1⟩
      cab := fun x c z _ => absurd (show false = true from z) Bool.false_ne_true
      hd := fun _ => hh
      frames := Around.frames_deeper (hfr.trans I.ok.frames)
      stk := .inr ⟨rfl, cF⟩
      exf := fun b hb => ⟨by show b ≠ ce.locals; rw [cL]; exact Nat.ne_of_lt (hfp b hb).2, fun x c e => (hfp b hb).1.2.2.2.2.1 x c (cm e).1⟩
      bs := I.bs
      bsz := Nat.le_trans I.ok.bsz I.sz
      noex := noEx
      exfs := fpSt
      funs := I.stack
      frf := I.stkFree }
  refine { ok := okG, os := hos, bare := hb, base := Un.kept kp, loc := ⟨m0, by show s5.heap.Ns ce.locals m0; rw [cL]; exact hns, fun i y v e1 e2 e3 => ?_⟩, cell := fun x c e => ?_, free := ?_, freeC := fun x c e => I.freeC x c (cm e).1, pin := fun p hp => ?_, hok := I.hok.kept kp, len := by rw [wipe_length]; exact I.len }
  · obtain ⟨e2, hne⟩ := wipe_some e2
    have e3 : Vis ce.scope y := e3
    rw [cS] at e3
    have no : ∀ k, scope.names.lookup y = some k → (k = .local ∨ k = .cell) → False := fun k hk hk' => by
      rcases ok.own _ (PySem.mem_of_lookup hk) hk' with e' | e'
      · obtain ⟨p, hp, hpy⟩ := List.mem_map.mp e'
        have q := ok.ix p hp
        rw [show p.1 = y from hpy] at q
        exact hne (List.mem_map.mpr ⟨p, hp, nodup_ix hN q e1⟩)
      · exact e' (List.mem_of_getElem? e1)
    have hf : scope.names.lookup y = some .free := by
      rcases e3 with e3 | e3 | e3
      · exact (no _ e3 (.inl rfl)).elim
      · exact (no _ e3 (.inr rfl)).elim
      · exact e3
    obtain ⟨m, hn, hl⟩ := I.loc
    have kind := ok.free _ (PySem.mem_of_lookup hf) rfl
    obtain ⟨u, r, q⟩ := hl i y v e1 e2 (kind.elim (fun k => .inr (.inl k)) fun k => .inr (.inr k))
    obtain ⟨c, h1, h2⟩ := look hf
    refine ⟨u, r, .inr ⟨.inr (by show ce.scope.names.lookup y = _; rw [cS]; exact hf), c, h1, ?_⟩⟩
    rcases q with ⟨k, _⟩ | ⟨_, c', e', z⟩
    · have k : X.env.scope.names.lookup y = some .local := k
      rcases kind with k' | k' <;> rw [k] at k' <;> cases k'
    · rw [h2] at e'; cases e'
      exact z.keeps kp
  · obtain ⟨v, z⟩ := I.cell x c (cm e).1
    exact ⟨v, z.keeps kp⟩
  · show H ce.locals = none
    rw [cL]; exact I.hok.fresh (Nat.le_refl _)
  · have hp : p ∈ [(a, go)] ++ [] := hp
    have e : p = (a, go) := by simpa using hp
    subst e
    refine ⟨ha, I.hok.fresh (Nat.le_of_lt hsz), ?_, fun z => ?_, hgo⟩
    · show a ≠ ce.locals
      rw [cL]; exact Nat.ne_of_gt hsz
    · have := old a z
      exact absurd (Nat.lt_trans this hsz) (Nat.lt_irrefl _)
end
def gxP (Xg : Cx) (b : Bool) (Fin : Bool → Hp → Prop) : Nat → Shared → Shared → Prop := fun _ _ s => ∃ σ H pins, Inv Xg pins σ H s ∧ Fin b H
def gxY (Xg : Cx) (stop : Bool) (Fin : Bool → Hp → Prop) : Protocol := fun _ _ v s kap => ∃ (c : Bool) (σ : L2.St) (H : Hp) (pins : List (Addr × Obj)), v = .bool c ∧ Inv Xg pins σ H s ∧ (c = stop → Fin stop H) ∧
  (c = !stop → ∀ s'', s''.heap = s.heap → s''.os = s.os → AllBare s''.gens → kap (.send .none) s'')
/-- what a turn asks -/
def gxTurn (J : It) (g : TG) (tt : TT) (te : TE) (σ0 : L2.St) (vs : List Nat) (stop : Bool) (Fin : Bool → Hp → Prop) (W : Nat → Nat → Hp → Prop) : Prop := ∀ i m H, W i m H →
  (J.stop i H ∧ Fin (!stop) H) ∨ (J.go i H ∧ ∃ Nx : Hp → Prop, (∀ H', Nx H' → ∃ m', m' < m ∧ W (i + 1) m' H') ∧ ∀ x H', J.yld i H x H' → g x (wipe σ0 vs) H' fun σ2 H2 => wipe σ2 vs = wipe σ0 vs ∧ tt σ2 H2 fun b H3 =>
    if b = true then te σ2 H3 fun y H4 => ∃ c, y = .bl c ∧ (c = stop → Fin stop H4) ∧ (c = !stop → Nx H4) else Nx H3)
theorem noX {α : Type} {t : Sem α} {Q Q' : α → Shared → Prop} {E E' : Value → Shared → Prop} {M : Model} {A : Around} {s : Shared} (h : wpAny M A t Q E s) (hE : E = fun _ _ => False) (hQ : ∀ a s, Q a s → Q' a s) : wpAny M A t Q' E' s := by
  subst hE
  exact wpAny_mono h hQ fun _ _ z => z.elim
theorem seg_gx {Xg : Cx} {A : Around} {tg elt iter : Expr} {ifs : List Expr} {scope : Scope} {pos : Pos} {it : Addr} {fp : List Addr} {tn : Nat → Heap → Prop} {J : It} {g : TG} {tt : TT} {te : TE} {vs : List Nat} {σ0 : L2.St} {stop : Bool} {Fin : Bool → Hp → Prop} {W : Nat → Nat → Hp → Prop}
    (hA : A.over (.compLoop (.GeneratorExp elt [⟨tg, iter, ifs, 0⟩] scope pos) 0 (.ref it) .none Xg.env) [] = Xg.A) (hc : Xg.calm = true) (hxe : Xg.xe = fun _ _ => False) (hco : Xg.env.scope.isCoroutine = false) (hex : ∀ b ∈ fp, b ∈ Xg.ex) (hpn : ∀ b ∈ fp, ∀ p ∈ Xg.pn, p.1 ≠ b)
    (T : Turn Xg.prog Xg.w Xg.K tg J fp it tn) (pg : PG Xg tg g) (pt : PTs Xg ifs tt) (pe : PE Xg elt te) (turn : gxTurn J g tt te σ0 vs stop Fin W) :
    ∀ (m n i : Nat) (s₀ s : Shared) (H : Hp), m < n → W i m H → Inv Xg [] (wipe σ0 vs) H s → tn i s.heap → (∀ b ∈ fp, H b = none) →
      Seg (model Xg.prog Xg.w) A (fun n s₀ r s₁ => r = .ok .next ∧ gxP Xg (!stop) Fin n s₀ s₁) (gxY Xg stop Fin) n s₀ (.compLoop (.GeneratorExp elt [⟨tg, iter, ifs, 0⟩] scope pos) 0 (.ref it) .none Xg.env)
        ((model Xg.prog Xg.w).den (.compLoop (.GeneratorExp elt [⟨tg, iter, ifs, 0⟩] scope pos) 0 (.ref it) .none Xg.env)) [] s := by
  have stat : ∀ {σ' : L2.St} {H' : Hp} {s' : Shared}, Inv Xg [] σ' H' s' → (∀ b ∈ fp, H' b = none) → ∀ b ∈ fp, FpOk Xg [] H' b := fun {σ' H' s'} I' hn b hb =>
    ⟨hn b hb, (I'.ok.exf b (hex b hb)).1, I'.ok.exfs b (hex b hb), .inl (hex b hb), fun x c e => (I'.ok.exf b (hex b hb)).2 x c e, fun p hp => hpn b hb p (by simpa using hp)⟩
  intro m
  induction m using Nat.strongRecOn with
  | _ m ih =>
    intro n i s₀ s H hmn w I st hn
    show Seg _ A _ _ _ s₀ _ ((compTurn (.GeneratorExp elt [⟨tg, iter, ifs, 0⟩] scope pos) 0 (.ref it) .none Xg.env).onRaise (leaving Xg.env)) [] s
    rw [compTurn_gen, Sem.onRaise_eq_wrap]
    refine seg_bind_wrap (wpAny_standAt ?_)
    refine seg_bind_wrap ?_
    rw [hA]
    rcases turn i m H w with ⟨hs, q⟩ | ⟨go, Nx, hNx, step⟩
    · refine noX (T.done Xg rfl rfl rfl hc i [] s _ H (fun _ _ => False) I (stat I hn) st hs) rfl fun r s1 ⟨hr, I1⟩ => ?_
      subst hr
      exact seg_end (.ok .next) ⟨rfl, _, _, _, I1, q⟩
    · refine noX (T.item Xg rfl rfl rfl hc i [] s _ H (fun _ _ => False) I (stat I hn) st go) rfl fun r s1 ⟨u, hr, h1⟩ => ?_
      subst hr
      refine seg_bind_wrap ?_
      rw [hA]
      refine noX h1 rfl fun _ s2 ⟨x, H2, I2, r2, y2, st2, n2⟩ => ?_
      have I2' := I2.pinned (stat I2 n2) (T.obj _ _ st2)
      refine seg_bind_wrap ?_
      rw [hA]
      refine noX (pg.run _ s2 _ H2 x u _ I2' r2 (step x H2 y2)) hxe fun _ s3 ⟨σ3, H3, I3, w3, q3⟩ => ?_
      refine seg_bind_wrap ?_
      rw [hA]
      refine noX (pt.run _ s3 σ3 H3 _ I3 q3) hxe fun b s4 ⟨H4, I4, q4⟩ => ?_
      have fin : ∀ {s' : Shared} {H' : Hp}, Inv Xg ([] ++ pinsAt fp s2.heap) σ3 H' s' → Inv Xg [] (wipe σ0 vs) H' s' ∧ tn (i + 1) s'.heap ∧ ∀ b ∈ fp, H' b = none := fun {s' H'} I' => by
        have pin' : ∀ b ∈ fp, ∀ o, s2.heap.get? b = some o → s'.heap.get? b = some o ∧ H' b = none := fun b hb o e =>
          let z := I'.pin (b, o) (List.mem_append_right _ (List.mem_append_right _ (mem_pinsAt hb e)))
          ⟨z.1, z.2.1⟩
        have hl : (wipe σ0 vs).length = σ3.length := by rw [← w3, wipe_length]
        refine ⟨(I'.unpinned (pins := [])).weak hl (fun j v e => ?_), T.keep _ _ _ st2 fun b hb o e => (pin' b hb o e).1, fun b hb => ?_⟩
        · rw [← w3] at e
          exact (wipe_some e).1
        · obtain ⟨o, e, _⟩ := T.obj _ _ st2 b hb
          exact (pin' b hb o e).2
      cases b with
      | false =>
        simp only [Bool.false_eq_true, if_false] at q4 ⊢
        obtain ⟨m', hm, w'⟩ := hNx _ q4
        obtain ⟨J4, t4, n4⟩ := fin I4
        exact seg_again rfl (ih m' hm n (i + 1) s₀ s4 H4 (Nat.lt_trans hm hmn) w' J4 t4 n4)
      | true =>
        simp only [if_true] at q4 ⊢
        have hy : ∀ v, yieldOut Xg.env v = yieldValue v := fun v => by simp only [yieldOut, hco, Bool.false_eq_true, if_false]
        simp only [hy]
        rw [Sem.bind_eq_wrap', Sem.bind_eq_wrap', Sem.wrap_wrap, Sem.wrap_wrap]
        refine seg_wrap ?_
        rw [hA]
        refine noX (pe.run _ s4 σ3 H4 _ I4 q4) hxe fun z s5 ⟨yv, H5, I5, r5, c, ey, f1, f2⟩ => ?_
        subst ey
        have ez : z = Value.bool c := r5
        subst ez
        obtain ⟨n, rfl⟩ : ∃ k, n = k + 1 := ⟨n - 1, by omega⟩
        refine seg_at (seg_yield rfl rfl rfl ⟨c, σ3, H5, _, rfl, I5, f1, fun hcs s'' hh hos hbr => ?_⟩)
        obtain ⟨m', hm, w'⟩ := hNx _ (f2 hcs)
        have I6 : Inv Xg ([] ++ pinsAt fp s2.heap) σ3 H5 s'' := I5.call' (ch := []) hos (Un.kept fun b o e => by rw [hh]; exact e) (I5.hok.kept fun b o e => by rw [hh]; exact e) hbr fun b z => by simp at z
        obtain ⟨J6, t6, n6⟩ := fin I6
        exact seg_again rfl (ih m' hm n (i + 1) s'' s'' H5 (by omega) w' J6 t6 n6)
theorem seg_gx0 {Xg : Cx} {A : Around} {tg elt iter : Expr} {ifs : List Expr} {scope : Scope} {pos : Pos} {it : Addr} {fp : List Addr} {tn : Nat → Heap → Prop} {J : It} {R : GenEnd} {Y : Protocol} {n : Nat} {s₀ s : Shared}
    (T : Turn Xg.prog Xg.w Xg.K tg J fp it tn) (st : tn 0 s.heap)
    (loop : Seg (model Xg.prog Xg.w) A R Y n s₀ (.compLoop (.GeneratorExp elt [⟨tg, iter, ifs, 0⟩] scope pos) 0 (.ref it) .none Xg.env) ((model Xg.prog Xg.w).den (.compLoop (.GeneratorExp elt [⟨tg, iter, ifs, 0⟩] scope pos) 0 (.ref it) .none Xg.env)) [] s) :
    Seg (model Xg.prog Xg.w) A R Y n s₀ (.compStart (.GeneratorExp elt [⟨tg, iter, ifs, 0⟩] scope pos) 0 (.ref it) .none Xg.env) ((model Xg.prog Xg.w).den (.compStart (.GeneratorExp elt [⟨tg, iter, ifs, 0⟩] scope pos) 0 (.ref it) .none Xg.env)) [] s := by
  show Seg _ A _ _ _ s₀ _ ((compStart (.GeneratorExp elt [⟨tg, iter, ifs, 0⟩] scope pos) 0 (.ref it) .none Xg.env).onRaise (leaving Xg.env)) [] s
  unfold compStart
  rw [Sem.onRaise_eq_wrap]
  refine seg_bind_wrap (wpAny_askSetting ?_)
  split
  · exact seg_again rfl loop
  · refine seg_bind_wrap (wpAny_rule ?_)
    refine seg_bind_wrap (wpAny_standAt ?_)
    exact seg_bind_wrap (T.self _ 0 _ _ _ st (seg_again rfl loop))
theorem get_setGen {s : Shared} {g : Nat} {x : GenState} (h : g + 1 ≤ (s.setGen g x).gens.size) : (s.setGen g x).gens[g]? = some x := by
  have h' : g < s.gens.size := by
    have q : g + 1 ≤ s.gens.size := by simpa [Shared.setGen] using h
    exact q
  simp [Shared.setGen, h']
theorem lt_gens {s : Shared} {g : Nat} {x : GenState} (h : s.gens[g]? = some x) : g + 1 ≤ s.gens.size := by
  obtain ⟨q, _⟩ := Array.getElem?_eq_some_iff.mp h
  exact q
/-- behind the loop: what the generator left -/
def gxLeft (Xg : Cx) (b : Bool) (Fin : Bool → Hp → Prop) (s' : Shared) : Prop := ∃ (s1 : Shared) (σ : L2.St) (H : Hp) (pins : List (Addr × Obj)), Inv Xg pins σ H s1 ∧ Fin b H ∧ s'.os = s1.os ∧ (∀ b o, s1.heap.get? b = some o → s'.heap.get? b = some o) ∧ AllBare s'.gens
section
variable {Xg : Cx} {A : Around} {a : Addr} {g : Nat} {go : Obj} {Fin : Bool → Hp → Prop}
theorem gx_all (hh : A.handled = none) (hd : A.depth < recursionLimit) (hg : ∀ h : Heap, h.get? a = some go → h.IsGen a g) (hpn : (a, go) ∈ Xg.pn) : ∀ (n : Nat) (s : Shared) (gs : GenState), s.heap.NoLimit → s.heap.IsGen a g → s.gens[g]? = some gs →
    gs.Goes (model Xg.prog Xg.w) A.in1.in1 (fun n s₀ r s₁ => r = .ok .next ∧ gxP Xg true Fin n s₀ s₁) (gxY Xg false Fin) n (.send .none) (s.setGen g .running) →
    codeAny (model Xg.prog Xg.w) A (.builtin "all.loop" ⟨[.ref a], []⟩) (fun r s' => ∃ b, r = .ok (.ret (.bool b)) ∧ gxLeft Xg b Fin s') s := by
  intro n
  induction n using Nat.strongRecOn with
  | _ n ih =>
  intro s gs hl hig hgs hgo
  refine codeAny_builtin F.entry_all_loop ?_
  rw [Around.under_plainId F.plain_all_loop _]
  show wpAny _ A.in1 (pyNext (.ref a) >>= _) _ _ s
  refine wpAny_bind (GenW.wpAny_gsz (lt_gens hgs) (wpAny_pyNext_genexpQ (A := A.in1) (P := gxP Xg true Fin) (Y := gxY Xg false Fin) hh hl hd hig hgs hgo (fun v s1 gs' hb hv hsz => ?_) fun s1 hp h' hk _ => ?_))
  · obtain ⟨c, σ, H, pins, rfl, I, f1, f2⟩ := hv
    refine wpAny_bind (wpAny_holding (wpAny_truthy_bool ?_))
    refine wpAny_bind (wpAny_letGo ?_)
    cases c with
    | true =>
      simp only [if_true]
      have k := f2 rfl
      cases n with
      | zero => exact (k s1 rfl rfl I.bare).elim
      | succ n =>
        refine wpAny_pure ⟨plainId_quiet F.plain_all_loop _, ih n (Nat.lt_succ_self n) _ gs' I.nolimit ?_ (get_setGen hsz) (k _ rfl rfl (allBare_setGen (allBare_setGen I.bare hb) rfl))⟩
        exact hg _ (I.pin (a, go) (List.mem_append_left _ hpn)).1
    | false =>
      simp only [Bool.false_eq_true, if_false]
      refine wpAny_bind (wpAny_rule (wpAny_pure ?_))
      exact ⟨false, rfl, s1, σ, H, pins, I, f1 rfl, rfl, fun b o e => e, allBare_setGen I.bare hb⟩
  · obtain ⟨σ, H, pins, I, f⟩ := hp
    refine wpAny_bind (wpAny_rule (wpAny_pure ?_))
    exact ⟨true, rfl, s1, σ, H, pins, I, f, rfl, hk, allBare_setGen I.bare rfl⟩
theorem gx_any (hh : A.handled = none) (hd : A.depth < recursionLimit) (hg : ∀ h : Heap, h.get? a = some go → h.IsGen a g) (hpn : (a, go) ∈ Xg.pn) : ∀ (n : Nat) (s : Shared) (gs : GenState), s.heap.NoLimit → s.heap.IsGen a g → s.gens[g]? = some gs →
    gs.Goes (model Xg.prog Xg.w) A.in1.in1 (fun n s₀ r s₁ => r = .ok .next ∧ gxP Xg false Fin n s₀ s₁) (gxY Xg true Fin) n (.send .none) (s.setGen g .running) →
    codeAny (model Xg.prog Xg.w) A (.builtin "any.loop" ⟨[.ref a], []⟩) (fun r s' => ∃ b, r = .ok (.ret (.bool b)) ∧ gxLeft Xg b Fin s') s := by
  intro n
  induction n using Nat.strongRecOn with
  | _ n ih =>
  intro s gs hl hig hgs hgo
  refine codeAny_builtin F.entry_any_loop ?_
  rw [Around.under_plainId F.plain_any_loop _]
  show wpAny _ A.in1 (pyNext (.ref a) >>= _) _ _ s
  refine wpAny_bind (GenW.wpAny_gsz (lt_gens hgs) (wpAny_pyNext_genexpQ (A := A.in1) (P := gxP Xg false Fin) (Y := gxY Xg true Fin) hh hl hd hig hgs hgo (fun v s1 gs' hb hv hsz => ?_) fun s1 hp h' hk _ => ?_))
  · obtain ⟨c, σ, H, pins, rfl, I, f1, f2⟩ := hv
    refine wpAny_bind (wpAny_holding (wpAny_truthy_bool ?_))
    refine wpAny_bind (wpAny_letGo ?_)
    cases c with
    | true =>
      simp only [if_true]
      refine wpAny_bind (wpAny_rule (wpAny_pure ?_))
      exact ⟨true, rfl, s1, σ, H, pins, I, f1 rfl, rfl, fun b o e => e, allBare_setGen I.bare hb⟩
    | false =>
      simp only [Bool.false_eq_true, if_false]
      have k := f2 rfl
      cases n with
      | zero => exact (k s1 rfl rfl I.bare).elim
      | succ n =>
        refine wpAny_pure ⟨plainId_quiet F.plain_any_loop _, ih n (Nat.lt_succ_self n) _ gs' I.nolimit ?_ (get_setGen hsz) (k _ rfl rfl (allBare_setGen (allBare_setGen I.bare hb) rfl))⟩
        exact hg _ (I.pin (a, go) (List.mem_append_left _ hpn)).1
  · obtain ⟨σ, H, pins, I, f⟩ := hp
    refine wpAny_bind (wpAny_rule (wpAny_pure ?_))
    exact ⟨false, rfl, s1, σ, H, pins, I, f, rfl, hk, allBare_setGen I.bare rfl⟩
end
theorem Room.gx {k : Nat} {A : Around} (r : Room (k + 1) A) (env : Env) : Room k (A.in1.in1.deeper env) :=
  ⟨r.hd, by have := r.dp; show A.depth + 1 + 3 * k + 5 < _; omega, by have := r.un; show A.units + 1 + 1 + 3 + 16 * k + 200 < _; omega⟩
/-- the reading -/
def tGx (P : Addr) (stop : Bool) (wi : TI) (g : TG) (tt : TT) (te : TE) (vs : List Nat) : TE := fun σ H Q => wi σ H fun J H1 => ∃ ps : Array Value, H1 P = some (.tbl ps) ∧ TriplesOk ps.toList ∧
  ∀ qs : Array Value, TriplesOk qs.toList → ∃ W : Nat → Nat → Hp → Prop, (∃ m, W 0 m (upd H1 P (.tbl qs))) ∧ gxTurn J g tt te σ vs stop (fun b H => Q (.bl b) H) W
section
variable {X : Cx} {pins : List (Addr × Obj)} {σ : L2.St} {H : Hp} {s : Shared} {T : List Addr}
theorem gx_make {c P : Addr} {tg elt iter : Expr} {ifs : List Expr} {scope : Scope} {gpos : Pos} {own : List (Str × Nat)} {k : Nat} {stop : Bool} {wi : TI} {g : TG} {tt : TT} {te : TE} {Q : VK} {Q' : Value → Shared → Prop}
    (hr : Room (k + 1) X.A) (hT : TOk T X.H_0) (hN : X.N.Nodup) (TB : GxR.TabB X.base X.mg c P) (hcode : X.env.code = .ref c) (hi : PI X tg iter wi) (ok : BlkOk X.N X.env.scope scope own) (hco : scope.isCoroutine = false) (hcell : ∀ y ∈ scope.names, y.2 ≠ .cell) (h0 : scope.names.lookup (".0" : Str) = some NameKind.local)
    (hg : ∀ (s : Shared) (H : Hp) (C : Addr) (code : Value) (fp : List Addr) (pn : List (Addr × Obj)), TOk T H → Room k (X.A.in1.in1.deeper (genEnv scope (cloFrom X.env.cells scope.names []) C code builtinsNs X.env)) → PG (gxc X X.A.in1.in1 s H (genEnv scope (cloFrom X.env.cells scope.names []) C code builtinsNs X.env) fp pn) tg g)
    (ht : ∀ (s : Shared) (H : Hp) (C : Addr) (code : Value) (fp : List Addr) (pn : List (Addr × Obj)), TOk T H → Room k (X.A.in1.in1.deeper (genEnv scope (cloFrom X.env.cells scope.names []) C code builtinsNs X.env)) → PTs (gxc X X.A.in1.in1 s H (genEnv scope (cloFrom X.env.cells scope.names []) C code builtinsNs X.env) fp pn) ifs tt)
    (he : ∀ (s : Shared) (H : Hp) (C : Addr) (code : Value) (fp : List Addr) (pn : List (Addr × Obj)), TOk T H → Room k (X.A.in1.in1.deeper (genEnv scope (cloFrom X.env.cells scope.names []) C code builtinsNs X.env)) → PE (gxc X X.A.in1.in1 s H (genEnv scope (cloFrom X.env.cells scope.names []) C code builtinsNs X.env) fp pn) elt te)
    (hs : ∀ v, genFold iter X.env v = pure v) (I : Inv X pins σ H s) (h : tGx P stop wi g tt te (own.map (·.2)) σ H Q)
    (hQ : ∀ (a g : Addr) (s5 : Shared), s5.heap.IsGen a g → codeAny (model X.prog X.w) X.A (.builtin (if stop = true then "any.loop" else "all.loop") ⟨[.ref a], []⟩) (fun r s' => ∃ b, r = .ok (.ret (.bool b)) ∧ EP X pins σ Q (.bool b) s') s5 → Q' (.ref a) s5) :
    wpAny (model X.prog X.w) X.A (eval (.GeneratorExp elt [⟨tg, iter, ifs, 0⟩] scope gpos) X.env) Q' X.xe s := by
  have hfree : ∀ z ∈ scope.names, z.2 = .free → ∃ c, X.env.cells.lookup z.1 = some c := fun z hz e => (ok.free z hz e).elim (fun q => I.ok.has _ (.inl q)) fun q => I.ok.has _ (.inr q)
  refine wpAny_GeneratorExp_make hco (closure_ok hfree) hcell h0 ok.kind (by have := hr.dp; omega) ?_ hs
  refine thn (hi.run pins s σ H _ I h) fun xv s1 h1 => thn h1 fun itv s2 h2 => ?_
  obtain ⟨it, fp, tn, J, H2, rfl, I2, Tn, st2, f2, ps, hP, htr, q⟩ := h2
  refine ⟨I2.nolimit, ?_⟩
  have hPs : s2.heap.get? P = some { cls := .none, data := .fields ps } := I2.hok P _ hP
  have cd : PySem.W.CodeHd s2.heap c P := TB.code.keeps fun b u e => I2.bk b u e
  have cont : ∀ (code : Value) (h3 : Heap) (tk : Nat) (qs : Array Value), Heap.ExtBut P s2.heap h3 → s2.heap.objs.size ≤ h3.objs.size → h3.get? P = some { cls := .none, data := .fields qs } → (∃ more, qs = ps ++ more) → TriplesOk qs.toList →
      wpAny (model X.prog X.w) X.A (builtinsFor X.env.globals X.env.builtins) (fun bi s₄ => ∀ h', h'.Ns s₄.heap.objs.size (fun y => if y = ".0" then some (.ref it) else none) → Heap.SameBut s₄.heap.objs.size (s₄.heap.push { cls := .type "frame", data := .dict #[] }) h' →
          Q' (.ref h'.objs.size) { s₄ with
            gens := s₄.gens.push (.fresh (.compStart (.GeneratorExp elt [⟨tg, iter, ifs, 0⟩] scope gpos) 0 (.ref it) .none (genEnv scope (cloFrom X.env.cells scope.names []) s₄.heap.objs.size code bi X.env))),
            toks := s₄.toks + 1 + 1 + 1,
            heap := h'.push { cls := .type "generator", data := .fields #[.int s₄.gens.size 0, .str "<genexpr>" (s₄.toks + 1), .str (X.env.qual ++ "<genexpr>") (s₄.toks + 1 + 1)] } }) X.xe { s2 with heap := h3, toks := tk } := by
    intro code h3 tk qs hx hsz hP3 hmore hq3
    obtain ⟨more, em⟩ := hmore
    have J3 := GxR.inv_tab (more := more) (h' := h3) (g' := s2.gens) (d' := s2.drawn) (t' := tk) I2 hP (fun b u hb e => hx b u hb e) (by rw [← em]; exact hP3) I2.bare
    rw [← em] at J3
    have nP : ∀ b ∈ fp, b ≠ P := fun b hb z => by
      have := (f2 b hb).1
      rw [z, hP] at this; cases this
    have f3 : ∀ b ∈ fp, FpOk X pins (upd H2 P (.tbl qs)) b ∧ b < h3.objs.size := fun b hb => by
      refine ⟨⟨by rw [upd_ne (nP b hb)]; exact (f2 b hb).1, (f2 b hb).2⟩, ?_⟩
      obtain ⟨o, e, _⟩ := Tn.obj _ _ st2 b hb
      exact Nat.lt_of_lt_of_le (Heap.lt_size e) hsz
    have st3 : tn 0 h3 := Tn.keep _ _ _ st2 fun b hb o e => hx b o (nP b hb) e
    obtain ⟨bm, ob, e1, e2, e3, e4, e5, e6, e7, e8⟩ := TB.bm
    refine wpAny_builtinsFor (m := X.mg) (by rw [I2.ok.glob]; exact J3.mod.glob.keeps J3.bk) e1 e2 (J3.bk _ _ e5) e6 e7 e8 ?_
    intro h' hn' hs'
    obtain ⟨W, ⟨m0, w0⟩, turn⟩ := q qs hq3
    have hsz' : h'.objs.size = h3.objs.size + 1 := by rw [hs'.1, Heap.size_push]
    have kp' : ∀ b o, h3.get? b = some o → h'.get? b = some o := fun b o e => hs'.extBut b o (Nat.ne_of_lt (Heap.lt_size e)) (Heap.get?_push_of_some _ e)
    refine hQ _ s2.gens.size _ ⟨_, _, _, Heap.get?_push_size _ rfl, rfl, rfl, rfl⟩ ?_
    generalize hgo : ({ cls := .type "generator", data := .fields #[.int s2.gens.size 0, .str "<genexpr>" (tk + 1), .str (X.env.qual ++ "<genexpr>") (tk + 1 + 1)] } : Obj) = go
    have hgd : go.cls = .type "generator" ∧ go.data = .fields #[.int s2.gens.size 0, .str "<genexpr>" (tk + 1), .str (X.env.qual ++ "<genexpr>") (tk + 1 + 1)] ∧ go.slots = #[] := by subst hgo; exact ⟨rfl, rfl, rfl⟩
    have hgp : (h'.push go).get? h'.objs.size = some go := by subst hgo; exact Heap.get?_push_size _ rfl
    have isG : ∀ h : Heap, h.get? h'.objs.size = some go → h.IsGen h'.objs.size s2.gens.size := fun h e => ⟨go, _, _, e, hgd.1, hgd.2.1, hgd.2.2⟩
    generalize hce : genEnv scope (cloFrom X.env.cells scope.names []) h3.objs.size code builtinsNs X.env = ce
    have cS : ce.scope = scope := by subst hce; rfl
    have kp5 : ∀ b o, h3.get? b = some o → (h'.push go).get? b = some o := fun b o e => Heap.get?_push_of_some _ (kp' b o e)
    have TO : TOk T (upd H2 P (.tbl qs)) := fun p hp => by
      obtain ⟨ps', e'⟩ := hT.at I2 p hp
      by_cases hpP : p = P
      · exact ⟨qs, by rw [hpP, upd_same]⟩
      · exact ⟨ps', by rw [upd_ne hpP]; exact e'⟩
    have rg : Room k (X.A.in1.in1.deeper ce) := Room.gx hr ce
    have I5 : Inv (gxc X X.A.in1.in1 { s2 with heap := h3, toks := tk } (upd H2 P (.tbl qs)) ce fp [(h'.objs.size, go)]) [] (wipe σ (own.map (·.2))) (upd H2 P (.tbl qs))
        { s2 with heap := h'.push go, gens := s2.gens.push (.fresh (.compStart (.GeneratorExp elt [⟨tg, iter, ifs, 0⟩] scope gpos) 0 (.ref it) .none ce)), toks := tk + 1 + 1 + 1 } := by
      rw [← hce]
      have lt9 : h3.objs.size < h'.objs.size := by rw [hsz']; exact Nat.lt_succ_self _
      have b9 : AllBare (s2.gens.push (.fresh (.compStart (.GeneratorExp elt [⟨tg, iter, ifs, 0⟩] scope gpos) 0 (.ref it) .none (genEnv scope (cloFrom X.env.cells scope.names []) h3.objs.size code builtinsNs X.env)))) := AllBare.push I2.bare rfl
      exact gx_start (s := { s2 with heap := h3, toks := tk }) (go := go) (a := h'.objs.size) (A := X.A.in1.in1) rfl hr.hd J3 ok hcell hN f3 kp5 (hn'.push _) rfl b9 hgp lt9 fun v z => by rw [hgd.2.1] at z; cases z
    generalize hs5 : ({ s2 with heap := h'.push go, gens := s2.gens.push (.fresh (.compStart (.GeneratorExp elt [⟨tg, iter, ifs, 0⟩] scope gpos) 0 (.ref it) .none ce)), toks := tk + 1 + 1 + 1 } : Shared) = s5 at I5
    have hg5 : s5.gens[s2.gens.size]? = some (.fresh (.compStart (.GeneratorExp elt [⟨tg, iter, ifs, 0⟩] scope gpos) 0 (.ref it) .none ce)) := by rw [← hs5]; exact Array.getElem?_push_size ..
    have hi5 : s5.heap.IsGen h'.objs.size s2.gens.size := isG _ (by rw [← hs5]; exact hgp)
    have st5 : tn 0 s5.heap := Tn.keep _ _ _ st3 fun b _ o e => by rw [← hs5]; exact kp5 b o e
    have n5 : ∀ b ∈ fp, (upd H2 P (.tbl qs)) b = none := fun b hb => (f3 b hb).1.1
    have I6 : Inv (gxc X X.A.in1.in1 { s2 with heap := h3, toks := tk } (upd H2 P (.tbl qs)) ce fp [(h'.objs.size, go)]) [] (wipe σ (own.map (·.2))) (upd H2 P (.tbl qs)) (s5.setGen s2.gens.size .running) :=
      I5.call' (ch := []) rfl (Un.kept fun b o e => e) (I5.hok.kept fun b o e => e) (allBare_setGen I5.bare rfl) fun b z => by simp at z
    have loop := seg_gx (Xg := gxc X X.A.in1.in1 { s2 with heap := h3, toks := tk } (upd H2 P (.tbl qs)) ce fp [(h'.objs.size, go)]) (A := X.A.in1.in1) (scope := scope) (pos := gpos) (it := it) (iter := iter) rfl rfl rfl (by show ce.scope.isCoroutine = false; rw [cS]; exact hco) (fun b hb => hb)
      (fun b hb p hp => by
        have e : p = (h'.objs.size, go) := by simpa using hp
        rw [e]
        have q := (f3 b hb).2
        exact Nat.ne_of_gt (Nat.lt_trans q (by rw [hsz']; exact Nat.lt_succ_self _))) Tn (by rw [← hce] at rg ⊢; exact hg _ _ _ _ _ _ TO rg) (by rw [← hce] at rg ⊢; exact ht _ _ _ _ _ _ TO rg) (by rw [← hce] at rg ⊢; exact he _ _ _ _ _ _ TO rg) turn m0 (m0 + 1) 0 (s5.setGen s2.gens.size .running) (s5.setGen s2.gens.size .running) _ (Nat.lt_succ_self _) w0 I6 st5 n5
    have goes : (GenState.fresh (.compStart (.GeneratorExp elt [⟨tg, iter, ifs, 0⟩] scope gpos) 0 (.ref it) .none ce)).Goes (model X.prog X.w) X.A.in1.in1 (fun n s₀ r s₁ => r = .ok .next ∧ gxP (gxc X X.A.in1.in1 { s2 with heap := h3, toks := tk } (upd H2 P (.tbl qs)) ce fp [(h'.objs.size, go)]) (!stop) (fun b H => Q (.bl b) H) n s₀ s₁) (gxY (gxc X X.A.in1.in1 { s2 with heap := h3, toks := tk } (upd H2 P (.tbl qs)) ce fp [(h'.objs.size, go)]) stop (fun b H => Q (.bl b) H)) (m0 + 1) (.send .none) (s5.setGen s2.gens.size .running) :=
      ⟨rfl, seg_gx0 (Xg := gxc X X.A.in1.in1 { s2 with heap := h3, toks := tk } (upd H2 P (.tbl qs)) ce fp [(h'.objs.size, go)]) Tn (s := s5.setGen s2.gens.size .running) st5 loop⟩
    have back : ∀ (b : Bool) (s' : Shared), gxLeft (gxc X X.A.in1.in1 { s2 with heap := h3, toks := tk } (upd H2 P (.tbl qs)) ce fp [(h'.objs.size, go)]) b (fun b H => Q (.bl b) H) s' → EP X pins σ Q (.bool b) s' := fun b s' ⟨s1', σ', H', pins', I', fq, ho, hk, hbr⟩ => by
      refine ⟨.bl b, H', J3.call' (ch := fp) (ho.trans I'.os) (I'.base.trans (Un.kept hk)) (I'.hok.kept hk) hbr fun b hb => ?_, rfl, fq⟩
      obtain ⟨_, z1, z2, z3, z4, z5⟩ := (f3 b hb).1
      exact ⟨z3, z1, z4, z5⟩
    cases stop with
    | true =>
      refine codeAny_mono (gx_any (Xg := gxc X X.A.in1.in1 { s2 with heap := h3, toks := tk } (upd H2 P (.tbl qs)) ce fp [(h'.objs.size, go)]) (A := X.A) hr.hd hr.depth isG List.mem_cons_self (m0 + 1) s5 _ I5.nolimit hi5 hg5 goes) fun r s' ⟨b, er, left⟩ => ⟨b, er, back b s' left⟩
    | false =>
      refine codeAny_mono (gx_all (Xg := gxc X X.A.in1.in1 { s2 with heap := h3, toks := tk } (upd H2 P (.tbl qs)) ce fp [(h'.objs.size, go)]) (A := X.A) hr.hd hr.depth isG List.mem_cons_self (m0 + 1) s5 _ I5.nolimit hi5 hg5 goes) fun r s' ⟨b, er, left⟩ => ⟨b, er, back b s' left⟩
  cases hf : codeAmong gpos ps.toList with
  | none =>
    refine wpAny_genexprCodeX hcode (cd.code hPs htr) (cd.tab hPs) hf fun c' h' tk hx hge hlt hco' _ htab' _ => ?_
    obtain ⟨o1, vs, f1, tf, fl, tg', inF, tx, tt', op, _, _, _, _, _, _, _, _, _, htr', _⟩ := hco'
    exact cont _ h' tk _ hx (Nat.le_trans hge (Nat.le_of_lt hlt)) htab'.2 ⟨_, rfl⟩ htr'
  | some cv =>
    refine wpAny_genexprCode_hit hcode (cd.code hPs htr) hf ?_
    exact cont cv s2.heap s2.toks ps (Heap.ExtBut.refl _ _) (Nat.le_refl _) hPs ⟨#[], by simp⟩ htr
theorem boot_allX : bootBuiltins ("all" : Str) = some (.builtin "all") := by decide +kernel
theorem pe_all {c P : Addr} {tg elt iter : Expr} {ifs : List Expr} {scope : Scope} {gpos p pos : Pos} {own : List (Str × Nat)} {k : Nat} {wi : TI} {g : TG} {tt : TT} {te : TE}
    (hr : Room (k + 1) X.A) (hT : TOk T X.H_0) (hN : X.N.Nodup) (TB : GxR.TabB X.base X.mg c P) (hcode : X.env.code = .ref c) (hgl : Gl X "all") (hm : X.mg "all" = none) (hi : PI X tg iter wi) (ok : BlkOk X.N X.env.scope scope own) (hco : scope.isCoroutine = false) (hcell : ∀ y ∈ scope.names, y.2 ≠ .cell) (h0 : scope.names.lookup (".0" : Str) = some NameKind.local)
    (hg : ∀ (s : Shared) (H : Hp) (C : Addr) (code : Value) (fp : List Addr) (pn : List (Addr × Obj)), TOk T H → Room k (X.A.in1.in1.deeper (genEnv scope (cloFrom X.env.cells scope.names []) C code builtinsNs X.env)) → PG (gxc X X.A.in1.in1 s H (genEnv scope (cloFrom X.env.cells scope.names []) C code builtinsNs X.env) fp pn) tg g)
    (ht : ∀ (s : Shared) (H : Hp) (C : Addr) (code : Value) (fp : List Addr) (pn : List (Addr × Obj)), TOk T H → Room k (X.A.in1.in1.deeper (genEnv scope (cloFrom X.env.cells scope.names []) C code builtinsNs X.env)) → PTs (gxc X X.A.in1.in1 s H (genEnv scope (cloFrom X.env.cells scope.names []) C code builtinsNs X.env) fp pn) ifs tt)
    (hel : ∀ (s : Shared) (H : Hp) (C : Addr) (code : Value) (fp : List Addr) (pn : List (Addr × Obj)), TOk T H → Room k (X.A.in1.in1.deeper (genEnv scope (cloFrom X.env.cells scope.names []) C code builtinsNs X.env)) → PE (gxc X X.A.in1.in1 s H (genEnv scope (cloFrom X.env.cells scope.names []) C code builtinsNs X.env) fp pn) elt te)
    (hs : ∀ v, genFold iter X.env v = pure v := by intro _; rfl)
    (he : starEach [.GeneratorExp elt [⟨tg, iter, ifs, 0⟩] scope gpos] X.env = (false, eval (.GeneratorExp elt [⟨tg, iter, ifs, 0⟩] scope gpos) X.env) :: starEach [] X.env := by rfl) :
    PE X (.Call (.Name "all" p) [.GeneratorExp elt [⟨tg, iter, ifs, 0⟩] scope gpos] [] pos) (tGx P false wi g tt te (own.map (·.2))) := by
  refine ⟨fun pins s σ H Q I h => ?_⟩
  refine wpAny_Call_Name_kw (ld_blt I hgl hm boot_allX ?_)
  refine PyProof.Rows.callWith_builtin1 ?_ he (by rfl)
  rw [he]
  show wpAny _ _ (spliced ((false, eval (.GeneratorExp elt [⟨tg, iter, ifs, 0⟩] scope gpos) X.env) :: backTo pos (starEach [] X.env))) _ _ s
  refine Calls.spliced_cons (gx_make (stop := false) hr hT hN TB hcode hi ok hco hcell h0 hg ht hel hs I h fun a g s5 hig hk => ?_)
  refine Calls.spliced_nil ?_
  refine call_function_tree F.kind_all F.plain_all F.entry_all (F.args_all1 _) ?_
  unfold Builtin.«all»
  refine wpAny_bind (m := oneArg "all" _) (wpAny_pure ?_)
  refine wpAny_bind (wpAny_pyIter_gen hig ?_)
  refine wpAny_pure ⟨plainId_quiet F.plain_all_loop _, codeAny_mono hk fun r s' hq => ?_⟩
  obtain ⟨b, er, q⟩ := hq
  subst er
  exact q
theorem pe_any {c P : Addr} {tg elt iter : Expr} {ifs : List Expr} {scope : Scope} {gpos p pos : Pos} {own : List (Str × Nat)} {k : Nat} {wi : TI} {g : TG} {tt : TT} {te : TE}
    (hr : Room (k + 1) X.A) (hT : TOk T X.H_0) (hN : X.N.Nodup) (TB : GxR.TabB X.base X.mg c P) (hcode : X.env.code = .ref c) (hgl : Gl X "any") (hm : X.mg "any" = none) (hi : PI X tg iter wi) (ok : BlkOk X.N X.env.scope scope own) (hco : scope.isCoroutine = false) (hcell : ∀ y ∈ scope.names, y.2 ≠ .cell) (h0 : scope.names.lookup (".0" : Str) = some NameKind.local)
    (hg : ∀ (s : Shared) (H : Hp) (C : Addr) (code : Value) (fp : List Addr) (pn : List (Addr × Obj)), TOk T H → Room k (X.A.in1.in1.deeper (genEnv scope (cloFrom X.env.cells scope.names []) C code builtinsNs X.env)) → PG (gxc X X.A.in1.in1 s H (genEnv scope (cloFrom X.env.cells scope.names []) C code builtinsNs X.env) fp pn) tg g)
    (ht : ∀ (s : Shared) (H : Hp) (C : Addr) (code : Value) (fp : List Addr) (pn : List (Addr × Obj)), TOk T H → Room k (X.A.in1.in1.deeper (genEnv scope (cloFrom X.env.cells scope.names []) C code builtinsNs X.env)) → PTs (gxc X X.A.in1.in1 s H (genEnv scope (cloFrom X.env.cells scope.names []) C code builtinsNs X.env) fp pn) ifs tt)
    (hel : ∀ (s : Shared) (H : Hp) (C : Addr) (code : Value) (fp : List Addr) (pn : List (Addr × Obj)), TOk T H → Room k (X.A.in1.in1.deeper (genEnv scope (cloFrom X.env.cells scope.names []) C code builtinsNs X.env)) → PE (gxc X X.A.in1.in1 s H (genEnv scope (cloFrom X.env.cells scope.names []) C code builtinsNs X.env) fp pn) elt te)
    (hs : ∀ v, genFold iter X.env v = pure v := by intro _; rfl)
    (he : starEach [.GeneratorExp elt [⟨tg, iter, ifs, 0⟩] scope gpos] X.env = (false, eval (.GeneratorExp elt [⟨tg, iter, ifs, 0⟩] scope gpos) X.env) :: starEach [] X.env := by rfl) :
    PE X (.Call (.Name "any" p) [.GeneratorExp elt [⟨tg, iter, ifs, 0⟩] scope gpos] [] pos) (tGx P true wi g tt te (own.map (·.2))) := by
  refine ⟨fun pins s σ H Q I h => ?_⟩
  refine wpAny_Call_Name_kw (ld_blt I hgl hm boot_any ?_)
  refine PyProof.Rows.callWith_builtin1 ?_ he (by rfl)
  rw [he]
  show wpAny _ _ (spliced ((false, eval (.GeneratorExp elt [⟨tg, iter, ifs, 0⟩] scope gpos) X.env) :: backTo pos (starEach [] X.env))) _ _ s
  refine Calls.spliced_cons (gx_make (stop := true) hr hT hN TB hcode hi ok hco hcell h0 hg ht hel hs I h fun a g s5 hig hk => ?_)
  refine Calls.spliced_nil ?_
  refine call_function_tree F.kind_any F.plain_any F.entry_any (F.args_any1 _) ?_
  unfold Builtin.«any»
  refine wpAny_bind (m := oneArg "any" _) (wpAny_pure ?_)
  refine wpAny_bind (wpAny_pyIter_gen hig ?_)
  refine wpAny_pure ⟨plainId_quiet F.plain_any_loop _, codeAny_mono hk fun r s' hq => ?_⟩
  obtain ⟨b, er, q⟩ := hq
  subst er
  exact q
theorem PI.tok {tg e : Expr} {t : TI} (h : PI X tg e t) (hT : TOk T X.H_0) : PI X tg e (fun σ H R => t σ H fun J H1 => TOk T H1 → R J H1) :=
  ⟨fun pins s σ H R I q => thn (h.run pins s σ H _ I q) fun v s1 h1 => thn h1 fun itv s2 ⟨it, fp, tn, J, H2, e, I2, Tn, st, f, r⟩ => ⟨it, fp, tn, J, H2, e, I2, Tn, st, f, r (hT.at I2)⟩⟩
end
/-! ### the meaning -/
def gxL (stop : Bool) (g : SG) (t : SB) (f : SE) : List D → En → Mem → R D
  | [], _, M => .ok (.bl (!stop)) M
  | d :: r, e, M => match g d e with
    | none => .bad
    | some e1 => match t e1 M with
      | .ok true M1 => match f e1 M1 with
        | .ok (.bl c) M2 => if c = stop then .ok (.bl stop) M2 else gxL stop g t f r e M2
        | _ => .bad
      | .ok false M1 => gxL stop g t f r e M1
      | _ => .bad
def sGx (stop : Bool) (it : SA) (g : SG) (t : SB) (f : SE) (vs : List Nat) : SE := fun e M => (it e M).bind fun ds M => gxL stop g t f ds (wipeE e vs) M
section
variable {X : Cx} {W : WX} {T : List Addr}
theorem tGx_of {it : SA} {g : SG} {t : SB} {f : SE} {is vs : List Nat} {tt : TG} {σ : L2.St} {H : Hp} {Q : VK} {K : PySem.W.Frag} {stop : Bool} {P : Addr} (hP : P ∈ T) (kg : KG K tt is g) (hv : ∀ i ∈ is, i ∈ vs)
    (q : tE K W (sGx stop it g t f vs) σ H Q) : tGx P stop (fun σ H R => tG K W (fun _ => rlI K) it σ H fun J H1 => TOk T H1 → R J H1) tt (tB K W0 t) (tE K W0 f) vs σ H Q :=
  tG.step (k := fun e ds M => gxL stop g t f ds (wipeE e vs) M) (fun _ => bkE) q fun S w0 e w1 M1 H1 J ds s1 sx1 x1 r p hTO => by
    obtain ⟨ps, hps⟩ := hTO P hP
    obtain ⟨htr, _, _⟩ := s1.tabs P ps hps
    refine ⟨ps, hps, htr, fun qs hq => ?_⟩
    obtain ⟨s2, y2⟩ := s1.grown hps hq
    have r : ItOk K w1 J ds := r
    cases hl : gxL stop g t f ds (wipeE e vs) M1 with
    | bad => rw [hl] at p; exact p.elim
    | exc C fs M2 =>
      exfalso
      have no : ∀ (ds : List D) (e : En) (M : Mem), gxL stop g t f ds e M ≠ .exc C fs M2 := by
        intro ds
        induction ds with
        | nil => intro e M z; unfold gxL at z; cases z
        | cons d r ih =>
          intro e M z
          unfold gxL at z
          split at z
          · cases z
          · split at z
            · split at z
              · split at z
                · cases z
                · exact ih _ _ z
              · cases z
            · exact ih _ _ z
            · cases z
      exact no _ _ _ hl
    | ok dF MF =>
      rw [hl] at p
      refine ⟨fun i m H => m = ds.length - i ∧ i ≤ ds.length ∧ ∃ (w : Wd) (M : Mem), HS K w M H ∧ Ext All w1 H1 w H ∧ gxL stop g t f (ds.drop i) (wipeE e vs) M = .ok dF MF, ⟨ds.length, by simp, Nat.zero_le _, w1, M1, s2, y2, hl⟩, ?_⟩
      rintro i m H2 ⟨rfl, hi, w2, M2, s2, x2, e2⟩
      obtain ⟨ri, rs⟩ := r w2 M2 H2 x2.b x2.r s2
      by_cases hlt : i < ds.length
      · refine .inr ⟨(ri i ds[i] (by simp [hlt])).1, fun H3 => ∃ (w : Wd) (M : Mem), HS K w M H3 ∧ Ext All w1 H1 w H3 ∧ gxL stop g t f (ds.drop (i + 1)) (wipeE e vs) M = .ok dF MF, fun H3 h => ⟨ds.length - (i + 1), by omega, rfl, hlt, h⟩, fun y H3 hy => ?_⟩
        obtain ⟨w3, s3, x3, rd⟩ := (ri i ds[i] (by simp [hlt])).2 y H3 hy
        rw [drop_cons hlt] at e2
        unfold gxL at e2
        have x13 := x2.trans x3
        have sx3 : SX K S w3 H3 (wipe σ vs) (wipeE e vs) := (sx1.mono x13).wipe vs
        cases hgd : g ds[i] (wipeE e vs) with
        | none => simp only [hgd] at e2; cases e2
        | some e3 =>
          simp only [hgd] at e2
          refine kg w3 M2 H3 (wipe σ vs) (wipeE e vs) y ds[i] e3 _ s3 rd hgd fun σ4 z4 => ⟨by rw [z4.wipe hv, wipe_wipe], S, w3, e3, M2, s3, z4.sx sx3, ?_⟩
          cases ht : t e3 M2 with
          | bad => simp only [ht] at e2; cases e2
          | exc C fs M4 => simp only [ht] at e2; cases e2
          | ok k M4 =>
            simp only [ht] at e2
            intro w4 H4 k' x4 s4 rk
            have rk : k' = k := rk
            subst rk
            have x14 := x13.trans x4
            cases k' with
            | false =>
              simp only [Bool.false_eq_true, if_false] at e2 ⊢
              exact ⟨w4, M4, s4, x14, e2⟩
            | true =>
              simp only [if_true] at e2 ⊢
              refine ⟨S, w4, e3, M4, s4, (z4.sx sx3).mono x4, ?_⟩
              cases hf : f e3 M4 with
              | bad => simp only [hf] at e2; cases e2
              | exc C fs M5 => simp only [hf] at e2; cases e2
              | ok d M5 =>
                simp only [hf] at e2
                cases d with
                | bl c =>
                  intro w5 H5 v x5 s5 rv
                  have x15 := x14.trans x5
                  have e2 : (if c = stop then R.ok (D.bl stop) M5 else gxL stop g t f (ds.drop (i + 1)) (wipeE e vs) M5) = .ok dF MF := e2
                  refine ⟨c, rv.toR.bl, fun hc => ?_, fun hc => ?_⟩
                  · rw [if_pos hc] at e2
                    cases e2
                    exact p w5 H5 _ x15 s5 (.inl (.bl _))
                  · rw [if_neg (by rw [hc]; cases stop <;> simp)] at e2
                    exact ⟨w5, M5, s5, x15, e2⟩
                | _ => cases e2
      · have e1 : ds.drop i = [] := List.drop_of_length_le (by omega)
        rw [e1] at e2
        unfold gxL at e2
        cases e2
        exact .inl ⟨rs i (by omega), p w2 H2 _ x2 s2 (.inl (.bl _))⟩
end
end L3
namespace L3
open PySem PySem.Spec PyProof.Rows L2

section
variable {X : Cx} {W : WX} {T : List Addr}
theorem a_gxAll {c P : Addr} {tg elt iter : Expr} {ifs : List Expr} {scope : Scope} {gpos p pos : Pos} {own : List (Str × Nat)} {k : Nat} {it : SA} {g : SG} {t : SB} {f : SE} {is : List Nat} {tt : TG}
    (hr : Room (k + 1) X.A) (hT : TOk T X.H_0) (hP : P ∈ T) (hN : X.N.Nodup) (TB : GxR.TabB X.base X.mg c P) (hcode : X.env.code = .ref c) (hgl : Gl X "all") (hm : X.mg "all" = none) (hi : AI X W tg iter it) (ok : BlkOk X.N X.env.scope scope own) (hcell : (scope.names.all fun y => match y.2 with | .cell => false | _ => true) = true)
    (hg : ∀ (s : Shared) (H : Hp) (C : Addr) (code : Value) (fp : List Addr) (pn : List (Addr × Obj)), TOk T H → Room k (X.A.in1.in1.deeper (genEnv scope (cloFrom X.env.cells scope.names []) C code builtinsNs X.env)) → PG (gxc X X.A.in1.in1 s H (genEnv scope (cloFrom X.env.cells scope.names []) C code builtinsNs X.env) fp pn) tg tt) (kg : KG X.K tt is g) (hv : ∀ i ∈ is, i ∈ own.map (·.2))
    (ht : ∀ (s : Shared) (H : Hp) (C : Addr) (code : Value) (fp : List Addr) (pn : List (Addr × Obj)), TOk T H → Room k (X.A.in1.in1.deeper (genEnv scope (cloFrom X.env.cells scope.names []) C code builtinsNs X.env)) → AT (gxc X X.A.in1.in1 s H (genEnv scope (cloFrom X.env.cells scope.names []) C code builtinsNs X.env) fp pn) W0 ifs t)
    (hel : ∀ (s : Shared) (H : Hp) (C : Addr) (code : Value) (fp : List Addr) (pn : List (Addr × Obj)), TOk T H → Room k (X.A.in1.in1.deeper (genEnv scope (cloFrom X.env.cells scope.names []) C code builtinsNs X.env)) → AE (gxc X X.A.in1.in1 s H (genEnv scope (cloFrom X.env.cells scope.names []) C code builtinsNs X.env) fp pn) W0 elt f)
    (hco : scope.isCoroutine = false := by rfl) (h0 : scope.names.lookup (".0" : Str) = some NameKind.local := by rfl) (hs : ∀ v, genFold iter X.env v = pure v := by intro _; rfl)
    (he : starEach [.GeneratorExp elt [⟨tg, iter, ifs, 0⟩] scope gpos] X.env = (false, eval (.GeneratorExp elt [⟨tg, iter, ifs, 0⟩] scope gpos) X.env) :: starEach [] X.env := by rfl) :
    AE X W (.Call (.Name "all" p) [.GeneratorExp elt [⟨tg, iter, ifs, 0⟩] scope gpos] [] pos) (sGx false it g t f (own.map (·.2))) :=
  PE.imp (pe_all hr hT hN TB hcode hgl hm (PI.tok hi hT) ok hco (fun y hy z => by
    have := List.all_eq_true.mp hcell y hy
    rw [z] at this
    exact Bool.noConfusion this) h0 hg ht hel hs he) fun σ H Q q => tGx_of hP kg hv q
theorem a_gxAny {c P : Addr} {tg elt iter : Expr} {ifs : List Expr} {scope : Scope} {gpos p pos : Pos} {own : List (Str × Nat)} {k : Nat} {it : SA} {g : SG} {t : SB} {f : SE} {is : List Nat} {tt : TG}
    (hr : Room (k + 1) X.A) (hT : TOk T X.H_0) (hP : P ∈ T) (hN : X.N.Nodup) (TB : GxR.TabB X.base X.mg c P) (hcode : X.env.code = .ref c) (hgl : Gl X "any") (hm : X.mg "any" = none) (hi : AI X W tg iter it) (ok : BlkOk X.N X.env.scope scope own) (hcell : (scope.names.all fun y => match y.2 with | .cell => false | _ => true) = true)
    (hg : ∀ (s : Shared) (H : Hp) (C : Addr) (code : Value) (fp : List Addr) (pn : List (Addr × Obj)), TOk T H → Room k (X.A.in1.in1.deeper (genEnv scope (cloFrom X.env.cells scope.names []) C code builtinsNs X.env)) → PG (gxc X X.A.in1.in1 s H (genEnv scope (cloFrom X.env.cells scope.names []) C code builtinsNs X.env) fp pn) tg tt) (kg : KG X.K tt is g) (hv : ∀ i ∈ is, i ∈ own.map (·.2))
    (ht : ∀ (s : Shared) (H : Hp) (C : Addr) (code : Value) (fp : List Addr) (pn : List (Addr × Obj)), TOk T H → Room k (X.A.in1.in1.deeper (genEnv scope (cloFrom X.env.cells scope.names []) C code builtinsNs X.env)) → AT (gxc X X.A.in1.in1 s H (genEnv scope (cloFrom X.env.cells scope.names []) C code builtinsNs X.env) fp pn) W0 ifs t)
    (hel : ∀ (s : Shared) (H : Hp) (C : Addr) (code : Value) (fp : List Addr) (pn : List (Addr × Obj)), TOk T H → Room k (X.A.in1.in1.deeper (genEnv scope (cloFrom X.env.cells scope.names []) C code builtinsNs X.env)) → AE (gxc X X.A.in1.in1 s H (genEnv scope (cloFrom X.env.cells scope.names []) C code builtinsNs X.env) fp pn) W0 elt f)
    (hco : scope.isCoroutine = false := by rfl) (h0 : scope.names.lookup (".0" : Str) = some NameKind.local := by rfl) (hs : ∀ v, genFold iter X.env v = pure v := by intro _; rfl)
    (he : starEach [.GeneratorExp elt [⟨tg, iter, ifs, 0⟩] scope gpos] X.env = (false, eval (.GeneratorExp elt [⟨tg, iter, ifs, 0⟩] scope gpos) X.env) :: starEach [] X.env := by rfl) :
    AE X W (.Call (.Name "any" p) [.GeneratorExp elt [⟨tg, iter, ifs, 0⟩] scope gpos] [] pos) (sGx true it g t f (own.map (·.2))) :=
  PE.imp (pe_any hr hT hN TB hcode hgl hm (PI.tok hi hT) ok hco (fun y hy z => by
    have := List.all_eq_true.mp hcell y hy
    rw [z] at this
    exact Bool.noConfusion this) h0 hg ht hel hs he) fun σ H Q q => tGx_of hP kg hv q
end
/-! ### evaluation -/
def gx3 (stop : Bool) (g : SG) (t : SB) (f : SE) (r : List D) (e : En) (o : R D) : R D := match o with
  | .ok (.bl c) M2 => if c = stop then .ok (.bl stop) M2 else gxL stop g t f r e M2
  | _ => .bad
def gx2 (stop : Bool) (g : SG) (t : SB) (f : SE) (r : List D) (e e1 : En) (o : R Bool) : R D := match o with
  | .ok k M1 => if k = true then gx3 stop g t f r e (f e1 M1) else gxL stop g t f r e M1
  | _ => .bad
def gx1 (stop : Bool) (g : SG) (t : SB) (f : SE) (r : List D) (e : En) (M : Mem) (o : Option En) : R D := match o with
  | none => .bad
  | some e1 => gx2 stop g t f r e e1 (t e1 M)
def kGx (stop : Bool) (g : SG) (t : SB) (f : SE) (vs : List Nat) (e : En) (ds : List D) (M : Mem) : R D := gxL stop g t f ds (wipeE e vs) M
section
variable (e : En) (M : Mem)
@[simp] theorem sGx_eq (stop it g t f vs) : sGx stop it g t f vs e M = (it e M).bind (kGx stop g t f vs e) := nrfl rfl
@[simp] theorem kGx_eq (stop g t f vs ds) : kGx stop g t f vs e ds M = gxL stop g t f ds (wipeE e vs) M := nrfl rfl
@[simp] theorem gxL_nil (stop g t f) : gxL stop g t f [] e M = .ok (.bl (!stop)) M := nrfl rfl
theorem gxL_cons (stop g t f d r) : gxL stop g t f (d :: r) e M = gx1 stop g t f r e M (g d e) := by
  unfold gxL gx1
  cases g d e with
  | none => rfl
  | some e1 =>
    simp only [gx2, gx3]
    cases t e1 M with
    | ok k M1 => cases k <;> simp only [if_true, Bool.false_eq_true, if_false] <;> (try (cases f e1 M1 <;> rfl))
    | exc C fs M1 => rfl
    | bad => rfl
@[simp] theorem gx1_some (stop g t f r e1) : gx1 stop g t f r e M (some e1) = gx2 stop g t f r e e1 (t e1 M) := nrfl rfl
@[simp] theorem gx2_ok (stop g t f r e1 k) : gx2 stop g t f r e e1 (.ok k M) = if k = true then gx3 stop g t f r e (f e1 M) else gxL stop g t f r e M := nrfl rfl
@[simp] theorem gx3_ok (stop g t f r c) : gx3 stop g t f r e (.ok (.bl c) M) = if c = stop then .ok (.bl stop) M else gxL stop g t f r e M := nrfl rfl
end
/-- whose element does not write -/
theorem gxL_pure {stop : Bool} {g : SG} {t : SB} {f : SE} {e : En} {M : Mem} (p : D → Bool) : ∀ (ds : List D), (∀ d ∈ ds, ∃ e1, g d e = some e1 ∧ t e1 M = .ok true M ∧ f e1 M = .ok (.bl (p d)) M) →
    gxL stop g t f ds e M = .ok (.bl (if stop = true then ds.any p else ds.all p)) M
  | [], _ => by cases stop <;> rfl
  | d :: r, h => by
    obtain ⟨e1, g1, t1, f1⟩ := h d List.mem_cons_self
    rw [gxL_cons, g1, gx1_some, t1, gx2_ok, if_pos rfl, f1, gx3_ok, gxL_pure p r fun d' h' => h d' (List.mem_cons_of_mem _ h')]
    cases stop <;> cases hp : p d <;> simp [hp]
/-! ### a def whose code object's table is known -/
theorem fn_mkC {P : Program} {w0 : World} {K : PySem.W.Frag} {mg : Str → Option Value} {base : Heap} {x qual : Str} {st : Stmt} {f : Addr} {fd : FuncData} {N ps : List Str} {T : List Addr} {k : Nat} {b : SS} {c : Addr} (F : Fun K x qual st f fd) (hc : fd.code = .ref c) (Sc : FnScope N ps (defScope st)) (hl : ps.length ≤ N.length)
    (hb : ∀ (A : Around) (outer : List Env) (s : Shared) (H : Hp) (E : XK), Room k (A.deeper (envOfC qual (defScope st) s.heap.objs.size f (.ref c))) → TOk T H →
      (∀ σ, PassesAt (L2.CX P w0) (cxOf (L2.CX P w0) P w0 K mg base N qual (defScope st) f (.ref c) A outer s H E) σ (WE (fun c od _ H' => E c od H') σ)) →
      PassesOwn (model P w0) (cxOf (L2.CX P w0) P w0 K mg base N qual (defScope st) f (.ref c) A outer s H E).A (cxOf (L2.CX P w0) P w0 K mg base N qual (defScope st) f (.ref c) A outer s H E).env (cxOf (L2.CX P w0) P w0 K mg base N qual (defScope st) f (.ref c) A outer s H E).xe →
      ASs (cxOf (L2.CX P w0) P w0 K mg base N qual (defScope st) f (.ref c) A outer s H E) (fun c od _ H' => E c od H') (defBody st) b) : FnOk P w0 K mg base (L2.CX P w0) (k + 1) f fd ps (spS T K ps.length (runF N.length b)) := by
  obtain ⟨oc, od, kV, doc, pm, an, cdv, ct, osl, rfl, lk, hcd⟩ := F.ex
  have e : cdv = .ref c := hc
  subst e
  refine fn_of lk hcd Sc (fun vs H Q E h => h.1) fun A outer s H vs Q E hr h => ?_
  obtain ⟨hlen, hTO, w, ds, M, hs, r, p⟩ := h
  have tk := takes_of (X := cxOf (L2.CX P w0) P w0 K mg base N qual (defScope st) f (.ref c) A outer s H E) (E := E) (E₁ := fun e s'' => L2.CX P w0 outer H s E e s'') rfl rfl rfl rfl
  exact ⟨_, hb A outer s H E hr hTO (passAt tk) (passes_of (X := cxOf (L2.CX P w0) P w0 K mg base N qual (defScope st) f (.ref c) A outer s H E) (K := fun e s'' => L2.CX P w0 outer H s E e s'') (E₁ := fun e s'' => L2.CX P w0 outer H s E e s'') rfl), run_start (by rw [hlen]; exact hl) hs r p⟩
/-! ### the end, with tables -/
/-- what the law's own heap is, abstractly: the script if the written part does not know it, the tables, nothing else -/
noncomputable def H0 (K : PySem.W.Frag) (T : List Addr) (a : Addr) (o : Obj) (xs : List V) : Hp := fun b => if b ∈ T then some (.tbl #[]) else if b = a ∧ K.lookup a = none then some (.frz o (.lst xs)) else none
theorem call_tabs {P : Program} {w : World} {K : PySem.W.Frag} {mg mb : Str → Option Value} {k : Nat} {fa a : Addr} {cs : List (Addr × Addr)} {fd : FuncData} {x : Str} {sp : Sp} {s1 : Shared} {us : List Value} {ns : List Int}
    (KX : K.In s1.heap) (hns : s1.heap.Ns mainGlobals mg) (hb : s1.heap.Ns builtinsNs mb) (hbb : ∀ x : Str, x ≠ "__name__" → mb x = bootBuiltins x) (hlim : s1.heap.NoLimit) (hg : s1.gens = #[])
    (hT : ∀ p ∈ cs, s1.heap.get? p.2 = some (PySem.W.tabObj #[])) (nT : ∀ p ∈ cs, K.lookup p.2 = none) (C : ∀ p ∈ cs, PySem.W.CodeHd s1.heap p.1 p.2)
    (hbm : ∃ (bm : Addr) (ob : Obj), mg "__builtins__" = some (.ref bm) ∧ bm ≠ builtinsNs ∧ s1.heap.get? bm = some ob ∧ ob.cls = .type "module" ∧ ob.dict = some builtinsNs ∧ ob.data = .plain)
    (ha : s1.heap.get? a = some { cls := .type "list", data := .seq us.toArray }) (hi : IntsAre us ns) (hl : ns.length ≤ sizeLine) (hr : Room k callerA)
    (F : ∀ base : Heap, K.In base → base.Ns mainGlobals mg → (∀ p ∈ cs, GxR.TabB base mg p.1 p.2) → FnOk P w K mg base (L2.CX P w) k fa fd [x] sp) (hbind : ∀ (s : Shared) (u : Value), BindsTo s fd ⟨[u], []⟩ [(x, u)])
    (hsp : ∀ H : Hp, TOk (cs.map (·.2)) H → (∀ (P : Addr) (ps : Array Value), H P = some (.tbl ps) → ps = #[]) → SqL K H a (ns.map V.int) → sp [.ref a] H (fun v _ => v = .bl true) fun _ _ _ => False) :
    codeAny (model P w) callerA (.call (.ref fa) ⟨[.ref a], []⟩) (fun r s' => r = .ok (.ret (.bool true)) ∧ OldK s1.heap s'.heap ∧ s'.os = s1.os ∧ AllBare s'.gens) s1 := by
  have rv := vals_ints hi
  have lenU := hi.length
  generalize ho : ({ cls := .type "list", data := .seq us.toArray } : Obj) = oL at ha
  have hT' : ∀ b ∈ cs.map (·.2), s1.heap.get? b = some (PySem.W.tabObj #[]) := fun b hb => by
    obtain ⟨p, hp, rfl⟩ := List.mem_map.mp hb
    exact hT p hp
  have aT : a ∉ cs.map (·.2) := fun z => by
    have q := hT' a z
    rw [ha, ← ho] at q
    cases q
  generalize hH : H0 K (cs.map (·.2)) a oL (ns.map V.int) = H
  have hx : ∀ b, (b ∈ cs.map (·.2) ∧ H b = some (.tbl #[])) ∨ (b ∉ cs.map (·.2) ∧ b = a ∧ K.lookup a = none ∧ H b = some (.frz oL (.lst (ns.map V.int)))) ∨ (b ∉ cs.map (·.2) ∧ ¬ (b = a ∧ K.lookup a = none) ∧ H b = none) := fun b => by
    subst hH
    by_cases h1 : b ∈ cs.map (·.2)
    · exact .inl ⟨h1, if_pos h1⟩
    · by_cases h2 : b = a ∧ K.lookup a = none
      · exact .inr (.inl ⟨h1, h2.1, h2.2, (if_neg h1).trans (if_pos h2)⟩)
      · exact .inr (.inr ⟨h1, h2, (if_neg h1).trans (if_neg h2)⟩)
  have tO : TOk (cs.map (·.2)) H := fun b hb => by
    rcases hx b with h | h | h
    · exact ⟨_, h.2⟩
    · exact absurd hb h.1
    · exact absurd hb h.1
  have tE : ∀ (P : Addr) (ps : Array Value), H P = some (.tbl ps) → ps = #[] := fun b ps e => by
    rcases hx b with h | h | h
    · rw [h.2] at e; cases e; rfl
    · rw [h.2.2.2] at e; cases e
    · rw [h.2.2] at e; cases e
  have hok : HOk P w H s1.heap := fun b u e => by
    rcases hx b with h | h | h
    · rw [h.2] at e; cases e
      exact hT' b h.1
    · rw [h.2.2.2] at e; cases e
      rw [h.2.1]
      exact ⟨ha, by rw [List.length_map]; exact hl, us, 0, rv, by rw [ha, ← ho]⟩
    · rw [h.2.2] at e; cases e
  have hSq : SqL K H a (ns.map V.int) := by
    cases hk : K.lookup a with
    | some o =>
      have e := KX a o hk
      rw [ha] at e
      cases e
      refine .inr ⟨oL, us.toArray, 0, hk, by rw [← ho], by rw [← ho], ?_⟩
      rw [← ho]
      exact ⟨rfl, by rw [List.size_toArray, lenU]; exact hl, by simpa using rv⟩
    | none =>
      rcases hx a with h | h | h
      · exact absurd h.1 aT
      · exact .inl (.inr ⟨oL, h.2.2.2⟩)
      · exact absurd ⟨rfl, hk⟩ h.2.1
  -- nothing else is tracked
  have un : ∀ {b : Addr} {o : Obj}, s1.heap.get? b = some o → o ≠ oL → o ≠ PySem.W.tabObj #[] → H b = none := fun {b o} e n1 n2 => by
    rcases hx b with h | h | h
    · have := hT' b h.1
      rw [e] at this
      exact absurd (Option.some.inj this) n2
    · rw [h.2.1, ha] at e
      exact absurd (Option.some.inj e).symm n1
    · exact h.2.2
  have keep : ∀ {b : Addr} {o : Obj}, s1.heap.get? b = some o → H b = none → (hidT s1.heap H).get? b = some o := fun e n => hidT_get e n
  have kD : ∀ {b : Addr} {o : Obj} {es : Array DictEntry} {ep : Nat}, s1.heap.get? b = some o → o.data = .dict es ep → (hidT s1.heap H).get? b = some o := fun {b o es ep} e d => keep e (un e (fun z => by rw [z, ← ho] at d; cases d) fun z => by rw [z] at d; cases d)
  have nsK : ∀ {b : Addr} {m : Str → Option Value}, s1.heap.Ns b m → (hidT s1.heap H).Ns b m := fun {b m} ⟨o, es, ep, e, d, r⟩ => ⟨o, es, ep, kD e d, d, r⟩
  have hKb : K.In (hidT s1.heap H) := fun b o e => keep (KX b o e) (by
    rcases hx b with h | h | h
    · obtain ⟨p, hp, ep⟩ := List.mem_map.mp h.1
      rw [← ep, nT p hp] at e; cases e
    · rw [h.2.1, h.2.2.1] at e; cases e
    · exact h.2.2)
  have hM : L2.Mod K mg (hidT s1.heap H) := ⟨hKb, nsK hns, ⟨mb, nsK hb, hbb⟩, let ⟨mc, h1, h2⟩ := hlim; ⟨mc, nsK h1, h2⟩⟩
  have TB : ∀ p ∈ cs, GxR.TabB (hidT s1.heap H) mg p.1 p.2 := fun p hp => by
    refine ⟨?_, ?_, fun z => ?_⟩
    · obtain ⟨o, vs, file, tf, flags, tg, inF, text, tt, e1, r1, r⟩ := C p hp
      refine ⟨o, vs, file, tf, flags, tg, inF, text, tt, keep e1 (un e1 (fun z => ?_) fun z => ?_), r1, r⟩
      · rw [z, ← ho] at r1
        have r1 : Value.type "list" = Value.type "code" := r1
        exact absurd (Value.type.inj r1) (by decide)
      · rw [z] at r1; cases r1
    · obtain ⟨bm, ob, b1, b2, b3, b4, b5, b6⟩ := hbm
      refine ⟨bm, ob, b1, b2, fun q => ?_, fun q => ?_, keep b3 (un b3 (fun z => ?_) fun z => ?_), b4, b5, b6⟩
      · obtain ⟨o, es, ep, e, hd, _⟩ := hns
        rw [q, e] at b3
        cases b3
        rw [hd] at b6; cases b6
      · rw [q, hT p hp] at b3
        cases b3; cases b6
      · rw [z, ← ho] at b6; cases b6
      · rw [z] at b6; cases b6
    · obtain ⟨o, es, ep, e, hd, _⟩ := hns
      rw [z, hT p hp] at e
      cases e; cases hd
  have e0 : Env0 P w K mg (hidT s1.heap H) callerA [] s1 H := ⟨rfl, hM, fun b o e => of_hidT e, Nat.le_of_eq (hidT_size _ _), trivial, (fun b z => by cases z), hok, .of_eq hg⟩
  refine codeAny_mono ((F _ hKb (nsK hns) TB).run callerA [] s1 H ⟨[.ref a], []⟩ [.ref a] [.ref a] _ _ hr e0 (hbind s1 (.ref a)) (.cons rfl .nil) (hsp H tO tE hSq)) fun r s' h => ?_
  cases r with
  | error e => exact (cx_false (P := P) h).elim
  | ok fl =>
    cases fl with
    | next => exact h.elim
    | brk => exact h.elim
    | cont => exact h.elim
    | ret u =>
      obtain ⟨v, H', os, bare, un', hok', r', q⟩ := h
      have q' : v = .bl true := q
      subst q'
      obtain rfl : u = Value.bool true := r'
      have old : ∀ b o, b ∉ cs.map (·.2) → s1.heap.get? b = some o → s'.heap.get? b = some o := fun b o nb e => by
        rcases hx b with h | h | h
        · exact absurd h.1 nb
        · have z2 := un'.frzs b oL _ h.2.2.2
          have e2 := (hok' b _ z2).1
          rw [h.2.1, ha] at e
          cases e
          exact e2
        · exact un'.keep b o e h.2.2 (by intro z; cases z) (by simp)
      have grown : ∀ p ∈ cs, ∃ more : Array Value, s'.heap.get? p.2 = some (PySem.W.tabObj more) := fun p hp => by
        obtain ⟨ps, e⟩ := tO p.2 (List.mem_map.mpr ⟨p, hp, rfl⟩)
        obtain ⟨more, z⟩ := un'.tbls p.2 ps e
        exact ⟨_, hok' p.2 _ z⟩
      refine ⟨rfl, ⟨fun b o e => ?_, fun b o e => ?_⟩, os, bare⟩
      · by_cases hb : b ∈ cs.map (·.2)
        · obtain ⟨p, hp, ep⟩ := List.mem_map.mp hb
          obtain ⟨more, hm⟩ := grown p hp
          rw [← ep] at e ⊢
          rw [hT p hp] at e
          cases e
          exact .inr (.inl ⟨((C p hp).tab (hT p hp)).isCodeTable, rfl, #[], more, rfl, by rw [Array.empty_append]; exact hm⟩)
        · exact .inl (old b o hb e)
      · by_cases hb : b ∈ cs.map (·.2)
        · obtain ⟨p, hp, ep⟩ := List.mem_map.mp hb
          obtain ⟨more, hm⟩ := grown p hp
          rw [← ep]
          exact ⟨_, hm⟩
        · exact ⟨o, old b o hb e⟩
theorem tabX {p : Program} {loose : List Str} {mean : ExcName → Option Value} {mg mb : Str → Option Value} {h : Heap} {K : PySem.W.Frag} {x : Str} {c P : Addr} (T : Top p loose mean mg mb h) (X : K.In h) (ht : PySem.W.tabIn K x = some (c, P)) (hr : ((recsOf p).any fun e => e.name == x) = true) : PySem.W.CodeHd h c P ∧ h.get? P = some (PySem.W.tabObj #[]) := by
  cases hf : (recsOf p).find? (fun e => e.name == x) with
  | none =>
    rw [List.find?_eq_none] at hf
    obtain ⟨e, he, h2⟩ := List.any_eq_true.mp hr
    exact absurd h2 (hf e he)
  | some d => exact PySem.W.tab_of T X hf ht
/-- what the end asks of a law with tables -/
def LawT (q : Program) (l : PySem.W.OpenLaw) (w : World) (K : PySem.W.Frag) (k : Nat) (x : Str) (g : Fn) (mg : Str → Option Value) (fa : Addr) : Prop :=
  ∃ (fd : FuncData) (cs : List (Str × Addr × Addr)), (∀ p ∈ cs, PySem.W.tabIn K p.1 = some p.2 ∧ ((recsOf q).any fun e => e.name == p.1) = true ∧ K.lookup p.2.2 = none) ∧ (∀ (s : Shared) (u : Value), BindsTo s fd ⟨[u], []⟩ [(x, u)]) ∧
    ∀ base : Heap, K.In base → base.Ns mainGlobals mg → (∀ p ∈ cs, GxR.TabB base mg p.2.1 p.2.2) → FnOk l.prog w K mg base (L2.CX l.prog w) k fa fd [x] (spS (cs.map (·.2.2)) K 1 g)
theorem walk_tabs {l : PySem.W.OpenLaw} {n k : Nat} {q : Program} {loose : List Str} {XP : (Str → Option Value) → Heap → Prop} {YP : World → Heap → Prop} {d : DefRec} {K : Params → PySem.W.Frag} {x : Str} {g : Fn}
    (hn : l.most = some n) (hn2 : n ≤ sizeLine) (hdf : d.params.defaults = []) (hr : Room k callerA) (hY : ∀ (w : World) (h : Heap), YP w h → (K w.params).In h)
    (F : ∀ (w : World) (mg : Str → Option Value) (fa : Addr) (h : Heap), (K w.params).In h → h.Ns mainGlobals mg → mg d.name = some (.ref fa) → LawT q l w (K w.params) k x g mg fa)
    (hg : ∀ ns : List Int, ns.length ≤ n → (∀ z ∈ ns, Builtin.Int.intBits z ≤ 1048576) → ∃ M, g [.rol (ns.map D.int)] [] = .ok (.bl true) M) :
    PySem.W.WalkO q loose XP YP l.row.toRowW d [] (fun f vs => PySem.call f vs) := by
  refine Att.attach_callB hn hdf fun w s₀ s₁ mg mb fa o pm cd doc a vs ns G Y ho hd hcd hmg hobj hints hlen hbits hgn => ?_
  have KX := hY w _ Y
  obtain ⟨fd, cs, hcs, hb, hF⟩ := F w mg fa _ KX G.T.g hmg
  have mm : ∀ p ∈ cs.map (·.2), ∃ r ∈ cs, r.2 = p := fun p hp => by
    obtain ⟨r, hr, e⟩ := List.mem_map.mp hp
    exact ⟨r, hr, e⟩
  refine call_tabs (cs := cs.map (·.2)) (sp := spS (cs.map (·.2.2)) (K w.params) 1 g) KX G.T.g G.T.b G.T.builtins G.T.nolimit hgn (fun p hp => ?_) (fun p hp => ?_) (fun p hp => ?_) G.T.bmain hobj hints (Nat.le_trans hlen hn2) hr (fun base k1 k2 k3 => hF base k1 k2 fun p hp => k3 p.2 (List.mem_map.mpr ⟨p, hp, rfl⟩)) hb fun H h1 h2 h3 => ?_
  · obtain ⟨r, hr, rfl⟩ := mm p hp
    obtain ⟨t1, t2, _⟩ := hcs r hr
    exact (tabX G.T KX t1 t2).2
  · obtain ⟨r, hr, rfl⟩ := mm p hp
    exact (hcs r hr).2.2
  · obtain ⟨r, hr, rfl⟩ := mm p hp
    obtain ⟨t1, t2, _⟩ := hcs r hr
    exact (tabX G.T KX t1 t2).1
  · refine law_end (fun P hP => h1 P ?_) h2 h3 (hg ns hlen hbits)
    rw [List.map_map]
    exact hP
end L3
namespace L3
open PySem PySem.Spec PyProof.Rows L2

/-! ## a, b = x, y -/
def par2 (i j : Nat) (e : En) (ds : List D) (M : Mem) : RS := match ds with
  | [a, b] => .nx ((e.set i (some a)).set j (some b)) M
  | _ => .bad
def sPar (i j : Nat) (f : SA) : SS := fun e M => (f e M).bindS e (par2 i j e)
section
variable {X : Cx} {W : WX} {pos : Pos}
theorem s_par {i j : Nat} {x y : Str} {a b : Expr} {f : SA} {px py pt pt2 : Pos} {kt k2} (hc : X.calm = true) (hN : X.N.Nodup) (hi : X.N[i]? = some x) (hj : X.N[j]? = some y) (hij : i ≠ j) (hx : X.env.scope.names.lookup x = some .local) (hy : X.env.scope.names.lookup y = some .local) (h : AAf X W [a, b] f)
    (hw : swappedStores [.Tuple [.Name x px, .Name y py] kt pt] (.Tuple [a, b] k2 pt2) X.env = pure (some [x, y]) := by rfl) (hsw : swapsWithSole [.Tuple [.Name x px, .Name y py] kt pt] (.Tuple [a, b] k2 pt2) pos.line X.env = pure false := by rfl) : AS X W (.Assign [.Tuple [.Name x px, .Name y py] kt pt] (.Tuple [a, b] k2 pt2) pos) (sPar i j f) :=
  PS.imp (ps_par hc hN hi hj hij hx hy h hw hsw) fun E σ H q => tS.step (k := fun e ds M => par2 i j e ds M) q fun S w e w' M' H' vs ds s sr lv x r p _ _ => by
    have r : Reps X.K w' vs ds := r
    match ds, r, p with
    | [], _, p => exact p.elim
    | [_], _, p => exact p.elim
    | _ :: _ :: _ :: _, _, p => exact p.elim
    | [d1, d2], .cons (v := v1) r1 (.cons (v := v2) r2 .nil), p => exact ⟨v1, v2, rfl, p w' H' _ (.refl _ _) s ((sr.setD r1).setD r2)⟩
end
section
variable (e : En) (M : Mem)
@[simp] theorem sPar_eq (i j f) : sPar i j f e M = (f e M).bindS e (par2 i j e) := nrfl rfl
@[simp] theorem par2_eq (i j a b) : par2 i j e [a, b] M = .nx ((e.set i (some a)).set j (some b)) M := nrfl rfl
end
end L3
namespace L3
open PySem PySem.Spec PyProof.Rows L2
/-! ### enumerate(tuple) -/
/-- the tuple at a, each item in a new pair -/
def Iet (K : PySem.W.Frag) (a : Addr) : It :=
  ⟨fun j G => ∃ (ys : List V) (y : V), SqT K G a ys ∧ ys[j]? = some y,
   fun j G v G' => ∃ c y, v = .ref c ∧ G c = none ∧ G' = upd G c (.tup [.int (j : Nat), y]) ∧ ∀ ys, SqT K G a ys → ys[j]? = some y,
   fun j G => ∃ ys : List V, SqT K G a ys ∧ ys.length ≤ j⟩
theorem turn_enumT {P : Program} {w : World} {K : PySem.W.Frag} {elts : List Expr} {kk : Nat} {tpos : Pos} (a m c : Addr) :
    Turn P w K (.Tuple elts kk tpos) (Iet K a) [m, c] m (fun j h => (∃ prev, IsEnum h m c ((j : Nat) : Int) prev) ∧ h.IsTupleIter c a j ∧ m ≠ c) where
  mem := by simp
  obj := fun j h st b hb => by
    obtain ⟨⟨prev, h1⟩, ⟨ob, h2, _, hd⟩, _⟩ := st
    rcases (by simpa using hb : b = m ∨ b = c) with z | z
    · subst z; exact ⟨_, h1, fun v q => nomatch q⟩
    · subst z; exact ⟨ob, h2, fun v q => by rw [hd] at q; cases q⟩
  keep := fun j h h' st k => by
    obtain ⟨⟨prev, h1⟩, h2, h3⟩ := st
    exact ⟨⟨prev, k m (by simp) _ h1⟩, h2.at fun ob q => k c (by simp) ob q, h3⟩
  item := by
    intro X hP hw hK hc j pins s σ H E I fp st hg
    subst hP hw hK
    obtain ⟨⟨prev, h1⟩, h2, h3⟩ := st
    obtain ⟨ys, y, hq, hy⟩ := hg
    obtain ⟨its, rv, p, hz⟩ := I.tuple hq
    obtain ⟨u, hu, ru⟩ := rv.get hy
    have l1 : m < s.heap.objs.size := Heap.lt_size h1
    have l2 : c < s.heap.objs.size := by obtain ⟨_, q, _⟩ := h2; exact Heap.lt_size q
    have l3 : a < s.heap.objs.size := by obtain ⟨_, q, _⟩ := (show s.heap.IsTuple a its.toArray from p); exact Heap.lt_size q
    have nac : a ≠ c := fun z => by
      obtain ⟨o1, q1, r1, _⟩ := (show s.heap.IsTuple a its.toArray from p)
      obtain ⟨o2, q2, r2, _⟩ := h2
      rw [z, q2] at q1
      cases q1
      rw [r1] at r2
      exact absurd r2 (by decide)
    have nam : a ≠ m := fun z => by
      obtain ⟨o1, q1, r1, _⟩ := (show s.heap.IsTuple a its.toArray from p)
      have q2 : s.heap.get? m = _ := h1
      rw [z, q2] at q1
      cases q1
      exact absurd (show Value.type "enumerate" = Value.type "tuple" from r1) (by decide)
    have hlt : j < its.toArray.size := by
      have := List.getElem?_eq_some_iff.mp hu
      simpa using this.1
    refine wpAny_pyNext_enum_itemC (Draws.tuple (w := X.w) (A := X.A.in1) (by first | exact I.ok.hd hc | rfl) c a nac its.toArray) h1 ⟨h2, p⟩ hlt h3 (by simp [h3, Ne.symm nam]) fun x h' tk px ho st' hT hsz hk => ?_
    have ex : x = u := by
      have e1 : its.toArray[j]? = some u := by simpa using hu
      rw [e1] at px
      exact (Option.some.inj px).symm
    subst ex
    refine ⟨_, rfl, wpAny_letOwnedTupleGo_enum (s := { s with heap := h', toks := tk + 1 }) ho fun h'' he' sb => ?_⟩
    have hT2 : h''.get? s.heap.objs.size = some { cls := .type "tuple", data := .seq #[.int j tk, x] } := (sb.2 _ (Nat.ne_of_gt l1)).trans hT
    have new : ObjOk X.prog X.w (upd H s.heap.objs.size (.tup [.int (j : Nat), y])) h'' s.heap.objs.size (.tup [.int (j : Nat), y]) :=
      ⟨by show 2 ≤ sizeLine; decide, [.int j tk, x], .cons ⟨_, rfl⟩ (.cons ru .nil), ⟨_, hT2, rfl, _, rfl⟩⟩
    have I1 : Inv X pins σ (upd H s.heap.objs.size (.tup [.int (j : Nat), y])) { s with heap := h'', toks := tk + 1 } :=
      I.turnedNew (ch := [m, c]) (fun b ob hb q => (sb.2 b (fun z => hb (by simp [z]))).trans (hk b ob (fun z => hb (by simp [z])) (fun z => hb (by simp [z])) q)) fp (Nat.le_refl _) new
    refine ⟨.ref s.heap.objs.size, _, I1, rfl, ⟨_, y, rfl, I.hok.fresh (Nat.le_refl _), rfl, fun zs hy2 => by rw [I.tuple_inj hy2 hq]; exact hy⟩, ⟨⟨x, ?_⟩, st'.1.at fun ob q => (sb.2 c (Ne.symm h3)).trans q, h3⟩, fun b hb => ?_⟩
    · have e1 : ((j + 1 : Nat) : Int) = (j : Int) + 1 := by omega
      rw [e1]; exact he'
    · have hb' : b < s.heap.objs.size := by
        rcases (by simpa using hb : b = m ∨ b = c) with z | z
        · rw [z]; exact l1
        · rw [z]; exact l2
      rw [upd_ne (Nat.ne_of_lt hb')]
      exact (fp b hb).1
  done := by
    intro X hP hw hK hc j pins s σ H E I fp st hg
    subst hP hw hK
    obtain ⟨⟨prev, h1⟩, h2, h3⟩ := st
    obtain ⟨ys, hq, hy⟩ := hg
    obtain ⟨its, rv, p, hz⟩ := I.tuple hq
    obtain ⟨f0, f1, f2, f3, f4, f5⟩ := fp c (by simp)
    have hl := rv.length
    have hT : s.TypeIs (.ref m) "enumerate" := ⟨_, h1, rfl⟩
    unfold pyNext
    refine wpAny_bind (wpAny_attempt (wpAny_callSpecial?_slot (name := Str.ofString "__next__") hT F.slot_enumerate_next
      (wpAny_call_entry F.slot_enumerate_next hT F.entry_enumerate_next ?_ (F.args_enumerate_next_1 _))))
    show wpAny _ _ (field (.ref m) 2 >>= _) _ _ _
    refine wpAny_bind (wpAny_field h1 rfl (x := .ref c) rfl ?_)
    refine wpAny_bind (wpAny_nextOf_tuple_end (A := X.A.in1) (by first | exact I.ok.hd hc | rfl) h2 (show s.heap.IsTuple a its.toArray from p) (by simp; omega) fun h' x eb hx' => ?_)
    obtain ⟨ob, ho, hcl⟩ := hx'
    refine wpAny_bind (wpAny_isInstance (T := "StopIteration") (b := true) ⟨ob, ho, hcl⟩ isSubtype_stop ?_)
    exact wpAny_pure ⟨rfl, I.turned (t' := s.toks) (fun b o hb q => eb b o hb q) f0 f1 f3 f4 f5⟩
  self := fun A j s Q E st h => by
    obtain ⟨⟨_, he⟩, _⟩ := st
    exact wpAny_pyIter_enum he h

theorem meets_enumT (t : Addr) (items : Array Value) :
    Meets (Builtin.«enumerate.__new__» ⟨[.type "enumerate", .ref t], []⟩) (fun _ R s => s.heap.IsTuple t items ∧
      R (.ok (.ret (.ref (s.heap.push { cls := .type "tuple_iterator", data := .fields #[.ref t, .int 0 0] }).objs.size)))
        { s with heap := (s.heap.push { cls := .type "tuple_iterator", data := .fields #[.ref t, .int 0 0] }).push { cls := .type "enumerate", data := .fields #[.none, .bool false, .ref s.heap.objs.size, rawInt 0, .none, .none] } }) :=
  .of_wp fun prog w A R s h => by
    obtain ⟨hp, g, d, tk, os⟩ := s
    obtain ⟨h1, h⟩ := h
    have hsub := sub_enumerate
    have q1 : ∀ {A' : Around} {E : Value → Shared → Prop} {Q : Value → Shared → Prop}, Q (.ref hp.objs.size) ⟨hp.push { cls := .type "tuple_iterator", data := .fields #[.ref t, .int 0 0] }, g, d, tk, os⟩ → wpAny (model prog w) A' (pyIter (.ref t)) Q E ⟨hp, g, d, tk, os⟩ :=
      fun q => (begins_tuple t items).iter prog w _ _ ⟨hp, g, d, tk, os⟩ _ h1 q
    wp_walk using q1
    refine wpAny_stack_any fun st => wpAny_pure ?_
    split
    · rename_i c _ _ _ _ _
      cases (c == Value.type "enumerate") <;> (wp_walk using q1; exact ⟨_, rfl, h⟩)
    · wp_walk using q1
      exact ⟨_, rfl, h⟩
theorem call_enumT {prog : Program} {w : World} {A : Around} {E : Value → Shared → Prop} {s : Shared} {t : Addr} {items : Array Value} {Q : Value → Shared → Prop} (hL : s.heap.IsTuple t items)
    (h : ∀ g, IsEnum g (s.heap.objs.size + 1) s.heap.objs.size 0 .none → g.IsTupleIter s.heap.objs.size t 0 → g.objs.size = s.heap.objs.size + 2 →
      (∀ b o, s.heap.get? b = some o → g.get? b = some o) → Q (.ref (s.heap.objs.size + 1)) { s with heap := g }) :
    wpAny (model prog w) A (call (.type "enumerate") [.ref t]) Q E s := by
  refine callType_new F.called_enumerate (by decide) (F.typeCall_enumerate_1 _) (F.newCall_enumerate_1 _) (fun obj => F.args_object_init_2 obj _) F.entry_enumerate_new
    (meets_enumT t items) ⟨hL, ?_⟩
  have sz : (s.heap.push { cls := .type "tuple_iterator", data := .fields #[.ref t, .int 0 0] }).objs.size = s.heap.objs.size + 1 := Heap.size_push ..
  show _ ∧ _
  rw [sz]
  have e1 : IsEnum ((s.heap.push { cls := .type "tuple_iterator", data := .fields #[.ref t, .int 0 0] }).push
      { cls := .type "enumerate", data := .fields #[.none, .bool false, .ref s.heap.objs.size, rawInt 0, .none, .none] }) (s.heap.objs.size + 1) s.heap.objs.size 0 .none := by
    have z := Heap.get?_push_size (s.heap.push { cls := .type "tuple_iterator", data := .fields #[.ref t, .int 0 0] })
      (o := { cls := .type "enumerate", data := .fields #[.none, .bool false, .ref s.heap.objs.size, rawInt 0, .none, .none] }) rfl
    rw [sz] at z; exact z
  exact ⟨⟨_, e1, rfl⟩, h _ e1 ⟨_, Heap.get?_push_of_some _ (Heap.get?_push_size _ rfl), rfl, rfl⟩ (by rw [Heap.size_push, sz]) fun b o y => Heap.get?_push_of_some _ (Heap.get?_push_of_some _ y)⟩
/-- enumerate of a list or a tuple -/
def iEnum2 (K : PySem.W.Frag) (ta : TA) : TI := fun σ H R => ta σ H fun vs H1 => ∃ a xs, vs = [.ref a] ∧ ((SqL K H1 a xs ∧ R (Ite K a) H1) ∨ (SqT K H1 a xs ∧ R (Iet K a) H1))
theorem pi_enum2 {X : Cx} {e : Expr} {ta : TA} {p pos tpos : Pos} {elts : List Expr} {kk : Nat} (hg : Gl X "enumerate") (hm : X.mg "enumerate" = none) (ha : PA X [e] ta) (hs : starEach [e] X.env = [(false, eval e X.env)] := by rfl) :
    PI X (.Tuple elts kk tpos) (.Call (.Name "enumerate" p) [e] [] pos) (iEnum2 X.K ta) := by
  refine ⟨fun pins s σ H R I h => ?_⟩
  refine Call_ (ld_blt I hg hm boot_enumerate (PyProof.Rows.callWith_type1 (thn (ha.run pos pins s σ H _ I h) fun us s1 ⟨vs, H1, I1, r1, q1⟩ => ?_) hs rfl))
  obtain ⟨a, xs, ex, hq⟩ := q1
  subst ex
  cases r1 with
  | cons r rr =>
    cases rr
    cases r
    have fpk : ∀ {h' : Heap}, (∀ b o, s1.heap.get? b = some o → h'.get? b = some o) → ∀ b ∈ [s1.heap.objs.size + 1, s1.heap.objs.size], s1.heap.objs.size ≤ b := fun _ b hb => by
      rcases (by simpa using hb : b = s1.heap.objs.size + 1 ∨ b = s1.heap.objs.size) with z | z
      · rw [z]; exact Nat.le_add_right _ _
      · rw [z]; exact Nat.le_refl _
    rcases hq with ⟨hq, q⟩ | ⟨hq, q⟩
    · obtain ⟨its, rv, pl, hz⟩ := I1.list hq
      refine call_enumerate_list pl.isList fun h' g1 g2 g3 g4 => wpAny_pyIter_enum g1 ?_
      exact ⟨s1.heap.objs.size + 1, [s1.heap.objs.size + 1, s1.heap.objs.size], _, _, H1, rfl, I1.kept (t' := s1.toks) g4, turn_enum a (s1.heap.objs.size + 1) s1.heap.objs.size, ⟨⟨.none, g1⟩, g2, Nat.succ_ne_self _⟩, fun b hb => I1.fpOk (fpk g4 b hb) (I1.hok.fresh (fpk g4 b hb)), q⟩
    · obtain ⟨its, rv, pl, hz⟩ := I1.tuple hq
      refine call_enumT pl fun h' g1 g2 g3 g4 => wpAny_pyIter_enum g1 ?_
      exact ⟨s1.heap.objs.size + 1, [s1.heap.objs.size + 1, s1.heap.objs.size], _, _, H1, rfl, I1.kept (t' := s1.toks) g4, turn_enumT a (s1.heap.objs.size + 1) s1.heap.objs.size, ⟨⟨.none, g1⟩, g2, Nat.succ_ne_self _⟩, fun b hb => I1.fpOk (fpk g4 b hb) (I1.hok.fresh (fpk g4 b hb)), q⟩

theorem iet_ok {K : PySem.W.Frag} {w0 : Wd} {a : Addr} {us : List V} {ds : List D} (h : SqT K w0.B a us) (q : Reps K w0 us ds) : ItOk K w0 (Iet K a) (enumL 0 ds) := fun w M H hb hr hs => by
  have k1 : SqT K H a us := seqT hs.same (seqT hb h)
  have k2 := q.mono' hb hr
  refine ⟨fun j d e => ?_, fun j hj => ⟨us, k1, by rw [q.length, ← enumL_len 0 ds]; exact hj⟩⟩
  obtain ⟨d', e0, rfl⟩ := enumL_get 0 ds j d e
  obtain ⟨v, e1, r⟩ := k2.get e0
  refine ⟨⟨us, v, k1, e1⟩, fun x H' ⟨c, y, ex, hc, eH, k⟩ => ?_⟩
  subst ex eH
  have z := k us k1
  rw [e1] at z
  cases z
  obtain ⟨s2, y⟩ := hs.imm (o := .tup [.int (j : Nat), v]) hc
  exact ⟨_, s2, y, .tup (.of upd_same) (.cons (by rw [Nat.zero_add]; exact .int _) (.one (r.mono y)))⟩
def enm2 (ds : List D) (M : Mem) : R (List D) := match ds with
  | [.lst xs] => .ok (enumL 0 xs) M
  | [.rol xs] => .ok (enumL 0 xs) M
  | [.tup xs] => .ok (enumL 0 xs) M
  | _ => .bad
def sEnx (f : SA) : SA := fun e M => (f e M).bind enm2
section
variable {X : Cx} {W : WX} {pos : Pos}
theorem i_enum2 {e : Expr} {f : SA} {p pos tpos : Pos} {elts : List Expr} {kk : Nat} (hg : Gl X "enumerate") (hm : X.mg "enumerate" = none) (h : AAf X W [e] f) (hs : starEach [e] X.env = [(false, eval e X.env)] := by rfl) :
    AI X W (.Tuple elts kk tpos) (.Call (.Name "enumerate" p) [e] [] pos) (sEnx f) :=
  PI.imp (pi_enum2 hg hm h hs) fun σ H R q => tG.step (k := fun _ d M => enm2 d M) (fun _ => bkI) q fun S w e w' M' H' vs ds s sx x r p => by
    cases r with
    | nil => exact p.elim
    | @cons v vs d ds r t =>
      cases t with
      | cons _ _ => exact absurd p (by cases d <;> exact id)
      | nil =>
        cases d with
        | lst xs =>
          cases r with
          | lst hq q => exact ⟨_, _, rfl, .inl ⟨.of (s.same _ _ hq), p w' H' _ (.refl _ _) s (ite_ok (.of hq) q)⟩⟩
        | rol xs =>
          cases r with
          | rol hq q => exact ⟨_, _, rfl, .inl ⟨s.same.seq hq, p w' H' _ (.refl _ _) s (ite_ok hq q)⟩⟩
        | tup xs =>
          cases r with
          | tup hq q => exact ⟨_, _, rfl, .inr ⟨seqT s.same hq.sq, p w' H' _ (.refl _ _) s (iet_ok hq.sq q)⟩⟩
        | _ => exact p.elim
/-! ### sorted(tuple) -/
theorem collect_tupA {prog : Program} {w : World} {A : Around} {E : Value → Shared → Prop} {s : Shared} {t : Addr} {us : List Value} {Q : List Value → Shared → Prop} (hl : s.heap.IsTuple t us.toArray)
    (h : Q us { s with heap := (s.heap.push (seqObj "list" #[] 0)).update s.heap.objs.size (Obj.mapSeq (· ++ us.toArray)) }) (sz : us.length ≤ sizeLine) :
    wpAny (model prog w) A (collect (.ref t)) Q E s := by
  obtain ⟨ob, ho, hc, n, hd⟩ := id hl
  unfold collect
  refine wpAny_bind (wpAny_runValue (codeAny_builtin entry_proto_collect' ?_))
  show wpAny _ _ (do again (.builtin "list.__iadd__" ⟨[← newList [], .ref t], []⟩)) _ _ s
  refine wpAny_bind (wpAny_newList (wpAny_pure ⟨Code.quiet_builtin _ (by decide +kernel), codeAny_builtin entry_list_iadd' ?_⟩))
  show wpAny _ _ (Builtin.List.listExtendWith (.ref s.heap.objs.size) (.ref t) (.ref s.heap.objs.size)) _ _ { s with heap := s.heap.push (seqObj "list" #[] 0) }
  unfold Builtin.List.listExtendWith
  have h1 : (s.heap.push (seqObj "list" #[] 0)).get? t = some ob := Heap.get?_push_of_some _ ho
  refine wpAny_bind (wpAny_typeOf (T := "tuple") ⟨ob, h1, hc⟩ ?_)
  have h2 : (Value.type "tuple" == Value.type "tuple") = true := by rfl
  rw [if_pos (by rw [h2]; simp)]
  refine wpAny_bind (listItems_at h1 hd ?_)
  refine wpAny_bind (listItems_at (xs := #[]) (n := 0) (Heap.get?_push_size _ rfl) rfl ?_)
  rw [if_neg (by simp)]
  refine wpAny_bind (listUpdate_at (xs := #[]) (n := 0) (Heap.get?_push_size _ rfl) rfl ?_ (Nat.zero_le _) (by show (#[] ++ us.toArray).size ≤ sizeLine + 1; simp only [Array.size_append, List.size_toArray, List.length_nil]; omega))
  refine wpAny_pure ?_
  show wpAny (model prog w) A (do
      let o ← load s.heap.objs.size
      match o.data with
      | .seq xs _ => pure xs.toList
      | _ => unsupported "internal:collect") Q E { s with heap := (s.heap.push (seqObj "list" #[] 0)).update s.heap.objs.size (Obj.mapSeq (· ++ us.toArray)) }
  refine wpAny_bind (wpAny_load (get?_update_seq (Heap.get?_push_size _ rfl) _) ?_)
  show wpAny _ _ (pure ((#[] : Array Value) ++ us.toArray).toList) Q E _
  rw [show ((#[] : Array Value) ++ us.toArray).toList = us by simp]
  exact wpAny_pure h
def rSortedT (K : PySem.W.Frag) : List V → Hp → VK → Prop := fun vs H Q => ∃ (t : Addr) (ns : List Int), vs = [V.ref t] ∧ SqT K H t (ns.map V.int) ∧
  ∀ (ms : List Int) (b : Addr), ms.Perm ns → ms.Pairwise (· ≤ ·) → H b = none → Q (.ref b) (upd H b (.lst (ms.map V.int)))
theorem cr_sortedT2 : CallR X (.builtin "sorted") (rSortedT X.K) := by
  intro pins s σ H vs us Q I r h
  obtain ⟨t, ns, rfl, ht, q⟩ := h
  obtain ⟨its, rv, hl, hz⟩ := I.tuple ht
  rw [Vals.ref1 r]
  have hi := rv.ints
  have hz' : its.length ≤ sizeLine := by rw [← rv.length]; exact hz
  refine Calls.call_function_entry kind_sorted plain_sorted entry_sorted (args_sorted1 _) ?_
  unfold Builtin.«sorted»
  refine wpAny_bind (m := checkCount "sorted" 1 1 _) (wpAny_pure ?_)
  refine wpAny_bind (collect_tupA (us := its) hl ?_ hz')
  refine wpAny_bind (wpAny_newList ?_ hz')
  have z1 : ((s.heap.push (seqObj "list" #[] 0)).update s.heap.objs.size (Obj.mapSeq (· ++ its.toArray))).objs.size = s.heap.objs.size + 1 := by
    rw [Heap.size_update, size_push']
  have z2 : (((s.heap.push (seqObj "list" #[] 0)).update s.heap.objs.size (Obj.mapSeq (· ++ its.toArray))).push (seqObj "list" its.toArray 0)).get? (s.heap.objs.size + 1) = some (seqObj "list" its.toArray 0) := by
    rw [← z1]; exact Heap.get?_push_size _ rfl
  show wpAny _ _ _ _ _ { s with heap := ((s.heap.push (seqObj "list" #[] 0)).update s.heap.objs.size (Obj.mapSeq (· ++ its.toArray))).push (seqObj "list" its.toArray 0) }
  rw [z1]
  refine wpAny_bind (wpAny_holding (wpAny_call_entry slot_list_sort ⟨_, z2, rfl⟩ entry_list_sort (SrtO.list_sort_ord SrtO.swo_int z2 hz' (fun two => SrtO.ints_sortable hi two) fun out h1 h2 => ⟨_, rfl, ?_⟩) (args_list_sort _)))
  obtain ⟨k1, k2, k3⟩ := SrtO.ints_out hi h1 h2
  obtain ⟨n2, he'⟩ := PyProof.Rows.sortedAll_at s.heap its out.toArray
  have hlen : ((out.map SrtO.iv).map V.int).length ≤ sizeLine := by
    rw [List.length_map, k2.length_eq]
    rw [List.length_map] at hz
    exact hz
  exact wpAny_pure ⟨_, rfl, .ref _, upd H (s.heap.objs.size + 1) (.lst ((out.map SrtO.iv).map V.int)), I.laid (t' := s.toks) (fun _ _ => PyProof.Rows.sortedAll_old) (Nat.le_succ _) ⟨hlen, out, n2, vals_of_ints k1, he'⟩, rfl, q _ _ k2 k3 (I.hok.fresh (Nat.le_succ _))⟩
def srtT (xs : List D) (M : Mem) : R D := match intsOf xs with
  | some ns => .ok (.own ((sortN ns).map D.int)) M
  | none => .bad
def sortedX (ds : List D) (M : Mem) : R D := match ds with
  | [.tup xs] => srtT xs M
  | _ => sortedD ds M
theorem srtT_ints (ns : List Int) (M : Mem) : srtT (ns.map D.int) M = .ok (.own ((sortN ns).map D.int)) M := by
  unfold srtT; rw [intsOf_map]
@[simp] theorem sortedX_tup (xs M) : sortedX [.tup xs] M = srtT xs M := nrfl rfl
@[simp] theorem sortedX_own (xs M) : sortedX [.own xs] M = srt1 xs M := nrfl rfl
@[simp] theorem sortedX_brw (xs M) : sortedX [.brw xs] M = srt1 xs M := nrfl rfl
@[simp] theorem sortedX_lst (xs M) : sortedX [.lst xs] M = srt1 xs M := nrfl rfl
@[simp] theorem sEnx_eq (f : SA) (e M) : sEnx f e M = (f e M).bind enm2 := nrfl rfl
@[simp] theorem enm2_lst (xs M) : enm2 [.lst xs] M = .ok (enumL 0 xs) M := nrfl rfl
@[simp] theorem enm2_rol (xs M) : enm2 [.rol xs] M = .ok (enumL 0 xs) M := nrfl rfl
@[simp] theorem enm2_tup (xs M) : enm2 [.tup xs] M = .ok (enumL 0 xs) M := nrfl rfl
def rSortedV (K : PySem.W.Frag) : List V → Hp → VK → Prop := fun vs H Q => rSortedU K vs H Q ∨ rSortedT K vs H Q
theorem call_sortedX : CallR X (.builtin "sorted") (rSortedV X.K) := call_sortedU.or cr_sortedT2
theorem sortedXG : CallG X W (rSortedV X.K) sortedX := by
  intro S w M H σ xs ds Q hs rs p
  by_cases ht : ∃ ys, ds = [.tup ys]
  · obtain ⟨ys, rfl⟩ := ht
    obtain ⟨x, rfl, r⟩ := rs.one
    obtain ⟨a, us, rfl, hq, q⟩ := r.tup hs
    have pp : Pst X.K W w H σ (rlE X.K S) Q (srtT ys M) := p
    unfold srtT at pp
    cases hi : intsOf ys with
    | none => simp only [hi] at pp; exact pp.elim
    | some ns =>
      simp only [hi] at pp
      have ez := intsOf_eq hi
      subst ez
      have eu := Reps.ints_inv q
      subst eu
      refine .inr ⟨a, ns, rfl, hq, fun ms b h1 h2 hb => ?_⟩
      have e := sortN_uniq h1 h2
      subst e
      exact fresh_own hs (Reps.ints _) pp hb
  · refine .inl (sortedG (W := W) S w M H σ xs ds Q hs rs ?_)
    have e : sortedX ds M = sortedD ds M := by
      unfold sortedX
      split
      · exact absurd ⟨_, rfl⟩ ht
      · rfl
    rw [← e]; exact p
end
end L3
namespace L3
open PySem PySem.Spec PyProof.Rows L2
@[simp] theorem isNon_non : isNon .non = true := nrfl rfl
@[simp] theorem isNon_tup (x) : isNon (.tup x) = false := nrfl rfl
@[simp] theorem isNon_lst (x) : isNon (.lst x) = false := nrfl rfl
@[simp] theorem isNon_own (x) : isNon (.own x) = false := nrfl rfl
@[simp] theorem isNon_int (x) : isNon (.int x) = false := nrfl rfl
@[simp] theorem isNon_str (x) : isNon (.str x) = false := nrfl rfl
@[simp] theorem isNon_bl (x) : isNon (.bl x) = false := nrfl rfl
/-! ## loops that only change slots -/
theorem forL_keep {g : SG} {b : SS} {M : Mem} (P : En → Prop) : ∀ (ds : List D) (e : En), P e → (∀ d ∈ ds, ∀ e, P e → ∃ e1 e2, g d e = some e1 ∧ b e1 M = .nx e2 M ∧ P e2) → ∃ e', forL g b ds e M = .nx e' M ∧ P e'
  | [], e, h, _ => ⟨e, by simp, h⟩
  | d :: r, e, h, hb => by
    obtain ⟨e1, e2, h1, h2, h3⟩ := hb d List.mem_cons_self e h
    obtain ⟨e', h4, h5⟩ := forL_keep P r e2 h3 fun d hd => hb d (List.mem_cons_of_mem _ hd)
    exact ⟨e', by rw [forL_cons, h1, for1_some, h2, for2_nx]; exact h4, h5⟩
theorem mem_rangeL {n : Nat} {d : D} (h : d ∈ rangeL 0 n) : ∃ x, x < n ∧ d = .int (x : Nat) := by
  rw [rangeL_row] at h
  obtain ⟨x, hx, rfl⟩ := List.mem_map.mp h
  exact ⟨x, List.mem_range.mp hx, rfl⟩
theorem mem_enumR {n : Nat} {f : Nat → D} {d : D} (h : d ∈ enumL 0 ((List.range n).map f)) : ∃ x, x < n ∧ d = .tup [.int (x : Nat), f x] := by
  obtain ⟨i, hi, rfl⟩ := List.mem_iff_getElem.mp h
  have e := List.getElem?_eq_getElem hi
  obtain ⟨d', e1, e2⟩ := enumL_get 0 _ i _ e
  have hl : i < n := by
    have := (List.getElem?_eq_some_iff.mp e1).1
    simpa using this
  rw [getR f hl] at e1
  cases e1
  rw [Nat.zero_add] at e2
  exact ⟨i, hl, e2⟩
theorem mem_row {n : Nat} {f : Nat → Nat} {d : D} (h : d ∈ row n f) : ∃ x, x < n ∧ d = .int (f x : Nat) := by
  obtain ⟨x, hx, rfl⟩ := List.mem_map.mp h
  exact ⟨x, List.mem_range.mp hx, rfl⟩
/-- what fault looks at -/
structure Rd.Fit (r : Rd) : Prop where
  a1 : 1 ≤ r.la ∧ r.la ≤ 24
  b1 : 1 ≤ r.lb ∧ r.lb ≤ 24
  c1 : 1 ≤ r.lc ∧ r.lc ≤ 24
  n1 : 1 ≤ r.n ∧ r.n ≤ 60
  u : r.e < r.n
  cl : ∀ x y, x < r.n → y < r.n → r.mul x y < r.n
  el : ∀ x, x < r.n → r.mul r.e x = x
  er : ∀ x, x < r.n → r.mul x r.e = x
  as : ∀ x y z, x < r.n → y < r.n → z < r.n → r.mul (r.mul x y) z = r.mul x (r.mul y z)
  l : ∀ a, a < r.la → r.L a < r.n
  w : ∀ a b x, a < r.lb → b < r.lc → x < r.n → r.wr a b x < r.n
theorem Rd.Ok.fit {r : Rd} (R : r.Ok) (h60 : r.n ≤ 60) : r.Fit := ⟨⟨R.a1.1, by have := R.a1.2; omega⟩, ⟨R.b1.1, by have := R.b1.2; omega⟩, ⟨R.c1.1, by have := R.c1.2; omega⟩, ⟨R.m.pos, h60⟩, R.m.u, R.m.cl, R.m.l, R.m.r, R.m.a, R.l, R.w⟩
theorem in62_n (n : Nat) (h : n ≤ 100000) : in62 (n : Int) = true := by unfold in62; simp; omega
theorem accN_asc (r : Rd) : r.accN.Pairwise (· < ·) := List.Pairwise.filter _ List.pairwise_lt_range
theorem accN_lt (r : Rd) {x : Nat} (h : x ∈ r.accN) : x < r.n := List.mem_range.mp (List.mem_filter.mp h).1
theorem accN_len (r : Rd) : r.accN.length ≤ r.n := by
  have := List.length_filter_le r.p (List.range r.n)
  simpa [Rd.accN] using this
theorem pl_nums (m : Nat) (l : List Nat) : plDs m (l.map nD) = true := plDs_map (h := nD) (fun x => by cases m <;> rfl) l
theorem pl_lab (a b c m : Nat) : plD (m + 1) (labD a b c) = true := by
  show plDs m [nD a, nD b, nD c] = true
  exact pl_nums m [a, b, c]
theorem pl_mulL (r : Rd) (m : Nat) : plDs (m + 1) r.mulL = true := by
  rw [plDs_iff]
  intro d hd
  obtain ⟨x, _, rfl⟩ := List.mem_map.mp hd
  exact pl_row m r.n (r.mul x)
theorem pl_wrL (r : Rd) (m : Nat) : plDs (m + 2) r.wrL = true := by
  rw [plDs_iff]
  intro d hd
  obtain ⟨x, _, rfl⟩ := List.mem_map.mp hd
  show plDs (m + 1) _ = true
  rw [plDs_iff]
  intro d hd
  obtain ⟨y, _, rfl⟩ := List.mem_map.mp hd
  exact pl_row m r.n (r.wr x y)
/-- the reader's parts but the accepted ones -/
def Rd.five (r : Rd) : List L3.D := [labD r.la r.lb r.lc, nD r.e, .tup (row r.la r.L), .tup r.mulL, .tup r.wrL]
theorem Rd.pl5 (r : Rd) : plDs 4 r.five = true := by
  rw [plDs_iff]
  intro d hd
  rcases (by simpa [Rd.five] using hd : d = labD r.la r.lb r.lc ∨ d = nD r.e ∨ d = .tup (row r.la r.L) ∨ d = .tup r.mulL ∨ d = .tup r.wrL) with z | z | z | z | z <;> subst z
  · exact pl_lab _ _ _ 3
  · rfl
  · exact pl_row 3 _ _
  · exact pl_mulL r 2
  · exact pl_wrL r 1
theorem Rd.pl (r : Rd) : plD 5 r.D = true := by
  show plDs 4 (r.five ++ [.tup (r.accN.map nD)]) = true
  rw [plDs_iff]
  intro d hd
  rcases List.mem_append.mp hd with h | h
  · exact plDs_iff.mp r.pl5 d h
  · have : d = .tup (r.accN.map nD) := by simpa using h
    subst this
    exact pl_nums 3 _
theorem Rd.same (r : Rd) (neg : Bool) (M : Mem) : eqD neg r.D r.D M = .ok (.bl !neg) M := (eqD_deep rfl).trans (deep_eq (n := 5) (by decide) r.pl rfl)
theorem Rd.cut5 (r : Rd) : cutL [labD r.la r.lb r.lc, nD r.e, .tup (row r.la r.L), .tup r.mulL, .tup r.wrL, (.tup (r.accN.map nD) : L3.D)] none (some 5) = r.five := rfl
theorem Rd.sl5 (r : Rd) (M : Mem) : kSl3 r.D none (some 5) M = .ok (.tup r.five) M := rfl
theorem Rd.five_same (r : Rd) (neg : Bool) (M : Mem) : eqD neg (.tup r.five) (.tup r.five) M = .ok (.bl !neg) M := (eqD_deep rfl).trans (deep_eq (n := 5) (by decide) (by exact r.pl5) rfl)
theorem nums_same (neg : Bool) (l : List Nat) (M : Mem) : eqD neg (.own (l.map nD)) (.own (l.map nD)) M = .ok (.bl !neg) M := (eqD_deep rfl).trans (deep_eq (n := 1) (by decide) (by exact pl_nums 0 l) rfl)
/-- another p -/
def Rd.with (r : Rd) (p : Nat → Bool) : Rd := { r with p := p }
theorem Rd.Ok.with {r : Rd} (R : r.Ok) (p : Nat → Bool) : (r.with p).Ok := ⟨R.a1, R.b1, R.c1, R.m, R.l, R.w⟩
theorem valS_with (r : Rd) (p : Nat → Bool) : ∀ (t : List Pl) (s : List (Nat × Nat)) (c : Nat), valS (r.with p) s c t = valS r s c t
  | [], s, c => by cases s <;> rfl
  | .lt a :: t, s, c => by
    have := valS_with r p t s (r.mul c (r.L a))
    cases s <;> exact this
  | .ca a :: t, s, c => by
    have := valS_with r p t ((c, a) :: s) r.e
    cases s <;> exact this
  | .re b :: t, [], c => rfl
  | .re b :: t, (h, k) :: s, c => valS_with r p t s (r.mul h (r.wr k b c))
theorem den_with (r : Rd) (p : Nat → Bool) (t : List Pl) : den (r.with p) t = den r t := valS_with r p t [] r.e
/-! ## a def's table, from the written part -/
def tabO (ob : Obj) : Option Addr := match ob.data with
  | .fields vs => (match (vs[11]? : Option Value) with
    | some (.ref c) => some c
    | _ => none)
  | _ => none
theorem tabIn_of {K : PySem.W.Frag} {x : Str} {m c P : Addr} {ob u : Obj} {fd : FuncData} (h1 : PySem.W.nsIn K mainGlobals x = some (some (.ref m))) (h2 : K.lookup m = some u) (h3 : u.data = .func fd ∧ fd.code = .ref c) (h4 : K.lookup c = some ob) (h5 : tabO ob = some P) : PySem.W.tabIn K x = some (c, P) := by
  unfold PySem.W.tabIn
  rw [h1]
  obtain ⟨uc, ud, udt, us⟩ := u
  obtain ⟨e1, e2⟩ := h3
  have e1 : udt = .func fd := e1
  subst e1
  simp only [h2, e2, h4]
  obtain ⟨oc, od, odt, osl⟩ := ob
  unfold tabO at h5
  cases odt with
  | fields vs =>
    simp only at h5 ⊢
    split at h5
    · rename_i w e
      cases h5
      rw [e]
    · cases h5
  | _ => cases h5
end L3
namespace L3
open PySem PySem.Spec PyProof.Rows L2
/-! ## raise, try .. except X as n -/
def sRaise (C : Addr) : SS := fun e M => .exc C [] e M
def postX (i : Nat) : RS → RS
  | .nx e M => .nx (e.set i none) M
  | .bk e M => .bk (e.set i none) M
  | .ct e M => .ct (e.set i none) M
  | .rt d M => .rt d M
  | _ => .bad
def sTry (i : Nat) (C : Addr) (h : Addr → SS) (b : SS) : SS := fun e M => match b e M with
  | .exc D fs e2 M2 => if D = C ∧ fs.isEmpty = true then postX i (h 0 (e2.set i (some (.ref 0))) M2) else .bad
  | o => o
def isE (a A : Addr) (v : Bool) (ds : List D) (M : Mem) : R D := match ds with
  | [.ref b, .ref B] => if b = a ∧ B = A then .ok (.bl v) M else .bad
  | _ => .bad
section
variable {K : PySem.W.Frag} {W : WX} {S : Addr → Prop} {w w' : Wd} {H H' : Hp} {σ : L2.St} {e : En} {M : Mem}
theorem SR.unset {i : Nat} (h : SR K S w H σ e) : SR K S w H (σ.set i none) (e.set i none) := by
  have at' : ∀ (j : Nat) (d : D), (e.set i none)[j]? = some (some d) → i ≠ j ∧ e[j]? = some (some d) := fun j d q => by
    rw [List.getElem?_set] at q
    split at q
    · split at q <;> cases q
    · rename_i z; exact ⟨z, q⟩
  have st' : ∀ (j : Nat) (v : V), i ≠ j → (σ.set i none)[j]? = σ[j]? := fun j v z => by
    rw [List.getElem?_set, if_neg z]
  refine ⟨⟨by rw [List.length_set, List.length_set]; exact h.len, fun j d q => ?_⟩, fun j k ds ds' a hjk q1 q2 q3 q4 => ?_⟩
  · obtain ⟨z, q⟩ := at' j d q
    obtain ⟨v, e1, r⟩ := h.at_ j d q
    exact ⟨v, by rw [st' j v z]; exact e1, r⟩
  · obtain ⟨z1, q1⟩ := at' j _ q1
    obtain ⟨z2, q2⟩ := at' k _ q2
    exact h.dist j k ds ds' a hjk q1 q2 (by rw [st' j .non z1] at q3; exact q3) (by rw [st' k .non z2] at q4; exact q4)
theorem PstS.postX {W2 : WX} {i : Nat} {E : Ends} {r : RS} (p : PstS K W S w H E (postX i r)) :
    PstS K W2 S w H { nx := fun σ' H' => E.nx (σ'.set i none) H', rt := E.rt, bk := fun σ' H' => E.bk (σ'.set i none) H', ct := fun σ' H' => E.ct (σ'.set i none) H' } r := by
  cases r with
  | nx e M => exact fun w' H' σ' x s q => p w' H' _ x s q.unset
  | bk e M => exact fun w' H' σ' x s q => p w' H' _ x s q.unset
  | ct e M => exact fun w' H' σ' x s q => p w' H' _ x s q.unset
  | rt d M => exact p
  | exc C fs e M => exact p.elim
  | bad => exact p.elim
end
section
variable {X : Cx} {W : WX}
theorem s_raise {x m : Str} {j : Nat} {p p2 p3 pos : Pos} {C : Addr} {bmB : List Value} {B newId initId : String} (hc : X.calm = true) (tk : Takes X W) (F : ExcBaseFacts B newId initId bmB) (q : PySem.W.excIn X.K C bmB newId = true) (gC : X.mg x = some (.ref C)) (kC : PySem.W.keepIn X.K (.ref C) = true)
    (b : PySem.W.subIn X.K (.ref C) (.type "BaseException") = some true) (t : PySem.W.typeIn X.K (.ref C) = some (.type "type")) (hg : Gl X x) (hdb : (x == ("__debug__" : Str)) = false := by decide) :
    AS X W (.Raise (some (.Call (.Name x p) [.Constant (.str m) j p2] [] p3)) none pos) (sRaise C) :=
  PS.imp (ps_raise hc tk (pmk_own F q gC kC (raises_own b t) hg hdb)) fun E σ H h => by
    obtain ⟨S, w, e, M, hs, sr, lv, p⟩ := h
    exact p w H σ none (.refl _ _) hs sr (.inl ⟨rfl, rfl⟩)
theorem s_try {x n : Str} {C : Addr} {i : Nat} {body suite : List Stmt} {b₀ : Stmt} {np pos pos' : Pos} {b : SS} {h : Addr → SS} (hs : X.stack = X.env :: X.outer) (hf : X.env.frame = some X.env.locals) (hN : X.N.Nodup) (hi : X.N[i]? = some n) (hln : X.env.kindOf n = some .local) (hc : Names X x (.ref C)) (tk : Takes X W)
    (hx : PySem.W.exmOne X.K (.ref C) (.ref C) = some true) (ind : ∀ (a : Addr) (e : En) (M : Mem), postX i (h a (e.set i (some (.ref a))) M) = postX i (h 0 (e.set i (some (.ref 0))) M))
    (hb : ∀ (W2 : WX) (pn : List (Addr × Obj)) (xe : Value → Shared → Prop), Takes (X.tr pn xe) W2 → PassesOwn (model X.prog X.w) X.A X.env xe → ASs (X.tr pn xe) W2 body b)
    (hsu : ∀ (a : Addr) (oe : Obj) (pn : List (Addr × Obj)), Zc (.ref C) none oe → (∃ vs, oe.data = .fields vs) → ASs (X.suite a ((a, oe) :: pn)) (fun _ _ _ _ => False) (b₀ :: suite) (h a)) :
    AS X W (.Try body [.ExceptHandler (some (.Name x np)) (some n) (b₀ :: suite) pos'] [] [] pos) (sTry i C h b) :=
  PS.imp (ps_try_as (tb := fun W2 => tS X.K W2 b) (ts := fun a cls d D σ H => cls = .ref C ∧ d = none ∧ tS X.K (fun _ _ _ _ => False) (h a) D σ H) hs hf hN hi hln hc tk hb fun a oe cls d pn hz hv =>
    ⟨fun pins s σ H D I ⟨e1, e2, q⟩ => by
      subst e1; subst e2
      exact (hsu a oe pn hz hv).run pins s σ H D I q⟩) fun E σ H q => by
    obtain ⟨S, w, e, M, hs, sr, lv, p⟩ := q
    refine ⟨S, w, e, M, hs, sr, lv, ?_⟩
    unfold sTry at p
    cases hb : b e M with
    | nx e2 M2 => simp only [hb] at p; exact p
    | bk e2 M2 => simp only [hb] at p; exact p
    | ct e2 M2 => simp only [hb] at p; exact p
    | rt d M2 => simp only [hb] at p; exact p
    | bad => simp only [hb] at p; exact p
    | exc D fs e2 M2 =>
      simp only [hb] at p
      by_cases hD : D = C ∧ fs.isEmpty = true
      · rw [if_pos hD] at p
        obtain ⟨rfl, hfs⟩ := hD
        have hfs : fs = [] := List.isEmpty_iff.mp hfs
        subst hfs
        intro w' H' σ' od x s r xf
        have ho : od = none := by
          rcases xf with ⟨_, z⟩ | ⟨_, _, z, _⟩
          · exact z
          · exact absurd rfl z
        subst ho
        refine ⟨true, hx, fun _ a ha => ⟨rfl, rfl, S, w', e2.set i (some (.ref a)), M2, s, r.setD (.ref a), lv.on x, ?_⟩, fun z => nomatch z⟩
        have p2 := PstS.shift x p
        rw [← ind a e2 M2] at p2
        exact p2.postX
      · rw [if_neg hD] at p; exact p.elim
theorem isEG {a A D0 : Addr} {v : Bool} (hk : PySem.W.kitOne X.K (.ref D0) (.ref A) = some v) : CallG X W (rIsE X.K D0 a) (isE a A v) := by
  intro S w M H σ xs ds Q hs rs p
  have go : ∃ b B, ds = [.ref b, .ref B] ∧ b = a ∧ B = A := by
    unfold isE at p
    split at p
    · rename_i b B
      by_cases z : b = a ∧ B = A
      · exact ⟨b, B, rfl, z⟩
      · rw [if_neg z] at p; exact p.elim
    · exact p.elim
  obtain ⟨b, B, rfl, rfl, rfl⟩ := go
  cases rs with
  | cons r1 rs =>
    cases rs with
    | cons r2 rs =>
      cases rs
      have e1 : ∀ {v : V} {c : Addr}, RepR X.K w H v (.ref c) → v = .ref c := fun r => by
        rcases r with r | ⟨xs, r | r, _⟩
        · cases r; rfl
        · cases r
        · cases r
      rw [e1 r1, e1 r2]
      refine ⟨.ref B, .ref B, v, rfl, fun u ru => ru, hk, ?_⟩
      have p : Pst X.K W w H σ (rlE X.K S) Q (if b = b ∧ B = B then .ok (.bl v) M else .bad) := p
      rw [if_pos ⟨rfl, rfl⟩] at p
      exact p w H (.bl v) (.refl _ _) hs (.inl (.bl v))
theorem a_isErr {a D0 A : Addr} {oe : Obj} {pn : List (Addr × Obj)} {v : Bool} {y n : Str} {i : Nat} {p p1 p2 pos : Pos} (Ce : ExcC X.K D0) (hz : Zc (.ref D0) none oe) (hf : ∃ vs, oe.data = .fields vs) (hk : PySem.W.kitOne X.K (.ref D0) (.ref A) = some v)
    (hgl : Gl X "isinstance") (hm : X.mg "isinstance" = none) (ha : AA (X.suite a ((a, oe) :: pn)) W [.Name n p1, .Name y p2] (sCons (sVar i) (sCons (sC (.ref A)) sNil))) :
    AE (X.suite a ((a, oe) :: pn)) W (.Call (.Name "isinstance" p) [.Name n p1, .Name y p2] [] pos) (sCall (isE a A v) (sCons (sVar i) (sCons (sC (.ref A)) sNil))) :=
  a_callB (X := X.suite a ((a, oe) :: pn)) (call_isE (X := X) Ce hz hf) (isEG (X := X.suite a ((a, oe) :: pn)) hk) hgl hm boot_isinstance ha
end
/-- the def itself, its exceptions at hand -/
theorem fn_mkE {P : Program} {w0 : World} {K : PySem.W.Frag} {mg : Str → Option Value} {base : Heap} {x qual : Str} {st : Stmt} {f : Addr} {fd : FuncData} {N ps : List Str} {T : List Addr} {k : Nat} {b : SS} (F : Fun K x qual st f fd) (Sc : FnScope N ps (defScope st)) (hl : ps.length ≤ N.length)
    (hb : ∀ (cdv : Value) (A : Around) (outer : List Env) (s : Shared) (H : Hp) (E : XK), Room k (A.deeper (envOfC qual (defScope st) s.heap.objs.size f cdv)) → TOk T H →
      Takes (cxOf (L2.CX P w0) P w0 K mg base N qual (defScope st) f cdv A outer s H E) (fun c od _ H' => E c od H') →
      PassesOwn (model P w0) (cxOf (L2.CX P w0) P w0 K mg base N qual (defScope st) f cdv A outer s H E).A (cxOf (L2.CX P w0) P w0 K mg base N qual (defScope st) f cdv A outer s H E).env (cxOf (L2.CX P w0) P w0 K mg base N qual (defScope st) f cdv A outer s H E).xe →
      ASs (cxOf (L2.CX P w0) P w0 K mg base N qual (defScope st) f cdv A outer s H E) (fun c od _ H' => E c od H') (defBody st) b) : FnOk P w0 K mg base (L2.CX P w0) (k + 1) f fd ps (spS T K ps.length (runF N.length b)) :=
  fn_mk F Sc hl fun cdv A outer s H E hr hTO =>
    have tk := takes_of (X := cxOf (L2.CX P w0) P w0 K mg base N qual (defScope st) f cdv A outer s H E) (E := E) (E₁ := fun e s'' => L2.CX P w0 outer H s E e s'') rfl rfl rfl rfl
    hb cdv A outer s H E hr hTO tk (passes_of (X := cxOf (L2.CX P w0) P w0 K mg base N qual (defScope st) f cdv A outer s H E) (K := fun e s'' => L2.CX P w0 outer H s E e s'') (E₁ := fun e s'' => L2.CX P w0 outer H s E e s'') rfl)
section
variable (e : En) (M : Mem)
@[simp] theorem sRaise_eq (C) : sRaise C e M = .exc C [] e M := nrfl rfl
def try1 (i : Nat) (C : Addr) (h : Addr → SS) (o : RS) : RS := match o with
  | .exc D fs e2 M2 => if D = C ∧ fs.isEmpty = true then postX i (h 0 (e2.set i (some (.ref 0))) M2) else .bad
  | o => o
theorem sTry_eq (i C h b) : sTry i C h b e M = try1 i C h (b e M) := rfl
@[simp] theorem try1_rt (i C h d) : try1 i C h (.rt d M) = .rt d M := nrfl rfl
@[simp] theorem try1_nx (i C h) : try1 i C h (.nx e M) = .nx e M := nrfl rfl
theorem try1_exc (i C h) : try1 i C h (.exc C [] e M) = postX i (h 0 (e.set i (some (.ref 0))) M) := by
  unfold try1; simp
@[simp] theorem postX_rt (i d) : postX i (.rt d M) = .rt d M := nrfl rfl
@[simp] theorem postX_nx (i) : postX i (.nx e M) = .nx (e.set i none) M := nrfl rfl
theorem isE_eq (a A v) : isE a A v [.ref a, .ref A] M = .ok (.bl v) M := by unfold isE; simp
end
/-! ## an own error's class -/
structure ECls (K : PySem.W.Frag) (mg : Str → Option Value) (x : Str) (C : Addr) : Prop where
  g : mg x = some (.ref C)
  k : PySem.W.keepIn K (.ref C) = true
  x : PySem.W.excIn K C [.type "ValueError", .type "Exception", .type "BaseException", .type "object"] "ValueError.__new__" = true
  b : PySem.W.subIn K (.ref C) (.type "BaseException") = some true
  t : PySem.W.typeIn K (.ref C) = some (.type "type")
  i : PySem.W.isClsIn K C = true
  s : PySem.W.subIn K (.ref C) (.ref C) = some true
  e : ExcC K C
theorem kitCls_of {K : PySem.W.Frag} {C : Addr} {t : Value} {v : Bool} (h1 : PySem.W.isClsIn K C = true) (h2 : PySem.W.typeIn K (.ref C) = some (.type "type")) (h3 : PySem.W.subIn K t (.ref C) = some v) : PySem.W.kitCls K t (.ref C) = some v := by
  have h1 : (PySem.W.clsIn K C).isSome = true := h1
  simp [PySem.W.kitCls, h1, h2, h3]
theorem exm1 {K : PySem.W.Frag} {c t : Value} {v : Bool} (h1 : PySem.W.subIn K c (.type "BaseException") = some true) (h2 : PySem.W.kitCls K t c = some v) : PySem.W.exmOne K t c = some v := by
  simp [PySem.W.exmOne, h1, h2]
theorem kit1 {K : PySem.W.Frag} {c t : Value} (h2 : PySem.W.kitCls K t c = some true) : PySem.W.kitOne K t c = some true := by
  unfold PySem.W.kitOne
  split
  · rfl
  · exact h2
theorem eget_set {e : En} {i : Nat} {d : D} (h : i < e.length) : eget (e.set i (some d)) i = some d := by
  rw [eget_iff]; simp [h]
@[simp] theorem var1_ref (a : Addr) (M : Mem) : var1 (some (.ref a)) M = .ok (.ref a) M := nrfl rfl
@[simp] theorem fz1_ref (a : Addr) (M : Mem) : fz1 (.ref a) M = .ok (.ref a) M := nrfl rfl
theorem var1_none (M : Mem) : var1 none M = .bad := rfl
theorem eget_none {e : En} {i : Nat} {o : Option D} (h : ¬ i < e.length) : eget (e.set i o) i = none := by
  cases z : eget (e.set i o) i with
  | none => rfl
  | some d =>
    have := (List.getElem?_eq_some_iff.mp (eget_iff.mp z)).1
    rw [List.length_set] at this
    exact absurd this h
end L3
namespace L3
open PySem PySem.Spec PyProof.Rows L2
/-! ## x in d, list(d), for dicts -/
def kD : Key → D
  | .inl i => .int i
  | .inr x => .str x
theorem keyOf_eq {d : D} {k : Key} (h : keyOf d = some k) : d = kD k := by
  cases d <;> first | (cases h; rfl) | cases h
def inX (neg : Bool) (a b : D) (M : Mem) : R D := match b with
  | .cell n => match cellD M n, keyOf a with
    | some kvs, some k => .ok (.bl (if neg then !(dget kvs k).isSome else (dget kvs k).isSome)) M
    | some _, none => .bad
    | none, _ => inD neg a (.cell n) M
  | b => inD neg a b M
def rInX (K : PySem.W.Frag) (neg : Bool) : R2 := fun x y H Q => rInU K neg x y H Q ∨ ∃ a o, y = .ref a ∧ DGet H a x o ∧ Q (.bl (if neg then !o.isSome else o.isSome)) H
section
variable {X : Cx} {W : WX} {pos : Pos}
theorem op_inX (hu : X.A.units + 65 < cLine) : OpR X (compareOp .In) (rInX X.K false) := by
  refine (op_inU hu).or ?_
  intro pins s σ H x y v u Q I rx ry q
  obtain ⟨a, o, rfl, g, q⟩ := q
  cases ry
  exact d_in (by omega) I g rx fun s' I' => ⟨.bl o.isSome, H, I', rfl, q⟩
theorem op_notInX (hu : X.A.units + 65 < cLine) : OpR X (compareOp .NotIn) (rInX X.K true) := by
  refine (op_notInU hu).or ?_
  intro pins s σ H x y v u Q I rx ry q
  obtain ⟨a, o, rfl, g, q⟩ := q
  cases ry
  exact d_notIn (by omega) I g rx fun s' I' => ⟨.bl (!o.isSome), H, I', rfl, q⟩
theorem RepR.keyX {K : PySem.W.Frag} {w : Wd} {H : Hp} {v : V} {d : D} {k : Key} (r : RepR K w H v d) (h : keyOf d = some k) : v = kV k := by
  have e := keyOf_eq h
  subst e
  cases k with
  | inl i => exact r.int
  | inr x => exact r.str
theorem RepR.dic {K : PySem.W.Frag} {w : Wd} {M : Mem} {H : Hp} {v : V} {n : Nat} {kvs : List (Key × D)} (r : RepR K w H v (.cell n)) (hs : HS K w M H) (h : cellD M n = some kvs) : ∃ a us, v = .ref a ∧ H a = some (.dK us) ∧ KvR K w us kvs := by
  rcases r with r | ⟨_, h | h, _⟩
  · cases r with
    | cell hn =>
      obtain ⟨_, us, hH, q⟩ := hs.cells n _ _ hn (cellD_some h)
      exact ⟨_, us, rfl, hH, q⟩
  · cases h
  · cases h
theorem inXG (neg : Bool) : OpG X W (rInX X.K neg) (inX neg) := by
  intro S w M H σ x y d1 d2 Q hs r1 r2 p
  by_cases hc : ∃ n kvs, d2 = .cell n ∧ cellD M n = some kvs
  · obtain ⟨n, kvs, rfl, hk⟩ := hc
    obtain ⟨a, us, rfl, hH, q⟩ := r2.dic hs hk
    unfold inX at p
    simp only [hk] at p
    cases e : keyOf d1 with
    | none => simp only [e] at p; exact p.elim
    | some k =>
      simp only [e] at p
      have ex := r1.keyX e
      subst ex
      refine .inr ⟨a, valV us k, rfl, .k hH, ?_⟩
      have es : (valV us k).isSome = (dget kvs k).isSome := by
        cases e2 : dget kvs k with
        | none => rw [q.getN e2]; rfl
        | some d => obtain ⟨v, h1, _⟩ := q.get e2; rw [h1]; rfl
      rw [es]
      exact p w H _ (.refl _ _) hs (.inl (.bl _))
  · refine .inl (inG (W := W) neg S w M H σ x y d1 d2 Q hs r1 r2 ?_)
    have e : inX neg d1 d2 M = inD neg d1 d2 M := by
      unfold inX
      split
      · rename_i n
        cases hk : cellD M n with
        | none => simp only
        | some kvs => exact absurd ⟨n, kvs, rfl, hk⟩ hc
      · rfl
    rw [← e]; exact p
/-- list of a dict too -/
def listX (ds : List D) (M : Mem) : R D := match ds with
  | [.cell n] => match cellD M n with
    | some kvs => .ok (.own (kvs.map fun kv => kD kv.1)) M
    | none => listD [.cell n] M
  | ds => listD ds M
theorem reps_keys {K : PySem.W.Frag} {w : Wd} : ∀ {us : List (Key × V)} {ds : List (Key × D)}, KvR K w us ds → Reps K w (us.map fun kv => kV kv.1) (ds.map fun kv => kD kv.1)
  | _, _, .nil => .nil
  | _, _, .cons (f := f) _ t => .cons (by cases f <;> first | exact .int _ | exact .str _) (reps_keys t)
theorem call_listX (hc : X.calm = true) : CallR X (.type "list") (fun xs H Q => (∃ p ys, xs = [.ref p] ∧ (SqL X.K H p ys ∨ SqT X.K H p ys) ∧ ∀ l, H l = none → Q (.ref l) (upd H l (.lst ys))) ∨
    ∃ (a : Addr) (kvs : List (Key × V)), xs = [.ref a] ∧ L2.Rd H a (.dK kvs) ∧ ∀ p, H p = none → Q (.ref p) (upd H p (.lst (kvs.map fun kv => kV kv.1)))) := call_list_of.or (call_listD hc)
theorem listXG : CallG X W (fun xs H Q => (∃ p ys, xs = [.ref p] ∧ (SqL X.K H p ys ∨ SqT X.K H p ys) ∧ ∀ l, H l = none → Q (.ref l) (upd H l (.lst ys))) ∨
    ∃ (a : Addr) (kvs : List (Key × V)), xs = [.ref a] ∧ L2.Rd H a (.dK kvs) ∧ ∀ p, H p = none → Q (.ref p) (upd H p (.lst (kvs.map fun kv => kV kv.1)))) listX := by
  intro S w M H σ xs ds Q hs rs p
  by_cases hc : ∃ n kvs, ds = [.cell n] ∧ cellD M n = some kvs
  · obtain ⟨n, kvs, rfl, hk⟩ := hc
    obtain ⟨x, rfl, r⟩ := rs.one
    obtain ⟨a, us, rfl, hH, q⟩ := r.dic hs hk
    unfold listX at p
    simp only [hk] at p
    exact .inr ⟨a, us, rfl, .inl hH, fun b hb => fresh_own hs (reps_keys q) p hb⟩
  · refine .inl (listG (W := W) S w M H σ xs ds Q hs rs ?_)
    have e : listX ds M = listD ds M := by
      unfold listX
      split
      · rename_i n
        cases hk : cellD M n with
        | none => simp only
        | some kvs => exact absurd ⟨n, kvs, rfl, hk⟩ hc
      · rfl
    rw [← e]; exact p
end
section
variable (M : Mem)
theorem inX_dic (neg : Bool) (n : Nat) (a : D) (kvs : List (Key × D)) (k : Key) (h : cellD M n = some kvs) (hk : keyOf a = some k) : inX neg a (.cell n) M = .ok (.bl (if neg then !(dget kvs k).isSome else (dget kvs k).isSome)) M := by
  unfold inX; simp only [h, hk]
@[simp] theorem inX_tup (neg a xs) : inX neg a (.tup xs) M = inD neg a (.tup xs) M := nrfl rfl
@[simp] theorem inX_lst (neg a xs) : inX neg a (.lst xs) M = inD neg a (.lst xs) M := nrfl rfl
@[simp] theorem inX_own (neg a xs) : inX neg a (.own xs) M = inD neg a (.own xs) M := nrfl rfl
@[simp] theorem inX_brw (neg a xs) : inX neg a (.brw xs) M = inD neg a (.brw xs) M := nrfl rfl
@[simp] theorem inX_rol (neg a xs) : inX neg a (.rol xs) M = inD neg a (.rol xs) M := nrfl rfl
theorem inX_nocell {b : D} (neg a) (h : ∀ n, b ≠ .cell n) : inX neg a b M = inD neg a b M := by
  cases b <;> first | rfl | exact absurd rfl (h _)
theorem listX_dic (n : Nat) (kvs : List (Key × D)) (h : cellD M n = some kvs) : listX [.cell n] M = .ok (.own (kvs.map fun kv => kD kv.1)) M := by
  unfold listX; simp only [h]
@[simp] theorem listX_tup (xs) : listX [.tup xs] M = .ok (.own xs) M := nrfl rfl
@[simp] theorem listX_lst (xs) : listX [.lst xs] M = .ok (.own xs) M := nrfl rfl
@[simp] theorem listX_own (xs) : listX [.own xs] M = .ok (.own xs) M := nrfl rfl
@[simp] theorem listX_brw (xs) : listX [.brw xs] M = .ok (.own xs) M := nrfl rfl
@[simp] theorem listX_rol (xs) : listX [.rol xs] M = .ok (.own xs) M := nrfl rfl
end
/-! ## instances that never change -/
def okX {α : Type} : R α → R α
  | .ok a M => .ok a M
  | _ => .bad
def fgetD : List (Str × D) → Str → Option D
  | [], _ => none
  | (k, d) :: r, f => if k = f then some d else fgetD r f
theorem Rep.obj_inv {K : PySem.W.Frag} {w : Wd} {v : V} {C : Addr} {fs : List (Str × D)} (r : Rep K w v (.obj C fs)) : ∃ a dx us, v = .ref a ∧ w.B a = some (.ins C dx us) ∧ FsR K w us fs := by
  cases r with
  | obj h q => exact ⟨_, _, _, rfl, h, q⟩
theorem cx_no {P : Program} {w : World} {outer : List Env} {H : Hp} {s s' : Shared} {e : Value} (h : L2.CX P w outer H s (fun _ _ _ => False) e s') : False := by
  obtain ⟨_, _, _, _, _, _, _, _, _, _, _, _, z⟩ := h
  exact z
theorem FsR.get {K : PySem.W.Frag} {w : Wd} : ∀ {us : List (Str × V)} {ds : List (Str × D)}, FsR K w us ds → ∀ {f : Str} {d : D}, fgetD ds f = some d → ∃ v, us.lookup f = some v ∧ Rep K w v d
  | _, _, .nil, _, _, e => by cases e
  | _, _, .cons (f := g) (v := v) (d := d0) r t, f, d, e => by
    unfold fgetD at e
    by_cases h : g = f
    · rw [if_pos h] at e
      cases e
      subst h
      exact ⟨v, by simp [List.lookup], r⟩
    · rw [if_neg h] at e
      obtain ⟨v', h1, h2⟩ := FsR.get t e
      refine ⟨v', ?_, h2⟩
      have : (f == g) = false := beq_false_of_ne (fun z => h z.symm)
      simp [List.lookup, this, h1]
theorem FsR.getN {K : PySem.W.Frag} {w : Wd} : ∀ {us : List (Str × V)} {ds : List (Str × D)}, FsR K w us ds → ∀ {f : Str}, fgetD ds f = none → us.lookup f = none
  | _, _, .nil, _, _ => rfl
  | _, _, .cons (f := g) r t, f, e => by
    unfold fgetD at e
    by_cases h : g = f
    · rw [if_pos h] at e; cases e
    · rw [if_neg h] at e
      have : (f == g) = false := beq_false_of_ne (fun z => h z.symm)
      simp [List.lookup, this, FsR.getN t e]
def fld1 (C : Addr) (f : Str) (d : D) (M : Mem) : R D := match d with
  | .obj B fs => if B = C then ofO (fgetD fs f) M else .bad
  | _ => .bad
def sFld (C : Addr) (f : Str) (fo : SE) : SE := fun e M => (fo e M).bind (fld1 C f)
def meth1 (C : Addr) (m : Str) (g : Fn) (fa : SA) (e : En) (d : D) (M : Mem) : R D := match d with
  | .obj B fs => if B = C ∧ fgetD fs m = none then (fa e M).bind fun ds M => okX (g (.obj B fs :: ds) M) else .bad
  | _ => .bad
def sMeth (C : Addr) (m : Str) (g : Fn) (fo : SE) (fa : SA) : SE := fun e M => (fo e M).bind (meth1 C m g fa e)
def mk1 (C : Addr) (f : Str) (ds : List D) (M : Mem) : R D := match ds with
  | [d] => .ok (.obj C [(f, d)]) M
  | _ => .bad
def sMake (C : Addr) (f : Str) (fa : SA) : SE := fun e M => (fa e M).bind (mk1 C f)
/-- def __init__(self, f): self.f = f -/
def spI (C : Addr) (f : Str) : Sp := fun vs H Q E => ∃ x dx v, vs = [.ref x, v] ∧ H x = some (.ins C dx []) ∧ Q .non (upd H x (.ins C dx [(f, v)]))
section
variable {X : Cx} {W : WX} {pos : Pos}
theorem PE.tok {T : List Addr} {e : Expr} {t : TE} (h : PE X e t) (hT : TOk T X.H_0) : PE X e (fun σ H Q => t σ H fun v H1 => TOk T H1 → Q v H1) :=
  ⟨fun pins s σ H Q I q => thn (h.run pins s σ H _ I q) fun us s1 ⟨vs, H1, I1, r1, q1⟩ => ⟨vs, H1, I1, r1, q1 (hT.at I1)⟩⟩
theorem a_fld {e : Expr} {f : Str} {C : Addr} {fo : SE} (h : AF X W e fo) (c : Cls X.K C) (n : NoAttr X.K C f) (hb : attributeBase e f X.env (eval e X.env) = eval e X.env := by rfl) : AE X W (.Attribute e f pos) (sFld C f fo) :=
  PE.imp (pe_fld h hb) fun σ H Q q => tG.step (k := fun _ d M => fld1 C f d M) (fun _ => bkE) q fun S w e w' M' H' v d s sx x r p => by
    have r : Rep X.K w' v d := r
    cases d with
    | obj B fs =>
      obtain ⟨a, dx, us, rfl, hb, q1⟩ := r.obj_inv
      have p : Pst X.K W w' H' σ (rlE X.K S) Q (if B = C then ofO (fgetD fs f) M' else .bad) := p
      by_cases hB : B = C
      · subst hB
        rw [if_pos rfl] at p
        obtain ⟨d, e1, k⟩ := ofO_G s p
        obtain ⟨v, h1, h2⟩ := q1.get e1
        exact ⟨a, B, dx, us, v, rfl, s.same _ _ hb, c, n, h1, k v h2⟩
      · rw [if_neg hB] at p; exact p.elim
    | _ => exact p.elim
theorem Pst.okX {α β : Type} {K : PySem.W.Frag} {W : WX} {w : Wd} {H : Hp} {σ : L2.St} {rel : Rl β α} {Q : β → Hp → Prop} {r : R α} (p : Pst K W w H σ rel Q (okX r)) : Pst K (fun _ _ _ _ => False) w H [] rel Q r := by
  cases r with
  | ok a M => exact p
  | exc C fs M => exact p.elim
  | bad => exact p.elim
theorem a_meth {T : List Addr} {pl : Sem Bool} {k : Nat} {f C : Addr} {fd : FuncData} {ps : List Str} {n : Nat} {g : Fn} {m : Str} {o e : Expr} {es : List Expr} {p apos : Pos} {fo : SE} {fa : SA} (F : FnOk X.prog X.w X.K X.mg X.base (L2.CX X.prog X.w) k f fd ps (spS T X.K n g)) (hT : TOk T X.H_0) (hr : Room k X.A) (c : Cls X.K C) (hm : Meth X.K C m f) (hb : Binds X.K fd ps [])
    (ho : AF X W o fo) (ha : AAf X W (e :: es) fa) (hn : (e :: es).length + 1 = n) (hl : ∀ en M ds M', fa en M = .ok ds M' → ds.length + 1 = n)
    (hst : starEach (e :: es) X.env = (false, eval e X.env) :: starEach es X.env := by rfl) (hpl : (backTo p (starEach es X.env)).any (·.1) = false := by rfl)
    (ht : eval (.Call (.Attribute o m apos) (e :: es) [] p) X.env = (do
      let ov ← eval o X.env
      standAt apos.atName
      let (f, first) ← holding [ov] (getMethod ov m pl)
      callWith p f first (backTo p (starEach (e :: es) X.env)) (backToKw p (keywordEach [] X.env))) := by rfl) :
    AE X W (.Call (.Attribute o m apos) (e :: es) [] p) (sMeth C m g fo fa) :=
  PE.imp (pe_meth (E := fun _ _ _ => False) ho c hm F hr hb .nil (fun _ _ _ _ _ _ _ h => (cx_no h).elim) (PA.tok ha hT) hst hpl ht) fun σ H Q q =>
    tG.step (k := fun e d M => meth1 C m g fa e d M) (fun _ => bkE) q fun S w en w' M' H' v d s sx x r p => by
      have r : Rep X.K w' v d := r
      cases d with
      | obj B fs =>
        have p2 : Pst X.K W w' H' σ (rlE X.K S) Q (if B = C ∧ fgetD fs m = none then (fa en M').bind fun ds M => okX (g (.obj B fs :: ds) M) else .bad) := p
        by_cases hB : B = C ∧ fgetD fs m = none
        · rw [if_pos hB] at p2
          obtain ⟨rfl, hf⟩ := hB
          obtain ⟨a, dx, us, rfl, hbb, q1⟩ := r.obj_inv
          · refine ⟨a, dx, us, rfl, s.same _ _ hbb, q1.getN hf, S, w', en, M', s, sx, ?_⟩
            cases hfa : fa en M' with
            | bad => rw [hfa] at p2; exact p2
            | exc D gs M2 => rw [hfa] at p2; exact p2
            | ok ds M2 =>
              rw [hfa] at p2
              intro w2 H2 vs y s2 rs hTO
              have rs : Reps X.K w2 vs ds := rs
              have r2 : Rep X.K w2 (.ref a) (.obj B fs) := r.mono y
              have hlen := hl _ _ _ _ hfa
              refine ⟨by rw [List.append_nil, List.length_cons, rs.length]; exact hlen, hTO, w2, .obj B fs :: ds, M2, s2, by rw [List.append_nil]; exact .cons r2 rs, ?_⟩
              have p1 : Pst X.K W w2 H2 σ (rlE X.K S) Q (okX (g (.obj B fs :: ds) M2)) := Pst.shift bkE y p2
              exact (Pst.okX p1).imp fun a M2 w2 H2 v y s2 _ q2 k2 => k2 v (.inl q2)
        · rw [if_neg hB] at p2; exact p2.elim
      | _ => exact p.elim
end
end L3
namespace L3
open PySem PySem.Spec PyProof.Rows L2
section
variable {X : Cx} {W : WX} {pos : Pos}
theorem a_meth0 {T : List Addr} {pl : Sem Bool} {k : Nat} {f C : Addr} {fd : FuncData} {ps : List Str} {g : Fn} {m : Str} {o : Expr} {p apos : Pos} {fo : SE} (F : FnOk X.prog X.w X.K X.mg X.base (L2.CX X.prog X.w) k f fd ps (spS T X.K 1 g)) (hT : TOk T X.H_0) (hr : Room k X.A) (c : Cls X.K C) (hm : Meth X.K C m f) (hb : Binds X.K fd ps [])
    (ho : AF X W o fo)
    (ht : eval (.Call (.Attribute o m apos) [] [] p) X.env = (do
      let ov ← eval o X.env
      standAt apos.atName
      let (f, first) ← holding [ov] (getMethod ov m pl)
      callWith p f first (backTo p (starEach [] X.env)) (backToKw p (keywordEach [] X.env))) := by rfl) :
    AE X W (.Call (.Attribute o m apos) [] [] p) (sMeth C m g fo sNil) :=
  PE.imp (pe_meth0 (E := fun _ _ _ => False) (PE.tok ho hT) c hm F hr hb .nil (fun _ _ _ _ _ _ _ h => (cx_no h).elim) ht) fun σ H Q q =>
    tG.step (k := fun e d M => meth1 C m g sNil e d M) (fun _ => bkE) q fun S w en w' M' H' v d s sx x r p hTO => by
      have r : Rep X.K w' v d := r
      cases d with
      | obj B fs =>
        have p2 : Pst X.K W w' H' σ (rlE X.K S) Q (if B = C ∧ fgetD fs m = none then (sNil en M').bind fun ds M => okX (g (.obj B fs :: ds) M) else .bad) := p
        by_cases hB : B = C ∧ fgetD fs m = none
        · rw [if_pos hB] at p2
          obtain ⟨rfl, hf⟩ := hB
          obtain ⟨a, dx, us, rfl, hbb, q1⟩ := r.obj_inv
          have p3 : Pst X.K W w' H' σ (rlE X.K S) Q (okX (g [.obj B fs] M')) := p2
          exact ⟨a, dx, us, rfl, s.same _ _ hbb, q1.getN hf, rfl, hTO, w', [.obj B fs], M', s, .cons r .nil, (Pst.okX p3).imp fun a M2 w2 H2 v y s2 _ q2 k2 => k2 v (.inl q2)⟩
        · rw [if_neg hB] at p2; exact p2.elim
      | _ => exact p.elim
theorem upd_twice {H : Hp} {a : Addr} {o u : HO} : upd (upd H a o) a u = upd H a u := by
  funext b
  by_cases h : b = a
  · subst h; rw [upd_same, upd_same]
  · rw [upd_ne h, upd_ne h, upd_ne h]
theorem a_make {k : Nat} {f C : Addr} {fd : FuncData} {ps : List Str} {x fld : Str} {p : Pos} {e : Expr} {fa : SA} (Mc : Mk X.K C f) (F : FnOk X.prog X.w X.K X.mg X.base (L2.CX X.prog X.w) k f fd ps (spI C fld)) (hr : Room (k + 1) X.A) (hg : Gl X x) (hm : X.mg x = some (.ref C)) (hb : Binds X.K fd ps [])
    (ha : AAf X W [e] fa) (hdb : (x == ("__debug__" : Str)) = false := by decide) (he : starEach [e] X.env = [(false, eval e X.env)] := by rfl) :
    AE X W (.Call (.Name x p) [e] [] pos) (sMake C fld fa) :=
  PE.imp (pe_make (E := fun _ _ _ => False) Mc F hr hg hm hb .nil (fun _ _ _ _ _ _ _ h => (cx_no h).elim) ha hdb he) fun σ H Q q =>
    tG.step (k := fun _ ds M => mk1 C fld ds M) (fun _ => bkE) q fun S w en w' M' H' vs ds s sx y r p => by
      have r : Reps X.K w' vs ds := r
      intro a dx h1 h2 h3
      match ds, r, p with
      | [], _, p => exact p.elim
      | _ :: _ :: _, _, p => exact p.elim
      | [d], .cons (v := v) r1 .nil, p =>
        refine ⟨a, dx, v, rfl, upd_same, rfl, ?_⟩
        rw [upd_twice]
        obtain ⟨s1, y1⟩ := s.loose (o := .own a) h2
        obtain ⟨s2, y2⟩ := s1.imm (p := a) (o := .ins C dx [(fld, v)]) (by rw [upd_ne (Ne.symm h3)]; exact h1)
        exact p _ _ (.ref a) (y1.trans y2) s2 (.inl (.obj (us := [(fld, v)]) upd_same (.cons ((r1.mono y1).mono y2) .nil)))
end
/-- def __init__(self, f): self.f = f -/
theorem init_ok {P : Program} {w0 : World} {K : PySem.W.Frag} {mg : Str → Option Value} {base : Heap} {x qual y z fld : Str} {st : Stmt} {f C : Addr} {fd : FuncData} {k : Nat} {p1 p2 p3 pos : Pos} (F : Fun K x qual st f fd) (Sc : FnScope [y, z] [y, z] (defScope st)) (hbd : defBody st = [.Assign [.Attribute (.Name y p1) fld p2] (.Name z p3) pos]) (c : Cls K C) (n : NoAttr K C fld)
    (hl : ∀ (cdv : Value) (A : Around) (outer : List Env) (s : Shared) (H : Hp) (E : XK), PE (cxOf (L2.CX P w0) P w0 K mg base [y, z] qual (defScope st) f cdv A outer s H E) (.Name y p1) (tVar 0) ∧ PE (cxOf (L2.CX P w0) P w0 K mg base [y, z] qual (defScope st) f cdv A outer s H E) (.Name z p3) (tVar 1) ∧
      swapsWith (.Name z p3) (some (.Attribute (.Name y p1) fld p2)) pos.line (cxOf (L2.CX P w0) P w0 K mg base [y, z] qual (defScope st) f cdv A outer s H E).env = pure false) :
    FnOk P w0 K mg base (L2.CX P w0) (k + 1) f fd [y, z] (spI C fld) := by
  refine F.okX Sc (fun vs H Q E h => by obtain ⟨_, _, _, rfl, _⟩ := h; rfl) fun cdv A outer s H vs Q E hr h => ?_
  obtain ⟨a, dx, v, rfl, hx, q⟩ := h
  obtain ⟨h1, h2, h3⟩ := hl cdv A outer s H E
  rw [hbd]
  exact ⟨_, pss_one (ps_fld h1 h2 h3), v, rfl, .ref a, rfl, a, C, dx, [], rfl, hx, c, n, by decide, q⟩
/-- a method, as the walk finds it -/
structure Dm (K : PySem.W.Frag) (C : Addr) (mn qual : Str) (st : Stmt) (ps : List Str) (a : Addr) (fd : FuncData) : Prop where
  m : Meth K C mn a
  F : Fun K mn qual st a fd
  b : Binds K fd ps []
structure OCls (K : PySem.W.Frag) (mg : Str → Option Value) (x fld : Str) (C : Addr) : Prop where
  g : mg x = some (.ref C)
  c : Cls K C
  n : NoAttr K C fld
section
variable (e : En) (M : Mem)
@[simp] theorem sFld_eq (C f fo) : sFld C f fo e M = (fo e M).bind (fld1 C f) := nrfl rfl
@[simp] theorem fld1_obj (C f fs) : fld1 C f (.obj C fs) M = ofO (fgetD fs f) M := by
  show (if C = C then _ else _) = _
  rw [if_pos rfl]
@[simp] theorem fgetD_cons (k d r f) : fgetD ((k, d) :: r) f = if k = f then some d else fgetD r f := nrfl rfl
@[simp] theorem fgetD_nil (f) : fgetD [] f = none := nrfl rfl
@[simp] theorem sMake_eq (C f fa) : sMake C f fa e M = (fa e M).bind (mk1 C f) := nrfl rfl
@[simp] theorem mk1_one (C f d) : mk1 C f [d] M = .ok (.obj C [(f, d)]) M := nrfl rfl
def meth2 (g : Fn) (o : D) (ds : List D) (M : Mem) : R D := okX (g (o :: ds) M)
@[simp] theorem sMeth_eq (C m g fo fa) : sMeth C m g fo fa e M = (fo e M).bind (meth1 C m g fa e) := nrfl rfl
theorem meth1_obj (C m g fa fs) (h : fgetD fs m = none) : meth1 C m g fa e (.obj C fs) M = (fa e M).bind (meth2 g (.obj C fs)) := by
  show (if C = C ∧ fgetD fs m = none then _ else _) = _
  rw [if_pos ⟨rfl, h⟩]; rfl
@[simp] theorem meth2_eq (g o ds) : meth2 g o ds M = okX (g (o :: ds) M) := nrfl rfl
@[simp] theorem okX_ok {α : Type} (a : α) : okX (.ok a M) = .ok a M := nrfl rfl
end
end L3
namespace L3
open PySem PySem.Spec PyProof.Rows L2
/-! ## while -/
theorem sWhile_of {c : SB} {b : SS} {n : Nat} {e : En} {M : Mem} {o : RS} (h : whileN c b n e M = o) (ho : o ≠ .bad) : sWhile c b e M = o := by
  have hx : ∃ n, whileN c b n e M ≠ .bad := ⟨n, by rw [h]; exact ho⟩
  unfold sWhile
  rw [dif_pos hx]
  have h1 := Classical.choose_spec hx
  rcases Nat.le_total n (Classical.choose hx) with hl | hl
  · obtain ⟨k, hk⟩ := Nat.exists_eq_add_of_le hl
    rw [hk, whileN_mono c b n k e M (by rw [h]; exact ho)]; exact h
  · obtain ⟨k, hk⟩ := Nat.exists_eq_add_of_le hl
    rw [← whileN_mono c b _ k e M h1, ← hk]; exact h
theorem while_out {c : SB} {b : SS} {e : En} {M M1 : Mem} (h : c e M = .ok false M1) : ∃ n, whileN c b n e M = .nx e M1 := ⟨1, by unfold whileN; rw [h]; rfl⟩
theorem while_rt {c : SB} {b : SS} {e : En} {M M1 M2 : Mem} {d : D} (h : c e M = .ok true M1) (h2 : b e M1 = .rt d M2) : ∃ n, whileN c b n e M = .rt d M2 := ⟨1, by
  unfold whileN
  rw [h]
  simp only [R.bindS_ok, if_true, h2]⟩
theorem while_in {c : SB} {b : SS} {e e2 : En} {M M1 M2 : Mem} {o : RS} (h : c e M = .ok true M1) (h2 : b e M1 = .nx e2 M2) (h3 : ∃ n, whileN c b n e2 M2 = o) : ∃ n, whileN c b n e M = o := by
  obtain ⟨n, h3⟩ := h3
  refine ⟨n + 1, ?_⟩
  rw [← h3]
  show (c e M).bindS e _ = _
  rw [h]
  simp only [R.bindS_ok, if_true, h2]
/-! ## loops over lists of numbers -/
theorem forL_lst {α : Type} {g : SG} {b : SS} {M : Mem} (h : α → D) (P : List α → En → Prop) (xs : List α) {e : En} (hs : ∀ pre x e, x ∈ xs → pre.length < xs.length → P pre e → ∃ e1 e2, g (h x) e = some e1 ∧ b e1 M = .nx e2 M ∧ P (pre ++ [x]) e2) (h0 : P [] e) : ∃ e', forL g b (xs.map h) e M = .nx e' M ∧ P xs e' := by
  have aux : ∀ (ys pre : List α) (e : En), xs = pre ++ ys → P pre e → ∃ e', forL g b (ys.map h) e M = .nx e' M ∧ P xs e' := by
    intro ys
    induction ys with
    | nil => intro pre e hx hp; rw [List.append_nil] at hx; subst hx; exact ⟨e, by simp, hp⟩
    | cons y ys ih =>
      intro pre e hx hp
      obtain ⟨e1, e2, h1, h2, h3⟩ := hs pre y e (by rw [hx]; simp) (by rw [hx]; simp) hp
      obtain ⟨e', h4, h5⟩ := ih (pre ++ [y]) e2 (by rw [hx]; simp) h3
      refine ⟨e', ?_, h5⟩
      rw [List.map_cons, forL_cons, h1, for1_some, h2, for2_nx]
      exact h4
  exact aux xs [] e rfl h0
/-! ## what is found -/
def addAll (f : List Nat) : List Nat → List Nat
  | [] => f
  | x :: r => addAll (if x ∈ f then f else f ++ [x]) r
structure Good (n : Nat) (f : List Nat) : Prop where
  nd : f.Nodup
  lt : ∀ x ∈ f, x < n
theorem Good.snoc {n : Nat} {f : List Nat} (h : Good n f) {x : Nat} (hx : x < n) (hf : x ∉ f) : Good n (f ++ [x]) := by
  refine ⟨List.nodup_append.mpr ⟨h.nd, by simp, fun a ha b hb e => ?_⟩, fun y hy => ?_⟩
  · have : b = x := by simpa using hb
    subst this; subst e; exact hf ha
  · rcases List.mem_append.mp hy with hy | hy
    · exact h.lt y hy
    · have : y = x := by simpa using hy
      omega
theorem Good.add {n : Nat} : ∀ {made f : List Nat}, Good n f → (∀ x ∈ made, x < n) → Good n (addAll f made)
  | [], _, h, _ => h
  | x :: r, f, h, hm => by
    unfold addAll
    by_cases hx : x ∈ f
    · rw [if_pos hx]; exact Good.add h fun y hy => hm y (List.mem_cons_of_mem _ hy)
    · rw [if_neg hx]; exact Good.add (h.snoc (hm x List.mem_cons_self) hx) fun y hy => hm y (List.mem_cons_of_mem _ hy)
theorem Good.len : ∀ {n : Nat} {f : List Nat}, Good n f → f.length ≤ n
  | 0, f, h => by
    cases f with
    | nil => exact Nat.le_refl _
    | cons x r => exact absurd (h.lt x List.mem_cons_self) (by omega)
  | n + 1, f, h => by
    have g : Good n (f.erase n) := ⟨h.nd.erase n, fun x hx => by
      have := (h.nd.mem_erase_iff).mp hx
      have h2 := h.lt x this.2
      omega⟩
    have l := Good.len g
    have := List.length_erase (a := n) (l := f)
    split at this <;> omega
theorem add_len : ∀ (made f : List Nat), f.length ≤ (addAll f made).length
  | [], _ => Nat.le_refl _
  | x :: r, f => by
    unfold addAll
    by_cases hx : x ∈ f
    · rw [if_pos hx]; exact add_len r f
    · rw [if_neg hx]
      have := add_len r (f ++ [x])
      simp only [List.length_append, List.length_singleton] at this
      omega
theorem add_old : ∀ {made f : List Nat}, (∀ x ∈ made, x ∈ f) → addAll f made = f
  | [], _, _ => rfl
  | x :: r, f, h => by
    unfold addAll
    rw [if_pos (h x List.mem_cons_self)]
    exact add_old fun y hy => h y (List.mem_cons_of_mem _ hy)
theorem add_new : ∀ {made f : List Nat}, ¬ (∀ x ∈ made, x ∈ f) → f.length < (addAll f made).length
  | [], _, h => absurd (by simp) h
  | x :: r, f, h => by
    unfold addAll
    by_cases hx : x ∈ f
    · rw [if_pos hx]
      exact add_new fun z => h fun y hy => by
        rcases List.mem_cons.mp hy with rfl | hy
        · exact hx
        · exact z y hy
    · rw [if_neg hx]
      have := add_len r (f ++ [x])
      simp only [List.length_append, List.length_singleton] at this
      omega
def nexts (r : Rd) (f : List Nat) : List Nat := (f.flatMap fun x => f.map (r.mul x)) ++ (List.range r.lb).flatMap fun a => (List.range r.lc).flatMap fun b => f.map (r.wr a b)
theorem nexts_lt {r : Rd} (R : r.Ok) {f : List Nat} (h : Good r.n f) : ∀ x ∈ nexts r f, x < r.n := by
  intro x hx
  rcases List.mem_append.mp hx with hx | hx
  · obtain ⟨y, hy, hx⟩ := List.mem_flatMap.mp hx
    obtain ⟨z, hz, rfl⟩ := List.mem_map.mp hx
    exact R.m.cl _ _ (h.lt y hy) (h.lt z hz)
  · obtain ⟨a, ha, hx⟩ := List.mem_flatMap.mp hx
    obtain ⟨b, hb, hx⟩ := List.mem_flatMap.mp hx
    obtain ⟨z, hz, rfl⟩ := List.mem_map.mp hx
    exact R.w _ _ _ (List.mem_range.mp ha) (List.mem_range.mp hb) (h.lt z hz)
/-- what collect gives -/
def spec (r : Rd) (most : Nat) : Nat → List Nat → List Nat → Option (List Nat)
  | 0, _, _ => none
  | k + 1, f, made => if most < (addAll f made).length then none else
    if ∀ x ∈ nexts r (addAll f made), x ∈ addAll f made then some (addAll f made) else spec r most k (addAll f made) (nexts r (addAll f made))
def optD : Option (List Nat) → D
  | none => .non
  | some f => .lst (f.map nD)
/-! ## the dict of what is found -/
def KF (kvs : List (Key × D)) (f : List Nat) : Prop := kvs.map (·.1) = f.map fun (x : Nat) => (.inl (x : Int) : Key)
theorem KF.len {kvs : List (Key × D)} {f : List Nat} (h : KF kvs f) : kvs.length = f.length := by
  have := congrArg List.length h
  simpa using this
theorem KF.list {kvs : List (Key × D)} {f : List Nat} (h : KF kvs f) : (kvs.map fun kv => kD kv.1) = f.map nD := by
  have := congrArg (List.map kD) h
  rw [List.map_map, List.map_map] at this
  exact this
theorem KF.get : ∀ {kvs : List (Key × D)} {f : List Nat}, KF kvs f → ∀ (x : Nat), (dget kvs (.inl (x : Int))).isSome = decide (x ∈ f)
  | [], [], _, x => by simp [dget]
  | [], _ :: _, h, _ => by cases h
  | _ :: _, [], h, _ => by cases h
  | (k, d) :: r, y :: f, h, x => by
    unfold KF at h
    rw [List.map_cons, List.map_cons, List.cons.injEq] at h
    obtain ⟨h1, h2⟩ := h
    have h1 : k = .inl (y : Int) := h1
    subst h1
    unfold dget
    by_cases e : y = x
    · subst e; simp
    · have : ¬ ((.inl (y : Int) : Key) = .inl (x : Int)) := fun z => e (by have := Sum.inl.inj z; omega)
      rw [if_neg this, KF.get (f := f) h2 x]
      have : ¬ x = y := fun z => e z.symm
      simp [this]
theorem KF.put : ∀ {kvs : List (Key × D)} {f : List Nat}, KF kvs f → ∀ {x : Nat}, x ∉ f → ∀ d, KF (dput kvs (.inl (x : Int)) d) (f ++ [x])
  | [], [], _, x, _, d => rfl
  | [], _ :: _, h, _, _, _ => by cases h
  | _ :: _, [], h, _, _, _ => by cases h
  | (k, d0) :: r, y :: f, h, x, hx, d => by
    unfold KF at h
    rw [List.map_cons, List.map_cons, List.cons.injEq] at h
    obtain ⟨h1, h2⟩ := h
    have h1 : k = .inl (y : Int) := h1
    subst h1
    have hxy : ¬ ((.inl (y : Int) : Key) = .inl (x : Int)) := fun z => by
      have z := Sum.inl.inj z
      have : x = y := by omega
      subst this
      exact hx List.mem_cons_self
    unfold dput
    rw [if_neg hxy]
    have := KF.put (f := f) h2 (x := x) (fun z => hx (List.mem_cons_of_mem _ z)) d
    show _ :: _ = _ :: _
    rw [this]; rfl
theorem KF.uniq : ∀ {kvs : List (Key × D)} {f : List Nat}, KF kvs f → f.Nodup → uniqK kvs = true
  | [], [], _, _ => rfl
  | [], _ :: _, h, _ => by cases h
  | _ :: _, [], h, _ => by cases h
  | (k, d0) :: r, y :: f, h, hn => by
    unfold KF at h
    rw [List.map_cons, List.map_cons, List.cons.injEq] at h
    obtain ⟨h1, h2⟩ := h
    have h1 : k = .inl (y : Int) := h1
    subst h1
    obtain ⟨n1, n2⟩ := List.nodup_cons.mp hn
    unfold uniqK
    rw [KF.uniq (f := f) h2 n2, Bool.and_true, Bool.not_eq_true']
    rw [Bool.eq_false_iff]
    intro z
    obtain ⟨p, hp, e⟩ := List.any_eq_true.mp z
    have e : p.1 = .inl (y : Int) := by simpa using e
    have : p.1 ∈ r.map (·.1) := List.mem_map.mpr ⟨p, hp, rfl⟩
    rw [h2, e] at this
    obtain ⟨w, hw, e2⟩ := List.mem_map.mp this
    have : w = y := by have := Sum.inl.inj e2; omega
    subst this
    exact n1 hw
end L3
namespace L3
open PySem PySem.Spec PyProof.Rows L2
/-! ## walks over a cell that stays as it is while it is walked -/
def walkC (d : D) (M : Mem) : R (Nat × List D) := match d with
  | .cell n => match cellL M n with
    | some ds => .ok (n, ds) M
    | none => .bad
  | _ => .bad
abbrev SC := En → Mem → R (Nat × List D)
def sWalkC (f : SE) : SC := fun e M => (f e M).bind walkC
abbrev rlC (K : PySem.W.Frag) : Rl It (Nat × List D) := fun _ w _ J p => ∃ a, w.ρ[p.1]? = some a ∧ J = Itl K a
theorem bkC {K : PySem.W.Frag} : Bk (rlC K) := fun _ _ _ _ _ _ _ _ _ h => h
abbrev AIC (X : Cx) (W : WX) (tg iter : Expr) (f : SC) : Prop := PI X tg iter (tG X.K W (fun _ => rlC X.K) f)
theorem itc_ok {K : PySem.W.Frag} {w : Wd} {M : Mem} {H : Hp} {n : Nat} {a : Addr} {ds : List D} (hn : w.ρ[n]? = some a) (hc : cellL M n = some ds) (hs : HS K w M H) :
    (∀ i d, ds[i]? = some d → (Itl K a).go i H ∧ ∀ x H', (Itl K a).yld i H x H' → ∃ w', HS K w' M H' ∧ Ext All w H w' H' ∧ Rep K w' x d) ∧ ∀ i, ds.length ≤ i → (Itl K a).stop i H := by
  obtain ⟨_, us, hH, q⟩ := hs.cells n a _ hn (cellL_some hc)
  have h1 : SqL K H a us := .of hH
  refine ⟨fun i d e => ?_, fun i hi => ⟨us, h1, by rw [q.length]; exact hi⟩⟩
  obtain ⟨v, e1, r⟩ := q.get e
  refine ⟨⟨us, v, h1, e1⟩, fun x H' ⟨e2, k⟩ => ?_⟩
  subst e2
  have z := k us h1
  rw [e1] at z
  cases z
  exact ⟨w, hs, .refl _ _, r⟩
section
variable {X : Cx} {W : WX} {pos : Pos}
theorem i_cell {tg l : Expr} {f : SE} (h : AE X W l f) : AIC X W tg l (sWalkC f) :=
  PI.imp (pi_list h) fun σ H R q => tG.step (k := fun _ d M => walkC d M) (fun _ => bkC) q fun S w e w' M' H' v d s sx x r p => by
    cases d with
    | cell n =>
      have p : Pst X.K W w' H' σ (rlC X.K) R (match cellL M' n with | some ds => .ok (n, ds) M' | none => .bad) := p
      cases hc : cellL M' n with
      | none => rw [hc] at p; exact p.elim
      | some ds =>
        rw [hc] at p
        rcases r with r | ⟨_, h, _⟩ | ⟨_, h, _⟩
        · cases r with
          | cell hn =>
            obtain ⟨_, us, hH, q⟩ := s.cells n _ _ hn (cellL_some hc)
            exact ⟨_, rfl, ⟨us, .of hH⟩, p w' H' _ (.refl _ _) s ⟨_, hn, rfl⟩⟩
        · cases h
        · cases h
    | _ => exact p.elim
open Classical in
noncomputable def forLC (n : Nat) (ds0 : List D) (g : SG) (b : SS) : List D → SS
  | [], e, M => if cellL M n = some ds0 then .nx e M else .bad
  | d :: r, e, M => if cellL M n = some ds0 then (match g d e with
    | none => .bad
    | some e1 => match b e1 M with
      | .nx e2 M2 => forLC n ds0 g b r e2 M2
      | .ct e2 M2 => forLC n ds0 g b r e2 M2
      | .bk e2 M2 => .nx e2 M2
      | o => o) else .bad
noncomputable def forC1 (g : SG) (b : SS) (e : En) (p : Nat × List D) (M : Mem) : RS := forLC p.1 p.2 g b p.2 e M
noncomputable def sForC (it : SC) (g : SG) (b : SS) : SS := fun e M => (it e M).bindS e (forC1 g b e)
theorem s_forC {tg iter : Expr} {body : List Stmt} {is : List Nat} {it : SC} {g : SG} {b : SS} (hp : PassesOwn (model X.prog X.w) X.A X.env X.xe) (hc : X.calm = true) (hi : AIC X W tg iter it) (hg : AG X tg is g) (hb : ASs X W body b)
    (hs : ∀ x, foldedSetIterable iter X.env x = pure x := by intro _; rfl) : AS X W (.For tg iter body [] pos) (sForC it g b) := by
  obtain ⟨t, pg, kg⟩ := hg
  exact PS.imp (ps_for hp hc hi pg hb hs) fun E σ H q => tS.step (k := fun e => forC1 g b e) q fun S w e w' M' H' J nd s sr lv x r p _ _ => by
    obtain ⟨n, ds⟩ := nd
    obtain ⟨a, hna, rfl⟩ := r
    have p : PstS X.K W S w' H' E (forLC n ds g b ds e M') := p
    refine ⟨fun i m σ H => m = ds.length - i ∧ i ≤ ds.length ∧ ∃ (w : Wd) (e : En) (M : Mem), HS X.K w M H ∧ SR X.K S w H σ e ∧ Live S H ∧ Ext S w' H' w H ∧ PstS X.K W S w H E (forLC n ds g b (ds.drop i) e M), ⟨ds.length, by simp, Nat.zero_le _, w', e, M', s, sr, lv.on x.of, .refl _ _, p⟩, ?_⟩
    rintro i m σ2 H2 ⟨rfl, hi, w2, e2, M2, s2, sr2, lv2, x2, p2⟩
    have hcl : cellL M2 n = some ds := by
      apply Classical.byContradiction
      intro z
      cases hd : ds.drop i with
      | nil => rw [hd] at p2; unfold forLC at p2; rw [if_neg z] at p2; exact p2.elim
      | cons d r => rw [hd] at p2; unfold forLC at p2; rw [if_neg z] at p2; exact p2.elim
    obtain ⟨ri, rs⟩ := itc_ok (x2.r n a hna) hcl s2
    by_cases hlt : i < ds.length
    · refine .inr ⟨(ri i ds[i] (by simp [hlt])).1, fun σ3 H3 => ∃ (w : Wd) (e : En) (M : Mem), HS X.K w M H3 ∧ SR X.K S w H3 σ3 e ∧ Live S H3 ∧ Ext S w' H' w H3 ∧ PstS X.K W S w H3 E (forLC n ds g b (ds.drop (i + 1)) e M), fun σ3 H3 h => ⟨ds.length - (i + 1), by omega, rfl, hlt, h⟩, fun y H3 hy => ?_⟩
      obtain ⟨w3, s3, x3, rd⟩ := (ri i ds[i] (by simp [hlt])).2 y H3 hy
      rw [drop_cons hlt] at p2
      unfold forLC at p2
      rw [if_pos hcl] at p2
      cases hgd : g ds[i] e2 with
      | none => simp only [hgd] at p2; exact p2.elim
      | some e3 =>
        simp only [hgd] at p2
        refine kg w3 M2 H3 σ2 e2 y ds[i] e3 _ s3 rd hgd fun σ4 z4 => ⟨S, w3, e3, M2, s3, z4.sr (sr2.mono x3), lv2.on x3.of, ?_⟩
        have p3 := p2.shift x3.of
        have x4 : Ext S w' H' w3 H3 := x2.trans x3.of
        cases hbd : b e3 M2 with
        | nx e5 M5 => simp only [hbd] at p3; exact fun w6 H6 σ6 x6 s6 sr6 => ⟨w6, e5, M5, s6, sr6, (lv2.on x3.of).on x6, x4.trans x6, p3.shift x6⟩
        | ct e5 M5 => simp only [hbd] at p3; exact fun w6 H6 σ6 x6 s6 sr6 => ⟨w6, e5, M5, s6, sr6, (lv2.on x3.of).on x6, x4.trans x6, p3.shift x6⟩
        | bk e5 M5 => simp only [hbd] at p3; exact p3
        | rt d M5 => simp only [hbd] at p3; exact p3
        | exc C fs e5 M5 => simp only [hbd] at p3; exact p3
        | bad => simp only [hbd] at p3; exact p3.elim
    · have e1 : ds.drop i = [] := List.drop_of_length_le (by omega)
      rw [e1] at p2
      unfold forLC at p2
      rw [if_pos hcl] at p2
      exact .inl ⟨rs i (by omega), p2 w2 H2 σ2 (.refl _ _) s2 sr2⟩
end
/-! comprehensions over such a cell -/
open Classical in
noncomputable def lcLC (n : Nat) (ds0 : List D) (g : SG) (t : SB) (f : SE) : List D → List D → En → Mem → R (List D)
  | [], acc, _, M => if cellL M n = some ds0 then .ok acc M else .bad
  | d :: r, acc, e, M => if cellL M n = some ds0 then (match g d e with
    | none => .bad
    | some e1 => match t e1 M with
      | .ok true M1 => match f e1 M1 with
        | .ok y M2 => if acc.length < sizeLine then lcLC n ds0 g t f r (acc ++ [y]) e M2 else .bad
        | _ => .bad
      | .ok false M1 => lcLC n ds0 g t f r acc e M1
      | _ => .bad) else .bad
noncomputable def lcC1 (g : SG) (t : SB) (f : SE) (vs : List Nat) (e : En) (p : Nat × List D) (M : Mem) : R D := lcE (lcLC p.1 p.2 g t f p.2 [] (wipeE e vs) M)
noncomputable def sLcC (it : SC) (g : SG) (t : SB) (f : SE) (vs : List Nat) : SE := fun e M => (it e M).bind (lcC1 g t f vs e)
section
variable {X : Cx} {W : WX} {pos : Pos}
variable {elt tg iter : Expr} {ifs : List Expr} {scope : Scope} {own : List (Str × Nat)}
theorem tLcC_of {it : SC} {g : SG} {t : SB} {f : SE} {is vs : List Nat} {tt : TG} {σ : L2.St} {H : Hp} {Q : VK} {K : PySem.W.Frag} (kg : KG K tt is g) (hv : ∀ i ∈ is, i ∈ vs)
    (q : tE K W (sLcC it g t f vs) σ H Q) : tLc (tG K W (fun _ => rlC K) it) tt (tB K W0 t) (tF K W0 f) vs σ H Q :=
  tG.step (k := fun e => lcC1 g t f vs e) (fun _ => bkE) q fun S w0 e w1 M1 H1 J nd s1 sx1 x1 r p A hA => by
    obtain ⟨n, ds⟩ := nd
    obtain ⟨ca, hna, rfl⟩ := r
    have p : Pst K W w1 H1 σ (rlE K S) Q (lcE (lcLC n ds g t f ds [] (wipeE e vs) M1)) := p
    cases hl : lcLC n ds g t f ds [] (wipeE e vs) M1 with
    | bad => simp only [hl] at p; exact p.elim
    | exc C fs M2 => simp only [hl] at p; exact p.elim
    | ok accF MF =>
      simp only [hl] at p
      have hB : w1.B A = none := s1.same.free hA
      have hR : A ∉ w1.ρ := s1.fresh hA
      refine ⟨fun i m H => m = ds.length - i ∧ i ≤ ds.length ∧ ∃ (w : Wd) (M : Mem) (acc : List D) (us : List V), HS K w M H ∧ Ext All w1 H1 w H ∧ H A = some (.lst us) ∧ Reps K w us acc ∧ w.B A = none ∧ A ∉ w.ρ ∧ lcLC n ds g t f (ds.drop i) acc (wipeE e vs) M = .ok accF MF, ⟨ds.length, ?_⟩, ?_⟩
      · obtain ⟨s2, y⟩ := s1.loose (o := .lst []) hA
        exact ⟨by simp, Nat.zero_le _, w1, M1, [], [], s2, y, upd_same, .nil, hB, hR, hl⟩
      · rintro i m H2 ⟨rfl, hi, w2, M2, acc, us, s2, x2, hH2, q2, b2, r2, e2⟩
        have hcl : cellL M2 n = some ds := by
          apply Classical.byContradiction
          intro z
          cases hd : ds.drop i with
          | nil => rw [hd] at e2; unfold lcLC at e2; rw [if_neg z] at e2; cases e2
          | cons d r => rw [hd] at e2; unfold lcLC at e2; rw [if_neg z] at e2; cases e2
        obtain ⟨ri, rs⟩ := itc_ok (x2.r n ca hna) hcl s2
        by_cases hlt : i < ds.length
        · refine .inr ⟨(ri i ds[i] (by simp [hlt])).1, fun H3 => ∃ (w : Wd) (M : Mem) (acc : List D) (us : List V), HS K w M H3 ∧ Ext All w1 H1 w H3 ∧ H3 A = some (.lst us) ∧ Reps K w us acc ∧ w.B A = none ∧ A ∉ w.ρ ∧ lcLC n ds g t f (ds.drop (i + 1)) acc (wipeE e vs) M = .ok accF MF, fun H3 h => ⟨ds.length - (i + 1), by omega, rfl, hlt, h⟩, fun y H3 hy => ?_⟩
          obtain ⟨w3, s3, x3, rd⟩ := (ri i ds[i] (by simp [hlt])).2 y H3 hy
          rw [drop_cons hlt] at e2
          unfold lcLC at e2
          rw [if_pos hcl] at e2
          obtain ⟨b3, r3, hH3⟩ := x3.keepB b2 r2 hH2
          have q3 := q2.mono x3
          have x13 := x2.trans x3
          have sx3 : SX K S w3 H3 (wipe σ vs) (wipeE e vs) := (sx1.mono x13).wipe vs
          cases hgd : g ds[i] (wipeE e vs) with
          | none => simp only [hgd] at e2; cases e2
          | some e3 =>
            simp only [hgd] at e2
            refine kg w3 M2 H3 (wipe σ vs) (wipeE e vs) y ds[i] e3 _ s3 rd hgd fun σ4 z4 => ⟨by rw [z4.wipe hv, wipe_wipe], S, w3, e3, M2, s3, z4.sx sx3, ?_⟩
            cases ht : t e3 M2 with
            | bad => simp only [ht] at e2; cases e2
            | exc C fs M4 => simp only [ht] at e2; cases e2
            | ok k M4 =>
              simp only [ht] at e2
              intro w4 H4 k' x4 s4 rk
              have rk : k' = k := rk
              subst rk
              obtain ⟨b4, r4, hH4⟩ := x4.keepB b3 r3 hH3
              have x14 := x13.trans x4
              cases k' with
              | false =>
                simp only [Bool.false_eq_true, if_false] at e2 ⊢
                exact ⟨w4, M4, acc, us, s4, x14, hH4, q3.mono x4, b4, r4, e2⟩
              | true =>
                simp only [if_true] at e2 ⊢
                refine ⟨S, w4, e3, M4, s4, (z4.sx sx3).mono x4, ?_⟩
                cases hf : f e3 M4 with
                | bad => simp only [hf] at e2; cases e2
                | exc C fs M5 => simp only [hf] at e2; cases e2
                | ok d M5 =>
                  simp only [hf] at e2
                  by_cases hz : acc.length < sizeLine
                  · simp only [if_pos hz] at e2
                    intro w5 H5 v x5 s5 rv
                    have rv : Rep K w5 v d := rv
                    obtain ⟨b5, r5, hH5⟩ := x5.keepB b4 r4 hH4
                    have q5 := (q3.mono x4).mono x5
                    refine ⟨us, hH5, by rw [q2.length]; exact hz, w5, M5, acc ++ [d], us ++ [v], ?_, ?_, upd_same, q5.append (.one rv), b5, r5, e2⟩
                    · exact (s5.writeO (S := fun b => b ≠ A) b5 r5 (fun z => z rfl)).1
                    · exact Ext.but (x14.trans x5) hA (s5.writeO (S := fun b => b ≠ A) b5 r5 (fun z => z rfl)).2
                  · simp only [if_neg hz] at e2; cases e2
        · have e1 : ds.drop i = [] := List.drop_of_length_le (by omega)
          rw [e1] at e2
          unfold lcLC at e2
          rw [if_pos hcl] at e2
          cases e2
          refine .inl ⟨rs i (by omega), ?_⟩
          exact p w2 H2 (.ref A) x2 s2 (.inr (.inl ⟨_, rfl, A, us, rfl, hA, b2, r2, hH2, q2⟩))
theorem a_lcC {it : SC} {g : SG} {t : SB} {f : SE} {is : List Nat} {T : List Addr} (hc : X.calm = true) (hT : TOk T X.H_0) (hN : X.N.Nodup) (hi : AIC X W tg iter it) (ok : BlkOk X.N X.env.scope scope own) {tt : TG}
    (hg : BlkT X T scope fun B => PG B tg tt) (kg : KG X.K tt is g) (hv : ∀ i ∈ is, i ∈ own.map (·.2))
    (ht : BlkT X T scope fun B => AT B W0 ifs t)
    (he : BlkT X T scope fun B => AF B W0 elt f) (hs : ∀ x, foldedSetIterable iter X.env x = pure x := by intro _; rfl) :
    AE X W (.ListComp elt [⟨tg, iter, ifs, 0⟩] scope pos) (sLcC it g t f (own.map (·.2))) :=
  PE.imp (pe_lcT hc hT hN hi ok hg ht he hs) fun σ H Q q => tLcC_of kg hv q
end
section
variable (e : En) (M : Mem)
@[simp] theorem sWalkC_eq (f : SE) : sWalkC f e M = (f e M).bind walkC := nrfl rfl
theorem walkC_cell {n : Nat} {ds : List D} (h : cellL M n = some ds) : walkC (.cell n) M = .ok (n, ds) M := by unfold walkC; simp only [h]
theorem sForC_eq (it g b) : sForC it g b e M = (it e M).bindS e (forC1 g b e) := rfl
theorem forC1_eq (g b n ds) : forC1 g b e (n, ds) M = forLC n ds g b ds e M := rfl
theorem sLcC_eq (it g t f vs) : sLcC it g t f vs e M = (it e M).bind (lcC1 g t f vs e) := rfl
theorem lcC1_eq (g t f vs n ds) : lcC1 g t f vs e (n, ds) M = lcE (lcLC n ds g t f ds [] (wipeE e vs) M) := rfl
/-- a comprehension that leaves the memory as it is -/
theorem lcLC_map {α : Type} {i : Nat} {n : Nat} {ds0 : List D} {f : SE} {e : En} {M : Mem} (h k : α → D) (hc : cellL M n = some ds0) : ∀ (xs : List α) (acc : List D), acc.length + xs.length ≤ 10000 → (∀ x ∈ xs, f (e.set i (some (h x))) M = .ok (k x) M) →
    lcLC n ds0 (gN i) bYes f (xs.map h) acc e M = .ok (acc ++ xs.map k) M
  | [], acc, _, _ => by
    unfold lcLC
    simp [hc]
  | x :: xs, acc, hl, hf => by
    rw [List.length_cons] at hl
    rw [List.map_cons]
    unfold lcLC
    rw [if_pos hc]
    have hz : acc.length < sizeLine := big' _ (by omega)
    simp only [gN_eq, bYes_eq, hf x List.mem_cons_self, if_pos hz]
    rw [lcLC_map h k hc xs (acc ++ [k x]) (by simp; omega) fun y hy => hf y (List.mem_cons_of_mem _ hy)]
    simp
/-- a loop over a cell's items -/
theorem forLC_lst {α : Type} {g : SG} {b : SS} {n : Nat} {ds0 : List D} {M : Mem} (hc : cellL M n = some ds0) (h : α → D) (P : List α → En → Prop) (xs : List α) {e : En} (hs : ∀ pre x e, x ∈ xs → pre.length < xs.length → P pre e → ∃ e1 e2, g (h x) e = some e1 ∧ b e1 M = .nx e2 M ∧ P (pre ++ [x]) e2) (h0 : P [] e) : ∃ e', forLC n ds0 g b (xs.map h) e M = .nx e' M ∧ P xs e' := by
  have aux : ∀ (ys pre : List α) (e : En), xs = pre ++ ys → P pre e → ∃ e', forLC n ds0 g b (ys.map h) e M = .nx e' M ∧ P xs e' := by
    intro ys
    induction ys with
    | nil =>
      intro pre e hx hp
      rw [List.append_nil] at hx; subst hx
      refine ⟨e, ?_, hp⟩
      rw [List.map_nil]; unfold forLC; rw [if_pos hc]
    | cons y ys ih =>
      intro pre e hx hp
      obtain ⟨e1, e2, h1, h2, h3⟩ := hs pre y e (by rw [hx]; simp) (by rw [hx]; simp) hp
      obtain ⟨e', h4, h5⟩ := ih (pre ++ [y]) e2 (by rw [hx]; simp) h3
      refine ⟨e', ?_, h5⟩
      rw [List.map_cons]
      unfold forLC
      rw [if_pos hc, h1]
      simp only [h2]
      exact h4
  exact aux xs [] e rfl h0
end
end L3
namespace L3
open PySem PySem.Spec PyProof.Rows L2
/-! ## a cell's list given back as data; {} -/
theorem HS.freezeC {K : PySem.W.Frag} {w : Wd} {S : Addr → Prop} {M : Mem} {H : Hp} (h : HS K w M H) {n : Nat} {p : Addr} {ds : List D} (hn : w.ρ[n]? = some p) (hc : cellL M n = some ds) :
    ∃ us, H p = some (.lst us) ∧ Reps K w us ds ∧ HS K ⟨upd w.B p (.lst us), w.ρ⟩ (M.set n .dead) H ∧ Ext S w H ⟨upd w.B p (.lst us), w.ρ⟩ H := by
  obtain ⟨hb, us, hH, q⟩ := h.cells n p _ hn (cellL_some hc)
  have hpr : p ∈ w.ρ := List.mem_of_getElem? hn
  have neB : ∀ {a : Addr} {u : HO}, w.B a = some u → a ≠ p := fun {a u} e z => by rw [z, hb] at e; cases e
  have ex : Ext S w H ⟨upd w.B p (.lst us), w.ρ⟩ H := ⟨fun b u e => by show upd w.B p _ b = _; rw [upd_ne (neB e)]; exact e, fun _ _ h => h, fun _ h => .inl h, fun _ _ _ e _ _ => e, fun _ u e => ⟨u, e⟩, fun a u e => by
    by_cases ha : a = p
    · subst ha; exact .inr (.inr (.inl hpr))
    · have e : upd w.B p (.lst us) a = some u := e
      rw [upd_ne ha] at e; exact .inl e⟩
  have nl : n < M.length := (List.getElem?_eq_some_iff.mp (cellL_some hc)).1
  refine ⟨us, hH, q, ⟨fun b u e => ?_, by rw [List.length_set]; exact h.len, h.nd, fun k a m e1 e2 => ?_, fun P ps e => ?_, fun b us2 e => by show upd w.B p _ b = _; rw [upd_ne (fun z => by rw [z, hH] at e; cases e)]; exact h.tups b us2 e⟩, ex⟩
  · by_cases hbp : b = p
    · subst hbp
      have e : upd w.B b (.lst us) b = some u := e
      rw [upd_same] at e; rw [hH]; exact e
    · have e : upd w.B p (.lst us) b = some u := e
      rw [upd_ne hbp] at e; exact h.same b u e
  · by_cases hk : n = k
    · subst hk
      rw [List.getElem?_set_self nl] at e2
      cases e2
      have e1 : w.ρ[n]? = some a := e1
      rw [hn] at e1
      cases e1
      exact ⟨_, hH⟩
    · rw [List.getElem?_set_ne hk] at e2
      have c := h.cells k a m e1 e2
      have ha : a ≠ p := fun z => by
        subst z
        have l1 := (List.getElem?_eq_some_iff.mp hn).1
        have l2 := (List.getElem?_eq_some_iff.mp e1).1
        have q1 := (List.getElem?_eq_some_iff.mp hn).2
        have q2 := (List.getElem?_eq_some_iff.mp e1).2
        exact hk ((List.getElem_inj h.nd).mp (q1.trans q2.symm))
      exact c.ext ex rfl fun hb' _ => by show upd w.B p _ a = none; rw [upd_ne ha]; exact hb'
  · obtain ⟨t1, t2, t3⟩ := h.tabs P ps e
    exact ⟨t1, by show upd w.B p _ P = none; rw [upd_ne (fun z => by rw [z, hH] at e; cases e)]; exact t2, t3⟩
def retC1 (o : Option D) (M : Mem) : RS := match o with
  | some (.cell n) => match cellL M n with
    | some ds => .rt (.lst ds) (M.set n .dead)
    | none => .bad
  | _ => .bad
def sRetC (i : Nat) : SS := fun e M => retC1 (eget e i) M
section
variable {X : Cx} {W : WX} {pos : Pos}
theorem s_retC {i : Nat} {x : Str} {p : Pos} (hN : X.N[i]? = some x) (hv : Vis X.env.scope x) (hd : (x == ("__debug__" : Str)) = false := by decide) (hcd : (x == ("__classdict__" : Str)) = false := by decide) : AS X W (.Return (some (.Name x p)) pos) (sRetC i) :=
  PS.imp (ps_ret (pe_var hN hv hd hcd)) fun E σ H q => by
    obtain ⟨S, w, e, M, hs, sr, lv, pp⟩ := q
    have pp : PstS X.K W S w H E (retC1 (eget e i) M) := pp
    unfold retC1 at pp
    cases he : eget e i with
    | none => rw [he] at pp; exact pp.elim
    | some d =>
      rw [he] at pp
      cases d with
      | cell n =>
        simp only at pp
        cases hc : cellL M n with
        | none => simp only [hc] at pp; exact pp.elim
        | some ds =>
          simp only [hc] at pp
          obtain ⟨v, hσ, r⟩ := sr.at_ i _ (eget_iff.mp he)
          rcases r with r | ⟨_, h, _⟩
          · cases r with
            | @cell _ a hn =>
              obtain ⟨us, hH, q, hs2, x⟩ := hs.freezeC (S := S) hn hc
              exact ⟨_, hσ, pp _ _ (.ref a) x hs2 (.lst (us := us) upd_same (Reps.mono' (w := w) (fun b u e => x.b b u e) (fun _ _ z => z) q))⟩
          · cases h
      | _ => exact pp.elim
def sDict0 : SE := fun _ M => .ok (.cell M.length) (M ++ [.dic []])
theorem a_dict0 : AE X W (.Dict [] [] pos) sDict0 :=
  PE.imp pe_dnewK fun σ H Q q => by
    obtain ⟨S, w, e, M, hs, sx, p⟩ := q
    intro a ha
    obtain ⟨s1, x1⟩ := hs.loose (o := .dK []) ha
    have hr : a ∉ w.ρ := hs.fresh ha
    obtain ⟨s2, x2⟩ := s1.adoptM (w0 := w) (H0 := H) (a := a) (m := .dic []) hr (fun ps z => by rw [upd_same] at z; cases z) ⟨hs.same.free ha, [], upd_same, .nil⟩ x1 ha
    refine p _ _ (.ref a) x2 s2 (.inl (.cell ?_))
    show (w.ρ ++ [a])[M.length]? = some a
    rw [← hs.len]; simp
end
section
variable (e : En) (M : Mem)
@[simp] theorem sRetC_eq (i) : sRetC i e M = retC1 (eget e i) M := nrfl rfl
theorem retC1_cell {n : Nat} {ds : List D} (h : cellL M n = some ds) : retC1 (some (.cell n)) M = .rt (.lst ds) (M.set n .dead) := by unfold retC1; simp only [h]
@[simp] theorem sDict0_eq : sDict0 e M = .ok (.cell M.length) (M ++ [.dic []]) := nrfl rfl
end
end L3
namespace L3
open PySem PySem.Spec PyProof.Rows L2
/-! ## places of values, numbers of values -/
def idx (F : List Nat) (x : Nat) : Nat := (F.findIdx? fun y => decide (y = x)).getD 0
theorem idx_mem {F : List Nat} {x : Nat} (h : x ∈ F) : idx F x < F.length ∧ F[idx F x]? = some x ∧ F.findIdx? (fun y => decide (y = x)) = some (idx F x) := by
  obtain ⟨k, h1, h2⟩ := findIdx_mem h
  have e : idx F x = k := by unfold idx; rw [h1]; rfl
  rw [e]
  exact ⟨(List.getElem?_eq_some_iff.mp h2).1, h2, h1⟩
theorem idx_get {F : List Nat} {x : Nat} (h : x ∈ F) : F.getD (idx F x) 0 = x := by
  rw [List.getD_eq_getElem?_getD, (idx_mem h).2.1]; rfl
theorem idx_of {F : List Nat} (hn : F.Nodup) {k : Nat} (hk : k < F.length) : idx F (F.getD k 0) = k := by
  have e : F[k]? = some (F.getD k 0) := by rw [List.getD_eq_getElem?_getD, List.getElem?_eq_getElem hk]; rfl
  unfold idx
  rw [findIdx_of hn e]; rfl
theorem getD_mem {F : List Nat} {k : Nat} (hk : k < F.length) : F.getD k 0 ∈ F := by
  rw [List.getD_eq_getElem?_getD, List.getElem?_eq_getElem hk]; exact List.getElem_mem hk
theorem idx_inj {F : List Nat} {x y : Nat} (hx : x ∈ F) (hy : y ∈ F) (h : idx F x = idx F y) : x = y := by rw [← idx_get hx, ← idx_get hy, h]
theorem map_idx {F : List Nat} (hn : F.Nodup) : F.map (idx F) = List.range F.length := by
  apply List.ext_getElem?
  intro k
  by_cases hk : k < F.length
  · have : F.getD k 0 = F[k] := by rw [List.getD_eq_getElem?_getD, List.getElem?_eq_getElem hk]; rfl
    have e := idx_of hn hk
    rw [this] at e
    rw [List.getElem?_map, List.getElem?_eq_getElem hk]
    simp [hk, e]
  · rw [List.getElem?_eq_none (by simpa using hk), List.getElem?_eq_none (by simpa using hk)]
/-- the dict value -> number -/
def numK (k : Nat) : List Nat → List (Key × D)
  | [] => []
  | x :: r => (.inl (x : Int), .int (k : Nat)) :: numK (k + 1) r
theorem numK_KF : ∀ (F : List Nat) (k : Nat), KF (numK k F) F
  | [], _ => rfl
  | x :: r, k => by
    show _ :: _ = _ :: _
    rw [show (numK (k + 1) r).map (·.1) = _ from numK_KF r (k + 1)]
theorem numK_put : ∀ (pre : List Nat) (k x : Nat), x ∉ pre → dput (numK k pre) (.inl (x : Int)) (.int ((k + pre.length : Nat) : Int)) = numK k (pre ++ [x])
  | [], k, x, _ => by simp [numK]
  | y :: r, k, x, hx => by
    have hxy : ¬ ((.inl (y : Int) : Key) = .inl (x : Int)) := fun z => by
      have z := Sum.inl.inj z
      have : x = y := by omega
      subst this
      exact hx List.mem_cons_self
    have := numK_put r (k + 1) x fun z => hx (List.mem_cons_of_mem _ z)
    show dput ((.inl (y : Int), .int (k : Nat)) :: numK (k + 1) r) _ _ = _
    rw [dput_cons, if_neg hxy, List.length_cons, show k + (r.length + 1) = k + 1 + r.length by omega, this]; rfl
theorem numK_get : ∀ (F : List Nat) (k x i : Nat), F.findIdx? (fun y => decide (y = x)) = some i → dget (numK k F) (.inl (x : Int)) = some (.int ((k + i : Nat) : Int))
  | [], _, _, _, h => by simp at h
  | y :: r, k, x, i, h => by
    show dget ((.inl (y : Int), .int (k : Nat)) :: numK (k + 1) r) _ = _
    rw [dget_cons]
    rw [List.findIdx?_cons] at h
    by_cases e : y = x
    · subst e
      simp at h
      subst h
      rw [if_pos rfl]; rfl
    · have hxy : ¬ ((.inl (y : Int) : Key) = .inl (x : Int)) := fun z => e (by have z := Sum.inl.inj z; omega)
      rw [if_neg hxy]
      simp only [e, decide_false] at h
      cases h2 : r.findIdx? fun y => decide (y = x) with
      | none => rw [h2] at h; simp at h
      | some j =>
        rw [h2] at h
        simp at h
        subst h
        rw [numK_get r (k + 1) x j h2]
        congr 2
        omega
theorem idx_num {F : List Nat} {x : Nat} (h : x ∈ F) (M : Mem) (n : Nat) (hc : cellD M n = some (numK 0 F)) : idxD (.cell n) (nD x) M = .ok (nD (idx F x)) M := by
  rw [idx_cellD M n (nD x) _ hc]
  show ofO (dget (numK 0 F) (.inl (x : Int))) M = _
  rw [numK_get F 0 x _ (idx_mem h).2.2, Nat.zero_add]; rfl
/-! ## what spec gives -/
theorem add_pre : ∀ (made f : List Nat), ∃ t, addAll f made = f ++ t
  | [], f => ⟨[], by simp [addAll]⟩
  | x :: r, f => by
    unfold addAll
    by_cases hx : x ∈ f
    · rw [if_pos hx]; exact add_pre r f
    · rw [if_neg hx]
      obtain ⟨t, e⟩ := add_pre r (f ++ [x])
      exact ⟨x :: t, by rw [e]; simp⟩
theorem add_all : ∀ (made f : List Nat), ∀ x ∈ made, x ∈ addAll f made
  | [], _, _, h => by cases h
  | y :: r, f, x, h => by
    unfold addAll
    rcases List.mem_cons.mp h with rfl | h
    · obtain ⟨t, e⟩ := add_pre r (if x ∈ f then f else f ++ [x])
      rw [e]
      by_cases hx : x ∈ f <;> simp [hx]
    · exact add_all r _ x h
theorem add_sub {P : Nat → Prop} : ∀ (made f : List Nat), (∀ x ∈ f, P x) → (∀ x ∈ made, P x) → ∀ x ∈ addAll f made, P x
  | [], _, hf, _ => hf
  | y :: r, f, hf, hm => by
    unfold addAll
    refine add_sub r _ ?_ fun x hx => hm x (List.mem_cons_of_mem _ hx)
    by_cases hx : y ∈ f
    · rw [if_pos hx]; exact hf
    · rw [if_neg hx]
      intro x hx
      rcases List.mem_append.mp hx with hx | hx
      · exact hf x hx
      · have : x = y := by simpa using hx
        subst this
        exact hm x List.mem_cons_self
/-- the fuel does -/
def Fuel (r : Rd) (N : Nat) (f made : List Nat) : Prop := r.n + 1 < f.length + N ∨ (r.n < f.length + N ∧ ∃ x ∈ made, x ∉ f)
theorem Fuel.next {r : Rd} {N : Nat} {f made : List Nat} (h : Fuel r (N + 1) f made) (hex : ¬ ∀ x ∈ nexts r (addAll f made), x ∈ addAll f made) : Fuel r N (addAll f made) (nexts r (addAll f made)) := by
  have l1 := add_len made f
  refine .inr ⟨?_, ?_⟩
  · rcases h with h | ⟨h, x, hx, hxf⟩
    · omega
    · have := add_new (made := made) (f := f) fun z => hxf (z x hx)
      omega
  · apply Classical.byContradiction
    intro z
    exact hex fun x hx => Classical.byContradiction fun y => z ⟨x, hx, y⟩
theorem spec_fuel {r : Rd} (R : r.Ok) (mo d : Nat) : ∀ (N : Nat) (f made : List Nat), Good r.n f → (∀ x ∈ made, x < r.n) → Fuel r N f made → spec r mo (N + d) f made = spec r mo N f made
  | 0, f, made, hg, hm, h => by
    have := hg.len
    rcases h with h | ⟨h, _⟩ <;> omega
  | N + 1, f, made, hg, hm, h => by
    rw [show N + 1 + d = (N + d) + 1 by omega]
    unfold spec
    by_cases h1 : mo < (addAll f made).length
    · rw [if_pos h1, if_pos h1]
    · rw [if_neg h1, if_neg h1]
      by_cases h2 : ∀ x ∈ nexts r (addAll f made), x ∈ addAll f made
      · rw [if_pos h2, if_pos h2]
      · rw [if_neg h2, if_neg h2]
        have hg2 := hg.add hm
        exact spec_fuel R mo d N _ _ hg2 (nexts_lt R hg2) (h.next h2)
/-- what is found at the end -/
structure Full (r : Rd) (F : List Nat) : Prop where
  g : Good r.n F
  cl : ∀ x ∈ nexts r F, x ∈ F
theorem spec_full {r : Rd} (R : r.Ok) (mo : Nat) (hmo : r.n ≤ mo) : ∀ (N : Nat) (f made : List Nat), Good r.n f → (∀ x ∈ made, x < r.n) → Fuel r N f made → ∃ F t, spec r mo N f made = some F ∧ Full r F ∧ F = addAll f made ++ t
  | 0, f, made, hg, hm, h => by
    have := hg.len
    rcases h with h | ⟨h, _⟩ <;> omega
  | N + 1, f, made, hg, hm, h => by
    have hg2 := hg.add hm
    have h1 : ¬ mo < (addAll f made).length := by have := hg2.len; omega
    unfold spec
    rw [if_neg h1]
    by_cases h2 : ∀ x ∈ nexts r (addAll f made), x ∈ addAll f made
    · rw [if_pos h2]
      exact ⟨_, [], rfl, ⟨hg2, h2⟩, by simp⟩
    · rw [if_neg h2]
      obtain ⟨F, t, e, hF, ht⟩ := spec_full R mo hmo N _ _ hg2 (nexts_lt R hg2) (h.next h2)
      obtain ⟨t2, e2⟩ := add_pre (nexts r (addAll f made)) (addAll f made)
      exact ⟨F, t2 ++ t, e, hF, by rw [ht, e2]; simp⟩
theorem Full.mul {r : Rd} {F : List Nat} (h : Full r F) {x y : Nat} (hx : x ∈ F) (hy : y ∈ F) : r.mul x y ∈ F := h.cl _ (List.mem_append_left _ (List.mem_flatMap.mpr ⟨x, hx, List.mem_map.mpr ⟨y, hy, rfl⟩⟩))
theorem Full.wr {r : Rd} {F : List Nat} (h : Full r F) {a b x : Nat} (ha : a < r.lb) (hb : b < r.lc) (hx : x ∈ F) : r.wr a b x ∈ F :=
  h.cl _ (List.mem_append_right _ (List.mem_flatMap.mpr ⟨a, List.mem_range.mpr ha, List.mem_flatMap.mpr ⟨b, List.mem_range.mpr hb, List.mem_map.mpr ⟨x, hx, rfl⟩⟩⟩))
def lettersOf (r : Rd) : List Nat := (List.range r.la).map r.L
theorem start_ok {r : Rd} (R : r.Ok) : Good r.n [r.e] ∧ (∀ x ∈ lettersOf r, x < r.n) ∧ Fuel r (r.n + 1) [r.e] (lettersOf r) := by
  refine ⟨⟨by simp, fun x hx => ?_⟩, fun x hx => ?_, .inl (by rw [List.length_singleton]; omega)⟩
  · have : x = r.e := by simpa using hx
    subst this; exact R.m.u
  · obtain ⟨a, ha, rfl⟩ := List.mem_map.mp hx
    exact R.l a (List.mem_range.mp ha)
/-- what collect finds of a reader -/
theorem spec_all {r : Rd} (R : r.Ok) (mo : Nat) (hmo : r.n ≤ mo) : ∃ F, spec r mo (r.n + 1) [r.e] (lettersOf r) = some F ∧ Full r F ∧ (∃ t, F = r.e :: t) ∧ ∀ a, a < r.la → r.L a ∈ F := by
  obtain ⟨hg, hm, hf⟩ := start_ok R
  obtain ⟨F, t, e, hF, ht⟩ := spec_full R mo hmo _ _ _ hg hm hf
  obtain ⟨t2, e2⟩ := add_pre (lettersOf r) [r.e]
  refine ⟨F, e, hF, ⟨t2 ++ t, by rw [ht, e2]; simp⟩, fun a ha => ?_⟩
  rw [ht]
  exact List.mem_append_left _ (add_all _ _ _ (List.mem_map.mpr ⟨a, List.mem_range.mpr ha, rfl⟩))
/-! ## the numbered reader -/
def num (r : Rd) (F : List Nat) : Rd := ⟨r.la, r.lb, r.lc, F.length, idx F r.e, fun a => idx F (r.L a), fun i j => idx F (r.mul (F.getD i 0) (F.getD j 0)), fun a b i => idx F (r.wr a b (F.getD i 0)), fun i => decide (F.getD i 0 ∈ r.accN)⟩
structure Nb (r : Rd) (F : List Nat) : Prop where
  R : r.Ok
  full : Full r F
  e : r.e ∈ F
  l : ∀ a, a < r.la → r.L a ∈ F
theorem Nb.lt {r : Rd} {F : List Nat} (h : Nb r F) {x : Nat} (hx : x ∈ F) : x < r.n := h.full.g.lt x hx
theorem Nb.get {r : Rd} {F : List Nat} (h : Nb r F) {k : Nat} (hk : k < F.length) : F.getD k 0 < r.n := h.lt (getD_mem hk)
theorem Nb.ok {r : Rd} {F : List Nat} (h : Nb r F) : (num r F).Ok := by
  have hl := h.full.g.len
  have m9 := h.R.m.most
  have mm : ∀ {i j : Nat}, i < F.length → j < F.length → r.mul (F.getD i 0) (F.getD j 0) ∈ F := fun hi hj => h.full.mul (getD_mem hi) (getD_mem hj)
  have ge : F.getD (idx F r.e) 0 = r.e := idx_get h.e
  refine ⟨h.R.a1, h.R.b1, h.R.c1, ⟨List.length_pos_of_mem h.e, by show F.length ≤ 81; omega, (idx_mem h.e).1, fun x y hx hy => (idx_mem (mm hx hy)).1, fun x hx => ?_, fun x hx => ?_, fun x y z hx hy hz => ?_⟩, fun a ha => (idx_mem (h.l a ha)).1, fun a b x ha hb hx => (idx_mem (h.full.wr ha hb (getD_mem hx))).1⟩
  · show idx F (r.mul (F.getD (idx F r.e) 0) (F.getD x 0)) = x
    rw [ge, h.R.m.l _ (h.get hx), idx_of h.full.g.nd hx]
  · show idx F (r.mul (F.getD x 0) (F.getD (idx F r.e) 0)) = x
    rw [ge, h.R.m.r _ (h.get hx), idx_of h.full.g.nd hx]
  · show idx F (r.mul (F.getD (idx F (r.mul (F.getD x 0) (F.getD y 0))) 0) (F.getD z 0)) = idx F (r.mul (F.getD x 0) (F.getD (idx F (r.mul (F.getD y 0) (F.getD z 0))) 0))
    rw [idx_get (mm hx hy), idx_get (mm hy hz), h.R.m.a _ _ _ (h.get hx) (h.get hy) (h.get hz)]
/-- values of texts, numbered -/
theorem Nb.valS {r : Rd} {F : List Nat} (h : Nb r F) : ∀ (t : List Pl) (s : List (Nat × Nat)) (c : Nat), okP r.la r.lb r.lc s.length t 0 → c ∈ F → (∀ p ∈ s, p.1 ∈ F ∧ p.2 < r.lb) →
    L3.valS r s c t ∈ F ∧ L3.valS (num r F) (s.map fun p => (idx F p.1, p.2)) (idx F c) t = idx F (L3.valS r s c t)
  | [], s, c, _, hc, _ => by
    cases s with
    | nil => exact ⟨hc, rfl⟩
    | cons p s => exact ⟨hc, rfl⟩
  | .lt a :: t, s, c, ho, hc, hs => by
    have hm := h.full.mul hc (h.l a ho.1)
    obtain ⟨i1, i2⟩ := Nb.valS h t s (r.mul c (r.L a)) ho.2 hm hs
    have e1 : L3.valS r s c (.lt a :: t) = L3.valS r s (r.mul c (r.L a)) t := by cases s <;> rfl
    have e2 : L3.valS (num r F) (s.map fun p => (idx F p.1, p.2)) (idx F c) (.lt a :: t) = L3.valS (num r F) (s.map fun p => (idx F p.1, p.2)) (idx F (r.mul (F.getD (idx F c) 0) (F.getD (idx F (r.L a)) 0))) t := by cases s <;> rfl
    rw [e1, e2, idx_get hc, idx_get (h.l a ho.1)]
    exact ⟨i1, i2⟩
  | .ca a :: t, s, c, ho, hc, hs => by
    obtain ⟨i1, i2⟩ := Nb.valS h t ((c, a) :: s) r.e ho.2 h.e fun p hp => by
      rcases List.mem_cons.mp hp with rfl | hp
      · exact ⟨hc, ho.1⟩
      · exact hs p hp
    have e1 : L3.valS r s c (.ca a :: t) = L3.valS r ((c, a) :: s) r.e t := by cases s <;> rfl
    have e2 : L3.valS (num r F) (s.map fun p => (idx F p.1, p.2)) (idx F c) (.ca a :: t) = L3.valS (num r F) ((((c, a) :: s)).map fun p => (idx F p.1, p.2)) (idx F r.e) t := by cases s <;> rfl
    rw [e1, e2]
    exact ⟨i1, i2⟩
  | .re b :: t, [], c, ho, hc, hs => absurd ho.2.1 (by simp)
  | .re b :: t, (g, k) :: s, c, ho, hc, hs => by
    obtain ⟨hg, hk⟩ := hs (g, k) List.mem_cons_self
    have hw := h.full.wr hk ho.1 hc
    have hm := h.full.mul hg hw
    obtain ⟨i1, i2⟩ := Nb.valS h t s (r.mul g (r.wr k b c)) (by have := ho.2.2; simpa using this) hm fun p hp => hs p (List.mem_cons_of_mem _ hp)
    have e2 : L3.valS (num r F) (((g, k) :: s).map fun p => (idx F p.1, p.2)) (idx F c) (.re b :: t) = L3.valS (num r F) (s.map fun p => (idx F p.1, p.2)) (idx F (r.mul (F.getD (idx F g) 0) (F.getD (idx F (r.wr k b (F.getD (idx F c) 0))) 0))) t := rfl
    show L3.valS r s (r.mul g (r.wr k b c)) t ∈ F ∧ _ = idx F (L3.valS r s (r.mul g (r.wr k b c)) t)
    rw [e2, idx_get hg, idx_get hc, idx_get hw]
    exact ⟨i1, i2⟩
theorem Nb.den {r : Rd} {F : List Nat} (h : Nb r F) {t : List Pl} (hb : Bal r.la r.lb r.lc t) : L3.den r t ∈ F ∧ L3.den (num r F) t = idx F (L3.den r t) :=
  Nb.valS h t [] r.e (hb.okP 0) h.e fun p hp => by cases hp
/-! ## the numbered reader's values are its numbers -/
theorem mem_map_idx {F f : List Nat} (hf : ∀ x ∈ f, x ∈ F) {x : Nat} (hx : x ∈ F) : idx F x ∈ f.map (idx F) ↔ x ∈ f := by
  constructor
  · intro h
    obtain ⟨y, hy, e⟩ := List.mem_map.mp h
    rw [← idx_inj (hf y hy) hx e]; exact hy
  · intro h; exact List.mem_map.mpr ⟨x, h, rfl⟩
theorem add_map {F : List Nat} : ∀ (made f : List Nat), (∀ x ∈ f, x ∈ F) → (∀ x ∈ made, x ∈ F) → addAll (f.map (idx F)) (made.map (idx F)) = (addAll f made).map (idx F)
  | [], f, _, _ => rfl
  | x :: r, f, hf, hm => by
    rw [List.map_cons]
    unfold addAll
    have hx := hm x List.mem_cons_self
    by_cases h : x ∈ f
    · rw [if_pos h, if_pos ((mem_map_idx hf hx).mpr h)]
      exact add_map r f hf fun y hy => hm y (List.mem_cons_of_mem _ hy)
    · rw [if_neg h, if_neg fun z => h ((mem_map_idx hf hx).mp z)]
      have := add_map r (f ++ [x]) (fun y hy => by
        rcases List.mem_append.mp hy with hy | hy
        · exact hf y hy
        · have : y = x := by simpa using hy
          subst this; exact hx) fun y hy => hm y (List.mem_cons_of_mem _ hy)
      rw [← this]; simp
theorem nexts_map {r : Rd} {F : List Nat} (h : Nb r F) {f : List Nat} (hf : ∀ x ∈ f, x ∈ F) : nexts (num r F) (f.map (idx F)) = (nexts r f).map (idx F) := by
  unfold nexts
  rw [List.map_append, List.map_flatMap, List.map_flatMap, List.flatMap_map]
  congr 1
  · unfold List.flatMap
    congr 1
    refine List.map_congr_left fun x hx => ?_
    rw [List.map_map, List.map_map]
    refine List.map_congr_left fun y hy => ?_
    show idx F (r.mul (F.getD (idx F x) 0) (F.getD (idx F y) 0)) = _
    rw [idx_get (hf x hx), idx_get (hf y hy)]; rfl
  · show (List.range r.lb).flatMap _ = _
    unfold List.flatMap
    congr 1
    refine List.map_congr_left fun a ha => ?_
    show (List.map _ (List.range r.lc)).flatten = _
    rw [List.map_flatten, List.map_map]
    congr 1
    refine List.map_congr_left fun b hb => ?_
    show List.map _ (List.map _ f) = List.map _ (List.map _ f)
    rw [List.map_map, List.map_map]
    refine List.map_congr_left fun y hy => ?_
    show idx F (r.wr a b (F.getD (idx F y) 0)) = _
    rw [idx_get (hf y hy)]; rfl
theorem nexts_in {r : Rd} {F : List Nat} (h : Nb r F) {f : List Nat} (hf : ∀ x ∈ f, x ∈ F) : ∀ x ∈ nexts r f, x ∈ F := by
  intro x hx
  rcases List.mem_append.mp hx with hx | hx
  · obtain ⟨y, hy, hx⟩ := List.mem_flatMap.mp hx
    obtain ⟨z, hz, rfl⟩ := List.mem_map.mp hx
    exact h.full.mul (hf y hy) (hf z hz)
  · obtain ⟨a, ha, hx⟩ := List.mem_flatMap.mp hx
    obtain ⟨b, hb, hx⟩ := List.mem_flatMap.mp hx
    obtain ⟨z, hz, rfl⟩ := List.mem_map.mp hx
    exact h.full.wr (List.mem_range.mp ha) (List.mem_range.mp hb) (hf z hz)
theorem spec_map {r : Rd} {F : List Nat} (h : Nb r F) (mo : Nat) : ∀ (k : Nat) (f made : List Nat), (∀ x ∈ f, x ∈ F) → (∀ x ∈ made, x ∈ F) → spec (num r F) mo k (f.map (idx F)) (made.map (idx F)) = (spec r mo k f made).map (List.map (idx F))
  | 0, _, _, _, _ => rfl
  | k + 1, f, made, hf, hm => by
    have hs : ∀ x ∈ addAll f made, x ∈ F := add_sub made f hf hm
    have hn := nexts_in h hs
    unfold spec
    rw [add_map made f hf hm, List.length_map, nexts_map h hs]
    by_cases h1 : mo < (addAll f made).length
    · rw [if_pos h1, if_pos h1]; rfl
    · rw [if_neg h1, if_neg h1]
      have e : (∀ x ∈ (nexts r (addAll f made)).map (idx F), x ∈ (addAll f made).map (idx F)) ↔ ∀ x ∈ nexts r (addAll f made), x ∈ addAll f made := by
        constructor
        · intro z x hx
          exact (mem_map_idx hs (hn x hx)).mp (z _ (List.mem_map.mpr ⟨x, hx, rfl⟩))
        · intro z y hy
          obtain ⟨x, hx, rfl⟩ := List.mem_map.mp hy
          exact (mem_map_idx hs (hn x hx)).mpr (z x hx)
      by_cases h2 : ∀ x ∈ nexts r (addAll f made), x ∈ addAll f made
      · rw [if_pos h2, if_pos (e.mpr h2)]; rfl
      · rw [if_neg h2, if_neg fun z => h2 (e.mp z)]
        exact spec_map h mo k _ _ hs hn
/-- collect of the numbered reader -/
theorem spec_num {r : Rd} (R : r.Ok) (mo : Nat) (hmo : r.n ≤ mo) {F : List Nat} (h : Nb r F) (hF : spec r mo (r.n + 1) [r.e] (lettersOf r) = some F) : spec (num r F) mo ((num r F).n + 1) [(num r F).e] (lettersOf (num r F)) = some (List.range F.length) := by
  have hN := h.ok
  obtain ⟨hg, hm, hf⟩ := start_ok hN
  have hl := h.full.g.len
  have e1 := spec_fuel hN mo (r.n - F.length) _ _ _ hg hm hf
  have e2 : (num r F).n + 1 + (r.n - F.length) = r.n + 1 := by show F.length + 1 + (r.n - F.length) = _; omega
  rw [e2] at e1
  rw [← e1]
  have e3 : lettersOf (num r F) = (lettersOf r).map (idx F) := by
    unfold lettersOf
    rw [List.map_map]; rfl
  have e4 := spec_map h mo (r.n + 1) [r.e] (lettersOf r) (fun x hx => by
      rw [show x = r.e by simpa using hx]; exact h.e) fun x hx => by
    obtain ⟨a, ha, rfl⟩ := List.mem_map.mp hx
    exact h.l a (List.mem_range.mp ha)
  rw [e3]
  show spec (num r F) mo (r.n + 1) ([r.e].map (idx F)) _ = _
  rw [e4, hF]
  show some (F.map (idx F)) = _
  rw [map_idx h.full.g.nd]
end L3
namespace L3
open PySem PySem.Spec PyProof.Rows L2
/-! ## a constant dict of texts and ints: D.get(x, y) -/
def kgetL : List (Str × Int) → Str → Option Int
  | [], _ => none
  | (k, i) :: r, z => if k = z then some i else kgetL r z
structure KDc (K : PySem.W.Frag) (w : World) (mg : Str → Option Value) (x : Str) (d : Addr) (kvs : List (Str × Int)) : Prop where
  g : mg x = some (.ref d)
  D : ∃ es n, KDict K w d es n
  get : ∀ z, ∃ r, PySem.W.nsIn K d z = some r ∧ (∀ i, kgetL kvs z = some i → ∃ t, r = some (.int i t)) ∧ (kgetL kvs z = none → r = none)
def tKget (kvs : List (Str × Int)) (ty tx : TE) : TE := fun σ H Q => ty σ H fun y H1 => tx σ H1 fun z H2 => ∃ s, y = .str s ∧ (∀ i, kgetL kvs s = some i → Q (.int i) H2) ∧ (kgetL kvs s = none → Q z H2)
section
variable {X : Cx} {W : WX} {pos : Pos}
theorem pe_kget {x : Str} {d : Addr} {kvs : List (Str × Int)} {e f : Expr} {p apos cpos : Pos} {ty tx : TE} (n : KDc X.K X.w X.mg x d kvs) (hg : Gl X x) (he : PE X e ty) (hf : PE X f tx) (m : M2 X (.Name x p) "get" apos e f cpos) (hd : (x == ("__debug__" : Str)) = false := by decide) :
    PE X (.Call (.Attribute (.Name x p) "get" apos) [e, f] [] cpos) (tKget kvs ty tx) := by
  obtain ⟨es, k, D⟩ := n.D
  have ho : PE X (.Name x p) (tC (.ref d)) := pe_glob hg n.g rfl hd
  refine ⟨fun pins s σ H Q I h => ?_⟩
  refine wpAny_Call_method m.base m.few m.line PySem.F.plainAttrs_dict PySem.F.slot_dict_get PySem.F.type_dict_get (thn (ho.run pins s σ H (fun v H1 => v = .ref d ∧ H1 = H) I ⟨rfl, rfl⟩) fun u s1 ⟨v, H1, I1, rx, ex, eH⟩ => ?_)
  subst ex
  subst eH
  obtain rfl : u = Value.ref d := rx
  have mo := PySem.W.mapOf_K (prog := X.prog) (w := X.w) I1.kIn D.at_ D.lit
  refine ⟨kd_type D I1, mo.noDict, ?_⟩
  rw [m.trees]
  refine Calls.callWith_builtin rfl (Calls.evalArgs_plain (Calls.spliced_cons (thn (he.run pins s1 σ H1 _ I1 h) fun iv s2 ⟨y, H2, I2, ry, q2⟩ =>
    Calls.spliced_cons (thn (hf.run pins s2 σ H2 _ I2 q2) fun fv s3 ⟨z, H3, I3, rz, t, ey, q3, q4⟩ => Calls.spliced_nil ?_))))
  subst ey
  obtain ⟨tk, rfl⟩ := ry
  obtain ⟨r, e1, e2, e3⟩ := n.get t
  refine call_meetsIn PySem.F.slot_dict_get (kd_type D I3) PySem.F.entry_dict_get (PySem.F.args_dict_get_3 _ _ _) (meets_dict_get_default (PySem.strKind X.prog X.w) d (PySem.strKind_is X.prog X.w t tk) D.low fv) ⟨_, PySem.W.mapOf_K (prog := X.prog) (w := X.w) I3.kIn D.at_ D.lit, ?_⟩
  rw [PySem.W.find_K D.at_ e1]
  cases hk : kgetL kvs t with
  | some i =>
    obtain ⟨t2, rfl⟩ := e2 i hk
    exact ⟨.int i, H3, I3.tok _, ⟨t2, rfl⟩, q3 i hk⟩
  | none =>
    rw [e3 hk]
    exact ⟨z, H3, I3.tok _, rz, q4 hk⟩
def kgetD (kvs : List (Str × Int)) (a b : D) (M : Mem) : R D := match a with
  | .str z => .ok (match kgetL kvs z with | some i => .int i | none => b) M
  | _ => .bad
theorem a_kget {x : Str} {d : Addr} {kvs : List (Str × Int)} {e f : Expr} {p apos cpos : Pos} {fe ff : SE} (n : KDc X.K X.w X.mg x d kvs) (hg : Gl X x) (he : AE X W e fe) (hf : AF X W f ff) (m : M2 X (.Name x p) "get" apos e f cpos) (hd : (x == ("__debug__" : Str)) = false := by decide) :
    AE X W (.Call (.Attribute (.Name x p) "get" apos) [e, f] [] cpos) (sOp (kgetD kvs) fe ff) :=
  PE.imp (pe_kget n hg he hf m hd) fun σ H Q q =>
    tG.step (k := fun e d1 M => (ff e M).bind fun d2 M => kgetD kvs d1 d2 M) (fun _ => bkE) q fun S w en w' M' H' v d s sx x r p =>
      ⟨S, w', en, M', s, sx, p.bind bkE fun d2 M2 w2 H2 v2 y s2 r2 p2 => by
        have r2 : Rep X.K w2 v2 d2 := r2
        cases d with
        | str z =>
          have ev : v = .str z := r.toR.str
          subst ev
          have p2 : Pst X.K W w2 H2 σ (rlE X.K S) Q (.ok (match kgetL kvs z with | some i => .int i | none => d2) M2) := p2
          refine ⟨z, rfl, fun i hi => ?_, fun hi => ?_⟩
          · rw [hi] at p2
            exact p2 w2 H2 (.int i) (.refl _ _) s2 (.inl (.int i))
          · rw [hi] at p2
            exact p2 w2 H2 v2 (.refl _ _) s2 (.inl r2)
        | _ => exact p2.elim⟩
end
/-- from the written part -/
theorem kdc_of {K : PySem.W.Frag} {w : World} {mg : Str → Option Value} {x : Str} {d : Addr} {kvs : List (Str × Int)} {es : Array DictEntry} {n : Nat} (g : mg x = some (.ref d)) (l : K.lookup d = some ⟨.type "dict", none, .dict es n, #[]⟩) (kl : PySem.W.KeysLit w.params es.toList) (low : (d == sysModules) = false)
    (he : ∀ z, (∀ i, kgetL kvs z = some i → ∃ t e, es.toList.find? (fun u => u.key.isStr z) = some e ∧ e.val = .int i t) ∧ (kgetL kvs z = none → es.toList.find? (fun u => u.key.isStr z) = none)) (hr : es.toList.any (·.refKey) = false) : KDc K w mg x d kvs := by
  refine ⟨g, ⟨es, n, l, kl, low⟩, fun z => ?_⟩
  obtain ⟨h1, h2⟩ := he z
  cases hk : kgetL kvs z with
  | some i =>
    obtain ⟨t, e, h3, h4⟩ := h1 i hk
    refine ⟨some e.val, ?_, fun j hj => ?_, fun z => by cases z⟩
    · unfold PySem.W.nsIn
      rw [l]
      simp only [h3]
    · cases hj
      exact ⟨t, by rw [h4]⟩
  | none =>
    refine ⟨none, ?_, ⟨fun j hj => absurd hj (by intro z; cases z), fun _ => rfl⟩⟩
    unfold PySem.W.nsIn
    rw [l]
    simp only [h2 hk, hr, Bool.false_eq_true, if_false]
/-- the entries are these -/
def EntOk : List DictEntry → List (Str × Int) → Prop
  | [], [] => True
  | e :: r, (k, i) :: s => (∃ t, e.key = .str k t) ∧ (∃ t, e.val = .int i t) ∧ EntOk r s
  | _, _ => False
theorem EntOk.find : ∀ {es : List DictEntry} {kvs : List (Str × Int)}, EntOk es kvs → ∀ z, (∀ i, kgetL kvs z = some i → ∃ t e, es.find? (fun u => u.key.isStr z) = some e ∧ e.val = .int i t) ∧ (kgetL kvs z = none → es.find? (fun u => u.key.isStr z) = none)
  | [], [], _, z => ⟨fun i h => absurd h (by intro w; cases w), fun _ => rfl⟩
  | e :: r, (k, j) :: s, h, z => by
    obtain ⟨⟨t, h1⟩, ⟨t2, h2⟩, h3⟩ := h
    obtain ⟨i1, i2⟩ := EntOk.find h3 z
    unfold kgetL
    by_cases hk : k = z
    · subst hk
      have e1 : e.key.isStr k = true := by rw [h1]; simp [Value.isStr]
      have e2 : (e :: r).find? (fun u => u.key.isStr k) = some e := by simp [List.find?, e1]
      rw [if_pos rfl, e2]
      exact ⟨fun i hi => ⟨t2, e, rfl, by cases hi; exact h2⟩, fun z => absurd z (by intro w; cases w)⟩
    · have e1 : e.key.isStr z = false := by rw [h1]; simp [Value.isStr]; exact hk
      have e2 : (e :: r).find? (fun u => u.key.isStr z) = r.find? fun u => u.key.isStr z := by simp [List.find?, e1]
      rw [if_neg hk, e2]
      exact ⟨i1, i2⟩
  | [], _ :: _, h, _ => h.elim
  | _ :: _, [], h, _ => h.elim
@[simp] theorem kgetD_str (kvs z b) (M : Mem) : kgetD kvs (.str z) b M = .ok (match kgetL kvs z with | some i => .int i | none => b) M := nrfl rfl
end L3
namespace L3
open PySem PySem.W PySem.Calls PyProof.Rows PyProof.V PySem.Spec L2
/-! ## an own error whose __init__ is: super().__init__(f'..{n}..'); self.fld = n -/
abbrev supBody (m1 m2 self n fld : Str) (j1 j2 : Nat) (p0 p1 p2 q1 q2 q3 q4 q5 q6 q7 q8 q9 q10 q11 : Pos) : List Stmt :=
  [.Expr (.Call (.Attribute (.Call (.Name "super" p0) [] [] p1) "__init__" p2) [.JoinedStr [.Constant (.str m1) j1 q1, .FormattedValue (.Name n q2) (-1) none q3, .Constant (.str m2) j2 q4] q5] [] q6) q7,
   .Assign [.Attribute (.Name self q8) fld q9] (.Name n q10) q11]
section
variable {prog : Program} {w : World} {A : Around} {s : Shared} {h₀ : Heap} {mg : Str → Option Value} {K : Frag} {R : Result → Shared → Prop}
theorem init_sup {name qual self n fld m1 m2 : Str} {params : Arguments} {scope : Scope} {dV kV doc pm ct oc ccl cl : Value} {an od cdd cld : Option Addr} {osl ccs csl : Array (Option Value)} {x C D f cc cda t0 : Addr} {i : Int} {t : Tok} {ar : Arg} {vs : Array Value} {file : Str} {tf : Tok} {cd cdD : ClassData} {j1 j2 : Nat} {p0 p1 p2 q1 q2 q3 q4 q5 q6 q7 q8 q9 q10 q11 : Pos} {bmB : List Value}
    (M : Mod K mg h₀) (hk0 : ∀ b o, h₀.get? b = some o → s.heap.get? b = some o) (hsz : h₀.objs.size ≤ s.heap.objs.size)
    (hx : s.heap.get? x = some (excObj C t0 none .none)) (hx0 : h₀.get? x = none) (hroom : A.depth < recursionLimit)
    (ho : K.lookup f = some ⟨oc, od, .func (ksFn name qual params (supBody m1 m2 self n fld j1 j2 p0 p1 p2 q1 q2 q3 q4 q5 q6 q7 q8 q9 q10 q11) scope dV kV doc pm an (.ref cda) ct cc), osl⟩)
    (hcd : codeIn K (.ref cda) qual = true)
    (hbind : BindsTo s (ksFn name qual params (supBody m1 m2 self n fld j1 j2 p0 p1 p2 q1 q2 q3 q4 q5 q6 q7 q8 q9 q10 q11) scope dV kV doc pm an (.ref cda) ct cc) ⟨[.ref x, .int i t], []⟩ [(self, .ref x), (n, .int i t)])
    (hp : (params.posonlyargs ++ params.args).head? = some ar) (har : ar.arg = self) (hsn : (self == n) = false)
    (hls : scope.names.lookup self = some .local) (hln : scope.names.lookup n = some .local) (hks : scope.names.lookup ("super" : Str) = some .globalImplicit) (hkc : scope.names.lookup ("__class__" : Str) = some .free)
    (hcode : K.lookup cda = some ⟨ccl, cdd, .fields vs, ccs⟩) (hvs : vs[2]? = some (.str file tf)) (hfile : ((prog.main.file : Str) == file) = true) (htop : (prog.main.scope.names.lookup ("super" : Str)).isSome = false)
    (hcell : K.lookup cc = some ⟨cl, cld, .cell (some (.ref D)), csl⟩) (hD : clsIn K D = some cdD) (hsub : mroIn K C (.ref D) = some true) (hmg : mg "super" = none) (hop : nsIn K cStatics "thirdparty.any" = some none)
    (hms : ks_superIn K C D "__init__" = some (some (.builtin "ValueError.__init__"))) (hB : subIn K (.ref C) (.type "ValueError") = some true) (FB : ExcBaseFacts "ValueError" "ValueError.__new__" "ValueError.__init__" bmB) (qi : excInitIn K C bmB "ValueError.__new__" = true)
    (T : OexC K C) (hno : findIn K (.ref C) fld = some none)
    (hi : i.natAbs < 10000) (hm : m1.length ≤ 1000 ∧ m2.length ≤ 1000) (hdb : (self == ("__debug__" : Str)) = false ∧ (n == ("__debug__" : Str)) = false)
    (hcel : ∀ x ∈ scope.names, x.2 ≠ .cell) (hco : scope.isCoroutine = false) (hgen : scope.isGenerator = false) (hk : scope.kind = .function) (hint : ∀ L, interactive (ksEnv qual scope L f (.ref cda) cc) = false)
    (hev : ∀ L, ∃ pl, eval (.Call (.Attribute (.Call (.Name "super" p0) [] [] p1) "__init__" p2) [.JoinedStr [.Constant (.str m1) j1 q1, .FormattedValue (.Name n q2) (-1) none q3, .Constant (.str m2) j2 q4] q5] [] q6) (ksEnv qual scope L f (.ref cda) cc) = (do
      let ov ← attributeBase (.Call (.Name "super" p0) [] [] p1) "__init__" (ksEnv qual scope L f (.ref cda) cc) (eval (.Call (.Name "super" p0) [] [] p1) (ksEnv qual scope L f (.ref cda) cc))
      standAt p2.atName
      let (g, first) ← holding [ov] (getMethod ov "__init__" pl)
      callWith q6 g first (backTo q6 (starEach [.JoinedStr [.Constant (.str m1) j1 q1, .FormattedValue (.Name n q2) (-1) none q3, .Constant (.str m2) j2 q4] q5] (ksEnv qual scope L f (.ref cda) cc))) []))
    (hR : ∀ h' tk dx t1, (∀ b o, h₀.get? b = some o → h'.get? b = some o) → h₀.objs.size ≤ dx → dx ≠ x → h'.get? x = some (excObj C t1 (some dx) .none) → h'.Ns1 dx (fun y => if y = fld then some (.int i t) else none) → R (.ok (.ret .none)) { s with heap := h', toks := tk }) :
    codeAny (model prog w) A (.call (.ref f) ⟨[.ref x, .int i t], []⟩) R s := by
  refine ks_codeAny_call_defAt (binds := [(self, .ref x), (n, .int i t)]) (body := supBody m1 m2 self n fld j1 j2 p0 p1 p2 q1 q2 q3 q4 q5 q6 q7 q8 q9 q10 q11) hroom (hk0 _ _ (M.kin _ _ ho)) rfl (M.nolimit.keeps hk0) (codeRec_of (M.kin.keeps hk0) hcd) rfl hbind hcel (fun y hy => ?_) (fun h₁ hns hk₁ => ?_) hco hgen hk
  · rcases List.mem_cons.mp hy with rfl | hy
    · exact hls
    · have : y = (n, .int i t) := by simpa using hy
      subst this; exact hln
  have vself : ([(self, Value.ref x), (n, .int i t)].reverse.lookup self : Option Value) = some (.ref x) := by
    simp [List.lookup, hsn]
  have vn : ([(self, Value.ref x), (n, .int i t)].reverse.lookup n : Option Value) = some (.int i t) := by
    simp [List.lookup]
  have F : Fr h₀ s.heap.objs.size h₁ (fun y => [(self, Value.ref x), (n, .int i t)].reverse.lookup y) := ⟨hns, fun b o e => hk₁ _ _ (hk0 _ _ e), hsz⟩
  have N : News h₀ s.heap.objs.size h₁ [(x, excObj C t0 none .none)] := fun p hp => by
    have : p = (x, excObj C t0 none .none) := by simpa using hp
    subst this
    exact ⟨hk₁ _ _ hx, Nat.ne_of_lt (Heap.lt_size hx), hx0⟩
  have X1 : K.In h₁ := M.kin.keeps F.keep
  obtain ⟨oD, hD1, hD2⟩ : ∃ oD, h₁.get? D = some oD ∧ oD.data = .cls cdD := by
    unfold clsIn at hD
    split at hD
    · rename_i c d cd' sl ho
      cases hD
      exact ⟨_, X1 _ _ ho, rfl⟩
    · cases hD
  have I1 : InstAt h₁ x (excObj C t0 none .none) C none := ⟨hk₁ _ _ hx, rfl, rfl, trivial⟩
  obtain ⟨mb, b1, b2⟩ := M.blt
  have hself : ∀ (L : Addr) (h : Heap) (tk : Nat), True := fun _ _ _ => trivial
  show _root_.PySem.wpAt (model prog w) (A.deeper (ksEnv qual scope s.heap.objs.size f (.ref cda) cc)) (.func (supBody m1 m2 self n fld j1 j2 p0 p1 p2 q1 q2 q3 q4 q5 q6 q7 q8 q9 q10 q11) (ksEnv qual scope s.heap.objs.size f (.ref cda) cc)) (execs (_ :: _) (ksEnv qual scope s.heap.objs.size f (.ref cda) cc)) _ _ _
  refine ks_wpAt_execs_cons ?_
  refine ks_wpAt_Expr_any ?_ (hint _) rfl
  obtain ⟨pl, hev⟩ := hev s.heap.objs.size
  refine ks_wpAt_MethodCall ?_ hev
  refine ks_wpAt_super_base (env := ksEnv qual scope s.heap.objs.size f (.ref cda) cc) hks hkc (by decide) rfl (X1 _ _ ho) rfl hp rfl (X1 _ _ hcode) rfl hvs hfile htop ?_
  refine ks_loadName_global hk hks (loadGlobal_builtin (env := ksEnv qual scope s.heap.objs.size f (.ref cda) cc) (M.glob.keeps F.keep) hmg (b1.keeps F.keep) ((b2 _ (by decide)).trans (show bootBuiltins "super" = some (.type "super") by decide +kernel)) ⟨rfl, ?_⟩)
  refine wpAny_loadName_free hk hkc rfl ⟨_, X1 _ _ hcell, rfl⟩ ?_
  refine wpAny_loadName_local hk (by rw [har]; exact hls) F.ns (by rw [har]; exact vself) ?_
  refine ks_wpAny_isType_cls hD1 hD2 ⟨rfl, ?_⟩
  refine ks_wpAny_call_super hD1 hD2 I1.at_ I1.cls (fun c e => by cases e) (looks_mroIn X1 hsub) (fun h2 e2 k2 => ?_)
  obtain ⟨F2, N2, l2⟩ := ks_newsPush (s := { s with heap := h₁, toks := s.toks + 2 }) F N rfl e2 k2
  have hne : (s.heap.objs.size : Nat) = s.heap.objs.size := rfl
  have me : ∀ {nw : List (Addr × Obj)}, (x, excObj C t0 none .none) ∈ nw ++ [(x, excObj C t0 none .none)] := fun {nw} => List.mem_append_right _ List.mem_cons_self
  have I2 : InstAt h2 x (excObj C t0 none .none) C none := ⟨(N2 _ (List.mem_cons_of_mem _ List.mem_cons_self)).1, rfl, rfl, trivial⟩
  refine kxs_method (K := K) kxs_ValueError F2 M.kin N2 List.mem_cons_self I2 hop hms hB (by decide) fun u h3 F3 N3 l3 => ?_
  refine kxs_callWith1 N3 List.mem_cons_self ?_
  refine PyProof.Rows.args_cons (wpAny_JoinedStr ?_) rfl
  have ee : evalEach [.Constant (.str m1) j1 q1, .FormattedValue (.Name n q2) (-1) none q3, .Constant (.str m2) j2 q4] (ksEnv qual scope s.heap.objs.size f (.ref cda) cc) = [eval (.Constant (.str m1) j1 q1) (ksEnv qual scope s.heap.objs.size f (.ref cda) cc), eval (.FormattedValue (.Name n q2) (-1) none q3) (ksEnv qual scope s.heap.objs.size f (.ref cda) cc), eval (.Constant (.str m2) j2 q4) (ksEnv qual scope s.heap.objs.size f (.ref cda) cc)] := by
    first | rfl | simp [evalEach]
  rw [ee]
  have li := int_text_length_le10 (a := i) (k := 4) (by decide) (by simpa using hi)
  have li2 : (Str.ofString (toString i)).length ≤ 5 := by rw [PySem.ofString_length]; omega
  have big : (10000 : Nat) ≤ sizeLine := by decide
  have le0 : (Str.empty : Str).length = 0 := rfl
  refine wpAny_Constant_str ⟨m1, _, rfl, by rw [Str.length_append, le0]; omega, ?_⟩
  refine wpAny_FormattedValue_plain (wpAny_Name (wpAny_loadName_local hk hln F3.ns vn ?_) hdb.2)
  have hlog : i.natAbs.log2 < 1920 := by
    by_cases h0 : i.natAbs = 0
    · rw [h0]; decide
    · exact (Nat.log2_lt h0).mpr (Nat.lt_of_lt_of_le hi (Nat.le_trans (show 10000 ≤ 2 ^ 14 by decide) (Nat.pow_le_pow_right (by decide) (by decide))))
  refine wpAny_formatField_int hlog ⟨_, _, rfl, by rw [Str.length_append, Str.length_append, le0]; omega, ?_⟩
  refine wpAny_Constant_str ⟨m2, _, rfl, by rw [Str.length_append, Str.length_append, Str.length_append, le0]; omega, ?_⟩
  refine ⟨by rw [Str.length_append, Str.length_append, Str.length_append, le0]; omega, ?_⟩
  refine PyProof.Rows.args_nil ⟨kxs_at N3 List.mem_cons_self, ?_⟩
  refine kxs_call F3 M.kin N3 FB qi List.mem_cons_self (.tail (Nat.ne_of_gt (l3 _ (List.mem_cons_of_mem _ List.mem_cons_self))) (.tail (Nat.ne_of_gt (l2 _ List.mem_cons_self)) (.head (fun p hp => by cases hp)))) (by show 1 ≤ sizeLine; omega) fun t1 h4 F4 N4 l4 => ?_
  have X4 : K.In h4 := M.kin.keeps F4.keep
  have hx4 : h4.get? x = some (excObj C t1 none .none) := (N4 (x, excObj C t1 none .none) (by simp)).1
  obtain ⟨nm, q, N', bs, bm, sn, sub, ab, col, dd, k0, k1, k2', k3, k5, hC, hbm⟩ := T.cls
  have hcl : clsIn K C = some { name := nm, bases := bs, mro := .ref C :: bm, ns := N', qualname := q, hasDict := true, slotNames := sn, subclasses := sub, abstract := ab, collection := col, hasDel := false } := by unfold clsIn; rw [hC] <;> rfl
  refine ks_wpAt_execs_cons ?_
  refine ks_wpAt_Assign_Attr ?_ (by rfl)
  refine wpAt_of_wpAny (wpAny_Name (wpAny_loadName_local hk hln F4.ns vn ?_) hdb.2)
  refine wpAny_Name (wpAny_loadName_local hk hls F4.ns vself ?_) hdb.1
  refine set_plain X4 (ox := excObj C t1 none .none) (od := none) ⟨hx4, rfl, rfl, trivial⟩ T.sa ?_
  refine PySem.HandSPX.exc_osa X4 hx4 hcl (show PySem.HandSPX.refsVE (.ref C :: bm) = true from hbm) rfl hno (fun h' tk' dx k dn dne hx' hn => ?_)
  refine wpAt_of_wpAny ?_
  have hlt : s.heap.objs.size < h4.objs.size := by
    obtain ⟨o, es, ep, e, _⟩ := F4.ns
    exact Heap.lt_size e
  exact wpAny_pure (hR h' _ dx t1 (fun b o e => k b o (fun z => by rw [z, hx0] at e; cases e) (F4.keep b o e)) (Nat.le_trans hsz (Nat.le_of_lt (Nat.lt_of_lt_of_le hlt dn))) dne hx' hn)
end
end L3
namespace L3
open PySem PySem.W PySem.Calls PyProof.Rows PyProof.V PySem.Spec L2
/-- the class's own __init__, walked -/
def InitOk (prog : Program) (w : World) (K : Frag) (mg : Str → Option Value) (C fI : Addr) (fld : Str) : Prop :=
  ∀ (A : Around) (s : Shared) (h₀ : Heap) (R : Result → Shared → Prop) (x t0 : Addr) (i : Int) (t : Tok), Mod K mg h₀ → (∀ b o, h₀.get? b = some o → s.heap.get? b = some o) → h₀.objs.size ≤ s.heap.objs.size →
    s.heap.get? x = some (excObj C t0 none .none) → h₀.get? x = none → A.depth < recursionLimit → i.natAbs < 10000 →
    (∀ h' tk dx t1, (∀ b o, h₀.get? b = some o → h'.get? b = some o) → h₀.objs.size ≤ dx → dx ≠ x → h'.get? x = some (excObj C t1 (some dx) .none) → h'.Ns1 dx (fun y => if y = fld then some (.int i t) else none) → R (.ok (.ret .none)) { s with heap := h', toks := tk }) →
    codeAny (model prog w) A (.call (.ref fI) ⟨[.ref x, .int i t], []⟩) R s
structure SupC (prog : Program) (w : World) (K : Frag) (mg : Str → Option Value) (x : Str) (C fI : Addr) (fld : Str) : Prop where
  g : mg x = some (.ref C)
  T : OexC K C
  iC : findIn K (.ref C) "__init__" = some (some (.ref fI))
  tI : typeIn K (.ref fI) = some (.type "function")
  run : InitOk prog w K mg C fI fld
def tMkS (C : Addr) (fld : Str) (te : TE) : L2.St → Hp → XK → Prop := fun σ H Q => te σ H fun v H1 => ∃ i : Int, [v] = [V.int i] ∧ i.natAbs < 10000 ∧ ∀ d, H1 d = none → Q (.ref C) (some d) (upd H1 d (.xd [(fld, .int i)]))
section
variable {X : Cx}
theorem pmk_sup {x : Str} {C fI : Addr} {fld : Str} {k : Nat} {e : Expr} {te : TE} {p pos : Pos} (S : SupC X.prog X.w X.K X.mg x C fI fld) (hr : Room (k + 1) X.A) (hg : Gl X x) (he : PE X e te)
    (hdb : (x == ("__debug__" : Str)) = false := by decide) (hs : starEach [e] X.env = (false, eval e X.env) :: starEach [] X.env := by rfl) : PMk X (.Call (.Name x p) [e] [] pos) (tMkS C fld te) := by
  intro pins s σ H Q I h
  obtain ⟨nm, q, N, bs, bm, sn, sub, ab, col, dd, k0, k1, k2, k3, k5, hC, hbm⟩ := S.T.cls
  refine wpAny_Call_Name_kw (ld_glob I hg S.g ?_ hdb)
  have ha : PA X [e] (tCons te tNil) := pa_cons he pa_nil hs
  refine callWith_K (h₀ := X.base) I.ok.mod.kin S.T.kC (thn (ha.run pos pins s σ H (fun vs H1 => ∃ i : Int, vs = [V.int i] ∧ i.natAbs < 10000 ∧ ∀ d, H1 d = none → Q (.ref C) (some d) (upd H1 d (.xd [(fld, .int i)]))) I h) fun us s1 hh => ?_) hs rfl
  obtain ⟨vs, H1, I1, r1, i, ev, hi, q1⟩ := hh
  subst ev
  refine ⟨I1.kIn, ?_⟩
  cases r1 with
  | cons ru rn =>
    rename_i u us'
    cases rn
    obtain ⟨t, rfl⟩ := ru
    show wpAny _ _ (call (.ref C) [.int i t]) _ _ _
    obtain ⟨hp, g, dr, tk, os⟩ := s1
    have hget : ((hp.push (kdv_tup [.int i t])).push (PySem.HandSPX.excO C hp.objs.size)).get? (hp.objs.size + 1) = some (PySem.HandSPX.excO C hp.objs.size) := by heap_get
    obtain ⟨mb, b1, b2⟩ := I1.mod.blt
    have Mh : Mod X.K X.mg hp := ⟨I1.kIn, I1.mod.glob.keeps I1.bk, ⟨mb, b1.keeps I1.bk, b2⟩, I1.nolimit⟩
    have kk : ∀ b o, hp.get? b = some o → ((hp.push (kdv_tup [.int i t])).push (PySem.HandSPX.excO C hp.objs.size)).get? b = some o := fun b o e => Heap.get?_push_of_some _ (Heap.get?_push_of_some _ e)
    refine wpAny_call (PySem.HandSPX.call_own F.excBase_ValueError (fun Y => PySem.HandSPX.refsVE_contains Y bm hbm) (I1.kIn _ _ hC) (looks_findIn I1.kIn S.iC) (fun self => bind_fn I1.kIn self S.tI) (by show 1 ≤ sizeLine; rw [sizeLine_eq]; omega) ?_)
    refine S.run _ _ hp _ (hp.objs.size + 1) hp.objs.size i t Mh kk (by show hp.objs.size ≤ ((hp.push _).push _).objs.size; rw [size_push', size_push']; omega) hget ?_ (hr.make C [.int i t] []).depth hi (fun h' tk' dx t1 k dn dne hx hn => ?_)
    · cases z : hp.get? (hp.objs.size + 1) with
      | none => rfl
      | some o => exact absurd (Heap.lt_size z) (Nat.not_lt.mpr (Nat.le_succ _))
    · refine ⟨rfl, ?_⟩
      obtain ⟨G, g1, g2⟩ := restrict h' fun b => decide (b ≠ hp.objs.size + 1)
      have gk : ∀ b, b ≠ hp.objs.size + 1 → G.get? b = h'.get? b := fun b hb => g1 b (decide_eq_true hb)
      have ge : G.get? (hp.objs.size + 1) = none := g2 _ (by simp)
      have J := I1.laid (a := dx) (o := .xd [(fld, .int i)]) (h' := G) (t' := tk') (fun b o z => by
        rw [gk b (Nat.ne_of_lt (Nat.lt_succ_of_lt (Heap.lt_size z)))]; exact k b o z) dn ⟨_, hn.at fun o y => (gk dx dne).trans y, relO_put (fs := []) ⟨t, rfl⟩ fun g => True.intro⟩
      refine ⟨hp.objs.size + 1, _, _, _, _, .ref C, some dx, rfl, J, fun b o z => ?_, ge, hx, ⟨rfl, rfl⟩, rfl, rfl, ?_, rfl, J.bare, raises_own S.T.exC S.T.tyC, q1 dx (I1.hok.fresh dn)⟩
      · by_cases hb : b = hp.objs.size + 1
        · rw [hb, ge] at z; cases z
        · rw [gk b hb] at z; exact z
      · rw [upd_ne (Ne.symm dne)]; exact I1.hok.fresh (Nat.le_succ _)
end
end L3
namespace L3
open PySem PySem.Spec PyProof.Rows L2
/-! ## raise C(i), try .. except C as n, n.fld -/
def raiseI (C : Addr) (fld : Str) (e : En) (d : D) (M : Mem) : RS := match d with
  | .int i => if decide (i.natAbs < 10000) = true then .exc C [(fld, .int i)] e M else .bad
  | _ => .bad
def sRaiseI (C : Addr) (fld : Str) (f : SE) : SS := fun e M => (f e M).bindS e (raiseI C fld e)
def tryX (i : Nat) (C : Addr) (h : Addr → Addr → SS) (o : RS) : RS := match o with
  | .exc D fs e2 M2 => if D = C ∧ fs.isEmpty = false then postX i (h 0 0 (e2.set i (some (.exn 0 0 fs))) M2) else .bad
  | o => o
def sTryX (i : Nat) (C : Addr) (h : Addr → Addr → SS) (b : SS) : SS := fun e M => tryX i C h (b e M)
def xf1 (a dd : Addr) (fld : Str) (d : D) (M : Mem) : R D := match d with
  | .exn b d2 fs => if b = a ∧ d2 = dd then ofO (fgetD fs fld) M else .bad
  | _ => .bad
def sXf (a dd : Addr) (fld : Str) (f : SE) : SE := fun e M => (f e M).bind (xf1 a dd fld)
theorem Rep.exn_inv {K : PySem.W.Frag} {w : Wd} {v : V} {a dd : Addr} {fs : List (Str × D)} (r : Rep K w v (.exn a dd fs)) : v = .ref a ∧ ∃ us, w.B dd = some (.xd us) ∧ FsR K w us fs := by
  cases r with
  | exn h q => exact ⟨rfl, _, h, q⟩
section
variable {X : Cx} {W : WX}
theorem s_raiseI {x : Str} {C fI : Addr} {fld : Str} {k : Nat} {e : Expr} {f : SE} {p p3 pos : Pos} (hc : X.calm = true) (tk : Takes X W) (S : SupC X.prog X.w X.K X.mg x C fI fld) (hr : Room (k + 1) X.A) (hg : Gl X x) (h : AE X W e f)
    (hdb : (x == ("__debug__" : Str)) = false := by decide) (hs : starEach [e] X.env = (false, eval e X.env) :: starEach [] X.env := by rfl) :
    AS X W (.Raise (some (.Call (.Name x p) [e] [] p3)) none pos) (sRaiseI C fld f) :=
  PS.imp (ps_raise hc tk (pmk_sup S hr hg h hdb hs)) fun E σ H q =>
    tS.step (k := fun e d M => raiseI C fld e d M) q fun S w e w' M' H' v d s sr lv x r p _ _ => by
      cases d with
      | int i =>
        have r : RepO X.K S H w' H' v (.int i) := r
        have ev : v = .int i := by
          rcases r with r | ⟨ds, e, _⟩ | ⟨ds, e, _⟩
          · cases r; rfl
          · cases e
          · cases e
        subst ev
        have p : PstS X.K W S w' H' E (if decide (i.natAbs < 10000) = true then .exc C [(fld, .int i)] e M' else .bad) := p
        by_cases hi : i.natAbs < 10000
        · rw [if_pos (decide_eq_true hi)] at p
          refine ⟨i, rfl, hi, fun a ha => ?_⟩
          obtain ⟨s2, x2⟩ := s.imm (o := .xd [(fld, .int i)]) ha
          exact p _ _ σ (some a) x2.of s2 (sr.mono x2) (.inr ⟨a, _, by simp, rfl, upd_same, .cons (.int i) .nil⟩)
        · rw [if_neg (by simpa using hi)] at p; exact p.elim
      | _ => exact p.elim
theorem a_xf {a dd C : Addr} {oe : Obj} {pn : List (Addr × Obj)} {n : Str} {e : Expr} {fo : SE} {pos : Pos} (T : XfC X.K C) (hno : PySem.W.findIn X.K (.ref C) n = some none) (hz : Zc (.ref C) (some dd) oe) (hf : ∃ vs, oe.data = .fields vs)
    (h : AF (X.suite a ((a, oe) :: pn)) W e fo) (hb : attributeBase e n X.env (eval e X.env) = eval e X.env := by rfl) : AE (X.suite a ((a, oe) :: pn)) W (.Attribute e n pos) (sXf a dd n fo) :=
  PE.imp (pe_xf T hno hz hf h hb) fun σ H Q q => tG.step (k := fun _ d M => xf1 a dd n d M) (fun _ => bkE) q fun S w e w' M' H' v d s sx x r p => by
    have r : Rep X.K w' v d := r
    cases d with
    | exn b d2 fs =>
      obtain ⟨rfl, us, hb, q1⟩ := r.exn_inv
      have p : Pst X.K W w' H' σ (rlE X.K S) Q (if b = a ∧ d2 = dd then ofO (fgetD fs n) M' else .bad) := p
      by_cases hB : b = a ∧ d2 = dd
      · obtain ⟨rfl, rfl⟩ := hB
        rw [if_pos ⟨rfl, rfl⟩] at p
        obtain ⟨d, e1, k⟩ := ofO_G s p
        obtain ⟨v, h1, h2⟩ := q1.get e1
        exact ⟨rfl, rfl, d2, us, v, rfl, s.same _ _ hb, h1, k v h2⟩
      · rw [if_neg hB] at p; exact p.elim
    | _ => exact p.elim
theorem s_tryX {x n : Str} {C : Addr} {i : Nat} {body suite : List Stmt} {b₀ : Stmt} {np pos pos' : Pos} {b : SS} {h : Addr → Addr → SS} (hs : X.stack = X.env :: X.outer) (hf : X.env.frame = some X.env.locals) (hN : X.N.Nodup) (hi : X.N[i]? = some n) (hln : X.env.kindOf n = some .local) (hc : Names X x (.ref C)) (tk : Takes X W)
    (hx : PySem.W.exmOne X.K (.ref C) (.ref C) = some true) (ind : ∀ (a dd : Addr) (fs : List (Str × D)) (e : En) (M : Mem), postX i (h a dd (e.set i (some (.exn a dd fs))) M) = postX i (h 0 0 (e.set i (some (.exn 0 0 fs))) M))
    (hb : ∀ (W2 : WX) (pn : List (Addr × Obj)) (xe : Value → Shared → Prop), Takes (X.tr pn xe) W2 → PassesOwn (model X.prog X.w) X.A X.env xe → ASs (X.tr pn xe) W2 body b)
    (hsu : ∀ (a dd : Addr) (oe : Obj) (pn : List (Addr × Obj)), Zc (.ref C) (some dd) oe → (∃ vs, oe.data = .fields vs) → ASs (X.suite a ((a, oe) :: pn)) (fun _ _ _ _ => False) (b₀ :: suite) (h a dd)) :
    AS X W (.Try body [.ExceptHandler (some (.Name x np)) (some n) (b₀ :: suite) pos'] [] [] pos) (sTryX i C h b) :=
  PS.imp (ps_try_as (tb := fun W2 => tS X.K W2 b) (ts := fun a cls d D σ H => cls = .ref C ∧ ∃ dd, d = some dd ∧ tS X.K (fun _ _ _ _ => False) (h a dd) D σ H) hs hf hN hi hln hc tk hb fun a oe cls d pn hz hv =>
    ⟨fun pins s σ H D I ⟨e1, dd, e2, q⟩ => by
      subst e1; subst e2
      exact (hsu a dd oe pn hz hv).run pins s σ H D I q⟩) fun E σ H q => by
    obtain ⟨S, w, e, M, hs, sr, lv, p⟩ := q
    refine ⟨S, w, e, M, hs, sr, lv, ?_⟩
    have p : PstS X.K W S w H E (tryX i C h (b e M)) := p
    cases hb : b e M with
    | nx e2 M2 => rw [hb] at p; exact p
    | bk e2 M2 => rw [hb] at p; exact p
    | ct e2 M2 => rw [hb] at p; exact p
    | rt d M2 => rw [hb] at p; exact p
    | bad => rw [hb] at p; exact p
    | exc D fs e2 M2 =>
      rw [hb] at p
      have p3 : PstS X.K W S w H E (if D = C ∧ fs.isEmpty = false then postX i (h 0 0 (e2.set i (some (.exn 0 0 fs))) M2) else .bad) := p
      clear p
      by_cases hD : D = C ∧ fs.isEmpty = false
      · rw [if_pos hD] at p3
        obtain ⟨rfl, hfs⟩ := hD
        intro w' H' σ' od x s r xf
        rcases xf with ⟨z, _⟩ | ⟨dx, us, _, eo, hB, hF⟩
        · subst z; cases hfs
        · subst eo
          refine ⟨true, hx, fun _ a ha => ⟨rfl, dx, rfl, S, w', e2.set i (some (.exn a dx fs)), M2, s, r.setD (.exn hB hF), lv.on x, ?_⟩, fun z => nomatch z⟩
          have p2 := PstS.shift x p3
          rw [← ind a dx fs e2 M2] at p2
          exact p2.postX
      · rw [if_neg hD] at p3; exact p3.elim
end
section
variable (e : En) (M : Mem)
@[simp] theorem sRaiseI_eq (C fld f) : sRaiseI C fld f e M = (f e M).bindS e (raiseI C fld e) := nrfl rfl
theorem raiseI_int (C fld i) (h : i.natAbs < 10000) : raiseI C fld e (.int i) M = .exc C [(fld, .int i)] e M := by
  show (if decide (i.natAbs < 10000) = true then RS.exc C [(fld, D.int i)] e M else RS.bad) = _
  rw [if_pos (decide_eq_true h)]
theorem sTryX_eq (i C h b) : sTryX i C h b e M = tryX i C h (b e M) := rfl
@[simp] theorem tryX_rt (i C h d) : tryX i C h (.rt d M) = .rt d M := nrfl rfl
@[simp] theorem tryX_nx (i C h) : tryX i C h (.nx e M) = .nx e M := nrfl rfl
theorem tryX_exc (i C h fld d) : tryX i C h (.exc C [(fld, d)] e M) = postX i (h 0 0 (e.set i (some (.exn 0 0 [(fld, d)]))) M) := by unfold tryX; simp
@[simp] theorem sXf_eq (a dd fld f) : sXf a dd fld f e M = (f e M).bind (xf1 a dd fld) := nrfl rfl
theorem xf1_exn (a dd fld d) : xf1 a dd fld (.exn a dd [(fld, d)]) M = .ok d M := by
  show (if a = a ∧ dd = dd then ofO (fgetD [(fld, d)] fld) M else R.bad) = _
  rw [if_pos ⟨rfl, rfl⟩]; simp [fgetD, ofO]
@[simp] theorem var1_exn (a dd fs) : var1 (some (.exn a dd fs)) M = .ok (.exn a dd fs) M := nrfl rfl
@[simp] theorem fz1_exn (a dd fs) : fz1 (.exn a dd fs) M = .ok (.exn a dd fs) M := nrfl rfl
end
end L3
namespace L3
open PySem PySem.Spec PyProof.Rows L2
/-! ## isinstance of an error with a field -/
def rIsD (K : PySem.W.Frag) (D0 a dd : Addr) : List V → Hp → VK → Prop := fun xs H Q => (∃ us, H dd = some (.xd us)) ∧ rIsE K D0 a xs H Q
theorem call_isD {X : Cx} {a D0 dd : Addr} {oe : Obj} {pn : List (Addr × Obj)} (Ce : ExcC X.K D0) (hz : Zc (.ref D0) (some dd) oe) (hf : ∃ vs, oe.data = .fields vs) : CallR (X.suite a ((a, oe) :: pn)) (.builtin "isinstance") (rIsD X.K D0 a dd) := by
  intro pins s σ H xs us Q I r h0
  obtain ⟨⟨fs, hd⟩, c, cv, b, rfl, hcv, ek, q1⟩ := h0
  cases r with
  | cons rx rr =>
    cases rr with
    | cons rt rr =>
      cases rr
      cases rx
      have ec := hcv _ rt
      subst ec
      obtain ⟨hg, _⟩ := I.pin (a, oe) (List.mem_append_left _ List.mem_cons_self)
      obtain ⟨vs, hv⟩ := hf
      have hx : ObjOk X.prog X.w H s.heap dd (.xd fs) := I.hok dd _ hd
      obtain ⟨mA, ⟨od, es, ep, ho, _⟩, _⟩ := hx
      have J : PySem.W.InstAt s.heap a oe D0 (some od) := ⟨hg, hz.1, by unfold PySem.W.notCls; rw [hv] <;> rfl, by rw [hz.2]; exact ho⟩
      have hcl : (PySem.W.clsIn X.K D0).isSome = true := by
        obtain ⟨cd0, h1, _⟩ := PySem.W.any_some Ce.hd
        rw [h1]; rfl
      exact PySem.W.kia_one (PySem.W.kitx_exc hcl Ce.hg Ce.hk Ce.hs Ce.ha Ce.hn Ce.ht Ce.hm) I.kIn J ek (fun z => nomatch z) fun tk => ⟨.bl b, H, I.kept (t' := tk) fun _ _ z => z, rfl, q1⟩
def isXD (a dd A : Addr) (v : Bool) (ds : List D) (M : Mem) : R D := match ds with
  | [.exn b d2 _, .ref B] => if b = a ∧ d2 = dd ∧ B = A then .ok (.bl v) M else .bad
  | _ => .bad
section
variable {X : Cx} {W : WX}
theorem isXG {a dd A D0 : Addr} {v : Bool} (hk : PySem.W.kitOne X.K (.ref D0) (.ref A) = some v) : CallG X W (rIsD X.K D0 a dd) (isXD a dd A v) := by
  intro S w M H σ xs ds Q hs rs p
  have go : ∃ fs, ds = [.exn a dd fs, .ref A] := by
    unfold isXD at p
    split at p
    · rename_i b d2 fs B
      by_cases z : b = a ∧ d2 = dd ∧ B = A
      · obtain ⟨rfl, rfl, rfl⟩ := z; exact ⟨fs, rfl⟩
      · rw [if_neg z] at p; exact p.elim
    · exact p.elim
  obtain ⟨fs, rfl⟩ := go
  cases rs with
  | cons r1 rs =>
    cases rs with
    | cons r2 rs =>
      cases rs
      have e1 : ∀ {v : V} {c : Addr}, RepR X.K w H v (.ref c) → v = .ref c := fun r => by
        rcases r with r | ⟨xs, r | r, _⟩
        · cases r; rfl
        · cases r
        · cases r
      have e2 : ∀ {v : V}, RepR X.K w H v (.exn a dd fs) → v = .ref a ∧ ∃ us, w.B dd = some (.xd us) := fun r => by
        rcases r with r | ⟨xs, r | r, _⟩
        · obtain ⟨h1, us, h2, _⟩ := r.exn_inv
          exact ⟨h1, us, h2⟩
        · cases r
        · cases r
      obtain ⟨h1, us, h2⟩ := e2 r1
      rw [h1, e1 r2]
      refine ⟨⟨us, hs.same _ _ h2⟩, .ref A, .ref A, v, rfl, fun u ru => ru, hk, ?_⟩
      have p : Pst X.K W w H σ (rlE X.K S) Q (if a = a ∧ dd = dd ∧ A = A then .ok (.bl v) M else .bad) := p
      rw [if_pos ⟨rfl, rfl, rfl⟩] at p
      exact p w H (.bl v) (.refl _ _) hs (.inl (.bl v))
theorem a_isErrX {a dd D0 A : Addr} {oe : Obj} {pn : List (Addr × Obj)} {v : Bool} {y n : Str} {i : Nat} {p p1 p2 pos : Pos} (Ce : ExcC X.K D0) (hz : Zc (.ref D0) (some dd) oe) (hf : ∃ vs, oe.data = .fields vs) (hk : PySem.W.kitOne X.K (.ref D0) (.ref A) = some v)
    (hgl : Gl X "isinstance") (hm : X.mg "isinstance" = none) (ha : AA (X.suite a ((a, oe) :: pn)) W [.Name n p1, .Name y p2] (sCons (sVar i) (sCons (sC (.ref A)) sNil))) :
    AE (X.suite a ((a, oe) :: pn)) W (.Call (.Name "isinstance" p) [.Name n p1, .Name y p2] [] pos) (sCall (isXD a dd A v) (sCons (sVar i) (sCons (sC (.ref A)) sNil))) :=
  a_callB (X := X.suite a ((a, oe) :: pn)) (call_isD (X := X) Ce hz hf) (isXG (X := X.suite a ((a, oe) :: pn)) hk) hgl hm boot_isinstance ha
end
theorem isXD_eq (a dd A v fs) (M : Mem) : isXD a dd A v [.exn a dd fs, .ref A] M = .ok (.bl v) M := by
  show (if a = a ∧ dd = dd ∧ A = A then R.ok (D.bl v) M else R.bad) = _
  rw [if_pos ⟨rfl, rfl, rfl⟩]
end L3
namespace L3
open PySem PySem.W PySem.Calls PyProof.Rows PyProof.V PySem.Spec L2
/-- from the written part -/
theorem initOk_of {prog : Program} {w : World} {mg : Str → Option Value} {K : Frag} {name qual self n fld m1 m2 : Str} {params : Arguments} {scope : Scope} {dV kV doc pm ct oc ccl cl : Value} {an od cdd cld : Option Addr} {osl ccs csl : Array (Option Value)} {C D f cc cda : Addr} {ar : Arg} {vs : Array Value} {file : Str} {tf : Tok} {cdD : ClassData} {j1 j2 : Nat} {p0 p1 p2 q1 q2 q3 q4 q5 q6 q7 q8 q9 q10 q11 : Pos}
    (ho : K.lookup f = some ⟨oc, od, .func (ksFn name qual params (supBody m1 m2 self n fld j1 j2 p0 p1 p2 q1 q2 q3 q4 q5 q6 q7 q8 q9 q10 q11) scope dV kV doc pm an (.ref cda) ct cc), osl⟩)
    (hcd : codeIn K (.ref cda) qual = true) (hb : Binds K (ksFn name qual params (supBody m1 m2 self n fld j1 j2 p0 p1 p2 q1 q2 q3 q4 q5 q6 q7 q8 q9 q10 q11) scope dV kV doc pm an (.ref cda) ct cc) [self, n] [])
    (hp : (params.posonlyargs ++ params.args).head? = some ar) (har : ar.arg = self) (hsn : (self == n) = false)
    (hls : scope.names.lookup self = some .local) (hln : scope.names.lookup n = some .local) (hks : scope.names.lookup ("super" : Str) = some .globalImplicit) (hkc : scope.names.lookup ("__class__" : Str) = some .free)
    (hcode : K.lookup cda = some ⟨ccl, cdd, .fields vs, ccs⟩) (hvs : vs[2]? = some (.str file tf)) (hfile : ((prog.main.file : Str) == file) = true) (htop : (prog.main.scope.names.lookup ("super" : Str)).isSome = false)
    (hcell : K.lookup cc = some ⟨cl, cld, .cell (some (.ref D)), csl⟩) (hD : clsIn K D = some cdD) (hsub : mroIn K C (.ref D) = some true) (hmg : mg "super" = none) (hop : nsIn K cStatics "thirdparty.any" = some none)
    (hms : ks_superIn K C D "__init__" = some (some (.builtin "ValueError.__init__"))) (hB : subIn K (.ref C) (.type "ValueError") = some true) (qi : excInitIn K C [.type "ValueError", .type "Exception", .type "BaseException", .type "object"] "ValueError.__new__" = true)
    (T : OexC K C) (hno : findIn K (.ref C) fld = some none) (hm : m1.length ≤ 1000 ∧ m2.length ≤ 1000) (hdb : (self == ("__debug__" : Str)) = false ∧ (n == ("__debug__" : Str)) = false)
    (hcel : ∀ x ∈ scope.names, x.2 ≠ .cell) (hco : scope.isCoroutine = false) (hgen : scope.isGenerator = false) (hk : scope.kind = .function) (hint : ∀ L, interactive (ksEnv qual scope L f (.ref cda) cc) = false)
    (hev : ∀ L, ∃ pl, eval (.Call (.Attribute (.Call (.Name "super" p0) [] [] p1) "__init__" p2) [.JoinedStr [.Constant (.str m1) j1 q1, .FormattedValue (.Name n q2) (-1) none q3, .Constant (.str m2) j2 q4] q5] [] q6) (ksEnv qual scope L f (.ref cda) cc) = (do
      let ov ← attributeBase (.Call (.Name "super" p0) [] [] p1) "__init__" (ksEnv qual scope L f (.ref cda) cc) (eval (.Call (.Name "super" p0) [] [] p1) (ksEnv qual scope L f (.ref cda) cc))
      standAt p2.atName
      let (g, first) ← holding [ov] (getMethod ov "__init__" pl)
      callWith q6 g first (backTo q6 (starEach [.JoinedStr [.Constant (.str m1) j1 q1, .FormattedValue (.Name n q2) (-1) none q3, .Constant (.str m2) j2 q4] q5] (ksEnv qual scope L f (.ref cda) cc))) [])) :
    InitOk prog w K mg C f fld := fun A s h₀ R x t0 i t M hk0 hsz hx hx0 hroom hi hR =>
  init_sup (cd := cdD) M hk0 hsz hx hx0 hroom ho hcd (hb s [.ref x, .int i t] (M.kin.keeps hk0) rfl) hp har hsn hls hln hks hkc hcode hvs hfile htop hcell hD hsub hmg hop hms hB F.excBase_ValueError qi T hno hi hm hdb hcel hco hgen hk hint hev hR
/-- such a class, for its handlers -/
structure ECx (K : PySem.W.Frag) (mg : Str → Option Value) (x : Str) (C : Addr) : Prop where
  g : mg x = some (.ref C)
  b : PySem.W.subIn K (.ref C) (.type "BaseException") = some true
  t : PySem.W.typeIn K (.ref C) = some (.type "type")
  i : PySem.W.isClsIn K C = true
  s : PySem.W.subIn K (.ref C) (.ref C) = some true
  e : ExcC K C
  f : XfC K C
end L3
namespace L3
open PySem PySem.Spec PyProof.Rows L2
/-! ## all, any of a list of truth values -/
def blsOf : List D → Option (List Bool)
  | [] => some []
  | .bl b :: r => (blsOf r).map fun bs => b :: bs
  | _ => none
def allOf (o : Option (List D)) (M : Mem) : R D := match o with
  | some xs => match blsOf xs with
    | some bs => .ok (.bl (bs.all id)) M
    | none => .bad
  | none => .bad
def allD (ds : List D) (M : Mem) : R D := match ds with
  | [d] => allOf (lsq d M) M
  | _ => .bad
theorem blsOf_eq : ∀ {ds : List D} {bs : List Bool}, blsOf ds = some bs → ds = bs.map D.bl
  | [], _, h => by cases h; rfl
  | d :: r, bs, h => by
    cases d <;> first | (cases h; done) | skip
    rename_i b
    unfold blsOf at h
    cases e : blsOf r with
    | none => rw [e] at h; cases h
    | some m => rw [e] at h; cases h; rw [blsOf_eq e]; rfl
theorem blsOf_map (bs : List Bool) : blsOf (bs.map D.bl) = some bs := by
  induction bs with
  | nil => rfl
  | cons n r ih => rw [List.map_cons]; unfold blsOf; rw [ih]; rfl
theorem Reps.bls_inv {K : PySem.W.Frag} {w : Wd} : ∀ {us : List V} {bs : List Bool}, Reps K w us (bs.map D.bl) → us = bs.map V.bl
  | _, [], h => by cases h; rfl
  | _, n :: r, h => by
    cases h with
    | cons a t => cases a; rw [Reps.bls_inv t]; rfl
section
variable {X : Cx} {W : WX}
theorem allG : CallG X W (rAll X.K) allD := by
  intro S w M H σ xs ds Q hs rs p
  rcases ds with _ | ⟨d, _ | ⟨d2, t⟩⟩
  · exact p.elim
  · obtain ⟨x, rfl, r⟩ := rs.one
    have p : Pst X.K W w H σ (rlE X.K S) Q (allOf (lsq d M) M) := p
    cases hl : lsq d M with
    | none => rw [hl] at p; exact p.elim
    | some zs =>
      rw [hl] at p
      obtain ⟨a, us, rfl, hq, q⟩ := r.lsq hs hl
      unfold allOf at p
      cases hi : blsOf zs with
      | none => simp only [hi] at p; exact p.elim
      | some bs =>
        simp only [hi] at p
        have ez := blsOf_eq hi
        subst ez
        have eu := Reps.bls_inv q
        subst eu
        exact ⟨a, bs, rfl, hq, p w H (.bl (bs.all id)) (.refl _ _) hs (.inl (.bl _))⟩
  · exact p.elim
end
section
variable (e : En) (M : Mem)
@[simp] theorem allD_own (xs) : allD [.own xs] M = allOf (some xs) M := nrfl rfl
@[simp] theorem allD_brw (xs) : allD [.brw xs] M = allOf (some xs) M := nrfl rfl
@[simp] theorem allD_lst (xs) : allD [.lst xs] M = allOf (some xs) M := nrfl rfl
theorem allOf_bls (bs : List Bool) : allOf (some (bs.map D.bl)) M = .ok (.bl (bs.all id)) M := by unfold allOf; simp only [blsOf_map]
theorem xf1_self (a dd fld fs) : xf1 a dd fld (.exn a dd fs) M = ofO (fgetD fs fld) M := by
  show (if a = a ∧ dd = dd then ofO (fgetD fs fld) M else R.bad) = _
  rw [if_pos ⟨rfl, rfl⟩]
end
end L3
namespace L3
open PySem PySem.Spec PyProof.Rows L2
/-! ## a list just made, given back: its taker may change it -/
def retNew (d : D) (M : Mem) : RS := match d with
  | .own ds => .rt (.cell M.length) (M ++ [.lst ds])
  | _ => .bad
def sRetNew (f : SE) : SS := fun e M => (f e M).bindS e retNew
section
variable {X : Cx} {W : WX} {pos : Pos}
theorem s_retNew {e : Expr} {f : SE} (h : AE X W e f) : AS X W (.Return (some e) pos) (sRetNew f) := PS.imp (ps_ret h) fun E σ H q =>
  tS.step (k := fun _ d M => retNew d M) q fun S w e w' M' H' v d s sr lv x r _ _ p => by
    cases d with
    | own ds =>
      have r : RepO X.K S H w' H' v (.own ds) := r
      have p : PstS X.K W S w H E (.rt (.cell M'.length) (M' ++ [.lst ds])) := p
      rcases r with r | ⟨ds', ed, l⟩ | ⟨ds', ed, l⟩
      · exact (Rep.not_own r).elim
      · cases ed
        obtain ⟨a, us, rfl, hn, hb, hr, hH, q2⟩ := l
        obtain ⟨s2, x2⟩ := s.adopt hb hr hH q2 x hn
        refine p _ _ (.ref a) x2.of s2 (.cell ?_)
        show (w'.ρ ++ [a])[M'.length]? = some a
        rw [← s.len]; simp
      · cases ed
    | _ => exact p.elim
end
section
variable (e : En) (M : Mem)
@[simp] theorem sRetNew_eq (f) : sRetNew f e M = (f e M).bindS e retNew := nrfl rfl
@[simp] theorem retNew_own (ds) : retNew (.own ds) M = .rt (.cell M.length) (M ++ [.lst ds]) := nrfl rfl
end
end L3
namespace L3
open PySem PySem.Spec PyProof.Rows L2
/-! ## min, max of a list of numbers -/
def mnI : Int → List Int → Int
  | m, [] => m
  | m, x :: r => mnI (if x < m then x else m) r
def mxI : Int → List Int → Int
  | m, [] => m
  | m, x :: r => mxI (if m < x then x else m) r
theorem mnI_spec : ∀ (r : List Int) (m : Int), (mnI m r = m ∨ mnI m r ∈ r) ∧ mnI m r ≤ m ∧ ∀ y ∈ r, mnI m r ≤ y
  | [], m => ⟨.inl rfl, Int.le_refl _, by simp⟩
  | x :: r, m => by
    obtain ⟨h1, h2, h3⟩ := mnI_spec r (if x < m then x else m)
    show (mnI (if x < m then x else m) r = m ∨ _) ∧ mnI (if x < m then x else m) r ≤ m ∧ _
    by_cases hx : x < m
    · rw [if_pos hx] at h1 h2 h3 ⊢
      refine ⟨.inr ?_, by omega, fun y hy => ?_⟩
      · rcases h1 with h1 | h1
        · show mnI (if x < m then x else m) r ∈ x :: r
          rw [if_pos hx, h1]; exact List.mem_cons_self
        · show mnI (if x < m then x else m) r ∈ x :: r
          rw [if_pos hx]; exact List.mem_cons_of_mem _ h1
      · show mnI (if x < m then x else m) r ≤ y
        rw [if_pos hx]
        rcases List.mem_cons.mp hy with rfl | hy
        · exact h2
        · exact h3 y hy
    · rw [if_neg hx] at h1 h2 h3 ⊢
      refine ⟨?_, h2, fun y hy => ?_⟩
      · rcases h1 with h1 | h1
        · exact .inl h1
        · right
          show mnI (if x < m then x else m) r ∈ x :: r
          rw [if_neg hx]; exact List.mem_cons_of_mem _ h1
      · show mnI (if x < m then x else m) r ≤ y
        rw [if_neg hx]
        rcases List.mem_cons.mp hy with rfl | hy
        · omega
        · exact h3 y hy
theorem mxI_spec : ∀ (r : List Int) (m : Int), (mxI m r = m ∨ mxI m r ∈ r) ∧ m ≤ mxI m r ∧ ∀ y ∈ r, y ≤ mxI m r
  | [], m => ⟨.inl rfl, Int.le_refl _, by simp⟩
  | x :: r, m => by
    obtain ⟨h1, h2, h3⟩ := mxI_spec r (if m < x then x else m)
    have e : mxI m (x :: r) = mxI (if m < x then x else m) r := rfl
    rw [e]
    by_cases hx : m < x
    · rw [if_pos hx] at h1 h2 h3 ⊢
      refine ⟨.inr ?_, by omega, fun y hy => ?_⟩
      · rcases h1 with h1 | h1
        · rw [h1]; exact List.mem_cons_self
        · exact List.mem_cons_of_mem _ h1
      · rcases List.mem_cons.mp hy with rfl | hy
        · exact h2
        · exact h3 y hy
    · rw [if_neg hx] at h1 h2 h3 ⊢
      refine ⟨h1.imp id fun z => List.mem_cons_of_mem _ z, h2, fun y hy => ?_⟩
      rcases List.mem_cons.mp hy with rfl | hy
      · omega
      · exact h3 y hy
theorem mn_uniq {n m : Int} {r : List Int} (h1 : m ∈ n :: r) (h2 : ∀ y, y ∈ n :: r → m ≤ y) : m = mnI n r := by
  obtain ⟨k1, k2, k3⟩ := mnI_spec r n
  have a : m ≤ mnI n r := h2 _ (by rcases k1 with k | k; · rw [k]; exact List.mem_cons_self
                                   · exact List.mem_cons_of_mem _ k)
  have b : mnI n r ≤ m := by
    rcases List.mem_cons.mp h1 with rfl | h
    · exact k2
    · exact k3 m h
  omega
theorem mx_uniq {n m : Int} {r : List Int} (h1 : m ∈ n :: r) (h2 : ∀ y, y ∈ n :: r → y ≤ m) : m = mxI n r := by
  obtain ⟨k1, k2, k3⟩ := mxI_spec r n
  have a : mxI n r ≤ m := h2 _ (by rcases k1 with k | k; · rw [k]; exact List.mem_cons_self
                                   · exact List.mem_cons_of_mem _ k)
  have b : m ≤ mxI n r := by
    rcases List.mem_cons.mp h1 with rfl | h
    · exact k2
    · exact k3 m h
  omega
def extOf (f : Int → List Int → Int) (o : Option (List D)) (M : Mem) : R D := match o with
  | some xs => match intsOf xs with
    | some (n :: r) => .ok (.int (f n r)) M
    | _ => .bad
  | none => .bad
def minX (ds : List D) (M : Mem) : R D := match ds with
  | [d] => extOf mnI (lsq d M) M
  | _ => minD ds M
def maxX (ds : List D) (M : Mem) : R D := match ds with
  | [d] => extOf mxI (lsq d M) M
  | _ => maxD ds M
section
variable {X : Cx} {W : WX}
theorem extG {r : PySem.W.Frag → List V → Hp → VK → Prop} {f : Int → List Int → Int} (hr : ∀ (a : Addr) (n : Int) (ns : List Int) (H : Hp) (Q : VK), SqL X.K H a ((n :: ns).map V.int) → Q (.int (f n ns)) H → r X.K [V.ref a] H Q)
    {S : Addr → Prop} {w : Wd} {M : Mem} {H : Hp} {σ : L2.St} {x : V} {d : D} {Q : VK} (hs : HS X.K w M H) (rd : RepR X.K w H x d) (p : Pst X.K W w H σ (rlE X.K S) Q (extOf f (lsq d M) M)) : r X.K [x] H Q := by
  cases hl : lsq d M with
  | none => rw [hl] at p; exact p.elim
  | some zs =>
    rw [hl] at p
    obtain ⟨a, us, rfl, hq, q⟩ := rd.lsq hs hl
    unfold extOf at p
    cases hi : intsOf zs with
    | none => simp only [hi] at p; exact p.elim
    | some ns =>
      simp only [hi] at p
      cases ns with
      | nil => exact p.elim
      | cons n ns =>
        have ez := intsOf_eq hi
        subst ez
        have eu := Reps.ints_inv q
        subst eu
        exact hr a n ns H Q hq (p w H (.int (f n ns)) (.refl _ _) hs (.inl (.int _)))
def rMinX (K : PySem.W.Frag) : List V → Hp → VK → Prop := fun vs H Q => (∃ i j, vs = [.int i, .int j] ∧ Q (.int (if j < i then j else i)) H) ∨ rMin K vs H Q
def rMaxX (K : PySem.W.Frag) : List V → Hp → VK → Prop := fun vs H Q => (∃ i j, vs = [.int i, .int j] ∧ Q (.int (if j > i then j else i)) H) ∨ rMax K vs H Q
theorem minXG : CallG X W (rMinX X.K) minX := by
  intro S w M H σ xs ds Q hs rs p
  by_cases h1 : ∃ d, ds = [d]
  · obtain ⟨d, rfl⟩ := h1
    obtain ⟨x, rfl, rd⟩ := rs.one
    exact .inr (extG (r := rMin) (fun a n ns H Q h q => ⟨a, n :: ns, rfl, h, by simp, fun m h1 h2 => by rw [mn_uniq h1 h2]; exact q⟩) hs rd p)
  · refine .inl (minG (W := W) S w M H σ xs ds Q hs rs ?_)
    have e : minX ds M = minD ds M := by
      unfold minX; split
      · exact absurd ⟨_, rfl⟩ h1
      · rfl
    rw [← e]; exact p
theorem maxXG : CallG X W (rMaxX X.K) maxX := by
  intro S w M H σ xs ds Q hs rs p
  by_cases h1 : ∃ d, ds = [d]
  · obtain ⟨d, rfl⟩ := h1
    obtain ⟨x, rfl, rd⟩ := rs.one
    exact .inr (extG (r := rMax) (fun a n ns H Q h q => ⟨a, n :: ns, rfl, h, by simp, fun m h1 h2 => by rw [mx_uniq h1 h2]; exact q⟩) hs rd p)
  · refine .inl (maxG (W := W) S w M H σ xs ds Q hs rs ?_)
    have e : maxX ds M = maxD ds M := by
      unfold maxX; split
      · exact absurd ⟨_, rfl⟩ h1
      · rfl
    rw [← e]; exact p
theorem call_minX (hc : X.calm = true) : CallR X (.builtin "min") (rMinX X.K) := (call_min2 hc).or (cr_min hc)
theorem call_maxX (hc : X.calm = true) : CallR X (.builtin "max") (rMaxX X.K) := (call_max2 hc).or (cr_max hc)
end
section
variable (M : Mem)
@[simp] theorem minX_two (a b) : minX [a, b] M = minD [a, b] M := nrfl rfl
@[simp] theorem maxX_two (a b) : maxX [a, b] M = maxD [a, b] M := nrfl rfl
@[simp] theorem minX_own (xs) : minX [.own xs] M = extOf mnI (some xs) M := nrfl rfl
@[simp] theorem minX_brw (xs) : minX [.brw xs] M = extOf mnI (some xs) M := nrfl rfl
@[simp] theorem minX_lst (xs) : minX [.lst xs] M = extOf mnI (some xs) M := nrfl rfl
@[simp] theorem maxX_own (xs) : maxX [.own xs] M = extOf mxI (some xs) M := nrfl rfl
@[simp] theorem maxX_brw (xs) : maxX [.brw xs] M = extOf mxI (some xs) M := nrfl rfl
@[simp] theorem maxX_lst (xs) : maxX [.lst xs] M = extOf mxI (some xs) M := nrfl rfl
theorem extOf_ints (f n ns) : extOf f (some ((n :: ns).map D.int)) M = .ok (.int (f n ns)) M := by unfold extOf; simp only [intsOf_map]
end
end L3
namespace L3
open PySem PySem.Spec PyProof.Rows L2
/-! ## a handler of a base class: one meaning for each class that may come -/
/-- the class, does it have a field, what the suite does -/
abbrev Hd := Addr × Bool × (Addr → Addr → SS)
def pickH (D : Addr) (f : Bool) : List Hd → Option (Addr → Addr → SS)
  | [] => none
  | x :: r => if x.1 = D ∧ x.2.1 = f then some x.2.2 else pickH D f r
def tryZ (i : Nat) (L : List Hd) (o : RS) : RS := match o with
  | .exc D fs e2 M2 => match pickH D (!fs.isEmpty) L with
    | some h => postX i (h 0 0 (e2.set i (some (if fs.isEmpty = true then .ref 0 else .exn 0 0 fs))) M2)
    | none => .bad
  | o => o
def sTryZ (i : Nat) (L : List Hd) (b : SS) : SS := fun e M => tryZ i L (b e M)
theorem pickH_mem {D : Addr} {f : Bool} {h : Addr → Addr → SS} : ∀ {L : List Hd}, pickH D f L = some h → (D, f, h) ∈ L
  | [], e => by cases e
  | x :: r, e => by
    unfold pickH at e
    by_cases hx : x.1 = D ∧ x.2.1 = f
    · rw [if_pos hx] at e
      obtain ⟨x1, x2, x3⟩ := x
      obtain ⟨rfl, rfl⟩ := hx
      cases e
      exact List.mem_cons_self
    · rw [if_neg hx] at e
      exact List.mem_cons_of_mem _ (pickH_mem e)
section
variable {X : Cx} {W : WX}
/-- a class with a field is borne by its suite -/
def HdY (X : Cx) (B : Addr) (i : Nat) (ss : List Stmt) (C : Addr) (h : Addr → Addr → SS) : Prop := PySem.W.exmOne X.K (.ref C) (.ref B) = some true ∧
  (∀ (a dd : Addr) (fs : List (Str × D)) (e : En) (M : Mem), postX i (h a dd (e.set i (some (.exn a dd fs))) M) = postX i (h 0 0 (e.set i (some (.exn 0 0 fs))) M)) ∧
  ∀ (a dd : Addr) (oe : Obj) (pn : List (Addr × Obj)), Zc (.ref C) (some dd) oe → (∃ vs, oe.data = .fields vs) → ASs (X.suite a ((a, oe) :: pn)) (fun _ _ _ _ => False) ss (h a dd)
/-- one without -/
def HdN (X : Cx) (B : Addr) (i : Nat) (ss : List Stmt) (C : Addr) (h : Addr → Addr → SS) : Prop := PySem.W.exmOne X.K (.ref C) (.ref B) = some true ∧
  (∀ (a dd : Addr) (e : En) (M : Mem), postX i (h a dd (e.set i (some (.ref a))) M) = postX i (h 0 0 (e.set i (some (.ref 0))) M)) ∧
  ∀ (a dd : Addr) (oe : Obj) (pn : List (Addr × Obj)), Zc (.ref C) none oe → (∃ vs, oe.data = .fields vs) → ASs (X.suite a ((a, oe) :: pn)) (fun _ _ _ _ => False) ss (h a dd)
def HdsOk (X : Cx) (B : Addr) (i : Nat) (ss : List Stmt) : List Hd → Prop
  | [] => True
  | (C, true, h) :: r => HdY X B i ss C h ∧ HdsOk X B i ss r
  | (C, false, h) :: r => HdN X B i ss C h ∧ HdsOk X B i ss r
theorem HdsOk.y {B : Addr} {i : Nat} {ss : List Stmt} {C : Addr} {h : Addr → Addr → SS} : ∀ {L : List Hd}, HdsOk X B i ss L → (C, true, h) ∈ L → HdY X B i ss C h
  | (C2, true, h2) :: r, k, m => by
    rcases List.mem_cons.mp m with e | m
    · cases e; exact k.1
    · exact HdsOk.y k.2 m
  | (C2, false, h2) :: r, k, m => by
    rcases List.mem_cons.mp m with e | m
    · cases e
    · exact HdsOk.y k.2 m
theorem HdsOk.n {B : Addr} {i : Nat} {ss : List Stmt} {C : Addr} {h : Addr → Addr → SS} : ∀ {L : List Hd}, HdsOk X B i ss L → (C, false, h) ∈ L → HdN X B i ss C h
  | (C2, true, h2) :: r, k, m => by
    rcases List.mem_cons.mp m with e | m
    · cases e
    · exact HdsOk.n k.2 m
  | (C2, false, h2) :: r, k, m => by
    rcases List.mem_cons.mp m with e | m
    · cases e; exact k.1
    · exact HdsOk.n k.2 m
theorem s_tryZ {x n : Str} {B : Addr} {i : Nat} {body suite : List Stmt} {b₀ : Stmt} {np pos pos' : Pos} {b : SS} {L : List Hd} (hs : X.stack = X.env :: X.outer) (hf : X.env.frame = some X.env.locals) (hN : X.N.Nodup) (hi : X.N[i]? = some n) (hln : X.env.kindOf n = some .local) (hc : Names X x (.ref B)) (tk : Takes X W)
    (hL : HdsOk X B i (b₀ :: suite) L)
    (hb : ∀ (W2 : WX) (pn : List (Addr × Obj)) (xe : Value → Shared → Prop), Takes (X.tr pn xe) W2 → PassesOwn (model X.prog X.w) X.A X.env xe → ASs (X.tr pn xe) W2 body b) :
    AS X W (.Try body [.ExceptHandler (some (.Name x np)) (some n) (b₀ :: suite) pos'] [] [] pos) (sTryZ i L b) :=
  PS.imp (ps_try_as (tb := fun W2 => tS X.K W2 b) (ts := fun a cls d D σ H => ∃ (C : Addr) (h : Addr → Addr → SS), cls = .ref C ∧
      (((C, true, h) ∈ L ∧ ∃ dd, d = some dd ∧ tS X.K (fun _ _ _ _ => False) (h a dd) D σ H) ∨ ((C, false, h) ∈ L ∧ d = none ∧ tS X.K (fun _ _ _ _ => False) (h a 0) D σ H))) hs hf hN hi hln hc tk hb fun a oe cls d pn hz hv =>
    ⟨fun pins s σ H D I ⟨C, h, e1, q⟩ => by
      subst e1
      rcases q with ⟨m, dd, e2, q⟩ | ⟨m, e2, q⟩
      · subst e2
        exact ((hL.y m).2.2 a dd oe pn hz hv).run pins s σ H D I q
      · subst e2
        exact ((hL.n m).2.2 a 0 oe pn hz hv).run pins s σ H D I q⟩) fun E σ H q => by
    obtain ⟨S, w, e, M, hs, sr, lv, p⟩ := q
    refine ⟨S, w, e, M, hs, sr, lv, ?_⟩
    have p : PstS X.K W S w H E (tryZ i L (b e M)) := p
    cases hb : b e M with
    | nx e2 M2 => rw [hb] at p; exact p
    | bk e2 M2 => rw [hb] at p; exact p
    | ct e2 M2 => rw [hb] at p; exact p
    | rt d M2 => rw [hb] at p; exact p
    | bad => rw [hb] at p; exact p
    | exc D fs e2 M2 =>
      rw [hb] at p
      unfold tryZ at p
      simp only at p
      cases hp : pickH D (!fs.isEmpty) L with
      | none => simp only [hp] at p; exact p.elim
      | some h =>
        simp only [hp] at p
        have m := pickH_mem hp
        intro w' H' σ' od x s r xf
        rcases xf with ⟨z, ho⟩ | ⟨dx, us, z, eo, hB, hF⟩
        · subst z; subst ho
          have m : (D, false, h) ∈ L := m
          have p : PstS X.K W S w H E (postX i (h 0 0 (e2.set i (some (.ref 0))) M2)) := p
          obtain ⟨hx, ind, _⟩ := hL.n m
          refine ⟨true, hx, fun _ a ha => ⟨D, h, rfl, .inr ⟨m, rfl, S, w', e2.set i (some (.ref a)), M2, s, r.setD (.ref a), lv.on x, ?_⟩⟩, fun z => nomatch z⟩
          have p2 := PstS.shift x p
          rw [← ind a 0 e2 M2] at p2
          exact p2.postX
        · subst eo
          have hz : fs.isEmpty = false := by
            cases fs with
            | nil => exact absurd rfl z
            | cons a r => rfl
          rw [hz] at m p
          have m : (D, true, h) ∈ L := m
          have p : PstS X.K W S w H E (postX i (h 0 0 (e2.set i (some (.exn 0 0 fs))) M2)) := p
          obtain ⟨hx, ind, _⟩ := hL.y m
          refine ⟨true, hx, fun _ a ha => ⟨D, h, rfl, .inl ⟨m, dx, rfl, S, w', e2.set i (some (.exn a dx fs)), M2, s, r.setD (.exn hB hF), lv.on x, ?_⟩⟩, fun z => nomatch z⟩
          have p2 := PstS.shift x p
          rw [← ind a dx fs e2 M2] at p2
          exact p2.postX
/-! ## isinstance with a type that is built in -/
def isXT (a dd : Addr) (t : String) (v : Bool) (ds : List D) (M : Mem) : R D := match ds with
  | [.exn b d2 _, .ty u] => if b = a ∧ d2 = dd ∧ u = t then .ok (.bl v) M else .bad
  | _ => .bad
def isET (a : Addr) (t : String) (v : Bool) (ds : List D) (M : Mem) : R D := match ds with
  | [.ref b, .ty u] => if b = a ∧ u = t then .ok (.bl v) M else .bad
  | _ => .bad
theorem RepR.ty_inv {K : PySem.W.Frag} {w : Wd} {H : Hp} {v : V} {t : String} (r : RepR K w H v (.ty t)) : v = .ty t := by
  rcases r with r | ⟨xs, r | r, _⟩
  · cases r; rfl
  · cases r
  · cases r
theorem isXTG {a dd D0 : Addr} {t : String} {v : Bool} (hk : PySem.W.kitOne X.K (.ref D0) (.type t) = some v) : CallG X W (rIsD X.K D0 a dd) (isXT a dd t v) := by
  intro S w M H σ xs ds Q hs rs p
  have go : ∃ fs, ds = [.exn a dd fs, .ty t] := by
    unfold isXT at p
    split at p
    · rename_i b d2 fs B
      by_cases z : b = a ∧ d2 = dd ∧ B = t
      · obtain ⟨rfl, rfl, rfl⟩ := z; exact ⟨fs, rfl⟩
      · rw [if_neg z] at p; exact p.elim
    · exact p.elim
  obtain ⟨fs, rfl⟩ := go
  cases rs with
  | cons r1 rs =>
    cases rs with
    | cons r2 rs =>
      cases rs
      have e2 : ∀ {v : V}, RepR X.K w H v (.exn a dd fs) → v = .ref a ∧ ∃ us, w.B dd = some (.xd us) := fun r => by
        rcases r with r | ⟨xs, r | r, _⟩
        · obtain ⟨h1, us, h2, _⟩ := r.exn_inv
          exact ⟨h1, us, h2⟩
        · cases r
        · cases r
      obtain ⟨h1, us, h2⟩ := e2 r1
      rw [h1, r2.ty_inv]
      refine ⟨⟨us, hs.same _ _ h2⟩, .ty t, .type t, v, rfl, fun u ru => ru, hk, ?_⟩
      have p : Pst X.K W w H σ (rlE X.K S) Q (if a = a ∧ dd = dd ∧ t = t then .ok (.bl v) M else .bad) := p
      rw [if_pos ⟨rfl, rfl, rfl⟩] at p
      exact p w H (.bl v) (.refl _ _) hs (.inl (.bl v))
theorem isETG {a D0 : Addr} {t : String} {v : Bool} (hk : PySem.W.kitOne X.K (.ref D0) (.type t) = some v) : CallG X W (rIsE X.K D0 a) (isET a t v) := by
  intro S w M H σ xs ds Q hs rs p
  have go : ds = [.ref a, .ty t] := by
    unfold isET at p
    split at p
    · rename_i b B
      by_cases z : b = a ∧ B = t
      · obtain ⟨rfl, rfl⟩ := z; rfl
      · rw [if_neg z] at p; exact p.elim
    · exact p.elim
  subst go
  cases rs with
  | cons r1 rs =>
    cases rs with
    | cons r2 rs =>
      cases rs
      have e1 : ∀ {v : V} {c : Addr}, RepR X.K w H v (.ref c) → v = .ref c := fun r => by
        rcases r with r | ⟨xs, r | r, _⟩
        · cases r; rfl
        · cases r
        · cases r
      rw [e1 r1, r2.ty_inv]
      refine ⟨.ty t, .type t, v, rfl, fun u ru => ru, hk, ?_⟩
      have p : Pst X.K W w H σ (rlE X.K S) Q (if a = a ∧ t = t then .ok (.bl v) M else .bad) := p
      rw [if_pos ⟨rfl, rfl⟩] at p
      exact p w H (.bl v) (.refl _ _) hs (.inl (.bl v))
theorem a_isErrXT {a dd D0 : Addr} {t : String} {oe : Obj} {pn : List (Addr × Obj)} {v : Bool} {y n : Str} {i : Nat} {p p1 p2 pos : Pos} (Ce : ExcC X.K D0) (hz : Zc (.ref D0) (some dd) oe) (hf : ∃ vs, oe.data = .fields vs) (hk : PySem.W.kitOne X.K (.ref D0) (.type t) = some v)
    (hgl : Gl X "isinstance") (hm : X.mg "isinstance" = none) (ha : AA (X.suite a ((a, oe) :: pn)) W [.Name n p1, .Name y p2] (sCons (sVar i) (sCons (sC (.ty t)) sNil))) :
    AE (X.suite a ((a, oe) :: pn)) W (.Call (.Name "isinstance" p) [.Name n p1, .Name y p2] [] pos) (sCall (isXT a dd t v) (sCons (sVar i) (sCons (sC (.ty t)) sNil))) :=
  a_callB (X := X.suite a ((a, oe) :: pn)) (call_isD (X := X) Ce hz hf) (isXTG (X := X.suite a ((a, oe) :: pn)) hk) hgl hm boot_isinstance ha
theorem a_isErrT {a D0 : Addr} {t : String} {oe : Obj} {pn : List (Addr × Obj)} {v : Bool} {y n : Str} {i : Nat} {p p1 p2 pos : Pos} (Ce : ExcC X.K D0) (hz : Zc (.ref D0) none oe) (hf : ∃ vs, oe.data = .fields vs) (hk : PySem.W.kitOne X.K (.ref D0) (.type t) = some v)
    (hgl : Gl X "isinstance") (hm : X.mg "isinstance" = none) (ha : AA (X.suite a ((a, oe) :: pn)) W [.Name n p1, .Name y p2] (sCons (sVar i) (sCons (sC (.ty t)) sNil))) :
    AE (X.suite a ((a, oe) :: pn)) W (.Call (.Name "isinstance" p) [.Name n p1, .Name y p2] [] pos) (sCall (isET a t v) (sCons (sVar i) (sCons (sC (.ty t)) sNil))) :=
  a_callB (X := X.suite a ((a, oe) :: pn)) (call_isE (X := X) Ce hz hf) (isETG (X := X.suite a ((a, oe) :: pn)) hk) hgl hm boot_isinstance ha
end
theorem kit0 {K : PySem.W.Frag} {c t : Value} {v : Bool} (hne : (t == c) = false) (h2 : PySem.W.kitCls K t c = some v) : PySem.W.kitOne K t c = some v := by
  unfold PySem.W.kitOne
  rw [hne]
  exact h2
theorem kitTy {K : PySem.W.Frag} {C : Addr} {T : String} {v : Bool} (hm : PySem.W.kitMeta T = true) (h : PySem.W.subIn K (.ref C) (.type T) = some v) : PySem.W.kitOne K (.ref C) (.type T) = some v := by
  refine kit0 rfl ?_
  simp [PySem.W.kitCls, hm, h]
section
variable (e : En) (M : Mem)
theorem sTryZ_eq (i L b) : sTryZ i L b e M = tryZ i L (b e M) := rfl
@[simp] theorem tryZ_rt (i L d) : tryZ i L (.rt d M) = .rt d M := nrfl rfl
@[simp] theorem tryZ_nx (i L) : tryZ i L (.nx e M) = .nx e M := nrfl rfl
theorem tryZ_fld {C : Addr} {fld : Str} {d : D} {i : Nat} {L : List Hd} {h : Addr → Addr → SS} (k : pickH C true L = some h) : tryZ i L (.exc C [(fld, d)] e M) = postX i (h 0 0 (e.set i (some (.exn 0 0 [(fld, d)]))) M) := by
  unfold tryZ
  show (match pickH C true L with | some h => _ | none => _) = _
  rw [k]; rfl
theorem tryZ_no {C : Addr} {i : Nat} {L : List Hd} {h : Addr → Addr → SS} (k : pickH C false L = some h) : tryZ i L (.exc C [] e M) = postX i (h 0 0 (e.set i (some (.ref 0))) M) := by
  unfold tryZ
  show (match pickH C false L with | some h => _ | none => _) = _
  rw [k]; rfl
def zP (i : Nat) (fs : List (Str × D)) (e : En) (M : Mem) (o : Option (Addr → Addr → SS)) : RS := match o with
  | some h => postX i (h 0 0 (e.set i (some (.exn 0 0 fs))) M)
  | none => .bad
def zN (i : Nat) (e : En) (M : Mem) (o : Option (Addr → Addr → SS)) : RS := match o with
  | some h => postX i (h 0 0 (e.set i (some (.ref 0))) M)
  | none => .bad
theorem tryZ_P (C i L fld d) : tryZ i L (.exc C [(fld, d)] e M) = zP i [(fld, d)] e M (pickH C true L) := by
  unfold tryZ zP
  show (match pickH C true L with | some h => _ | none => _) = _
  cases pickH C true L <;> rfl
theorem tryZ_N (C i L) : tryZ i L (.exc C [] e M) = zN i e M (pickH C false L) := by
  unfold tryZ zN
  show (match pickH C false L with | some h => _ | none => _) = _
  cases pickH C false L <;> rfl
theorem zP_some (i fs h) : zP i fs e M (some h) = postX i (h 0 0 (e.set i (some (.exn 0 0 fs))) M) := nrfl rfl
theorem zN_some (i h) : zN i e M (some h) = postX i (h 0 0 (e.set i (some (.ref 0))) M) := nrfl rfl
theorem pickH_cons {C C2 : Addr} {f f2 : Bool} {h : Addr → Addr → SS} {r : List Hd} : pickH C f ((C2, f2, h) :: r) = if C2 = C ∧ f2 = f then some h else pickH C f r := nrfl (by conv => lhs; unfold pickH)
/-- == of a thing with itself, bools too -/
theorem same_py {d : D} {p : PyData} {M : Mem} (e : toPyT d M = some p) (c : p.canLay0 = true) (hd : p.depth ≤ 64) (hs : scalD d d = none) : eqD false d d M = .ok (.bl true) M := by
  rw [eqD_deep hs]
  unfold deepD
  rw [e]
  simp only [shaped_of hd c (Nat.le_refl _), Bool.and_self, if_true]
  rw [SeqAt.eqv_refl p c]
  rfl
theorem pickH_at {C : Addr} {f : Bool} {h : Addr → Addr → SS} {r : List Hd} : pickH C f ((C, f, h) :: r) = some h := by unfold pickH; simp
theorem pickH_on {C C2 : Addr} {f f2 : Bool} {h : Addr → Addr → SS} {r : List Hd} (hn : ¬ (C2 = C ∧ f2 = f)) : pickH C f ((C2, f2, h) :: r) = pickH C f r := by
  conv => lhs; unfold pickH
  rw [if_neg hn]
theorem isXT_eq (a dd t v fs) : isXT a dd t v [.exn a dd fs, .ty t] M = .ok (.bl v) M := by
  show (if a = a ∧ dd = dd ∧ t = t then R.ok (D.bl v) M else R.bad) = _
  rw [if_pos ⟨rfl, rfl, rfl⟩]
theorem isET_eq (a t v) : isET a t v [.ref a, .ty t] M = .ok (.bl v) M := by
  show (if a = a ∧ t = t then R.ok (D.bl v) M else R.bad) = _
  rw [if_pos ⟨rfl, rfl⟩]
end
end L3
namespace L3
open PySem PySem.Spec PyProof.Rows L2
/-! ## dicts with tuples of ints as keys -/
section
variable {κ : Type} [DecidableEq κ]
def gget : List (κ × D) → κ → Option D
  | [], _ => none
  | (k, d) :: r, j => if k = j then some d else gget r j
def gput : List (κ × D) → κ → D → List (κ × D)
  | [], j, d => [(j, d)]
  | (k, x) :: r, j, d => if k = j then (k, d) :: r else (k, x) :: gput r j d
def guniq : List (κ × D) → Bool
  | [] => true
  | (k, _) :: r => !(r.any fun p => decide (p.1 = k)) && guniq r
variable {K : PySem.W.Frag} {w : Wd}
theorem KvR.gget : ∀ {us : List (κ × V)} {ds : List (κ × D)}, KvR K w us ds → ∀ {k : κ} {d : D}, L3.gget ds k = some d → ∃ v, valV us k = some v ∧ Rep K w v d
  | _, _, .nil, _, _, e => by cases e
  | _, _, .cons (f := f) a b, k, d, e => by
    unfold L3.gget at e
    by_cases h : f = k
    · rw [if_pos h] at e
      cases e
      exact ⟨_, valV_pos h, a⟩
    · rw [if_neg h] at e
      obtain ⟨v, q, r⟩ := KvR.gget b e
      exact ⟨v, by rw [valV_neg h]; exact q, r⟩
theorem KvR.ggetN : ∀ {us : List (κ × V)} {ds : List (κ × D)}, KvR K w us ds → ∀ {k : κ}, L3.gget ds k = none → valV us k = none
  | _, _, .nil, _, e => rfl
  | _, _, .cons (f := f) a b, k, e => by
    unfold L3.gget at e
    by_cases h : f = k
    · rw [if_pos h] at e; cases e
    · rw [if_neg h] at e
      rw [valV_neg h]
      exact KvR.ggetN b e
theorem KvR.glen : ∀ {us : List (κ × V)} {ds : List (κ × D)}, KvR K w us ds → us.length = ds.length
  | _, _, .nil => rfl
  | _, _, .cons _ t => congrArg (· + 1) (KvR.glen t)
theorem KvR.gkeys : ∀ {us : List (κ × V)} {ds : List (κ × D)}, KvR K w us ds → us.map (·.1) = ds.map (·.1)
  | _, _, .nil => rfl
  | _, _, .cons _ t => by simp [KvR.gkeys t]
theorem putG_neg {us : List (κ × V)} {f k : κ} {u v : V} (h : ¬ f = k) : putK ((f, u) :: us) k v = (f, u) :: putK us k v := by
  unfold putK
  rw [List.any_cons]
  simp only [h, decide_false, Bool.false_or, List.map_cons, if_false]
  split <;> rfl
theorem putG_pos {us : List (κ × V)} {k : κ} {u v : V} (h : k ∉ us.map (·.1)) : putK ((k, u) :: us) k v = (k, v) :: us := by
  unfold putK
  rw [List.any_cons]
  simp only [decide_true, Bool.true_or, if_true, List.map_cons]
  congr 1
  have : ∀ us : List (κ × V), k ∉ us.map (·.1) → us.map (fun kv => if kv.1 = k then (kv.1, v) else kv) = us := by
    intro us
    induction us with
    | nil => intro _; rfl
    | cons p r ih =>
      intro h
      rw [List.map_cons, List.mem_cons, not_or] at h
      rw [List.map_cons, if_neg (fun e => h.1 e.symm), ih h.2]
  exact this us h
theorem KvR.gput {v : V} {d : D} (r : Rep K w v d) : ∀ {us : List (κ × V)} {ds : List (κ × D)}, KvR K w us ds → guniq ds = true → ∀ {k : κ}, KvR K w (putK us k v) (L3.gput ds k d)
  | _, _, .nil, _, k => .cons r .nil
  | _, _, .cons (f := f) (vs := us) (ds := ds) a b, hu, k => by
    unfold guniq at hu
    rw [Bool.and_eq_true] at hu
    unfold L3.gput
    by_cases h : f = k
    · subst h
      rw [if_pos rfl, putG_pos (by
        rw [KvR.gkeys b]
        intro hm
        obtain ⟨p, hp, e⟩ := List.mem_map.mp hm
        have h1 : (ds.any fun p => decide (p.1 = f)) = true := List.any_eq_true.mpr ⟨p, hp, decide_eq_true e⟩
        rw [h1] at hu
        exact Bool.noConfusion hu.1)]
      exact .cons r b
    · rw [if_neg h, putG_neg h]
      exact .cons a (KvR.gput r b hu.2)
end
def cellT (M : Mem) (n : Nat) : Option (List (List Key × D)) := match M[n]? with
  | some (.dit xs) => some xs
  | _ => none
theorem cellT_some {M : Mem} {n : Nat} {xs : List (List Key × D)} (h : cellT M n = some xs) : M[n]? = some (.dit xs) := by
  unfold cellT at h
  cases hm : M[n]? with
  | none => rw [hm] at h; cases h
  | some o =>
    rw [hm] at h
    cases o with
    | dit ys => cases h; rfl
    | _ => cases h
def ikey (ns : List Int) : List Key := ns.map Sum.inl
def keyT (d : D) : Option (List Key) := match d with
  | .tup ds => (intsOf ds).map ikey
  | _ => none
def tkD (k : List Key) : D := .tup (k.map kD)
theorem ikey_kV (ns : List Int) : (ikey ns).map kV = ns.map V.int := by unfold ikey; rw [List.map_map]; rfl
theorem Rep.keyT {K : PySem.W.Frag} {w : Wd} {v : V} {d : D} {k : List Key} (r : Rep K w v d) (e : keyT d = some k) : ∃ b, v = .ref b ∧ w.B b = some (.tup (k.map kV)) := by
  cases d with
  | tup ds =>
    have e : (intsOf ds).map ikey = some k := e
    cases h : intsOf ds with
    | none => rw [h] at e; cases e
    | some ns =>
      rw [h] at e
      cases e
      have ed := intsOf_eq h
      subst ed
      cases r with
      | @tup b us _ hq q =>
        have eu := Reps.ints_inv q
        subst eu
        rcases hq with hq | hq
        · exact ⟨b, rfl, by rw [ikey_kV]; exact hq⟩
        · exact absurd ⟨ns, rfl⟩ hq.2
  | _ => cases e
theorem RepR.keyT {K : PySem.W.Frag} {w : Wd} {H : Hp} {v : V} {d : D} {k : List Key} (r : RepR K w H v d) (e : keyT d = some k) : ∃ b, v = .ref b ∧ w.B b = some (.tup (k.map kV)) := by
  rcases r with r | ⟨xs, h | h, _⟩
  · exact r.keyT e
  · subst h; cases e
  · subst h; cases e
theorem RepR.dit {K : PySem.W.Frag} {w : Wd} {M : Mem} {H : Hp} {v : V} {n : Nat} {kvs : List (List Key × D)} (r : RepR K w H v (.cell n)) (hs : HS K w M H) (h : cellT M n = some kvs) : ∃ a us, v = .ref a ∧ H a = some (.dT us) ∧ KvR K w us kvs := by
  rcases r with r | ⟨_, h | h, _⟩
  · cases r with
    | cell hn =>
      obtain ⟨_, us, hH, q⟩ := hs.cells n _ _ hn (cellT_some h)
      exact ⟨_, us, rfl, hH, q⟩
  · cases h
  · cases h
/-! ### d[k] -/
def idxY (a b : D) (M : Mem) : R D := match a with
  | .cell n => match cellT M n with
    | some kvs => match keyT b with
      | some k => ofO (gget kvs k) M
      | none => .bad
    | none => idxD (.cell n) b M
  | a => idxD a b M
def inY (neg : Bool) (a b : D) (M : Mem) : R D := match b with
  | .cell n => match cellT M n with
    | some kvs => match keyT a with
      | some k => .ok (.bl (if neg then !(gget kvs k).isSome else (gget kvs k).isSome)) M
      | none => .bad
    | none => inX neg a (.cell n) M
  | b => inX neg a b M
def listY (ds : List D) (M : Mem) : R D := match ds with
  | [.cell n] => match cellT M n with
    | some kvs => .ok (.own (kvs.map fun kv => tkD kv.1)) M
    | none => listX [.cell n] M
  | ds => listX ds M
def lenY (ds : List D) (M : Mem) : R D := match ds with
  | [.cell n] => match cellT M n with
    | some kvs => .ok (.int kvs.length) M
    | none => lenD [.cell n] M
  | ds => lenD ds M
section
variable {X : Cx} {W : WX} {pos : Pos}
theorem idxYG : OpG X W (rIxU X.K) idxY := by
  intro S w M H σ x y d1 d2 Q hs r1 r2 p
  by_cases hc : ∃ n kvs, d1 = .cell n ∧ cellT M n = some kvs
  · obtain ⟨n, kvs, rfl, hk⟩ := hc
    obtain ⟨a, us, rfl, hH, q⟩ := r1.dit hs hk
    unfold idxY at p
    simp only [hk] at p
    cases e : keyT d2 with
    | none => simp only [e] at p; exact p.elim
    | some k =>
      simp only [e] at p
      obtain ⟨b, rfl, hb⟩ := r2.keyT e
      obtain ⟨d, e3, kk⟩ := ofO_G hs p
      obtain ⟨v, h1, h2⟩ := q.gget e3
      exact .inr ⟨a, v, rfl, by have := DGet.t hH (hs.same _ _ hb); rw [h1] at this; exact this, kk v h2⟩
  · refine idxG (W := W) S w M H σ x y d1 d2 Q hs r1 r2 ?_
    have e : idxY d1 d2 M = idxD d1 d2 M := by
      unfold idxY
      split
      · rename_i n
        cases hk : cellT M n with
        | none => simp only
        | some kvs => exact absurd ⟨n, kvs, rfl, hk⟩ hc
      · rfl
    rw [← e]; exact p
theorem a_ixY {a b : Expr} {fa fb : SE} (hu : X.A.units + 1 < cLine) (ha : AE X W a fa) (hb : AE X W b fb) (hs : PlainIx b := by intro _ _; rfl) : AE X W (.Subscript a b pos) (sOp idxY fa fb) :=
  PE.imp (pe_ix (ix_U hu) ha hb hs) fun σ H Q q => tOp_of idxYG q
theorem inYG (neg : Bool) : OpG X W (rInX X.K neg) (inY neg) := by
  intro S w M H σ x y d1 d2 Q hs r1 r2 p
  by_cases hc : ∃ n kvs, d2 = .cell n ∧ cellT M n = some kvs
  · obtain ⟨n, kvs, rfl, hk⟩ := hc
    obtain ⟨a, us, rfl, hH, q⟩ := r2.dit hs hk
    unfold inY at p
    simp only [hk] at p
    cases e : keyT d1 with
    | none => simp only [e] at p; exact p.elim
    | some k =>
      simp only [e] at p
      obtain ⟨b, rfl, hb⟩ := r1.keyT e
      refine .inr ⟨a, valV us k, rfl, .t hH (hs.same _ _ hb), ?_⟩
      have es : (valV us k).isSome = (gget kvs k).isSome := by
        cases e2 : gget kvs k with
        | none => rw [q.ggetN e2]; rfl
        | some d => obtain ⟨v, h1, _⟩ := q.gget e2; rw [h1]; rfl
      rw [es]
      exact p w H _ (.refl _ _) hs (.inl (.bl _))
  · refine inXG (W := W) neg S w M H σ x y d1 d2 Q hs r1 r2 ?_
    have e : inY neg d1 d2 M = inX neg d1 d2 M := by
      unfold inY
      split
      · rename_i n
        cases hk : cellT M n with
        | none => simp only
        | some kvs => exact absurd ⟨n, kvs, rfl, hk⟩ hc
      · rfl
    rw [← e]; exact p
theorem reps_key {K : PySem.W.Frag} {w : Wd} : ∀ k : List Key, Reps K w (k.map kV) (k.map kD)
  | [] => .nil
  | .inl i :: r => .cons (.int i) (reps_key r)
  | .inr x :: r => .cons (.str x) (reps_key r)
theorem reps_tkeys {K : PySem.W.Frag} {w : Wd} {M : Mem} {H : Hp} (hs : HS K w M H) : ∀ {us : List (List Key × V)} {bs : List Addr}, IsKeys H us bs → Reps K w (bs.map V.ref) (us.map fun kv => tkD kv.1) := by
  intro us bs h
  unfold IsKeys at h
  induction h with
  | nil => exact .nil
  | @cons p b ps bs h t ih => exact .cons (.tup (.of (hs.tups _ _ h)) (reps_key p.1)) ih
theorem listYG : CallG X W (fun xs H Q => ((∃ p ys, xs = [.ref p] ∧ (SqL X.K H p ys ∨ SqT X.K H p ys) ∧ ∀ l, H l = none → Q (.ref l) (upd H l (.lst ys))) ∨
    ∃ (a : Addr) (kvs : List (Key × V)), xs = [.ref a] ∧ L2.Rd H a (.dK kvs) ∧ ∀ p, H p = none → Q (.ref p) (upd H p (.lst (kvs.map fun kv => kV kv.1)))) ∨
    ∃ d kvs, xs = [V.ref d] ∧ L2.Rd H d (.dT kvs) ∧ ∀ p bs, H p = none → IsKeys H kvs bs → Q (.ref p) (upd H p (.lst (bs.map V.ref)))) listY := by
  intro S w M H σ xs ds Q hs rs p
  by_cases hc : ∃ n kvs, ds = [.cell n] ∧ cellT M n = some kvs
  · obtain ⟨n, kvs, rfl, hk⟩ := hc
    obtain ⟨x, rfl, r⟩ := rs.one
    obtain ⟨a, us, rfl, hH, q⟩ := r.dit hs hk
    unfold listY at p
    simp only [hk] at p
    refine .inr ⟨a, us, rfl, .inl hH, fun b bs hb ik => fresh_own hs ?_ p hb⟩
    have := reps_tkeys hs ik
    rw [show kvs.map (fun kv => tkD kv.1) = us.map fun kv => tkD kv.1 by
      have := q.gkeys
      rw [show (kvs.map fun kv => tkD kv.1) = (kvs.map (·.1)).map tkD by rw [List.map_map]; rfl, ← this, List.map_map]; rfl]
    exact this
  · refine .inl (listXG (W := W) S w M H σ xs ds Q hs rs ?_)
    have e : listY ds M = listX ds M := by
      unfold listY
      split
      · rename_i n
        cases hk : cellT M n with
        | none => simp only
        | some kvs => exact absurd ⟨n, kvs, rfl, hk⟩ hc
      · rfl
    rw [← e]; exact p
theorem call_listY (hc : X.calm = true) : CallR X (.type "list") (fun xs H Q => ((∃ p ys, xs = [.ref p] ∧ (SqL X.K H p ys ∨ SqT X.K H p ys) ∧ ∀ l, H l = none → Q (.ref l) (upd H l (.lst ys))) ∨
    ∃ (a : Addr) (kvs : List (Key × V)), xs = [.ref a] ∧ L2.Rd H a (.dK kvs) ∧ ∀ p, H p = none → Q (.ref p) (upd H p (.lst (kvs.map fun kv => kV kv.1)))) ∨
    ∃ d kvs, xs = [V.ref d] ∧ L2.Rd H d (.dT kvs) ∧ ∀ p bs, H p = none → IsKeys H kvs bs → Q (.ref p) (upd H p (.lst (bs.map V.ref)))) := (call_listX hc).or (call_list_dT hc)
theorem call_lenY : CallR X (.builtin "len") (fun xs H Q => rLenU X.K xs H Q ∨ rLenT xs H Q) := call_lenU.or call_len_dT
theorem lenYG : CallG X W (fun xs H Q => rLenU X.K xs H Q ∨ rLenT xs H Q) lenY := by
  intro S w M H σ xs ds Q hs rs p
  by_cases hc : ∃ n kvs, ds = [.cell n] ∧ cellT M n = some kvs
  · obtain ⟨n, kvs, rfl, hk⟩ := hc
    obtain ⟨x, rfl, r⟩ := rs.one
    obtain ⟨a, us, rfl, hH, q⟩ := r.dit hs hk
    unfold lenY at p
    simp only [hk] at p
    exact .inr ⟨a, us, rfl, hH, by rw [q.glen]; exact p w H _ (.refl _ _) hs (.inl (.int _))⟩
  · refine .inl (lenG (W := W) S w M H σ xs ds Q hs rs ?_)
    have e : lenY ds M = lenD ds M := by
      unfold lenY
      split
      · rename_i n
        cases hk : cellT M n with
        | none => simp only
        | some kvs => exact absurd ⟨n, kvs, rfl, hk⟩ hc
      · rfl
    rw [← e]; exact p
/-! ### d[k] = v -/
def set1Y (i : Nat) (k d : D) (e : En) (M : Mem) : RS := match eget e i with
  | some (.cell n) => match cellT M n with
    | some kvs => match keyT k with
      | some ky => if (guniq kvs && decide (kvs.length < sizeLine)) = true then .nx e (M.set n (.dit (gput kvs ky d))) else .bad
      | none => .bad
    | none => set1 i k d e M
  | _ => set1 i k d e M
def sSetY (i : Nat) (fk fv : SE) : SS := fun e M => match eget e i with
  | some _ => (fv e M).bindS e fun d M => (fk e M).bindS e fun k M => set1Y i k d e M
  | none => .bad
theorem set1Y_G {S : Addr → Prop} {w : Wd} {M : Mem} {H : Hp} {σ : L2.St} {e : En} {i : Nat} {k d : D} {u v : V} {E : Ends} {o : V} (sr : SR X.K S w H σ e) (hs : HS X.K w M H) (ho : σ[i]? = some (some o)) (rk : RepR X.K w H u k) (rv : Rep X.K w v d) (p : PstS X.K W S w H E (set1Y i k d e M)) : rSetU o u v H fun H' => E.nx σ H' := by
  by_cases hd : ∃ n kvs, eget e i = some (.cell n) ∧ cellT M n = some kvs
  · obtain ⟨n, kvs, he, hc⟩ := hd
    unfold set1Y at p
    rw [he] at p
    simp only [hc] at p
    cases hk : keyT k with
    | none => simp only [hk] at p; exact p.elim
    | some ky =>
      simp only [hk] at p
      by_cases hz : (guniq kvs && decide (kvs.length < sizeLine)) = true
      · rw [if_pos hz] at p
        rw [Bool.and_eq_true] at hz
        obtain ⟨x, hσ, r⟩ := sr.at_ i _ (eget_iff.mp he)
        rw [ho] at hσ
        cases hσ
        rcases r with r | ⟨_, hx, _⟩
        · cases r with
          | cell hn =>
            obtain ⟨hb, us, hH, q⟩ := hs.cells n _ _ hn (cellT_some hc)
            obtain ⟨b, rfl, hB⟩ := rk.keyT hk
            have q' := KvR.gput rv q hz.1 (k := ky)
            obtain ⟨s2, y⟩ := hs.write (o := .dT (putK us ky v)) (m := .dit (gput kvs ky d)) hn hb ⟨hb, _, upd_same, q'⟩
            exact .inr ⟨_, _, rfl, .t hH (hs.same _ _ hB) (by rw [q.glen]; exact of_decide_eq_true hz.2), p w _ σ y.of s2 (sr.mono y)⟩
        · cases hx
      · rw [if_neg hz] at p; exact p.elim
  · have e0 : set1Y i k d e M = set1 i k d e M := by
      unfold set1Y
      cases he : eget e i with
      | none => rfl
      | some x =>
        cases x with
        | cell n =>
          cases hc : cellT M n with
          | none => simp only [hc]
          | some kvs => exact absurd ⟨n, kvs, he, hc⟩ hd
        | _ => rfl
    rw [e0] at p
    exact set1_G sr hs ho rk rv p
theorem s_setY {i : Nat} {x : Str} {k v : Expr} {fk fv : SE} {p1 tpos : Pos} (hu : X.A.units + 1 < cLine) (hN : X.N[i]? = some x) (hv : Vis X.env.scope x) (hk : AE X W k fk) (h : AF X W v fv)
    (hs : swapsWithSole [.Subscript (.Name x p1) k tpos] v pos.line X.env = pure false := by rfl) (hw : swappedStores [.Subscript (.Name x p1) k tpos] v X.env = pure none := by rfl)
    (h1 : (assignEach [.Subscript (.Name x p1) k tpos] X.env).map (·.2) = [assign (.Subscript (.Name x p1) k tpos) X.env] := by rfl)
    (ha : ∀ v, assign (.Subscript (.Name x p1) k tpos) X.env v = (do
      let ov ← holding [v] (eval (.Name x p1) X.env)
      let iv ← holding [v, ov] (eval k X.env)
      standAt tpos
      holding [v, ov, iv] (setItem ov iv v)
      release [v, ov, iv] []) := by intro _; rfl)
    (hd : (x == ("__debug__" : Str)) = false := by decide) (hcd : (x == ("__classdict__" : Str)) = false := by decide) :
    AS X W (.Assign [.Subscript (.Name x p1) k tpos] v pos) (sSetY i fk fv) :=
  PS.imp (ps_asg h (pg_sub (pe_var hN hv hd hcd) hk (set_U hu) ha) hs hw h1) fun E σ H q =>
    by
      obtain ⟨S, w, e, M, hs, sr, lv, p⟩ := q
      unfold sSetY at p
      cases he : eget e i with
      | none => rw [he] at p; exact p.elim
      | some d0 =>
        rw [he] at p
        have p : PstS X.K W S w H E ((fv e M).bindS e fun d M => (fk e M).bindS e fun k M => set1Y i k d e M) := p
        obtain ⟨o, ho, _⟩ := sr.at_ i d0 (eget_iff.mp he)
        refine ⟨S, w, e, M, hs, sr.toSX, p.expr sr fun d M' w' H' v x s sr' r p => ?_⟩
        refine ⟨o, ho, S, w', e, M', s, sr'.toSX, (p.shift x.of).expr sr' fun kd M2 w2 H2 v2 y s2 sr2 r2 p2 => ?_⟩
        have r2 : RepO X.K S H' w2 H2 v2 kd := r2
        exact set1Y_G sr2 s2 ho r2.toR (r.mono y) (p2.shift y.of)
/-! ### {} and {k: v} -/
def sDict0T : SE := fun _ M => .ok (.cell M.length) (M ++ [.dit []])
theorem a_dict0T : AE X W (.Dict [] [] pos) sDict0T :=
  PE.imp pe_dnewT fun σ H Q q => by
    obtain ⟨S, w, e, M, hs, sx, p⟩ := q
    intro a ha
    obtain ⟨s1, x1⟩ := hs.loose (o := .dT []) ha
    have hr : a ∉ w.ρ := hs.fresh ha
    obtain ⟨s2, x2⟩ := s1.adoptM (w0 := w) (H0 := H) (a := a) (m := .dit []) hr (fun ps z => by rw [upd_same] at z; cases z) ⟨hs.same.free ha, [], upd_same, .nil⟩ x1 ha
    refine p _ _ (.ref a) x2 s2 (.inl (.cell ?_))
    show (w.ρ ++ [a])[M.length]? = some a
    rw [← hs.len]; simp
/-- {k: v}, k a tuple -/
def tDispT (tk tv : TE) : TE := fun σ H Q => ∀ p, H p = none → tk σ (upd H p (.dT [])) fun x H1 => tv σ H1 fun y H2 => H2 p = some (.dT []) ∧ ∃ (b : Addr) (k : List Key), x = .ref b ∧ H2 b = some (.tup (k.map kV)) ∧ Q (.ref p) (upd H2 p (.dT [(k, y)]))
theorem pe_dispT {k v : Expr} {tk tv : TE} (hu : X.A.units + 1 < cLine) (hk : PE X k tk) (hv : PE X v tv) : PE X (.Dict [some k] [v] pos) (tDispT tk tv) := by
  refine ⟨fun pins s σ H Q I q => ?_⟩
  have hn := I.hok.fresh (Nat.le_refl s.heap.objs.size)
  have I1 := I.laid (a := s.heap.objs.size) (o := .dT []) (h' := s.heap.push { cls := .type "dict", data := .dict #[] }) (t' := s.toks) (fun _ _ q => Heap.get?_push_of_some _ q) (Nat.le_refl _) (dt_empty s.heap I.big)
  rw [arm_eval_Dict, zip_pairTrees [some k] [v] X.env pos rfl rfl, dictDisplay_pairs (pairTrees [some k] [v] X.env pos) (by intro z; cases z) (by rw [pairTrees_length [some k] [v] X.env pos rfl rfl]; show (1 : Nat) < 17; decide)]
  refine wpAny_bind (wpAny_standAt (wpAny_bind ?_))
  unfold subDict
  refine wpAny_bind (wpAny_alloc ?_)
  refine wpAny_bind (wpAny_holding ?_)
  rw [if_pos (by rw [pairTrees_length [some k] [v] X.env pos rfl rfl]; show (1 : Nat) ≤ 15; decide)]
  refine wpAny_bind (wpAny_mono (Q := fun vs s' => ∃ u w2, vs = [(u, w2)] ∧ ∃ x y H2, Inv X pins σ H2 s' ∧ RelV x u ∧ RelV y w2 ∧ H2 s.heap.objs.size = some (.dT []) ∧ ∃ (b : Addr) (k : List Key), x = .ref b ∧ H2 b = some (.tup (k.map kV)) ∧ Q (.ref s.heap.objs.size) (upd H2 s.heap.objs.size (.dT [(k, y)]))) (pairTrees_cons_walk (thn (hk.run pins _ σ _ _ I1 (q _ hn)) fun u s1 ⟨x, H1, I2, rx, q1⟩ => thn (hv.run pins s1 σ H1 _ I2 q1) fun w2 s2 ⟨y, H2, I3, ry, q2⟩ =>
    pairTrees_nil_walk ⟨u, w2, rfl, x, y, H2, I3, rx, ry, q2⟩)) (fun vs s1 h1 => ?_) fun _ _ e => e)
  obtain ⟨u, w2, rfl, x, y, H2, I2, rx, ry, e, b, k, rfl, eb, q2⟩ := h1
  obtain rfl : u = Value.ref b := rx
  refine wpAny_holding ?_
  obtain ⟨z, hd, xs, rel, dd⟩ := dt_of I2.hok e
  cases rel
  rw [List.forIn_cons]
  refine wpAny_bind (wpAny_bind (wpAny_bind (wpAny_dictSet_heap (hsz := Nat.zero_le _) (knd := tupleKind (mixKind X.prog X.w)) (show X.A.units < cLine by omega) (key_of I2.hok eb) dd fun h' dd' hs => wpAny_pure ?_)))
  show wpAny (model X.prog X.w) X.A (forIn ([] : List (Value × Value)) PUnit.unit _) _ X.xe _
  rw [List.forIn_nil]
  refine wpAny_pure (wpAny_pure (wpAny_pure (wpAny_pure ?_)))
  refine ⟨.ref s.heap.objs.size, _, ?_, rfl, q2⟩
  obtain ⟨q, es, ep, hq, h2, h3, h4, _, h5⟩ := dd'
  refine d_write I2 (by rw [e]; exact True.intro) hs ⟨q, hq⟩ ⟨by show 1 ≤ sizeLine; decide, hd, _, ((show L2.KT H2 [] [] from .nil).put k eb ry).keeps fun c ys ec => ?_, q, es, ep, hq, h2, h3, h4, h5⟩
  rw [upd_ne (ne_of ec e (fun z => nomatch z))]
  exact ec
abbrev rlT (K : PySem.W.Frag) : Rl (V × V) (List Key × D) := fun _ w _ p d => (∃ b, p.1 = .ref b ∧ w.B b = some (.tup (d.1.map kV))) ∧ Rep K w p.2 d.2
theorem bkT {K : PySem.W.Frag} : Bk (rlT K) := fun _ _ _ _ _ _ _ _ _ h => h
def kv1 (k v : D) (M : Mem) : R (List Key × D) := match keyT k with
  | some ky => .ok (ky, v) M
  | none => .bad
def sKV (fk fv : SE) (e : En) (M : Mem) : R (List Key × D) := (fk e M).bind fun k M => (fv e M).bind fun v M => kv1 k v M
theorem kv_of {K : PySem.W.Frag} {W : WX} {σ : L2.St} {fk fv : SE} {H : Hp} {Q : V × V → Hp → Prop} (q : tG K W (fun _ => rlT K) (sKV fk fv) σ H Q) : tE K W fk σ H fun x H1 => tF K W fv σ H1 fun y H2 => Q (x, y) H2 :=
  tG.step (k := fun e k M => (fv e M).bind fun v M => kv1 k v M) (fun _ => bkT) q fun S w e w' M' H' v d s sx x rk p =>
    ⟨S, w', e, M', s, sx, p.bind bkT fun d2 M2 w2 H2 v2 y s2 rv p3 => by
      have rk : RepO K S H w' H' v d := rk
      unfold kv1 at p3
      cases hk : keyT d with
      | none => rw [hk] at p3; exact p3.elim
      | some ky =>
        rw [hk] at p3
        obtain ⟨b, rfl, hb⟩ := rk.toR.keyT hk
        have rv : Rep K w2 v2 d2 := rv
        exact p3 w2 H2 (.ref b, v2) (.refl _ _) s2 ⟨⟨b, rfl, y.b _ _ hb⟩, rv⟩⟩
def disp1 (kv : List Key × D) (M : Mem) : R D := .ok (.cell M.length) (M ++ [.dit [kv]])
def sDictT (fk fv : SE) : SE := fun e M => (sKV fk fv e M).bind disp1
theorem a_dictT {k v : Expr} {fk fv : SE} (hu : X.A.units + 1 < cLine) (hk : AE X W k fk) (hv : AF X W v fv) : AE X W (.Dict [some k] [v] pos) (sDictT fk fv) :=
  PE.imp (pe_dispT hu hk hv) fun σ H Q q => by
    obtain ⟨S, w, e, M, hs, sx, p⟩ := q
    intro a ha
    obtain ⟨s1, x1⟩ := hs.loose (o := .dT []) ha
    refine kv_of (Q := fun p H2 => H2 a = some (.dT []) ∧ ∃ (b : Addr) (k : List Key), p.1 = .ref b ∧ H2 b = some (.tup (k.map kV)) ∧ Q (.ref a) (upd H2 a (.dT [(k, p.2)]))) ⟨S, w, e, M, s1, sx.mono x1, ?_⟩
    unfold sDictT at p
    cases hf : sKV fk fv e M with
    | bad => rw [hf] at p; exact p
    | exc C fs M' => rw [hf] at p; exact Pst.shift bkT x1 (r := R.exc C fs M') (rel := rlT X.K) (Q := fun _ _ => True) p
    | ok kd M' =>
      rw [hf] at p
      have p : Pst X.K W w H σ (rlE X.K S) Q (.ok (.cell M'.length) (M' ++ [.dit [kd]])) := p
      intro w2 H2 vs x2 s2 r
      obtain ⟨⟨b, e1, hb⟩, rv⟩ := r
      have hB : w.B a = none := hs.same.free ha
      have hR : a ∉ w.ρ := hs.fresh ha
      obtain ⟨b2, r2, h2⟩ := x2.keepB hB hR upd_same
      refine ⟨h2, b, kd.1, e1, s2.same _ _ hb, ?_⟩
      obtain ⟨s3, y3⟩ := s2.writeO (S := fun b => b ≠ a) (o := .dT [(kd.1, vs.2)]) b2 r2 (fun z => z rfl)
      have y4 : Ext All w H w2 (upd H2 a (.dT [(kd.1, vs.2)])) := Ext.but (x1.trans x2) ha y3
      have hc : CellOk X.K ⟨w2.B, w2.ρ ++ [a]⟩ (upd H2 a (.dT [(kd.1, vs.2)])) a (.dit [kd]) := ⟨b2, [(kd.1, vs.2)], upd_same, KvR.mono' (w := w2) (w' := ⟨w2.B, w2.ρ ++ [a]⟩) (.cons rv .nil) (fun _ _ z => z) fun n b e => by
        rw [show (Wd.mk w2.B (w2.ρ ++ [a])).ρ = w2.ρ ++ [a] from rfl, List.getElem?_append_left (List.getElem?_eq_some_iff.mp e).1]; exact e⟩
      obtain ⟨s5, y5⟩ := s3.adoptM r2 (fun ps z => by rw [upd_same] at z; cases z) hc y4 ha
      refine p _ _ _ y5 s5 (.inl (.cell ?_))
      show (w2.ρ ++ [a])[M'.length]? = some a
      rw [← s2.len]
      simp
end
/-! ### evaluation -/
def kKV (fv : SE) (e : En) (k : D) (M : Mem) : R (List Key × D) := (fv e M).bind (kv1 k)
section
variable (e : En) (M : Mem)
@[simp] theorem sDictT_eq (fk fv) : sDictT fk fv e M = (sKV fk fv e M).bind disp1 := nrfl rfl
@[simp] theorem sKV_eq (fk fv) : sKV fk fv e M = (fk e M).bind (kKV fv e) := nrfl rfl
@[simp] theorem kKV_eq (fv k) : kKV fv e k M = (fv e M).bind (kv1 k) := nrfl rfl
@[simp] theorem disp1_eq (kv) : disp1 kv M = .ok (.cell M.length) (M ++ [.dit [kv]]) := nrfl rfl
theorem kv1_some {k v : D} {ky : List Key} (h : keyT k = some ky) : kv1 k v M = .ok (ky, v) M := by unfold kv1; rw [h]
@[simp] theorem sDict0T_eq : sDict0T e M = .ok (.cell M.length) (M ++ [.dit []]) := nrfl rfl
theorem idxY_dit {n : Nat} {b : D} {kvs : List (List Key × D)} {k : List Key} (h : cellT M n = some kvs) (hk : keyT b = some k) : idxY (.cell n) b M = ofO (gget kvs k) M := by unfold idxY; simp only [h, hk]
theorem idxY_cell {n : Nat} {b : D} (h : cellT M n = none) : idxY (.cell n) b M = idxD (.cell n) b M := by unfold idxY; simp only [h]
@[simp] theorem idxY_tup (xs b) : idxY (.tup xs) b M = idxD (.tup xs) b M := nrfl rfl
@[simp] theorem idxY_lst (xs b) : idxY (.lst xs) b M = idxD (.lst xs) b M := nrfl rfl
@[simp] theorem idxY_own (xs b) : idxY (.own xs) b M = idxD (.own xs) b M := nrfl rfl
@[simp] theorem idxY_brw (xs b) : idxY (.brw xs) b M = idxD (.brw xs) b M := nrfl rfl
theorem inY_dit (neg : Bool) {n : Nat} {a : D} {kvs : List (List Key × D)} {k : List Key} (h : cellT M n = some kvs) (hk : keyT a = some k) : inY neg a (.cell n) M = .ok (.bl (if neg then !(gget kvs k).isSome else (gget kvs k).isSome)) M := by unfold inY; simp only [h, hk]
theorem listY_dit {n : Nat} {kvs : List (List Key × D)} (h : cellT M n = some kvs) : listY [.cell n] M = .ok (.own (kvs.map fun kv => tkD kv.1)) M := by unfold listY; simp only [h]
@[simp] theorem listY_tup (xs) : listY [.tup xs] M = .ok (.own xs) M := nrfl rfl
@[simp] theorem listY_lst (xs) : listY [.lst xs] M = .ok (.own xs) M := nrfl rfl
theorem lenY_dit {n : Nat} {kvs : List (List Key × D)} (h : cellT M n = some kvs) : lenY [.cell n] M = .ok (.int kvs.length) M := by unfold lenY; simp only [h]
def set0Y (i : Nat) (fk fv : SE) (e : En) (M : Mem) (o : Option D) : RS := match o with
  | some _ => (fv e M).bindS e fun d M => (fk e M).bindS e fun k M => set1Y i k d e M
  | none => .bad
def setVY (i : Nat) (fk : SE) (e : En) (d : D) (M : Mem) : RS := (fk e M).bindS e (fun k M => set1Y i k d e M)
def setKY (i : Nat) (e : En) (d k : D) (M : Mem) : RS := set1Y i k d e M
@[simp] theorem sSetY_eq (i fk fv) : sSetY i fk fv e M = set0Y i fk fv e M (eget e i) := nrfl rfl
@[simp] theorem set0Y_some (i fk fv d) : set0Y i fk fv e M (some d) = (fv e M).bindS e (setVY i fk e) := nrfl rfl
@[simp] theorem setVY_eq (i fk d) : setVY i fk e d M = (fk e M).bindS e (setKY i e d) := nrfl rfl
theorem setKY_dit {i n : Nat} {d k : D} {kvs : List (List Key × D)} {ky : List Key} (he : eget e i = some (.cell n)) (h : cellT M n = some kvs) (hk : keyT k = some ky) (hz : (guniq kvs && decide (kvs.length < sizeLine)) = true) : setKY i e d k M = .nx e (M.set n (.dit (gput kvs ky d))) := by
  unfold setKY set1Y
  rw [he]
  simp only [h, hk, hz, if_true]
theorem keyT_pair (a b : Int) : keyT (.tup [.int a, .int b]) = some [.inl a, .inl b] := rfl
end
end L3
namespace L3
open PySem PySem.Spec PyProof.Rows L2
/-! ## def __init__(self, k, a, b): self.k = k; self.a = C(a); self.b = C(b) -/
theorem upd_none {H : Hp} {p b : Addr} {o : HO} (h : upd H p o b = none) : b ≠ p ∧ H b = none := by
  by_cases e : b = p
  · subst e; rw [upd_same] at h; cases h
  · rw [upd_ne e] at h; exact ⟨e, h⟩
def spP (C CT : Addr) (fld f0 f1 f2 : Str) : Sp := fun vs H Q E => ∃ x dx v0 v1 v2, vs = [.ref x, v0, v1, v2] ∧ H x = some (.ins C dx []) ∧
  ∀ a1 dx1, (upd H x (.ins C dx [(f0, v0)])) a1 = none → (upd H x (.ins C dx [(f0, v0)])) dx1 = none → dx1 ≠ a1 →
  ∀ a2 dx2, (upd (upd (upd (upd H x (.ins C dx [(f0, v0)])) dx1 (.own a1)) a1 (.ins CT dx1 [(fld, v1)])) x (.ins C dx [(f0, v0), (f1, .ref a1)])) a2 = none →
    (upd (upd (upd (upd H x (.ins C dx [(f0, v0)])) dx1 (.own a1)) a1 (.ins CT dx1 [(fld, v1)])) x (.ins C dx [(f0, v0), (f1, .ref a1)])) dx2 = none → dx2 ≠ a2 →
  Q .non (upd (upd (upd (upd (upd (upd (upd H x (.ins C dx [(f0, v0)])) dx1 (.own a1)) a1 (.ins CT dx1 [(fld, v1)])) x (.ins C dx [(f0, v0), (f1, .ref a1)])) dx2 (.own a2)) a2 (.ins CT dx2 [(fld, v2)])) x (.ins C dx [(f0, v0), (f1, .ref a1), (f2, .ref a2)]))
theorem init3_ok {P : Program} {w0 : World} {K : PySem.W.Frag} {mg : Str → Option Value} {base : Heap} {x qual y z0 z1 z2 fld f0 f1 f2 : Str} {st : Stmt} {f C CT : Addr} {fd : FuncData} {k : Nat} {e1 e2 : Expr} {p1 p2 p3 q1 q2 r1 r2 pos pos1 pos2 : Pos} (F : Fun K x qual st f fd) (Sc : FnScope [y, z0, z1, z2] [y, z0, z1, z2] (defScope st))
    (hbd : defBody st = [.Assign [.Attribute (.Name y p1) f0 p2] (.Name z0 p3) pos, .Assign [.Attribute (.Name y q1) f1 q2] e1 pos1, .Assign [.Attribute (.Name y r1) f2 r2] e2 pos2]) (c : Cls K C) (n0 : NoAttr K C f0) (n1 : NoAttr K C f1) (n2 : NoAttr K C f2) (hd : f0 ≠ f1 ∧ f0 ≠ f2 ∧ f1 ≠ f2)
    (hl : ∀ (cdv : Value) (A : Around) (outer : List Env) (s : Shared) (H : Hp) (E : XK), Room k (A.deeper (envOfC qual (defScope st) s.heap.objs.size f cdv)) →
      PE (cxOf (L2.CX P w0) P w0 K mg base [y, z0, z1, z2] qual (defScope st) f cdv A outer s H E) (.Name y p1) (tVar 0) ∧ PE (cxOf (L2.CX P w0) P w0 K mg base [y, z0, z1, z2] qual (defScope st) f cdv A outer s H E) (.Name z0 p3) (tVar 1) ∧
      swapsWith (.Name z0 p3) (some (.Attribute (.Name y p1) f0 p2)) pos.line (cxOf (L2.CX P w0) P w0 K mg base [y, z0, z1, z2] qual (defScope st) f cdv A outer s H E).env = pure false ∧
      PE (cxOf (L2.CX P w0) P w0 K mg base [y, z0, z1, z2] qual (defScope st) f cdv A outer s H E) (.Name y q1) (tVar 0) ∧ PE (cxOf (L2.CX P w0) P w0 K mg base [y, z0, z1, z2] qual (defScope st) f cdv A outer s H E) e1 (tMake CT (spI CT fld) [] (fun _ _ _ => False) (tCons (tVar 2) tNil)) ∧
      swapsWith e1 (some (.Attribute (.Name y q1) f1 q2)) pos1.line (cxOf (L2.CX P w0) P w0 K mg base [y, z0, z1, z2] qual (defScope st) f cdv A outer s H E).env = pure false ∧
      PE (cxOf (L2.CX P w0) P w0 K mg base [y, z0, z1, z2] qual (defScope st) f cdv A outer s H E) (.Name y r1) (tVar 0) ∧ PE (cxOf (L2.CX P w0) P w0 K mg base [y, z0, z1, z2] qual (defScope st) f cdv A outer s H E) e2 (tMake CT (spI CT fld) [] (fun _ _ _ => False) (tCons (tVar 3) tNil)) ∧
      swapsWith e2 (some (.Attribute (.Name y r1) f2 r2)) pos2.line (cxOf (L2.CX P w0) P w0 K mg base [y, z0, z1, z2] qual (defScope st) f cdv A outer s H E).env = pure false) :
    FnOk P w0 K mg base (L2.CX P w0) (k + 1) f fd [y, z0, z1, z2] (spP C CT fld f0 f1 f2) := by
  refine F.okX Sc (fun vs H Q E h => by obtain ⟨_, _, _, _, _, rfl, _⟩ := h; rfl) fun cdv A outer s H vs Q E hr h => ?_
  obtain ⟨a, dx, v0, v1, v2, rfl, hx, q⟩ := h
  obtain ⟨h1, h2, h3, h4, h5, h6, h7, h8, h9⟩ := hl cdv A outer s H E hr
  rw [hbd]
  obtain ⟨d1, d2, d3⟩ := hd
  have g1 : ∀ u v : V, putF f1 v [(f0, u)] = [(f0, u), (f1, v)] := fun u v => by simp [putF, d1]
  have g2 : ∀ u v t : V, putF f2 t [(f0, u), (f1, v)] = [(f0, u), (f1, v), (f2, t)] := fun u v t => by simp [putF, d2, d3]
  refine ⟨_, pss_cons (ps_fld h1 h2 h3) (pss_cons (ps_fld h4 h5 h6) (pss_one (ps_fld h7 h8 h9))), ?_⟩
  refine ⟨v0, rfl, .ref a, rfl, a, C, dx, [], rfl, hx, c, n0, by decide, ?_⟩
  refine ⟨v1, rfl, fun a1 dx1 k1 k2 k3 => ⟨a1, dx1, v1, rfl, upd_same, rfl, ?_⟩⟩
  rw [upd_twice]
  have k1 : (upd H a (.ins C dx [(f0, v0)])) a1 = none := k1
  have k2 : (upd H a (.ins C dx [(f0, v0)])) dx1 = none := k2
  have na1 := upd_none k1
  have na2 := upd_none k2
  refine ⟨.ref a, rfl, a, C, dx, [(f0, v0)], rfl, ?_, c, n1, (by show (1 : Nat) < 1000; decide), ?_⟩
  · show upd (upd (upd H a (.ins C dx [(f0, v0)])) dx1 (.own a1)) a1 _ a = _
    rw [upd_ne (Ne.symm na1.1), upd_ne (Ne.symm na2.1), upd_same]
  rw [g1]
  refine ⟨v2, rfl, fun a2 dx2 l1 l2 l3 => ⟨a2, dx2, v2, rfl, upd_same, rfl, ?_⟩⟩
  rw [upd_twice]
  have l1 : (upd (upd (upd (upd H a (.ins C dx [(f0, v0)])) dx1 (.own a1)) a1 (.ins CT dx1 [(fld, v1)])) a (.ins C dx [(f0, v0), (f1, .ref a1)])) a2 = none := l1
  have l2 : (upd (upd (upd (upd H a (.ins C dx [(f0, v0)])) dx1 (.own a1)) a1 (.ins CT dx1 [(fld, v1)])) a (.ins C dx [(f0, v0), (f1, .ref a1)])) dx2 = none := l2
  have nb1 := upd_none l1
  have nb2 := upd_none l2
  refine ⟨.ref a, rfl, a, C, dx, [(f0, v0), (f1, .ref a1)], rfl, ?_, c, n2, (by show (2 : Nat) < 1000; decide), ?_⟩
  · show upd (upd (upd _ a (.ins C dx [(f0, v0), (f1, .ref a1)])) dx2 (.own a2)) a2 _ a = _
    rw [upd_ne (Ne.symm nb1.1), upd_ne (Ne.symm nb2.1), upd_same]
  rw [g2]
  exact q a1 dx1 k1 k2 k3 a2 dx2 l1 l2 l3
def mkP (C CT : Addr) (fld f0 f1 f2 : Str) (ds : List D) (M : Mem) : R D := match ds with
  | [d0, d1, d2] => .ok (.obj C [(f0, d0), (f1, .obj CT [(fld, d1)]), (f2, .obj CT [(fld, d2)])]) M
  | _ => .bad
def sMakeP (C CT : Addr) (fld f0 f1 f2 : Str) (fa : SA) : SE := fun e M => (fa e M).bind (mkP C CT fld f0 f1 f2)
section
variable {X : Cx} {W : WX} {pos : Pos}
theorem a_makeP {k : Nat} {f C CT : Addr} {fd : FuncData} {ps : List Str} {x fld f0 f1 f2 : Str} {p : Pos} {e0 e1 e2 : Expr} {fa : SA} (Mc : Mk X.K C f) (F : FnOk X.prog X.w X.K X.mg X.base (L2.CX X.prog X.w) k f fd ps (spP C CT fld f0 f1 f2)) (hr : Room (k + 1) X.A) (hg : Gl X x) (hm : X.mg x = some (.ref C)) (hb : Binds X.K fd ps [])
    (ha : AAf X W [e0, e1, e2] fa) (hdb : (x == ("__debug__" : Str)) = false := by decide) (he : starEach [e0, e1, e2] X.env = (false, eval e0 X.env) :: starEach [e1, e2] X.env := by rfl) (hpl : (backTo pos (starEach [e1, e2] X.env)).any (·.1) = false := by rfl) :
    AE X W (.Call (.Name x p) [e0, e1, e2] [] pos) (sMakeP C CT fld f0 f1 f2 fa) :=
  PE.imp (pe_make (E := fun _ _ _ => False) Mc F hr hg hm hb .nil (fun _ _ _ _ _ _ _ h => (cx_no h).elim) ha hdb he hpl) fun σ H Q q =>
    tG.step (k := fun _ ds M => mkP C CT fld f0 f1 f2 ds M) (fun _ => bkE) q fun S w en w' M' H' vs ds s sx y r p => by
      have r : Reps X.K w' vs ds := r
      intro a dx h1 h2 h3
      match ds, r, p with
      | [], _, p => exact p.elim
      | [_], _, p => exact p.elim
      | [_, _], _, p => exact p.elim
      | _ :: _ :: _ :: _ :: _, _, p => exact p.elim
      | [d0, d1, d2], .cons (v := v0) r0 (.cons (v := v1) r1 (.cons (v := v2) r2 .nil)), p =>
        refine ⟨a, dx, v0, v1, v2, rfl, upd_same, fun a1 dx1 k1 k2 k3 a2 dx2 l1 l2 l3 => ⟨rfl, ?_⟩⟩
        have e1 : upd (upd (upd H' dx (.own a)) a (.ins C dx [])) a (.ins C dx [(f0, v0)]) = upd (upd H' dx (.own a)) a (.ins C dx [(f0, v0)]) := upd_twice
        rw [e1] at k1 k2 l1 l2 ⊢
        obtain ⟨ka1, k1⟩ := upd_none k1
        obtain ⟨ka2, k1⟩ := upd_none k1
        obtain ⟨kb1, k2⟩ := upd_none k2
        obtain ⟨kb2, k2⟩ := upd_none k2
        obtain ⟨la1, l1⟩ := upd_none l1
        obtain ⟨la2, l1⟩ := upd_none l1
        obtain ⟨la3, l1⟩ := upd_none l1
        obtain ⟨la4, l1⟩ := upd_none l1
        obtain ⟨la5, l1⟩ := upd_none l1
        obtain ⟨lb1, l2⟩ := upd_none l2
        obtain ⟨lb2, l2⟩ := upd_none l2
        obtain ⟨lb3, l2⟩ := upd_none l2
        obtain ⟨lb4, l2⟩ := upd_none l2
        obtain ⟨lb5, l2⟩ := upd_none l2
        have eG : upd (upd (upd (upd (upd (upd (upd (upd H' dx (.own a)) a (.ins C dx [(f0, v0)])) dx1 (.own a1)) a1 (.ins CT dx1 [(fld, v1)])) a (.ins C dx [(f0, v0), (f1, .ref a1)])) dx2 (.own a2)) a2 (.ins CT dx2 [(fld, v2)])) a (.ins C dx [(f0, v0), (f1, .ref a1), (f2, .ref a2)]) =
            upd (upd (upd (upd (upd (upd H' dx (.own a)) dx1 (.own a1)) a1 (.ins CT dx1 [(fld, v1)])) dx2 (.own a2)) a2 (.ins CT dx2 [(fld, v2)])) a (.ins C dx [(f0, v0), (f1, .ref a1), (f2, .ref a2)]) := by
          funext b
          by_cases hb : b = a
          · subst hb; rw [upd_same, upd_same]
          · rw [upd_ne hb, upd_ne hb]
            by_cases c2 : b = a2
            · subst c2; rw [upd_same, upd_same]
            · rw [upd_ne c2, upd_ne c2]
              by_cases c3 : b = dx2
              · subst c3; rw [upd_same, upd_same]
              · rw [upd_ne c3, upd_ne c3, upd_ne hb]
                by_cases c4 : b = a1
                · subst c4; rw [upd_same, upd_same]
                · rw [upd_ne c4, upd_ne c4]
                  by_cases c5 : b = dx1
                  · subst c5; rw [upd_same, upd_same]
                  · rw [upd_ne c5, upd_ne c5, upd_ne hb]
        rw [eG]
        obtain ⟨s1, y1⟩ := s.loose (o := .own a) h2
        obtain ⟨s2, y2⟩ := s1.loose (p := dx1) (o := .own a1) (by rw [upd_ne kb2]; exact k2)
        obtain ⟨s3, y3⟩ := s2.imm (p := a1) (o := .ins CT dx1 [(fld, v1)]) (by rw [upd_ne (Ne.symm k3), upd_ne ka2]; exact k1)
        obtain ⟨s4, y4⟩ := s3.loose (p := dx2) (o := .own a2) (by rw [upd_ne lb2, upd_ne lb3, upd_ne lb5]; exact l2)
        obtain ⟨s5, y5⟩ := s4.imm (p := a2) (o := .ins CT dx2 [(fld, v2)]) (by rw [upd_ne (Ne.symm l3), upd_ne la2, upd_ne la3, upd_ne la5]; exact l1)
        obtain ⟨s6, y6⟩ := s5.imm (p := a) (o := .ins C dx [(f0, v0), (f1, .ref a1), (f2, .ref a2)]) (by rw [upd_ne (Ne.symm la1), upd_ne (Ne.symm lb1), upd_ne (Ne.symm ka1), upd_ne (Ne.symm kb1), upd_ne (Ne.symm h3)]; exact h1)
        have y12 := y1.trans y2
        have o1 : Rep X.K _ (.ref a1) (.obj CT [(fld, d1)]) := .obj (us := [(fld, v1)]) (w := _) (upd_same) (.cons ((r1.mono y12).mono y3) .nil)
        have o2 : Rep X.K _ (.ref a2) (.obj CT [(fld, d2)]) := .obj (us := [(fld, v2)]) (w := _) (upd_same) (.cons (((r2.mono y12).mono y3 |>.mono y4).mono y5) .nil)
        exact p _ _ (.ref a) (((y12.trans y3).trans (y4.trans y5)).trans y6) s6 (.inl (.obj (us := [(f0, v0), (f1, .ref a1), (f2, .ref a2)]) upd_same (.cons ((((r0.mono y12).mono y3).mono y4 |>.mono y5).mono y6) (.cons (((o1.mono y4).mono y5).mono y6) (.cons (o2.mono y6) .nil)))))
end
section
variable (e : En) (M : Mem)
@[simp] theorem sMakeP_eq (C CT fld f0 f1 f2 fa) : sMakeP C CT fld f0 f1 f2 fa e M = (fa e M).bind (mkP C CT fld f0 f1 f2) := nrfl rfl
@[simp] theorem mkP_eq (C CT fld f0 f1 f2 d0 d1 d2) : mkP C CT fld f0 f1 f2 [d0, d1, d2] M = .ok (.obj C [(f0, d0), (f1, .obj CT [(fld, d1)]), (f2, .obj CT [(fld, d2)])]) M := nrfl rfl
end
/-- such a class, as the walk finds it -/
structure PCls (K : PySem.W.Frag) (mg : Str → Option Value) (x f0 f1 f2 : Str) (C : Addr) : Prop where
  g : mg x = some (.ref C)
  c : Cls K C
  n0 : NoAttr K C f0
  n1 : NoAttr K C f1
  n2 : NoAttr K C f2
end L3
namespace L3
open PySem PySem.Spec PyProof.Rows L2
/-! ## two readers joined: pairs of values as codes -/
def jn (r1 r2 : Rd) (kf : Bool → Bool → Bool) : Rd := ⟨r1.la, r1.lb, r1.lc, r1.n * r2.n, r1.e * r2.n + r2.e, fun a => r1.L a * r2.n + r2.L a, fun x y => r1.mul (x / r2.n) (y / r2.n) * r2.n + r2.mul (x % r2.n) (y % r2.n), fun a b x => r1.wr a b (x / r2.n) * r2.n + r2.wr a b (x % r2.n), fun x => kf (r1.p (x / r2.n)) (r2.p (x % r2.n))⟩
theorem code_div {n a b : Nat} (hb : b < n) : (a * n + b) / n = a := by
  rw [Nat.mul_comm, Nat.mul_add_div (by omega), Nat.div_eq_of_lt hb, Nat.add_zero]
theorem code_mod {n a b : Nat} (hb : b < n) : (a * n + b) % n = b := by
  rw [Nat.mul_comm, Nat.mul_add_mod, Nat.mod_eq_of_lt hb]
theorem code_lt {m n a b : Nat} (ha : a < m) (hb : b < n) : a * n + b < m * n := by
  have : (a + 1) * n ≤ m * n := Nat.mul_le_mul_right n ha
  rw [Nat.succ_mul] at this
  omega
theorem code_eq (n x : Nat) : x / n * n + x % n = x := by rw [Nat.mul_comm]; exact Nat.div_add_mod x n
structure Jn (r r1 r2 : Rd) (kf : Bool → Bool → Bool) : Prop where
  e : r = jn r1 r2 kf
  R1 : r1.Ok
  R2 : r2.Ok
  a : r2.la = r1.la
  b : r2.lb = r1.lb
  c : r2.lc = r1.lc
  n1 : r1.n ≤ 9
  n2 : r2.n ≤ 9
section
variable {r r1 r2 : Rd} {kf : Bool → Bool → Bool} (J : Jn r r1 r2 kf)
include J
theorem Jn.la : r.la = r1.la := by rw [J.e]; rfl
theorem Jn.lb : r.lb = r1.lb := by rw [J.e]; rfl
theorem Jn.lc : r.lc = r1.lc := by rw [J.e]; rfl
theorem Jn.n : r.n = r1.n * r2.n := by rw [J.e]; rfl
theorem Jn.e' : r.e = r1.e * r2.n + r2.e := by rw [J.e]; rfl
theorem Jn.L (a : Nat) : r.L a = r1.L a * r2.n + r2.L a := by rw [J.e]; rfl
theorem Jn.mul (x y : Nat) : r.mul x y = r1.mul (x / r2.n) (y / r2.n) * r2.n + r2.mul (x % r2.n) (y % r2.n) := by rw [J.e]; rfl
theorem Jn.wr (a b x : Nat) : r.wr a b x = r1.wr a b (x / r2.n) * r2.n + r2.wr a b (x % r2.n) := by rw [J.e]; rfl
theorem Jn.p (x : Nat) : r.p x = kf (r1.p (x / r2.n)) (r2.p (x % r2.n)) := by rw [J.e]; rfl
theorem Jn.pos : 0 < r2.n := J.R2.m.pos
theorem Jn.div {x : Nat} (h : x < r.n) : x / r2.n < r1.n := by
  rw [J.n, Nat.mul_comm] at h
  exact Nat.div_lt_of_lt_mul h
theorem Jn.mod (x : Nat) : x % r2.n < r2.n := Nat.mod_lt _ J.pos
theorem Jn.ok : r.Ok := by
  have h1 := J.R1
  have h2 := J.R2
  have hn : r.n ≤ 81 := by rw [J.n]; exact Nat.mul_le_mul J.n1 J.n2
  refine ⟨by rw [J.la]; exact h1.a1, by rw [J.lb]; exact h1.b1, by rw [J.lc]; exact h1.c1, ⟨?_, hn, ?_, fun x y hx hy => ?_, fun x hx => ?_, fun x hx => ?_, fun x y z hx hy hz => ?_⟩, fun a ha => ?_, fun a b x ha hb hx => ?_⟩
  · rw [J.n]; exact Nat.mul_pos h1.m.pos h2.m.pos
  · rw [J.n, J.e']; exact code_lt h1.m.u h2.m.u
  · rw [J.n, J.mul]; exact code_lt (h1.m.cl _ _ (J.div hx) (J.div hy)) (h2.m.cl _ _ (J.mod x) (J.mod y))
  · rw [J.mul, J.e', code_div h2.m.u, code_mod h2.m.u, h1.m.l _ (J.div hx), h2.m.l _ (J.mod x), code_eq]
  · rw [J.mul, J.e', code_div h2.m.u, code_mod h2.m.u, h1.m.r _ (J.div hx), h2.m.r _ (J.mod x), code_eq]
  · rw [J.mul (r.mul x y) z, J.mul x (r.mul y z), J.mul x y, J.mul y z, code_div (h2.m.cl _ _ (J.mod x) (J.mod y)), code_mod (h2.m.cl _ _ (J.mod x) (J.mod y)), code_div (h2.m.cl _ _ (J.mod y) (J.mod z)), code_mod (h2.m.cl _ _ (J.mod y) (J.mod z)),
      h1.m.a _ _ _ (J.div hx) (J.div hy) (J.div hz), h2.m.a _ _ _ (J.mod x) (J.mod y) (J.mod z)]
  · rw [J.n, J.L]; exact code_lt (h1.l a (by rw [← J.la]; exact ha)) (h2.l a (by rw [J.a, ← J.la]; exact ha))
  · rw [J.n, J.wr]; exact code_lt (h1.w a b _ (by rw [← J.lb]; exact ha) (by rw [← J.lc]; exact hb) (J.div hx)) (h2.w a b _ (by rw [J.b, ← J.lb]; exact ha) (by rw [J.c, ← J.lc]; exact hb) (J.mod x))
/-- values of texts -/
theorem Jn.valS : ∀ (t : List Pl) (s1 s2 : List (Nat × Nat)) (c1 c2 : Nat), okP r1.la r1.lb r1.lc s1.length t 0 → s1.length = s2.length → (∀ k : Nat, (s1[k]?).map Prod.snd = (s2[k]?).map Prod.snd) → (∀ p ∈ s2, p.1 < r2.n) → (∀ p ∈ s1, p.2 < r1.lb) → (∀ p ∈ s1, p.1 < r1.n) → c1 < r1.n → c2 < r2.n →
    L3.valS r (List.zipWith (fun p q => (p.1 * r2.n + q.1, p.2)) s1 s2) (c1 * r2.n + c2) t = L3.valS r1 s1 c1 t * r2.n + L3.valS r2 s2 c2 t
  | [], s1, s2, c1, c2, ho, hl, _, _, _, _, _, _ => by
    cases s1 <;> cases s2 <;> simp_all [L3.valS, okP]
  | .lt a :: t, s1, s2, c1, c2, ho, hl, hk, h2, h3, h4, hc1, hc2 => by
    have e : ∀ (r : Rd) (s : List (Nat × Nat)) (c : Nat), L3.valS r s c (.lt a :: t) = L3.valS r s (r.mul c (r.L a)) t := fun r s c => by cases s <;> rfl
    have l2 := J.R2.l a (by rw [J.a]; exact ho.1)
    have l1 := J.R1.l a ho.1
    rw [e, e, e, J.mul, J.L, code_div hc2, code_mod hc2, code_div l2, code_mod l2]
    exact Jn.valS t s1 s2 _ _ ho.2 hl hk h2 h3 h4 (J.R1.m.cl _ _ hc1 l1) (J.R2.m.cl _ _ hc2 l2)
  | .ca a :: t, s1, s2, c1, c2, ho, hl, hk, h2, h3, h4, hc1, hc2 => by
    have e : ∀ (r : Rd) (s : List (Nat × Nat)) (c : Nat), L3.valS r s c (.ca a :: t) = L3.valS r ((c, a) :: s) r.e t := fun r s c => by cases s <;> rfl
    rw [e, e, e, J.e']
    exact Jn.valS t ((c1, a) :: s1) ((c2, a) :: s2) _ _ ho.2 (by simp [hl]) (fun k => by cases k <;> simp [hk]) (fun p hp => by
      rcases List.mem_cons.mp hp with rfl | hp
      · exact hc2
      · exact h2 p hp) (fun p hp => by
      rcases List.mem_cons.mp hp with rfl | hp
      · exact ho.1
      · exact h3 p hp) (fun p hp => by
      rcases List.mem_cons.mp hp with rfl | hp
      · exact hc1
      · exact h4 p hp) J.R1.m.u J.R2.m.u
  | .re b :: t, [], s2, c1, c2, ho, _, _, _, _, _, _, _ => absurd ho.2.1 (by simp)
  | .re b :: t, _ :: _, [], c1, c2, ho, hl, _, _, _, _, _, _ => by simp at hl
  | .re b :: t, (g1, k1) :: s1, (g2, k2) :: s2, c1, c2, ho, hl, hk, h2, h3, h4, hc1, hc2 => by
    have ek : k1 = k2 := by have := hk 0; simpa using this
    subst ek
    have hg2 := h2 (g2, k1) List.mem_cons_self
    have hk1 := h3 (g1, k1) List.mem_cons_self
    have hg1 := h4 (g1, k1) List.mem_cons_self
    have w1 := J.R1.w k1 b c1 hk1 ho.1 hc1
    have w2 := J.R2.w k1 b c2 (by rw [J.b]; exact hk1) (by rw [J.c]; exact ho.1) hc2
    have e : ∀ (r : Rd) (g k c : Nat) (s : List (Nat × Nat)), L3.valS r ((g, k) :: s) c (.re b :: t) = L3.valS r s (r.mul g (r.wr k b c)) t := fun r g k c s => rfl
    rw [List.zipWith_cons_cons, e, e, e, J.wr, J.mul, code_div hc2, code_mod hc2, code_div hg2, code_mod hg2, code_div w2, code_mod w2]
    exact Jn.valS t s1 s2 _ _ (by have := ho.2.2; simpa using this) (by simpa using hl) (fun k => by have := hk (k + 1); simpa using this) (fun p hp => h2 p (List.mem_cons_of_mem _ hp)) (fun p hp => h3 p (List.mem_cons_of_mem _ hp)) (fun p hp => h4 p (List.mem_cons_of_mem _ hp)) (J.R1.m.cl _ _ hg1 w1) (J.R2.m.cl _ _ hg2 w2)
theorem Jn.den {t : List Pl} (hb : Bal r1.la r1.lb r1.lc t) : L3.den r t = L3.den r1 t * r2.n + L3.den r2 t := by
  have := J.valS t [] [] r1.e r2.e (hb.okP 0) rfl (fun _ => rfl) (fun p hp => by cases hp) (fun p hp => by cases hp) (fun p hp => by cases hp) J.R1.m.u J.R2.m.u
  unfold L3.den
  rw [J.e']
  exact this
end
/-! ## codes shown as pairs; dicts keyed by them -/
def qD (n x : Nat) : D := .tup [.int ((x / n : Nat) : Int), .int ((x % n : Nat) : Int)]
def qK (n x : Nat) : List Key := [.inl ((x / n : Nat) : Int), .inl ((x % n : Nat) : Int)]
theorem keyT_q (n x : Nat) : keyT (qD n x) = some (qK n x) := rfl
theorem tkD_q (n x : Nat) : tkD (qK n x) = qD n x := rfl
theorem qK_inj {n x y : Nat} (h : qK n x = qK n y) : x = y := by
  unfold qK at h
  simp only [List.cons.injEq, Sum.inl.injEq, and_true] at h
  rw [← code_eq n x, ← code_eq n y]
  have h1 : x / n = y / n := by omega
  have h2 : x % n = y % n := by omega
  rw [h1, h2]
def KQ (n : Nat) (kvs : List (List Key × D)) (f : List Nat) : Prop := kvs.map (·.1) = f.map (qK n)
theorem KQ.len {n : Nat} {kvs : List (List Key × D)} {f : List Nat} (h : KQ n kvs f) : kvs.length = f.length := by
  have := congrArg List.length h
  simpa using this
theorem KQ.list {n : Nat} {kvs : List (List Key × D)} {f : List Nat} (h : KQ n kvs f) : (kvs.map fun kv => tkD kv.1) = f.map (qD n) := by
  have := congrArg (List.map tkD) h
  rw [List.map_map, List.map_map] at this
  exact this
theorem KQ.get {n : Nat} : ∀ {kvs : List (List Key × D)} {f : List Nat}, KQ n kvs f → ∀ (x : Nat), (gget kvs (qK n x)).isSome = decide (x ∈ f)
  | [], [], _, x => by simp [gget]
  | [], _ :: _, h, _ => by cases h
  | _ :: _, [], h, _ => by cases h
  | (k, d) :: r, y :: f, h, x => by
    unfold KQ at h
    rw [List.map_cons, List.map_cons, List.cons.injEq] at h
    obtain ⟨h1, h2⟩ := h
    have h1 : k = qK n y := h1
    subst h1
    unfold gget
    by_cases e : y = x
    · subst e; simp
    · have : ¬ (qK n y = qK n x) := fun z => e (qK_inj z)
      rw [if_neg this, KQ.get (f := f) h2 x]
      have : ¬ x = y := fun z => e z.symm
      simp [this]
theorem KQ.put {n : Nat} : ∀ {kvs : List (List Key × D)} {f : List Nat}, KQ n kvs f → ∀ {x : Nat}, x ∉ f → ∀ d, KQ n (gput kvs (qK n x) d) (f ++ [x])
  | [], [], _, x, _, d => rfl
  | [], _ :: _, h, _, _, _ => by cases h
  | _ :: _, [], h, _, _, _ => by cases h
  | (k, d0) :: r, y :: f, h, x, hx, d => by
    unfold KQ at h
    rw [List.map_cons, List.map_cons, List.cons.injEq] at h
    obtain ⟨h1, h2⟩ := h
    have h1 : k = qK n y := h1
    subst h1
    unfold gput
    have hxy : ¬ (qK n y = qK n x) := fun z => hx (by rw [← qK_inj z]; exact List.mem_cons_self)
    rw [if_neg hxy]
    have := KQ.put (f := f) h2 (x := x) (fun z => hx (List.mem_cons_of_mem _ z)) d
    show _ :: _ = _ :: _
    rw [this]; rfl
theorem KQ.uniq {n : Nat} : ∀ {kvs : List (List Key × D)} {f : List Nat}, KQ n kvs f → f.Nodup → guniq kvs = true
  | [], [], _, _ => rfl
  | [], _ :: _, h, _ => by cases h
  | _ :: _, [], h, _ => by cases h
  | (k, d0) :: r, y :: f, h, hn => by
    unfold KQ at h
    rw [List.map_cons, List.map_cons, List.cons.injEq] at h
    obtain ⟨h1, h2⟩ := h
    have h1 : k = qK n y := h1
    subst h1
    obtain ⟨n1, n2⟩ := List.nodup_cons.mp hn
    unfold guniq
    rw [KQ.uniq (f := f) h2 n2, Bool.and_true, Bool.not_eq_true']
    rw [Bool.eq_false_iff]
    intro z
    obtain ⟨p, hp, e⟩ := List.any_eq_true.mp z
    have e : p.1 = qK n y := by simpa using e
    have : p.1 ∈ r.map (·.1) := List.mem_map.mpr ⟨p, hp, rfl⟩
    rw [h2, e] at this
    obtain ⟨y', hy', e'⟩ := List.mem_map.mp this
    rw [qK_inj e'] at hy'
    exact n1 hy'
def numQ (n k : Nat) : List Nat → List (List Key × D)
  | [] => []
  | x :: r => (qK n x, .int (k : Nat)) :: numQ n (k + 1) r
theorem numQ_KQ (n : Nat) : ∀ (F : List Nat) (k : Nat), KQ n (numQ n k F) F
  | [], _ => rfl
  | x :: r, k => by
    show _ :: _ = _ :: _
    rw [show (numQ n (k + 1) r).map (·.1) = _ from numQ_KQ n r (k + 1)]
theorem numQ_put (n : Nat) : ∀ (pre : List Nat) (k x : Nat), x ∉ pre → gput (numQ n k pre) (qK n x) (.int ((k + pre.length : Nat) : Int)) = numQ n k (pre ++ [x])
  | [], k, x, _ => by simp [numQ, gput]
  | y :: r, k, x, hx => by
    have hxy : ¬ (qK n y = qK n x) := fun z => hx (by rw [← qK_inj z]; exact List.mem_cons_self)
    have := numQ_put n r (k + 1) x fun z => hx (List.mem_cons_of_mem _ z)
    show (if qK n y = qK n x then _ else (qK n y, D.int (k : Nat)) :: gput (numQ n (k + 1) r) (qK n x) _) = _
    rw [if_neg hxy, List.length_cons, show k + (r.length + 1) = k + 1 + r.length by omega, this]; rfl
theorem numQ_get (n : Nat) : ∀ (F : List Nat) (k x i : Nat), F.findIdx? (fun y => decide (y = x)) = some i → gget (numQ n k F) (qK n x) = some (.int ((k + i : Nat) : Int))
  | [], _, _, _, h => by simp at h
  | y :: r, k, x, i, h => by
    show (if qK n y = qK n x then some (D.int (k : Nat)) else gget (numQ n (k + 1) r) (qK n x)) = _
    rw [List.findIdx?_cons] at h
    by_cases e : y = x
    · subst e
      simp at h
      subst h
      rw [if_pos rfl]; rfl
    · have hxy : ¬ (qK n y = qK n x) := fun z => e (qK_inj z)
      rw [if_neg hxy]
      simp only [e, decide_false] at h
      cases h2 : r.findIdx? fun y => decide (y = x) with
      | none => rw [h2] at h; simp at h
      | some j =>
        rw [h2] at h
        simp at h
        subst h
        rw [numQ_get n r (k + 1) x j h2]
        congr 2
        omega
theorem idx_numQ {n : Nat} {F : List Nat} {x : Nat} (h : x ∈ F) (M : Mem) (m : Nat) (hc : cellT M m = some (numQ n 0 F)) : idxY (.cell m) (qD n x) M = .ok (nD (idx F x)) M := by
  rw [idxY_dit M hc (keyT_q n x), numQ_get n F 0 x _ (idx_mem h).2.2, Nat.zero_add]; rfl
end L3
namespace L3
open PySem PySem.Spec PyProof.Rows L2
/-! ## several clauses, each with the same name for the error -/
abbrev HTs := List (Value × (Addr → Value → Option Addr → TS))
def endsU (i : Nat) (E : Ends) : Ends := { nx := fun t G => E.nx (t.set i none) G, rt := E.rt, bk := fun t G => E.bk (t.set i none) G, ct := fun t G => E.ct (t.set i none) G }
/-- what the clauses ask, from the first on -/
def wMA (K : PySem.W.Frag) (i : Nat) (W0 : WX) (E : Ends) : HTs → WX
  | [] => W0
  | (c, ts) :: r => fun k d t G => ∃ v, PySem.W.exmOne K k c = some v ∧ (v = true → ∀ a, G a = none → ts a k d (endsU i E) (t.set i (some (.ref a))) G) ∧ (v = false → wMA K i W0 E r k d t G)
inductive HsA (X : Cx) (n : Str) : List ExceptHandler → HTs → Prop
  | nil : HsA X n [] []
  | cons {x : Str} {c : Value} {ts : Addr → Value → Option Addr → TS} {s0 : Stmt} {ss : List Stmt} {p1 p2 : Pos} {hs : List ExceptHandler} {l : HTs} (hc : Names X x c)
      (hsu : ∀ (a : Addr) (ob : Obj) (k : Value) (d : Option Addr) (pn : List (Addr × Obj)), Zc k d ob → (∃ vs, ob.data = .fields vs) → PSs (X.suite a ((a, ob) :: pn)) (s0 :: ss) (ts a k d)) (r : HsA X n hs l) :
      HsA X n (.ExceptHandler (some (.Name x p1)) (some n) (s0 :: ss) p2 :: hs) ((c, ts) :: l)
section
variable {X : Cx} {W0 : WX} {tb : WX → TS} {body : List Stmt} {h0 : ExceptHandler} {hds : List ExceptHandler} {l : HTs} {pos : Pos} {i : Nat} {n : Str}
theorem ps_tries (hs : X.stack = X.env :: X.outer) (hf : X.env.frame = some X.env.locals) (hN : X.N.Nodup) (hi : X.N[i]? = some n) (hln : X.env.kindOf n = some .local) (tk : Takes X W0)
    (hb : ∀ (W : WX) (pn : List (Addr × Obj)) (xe : Value → Shared → Prop), Takes (X.tr pn xe) W → PassesOwn (model X.prog X.w) X.A X.env xe → PSs (X.tr pn xe) body (tb W)) (hh : HsA X n (h0 :: hds) l) :
    PS X (.Try body (h0 :: hds) [] [] pos) (fun E σ H => tb (wMA X.K i W0 E l) E σ H) := by
  refine ⟨fun pins s σ H E I q0 => ?_⟩
  have okk := I.ok
  have frm : X.A.frames = some (X.env :: X.outer) := by rw [okk.frames, hs]
  have lcl : Loc X.env.scope n := .inl hln
  refine wpAny_Try_except ?_
  refine wpAny_mono ((hb (wMA X.K i W0 E l) (X.pn ++ pins) (fun e t1 => wpAny (model X.prog X.w) X.A (noteFrame e X.env) (fun _ t2 => wpAny (model X.prog X.w) X.A (setFlight e none) (fun _ t3 =>
    wpAny (model X.prog X.w) X.A (handleBy e X.env (h0 :: hds)) (SP X pins E) X.xe t3) X.xe t2) X.xe t1) (fun u sB caught => ?_) PassesOwn.looking).run [] s σ H E (I.toTry _) q0) (fun f sC got => ?_) (fun e sC z => z)
  · obtain ⟨a, B, sI, pins', σB, HB, k, d, rfl, JB, nb, up, sky, na, os, ag, w⟩ := caught
    have J0 : Inv X pins σB HB sI := JB.ofTry okk
    have skyB : Sky B (X.env :: X.outer) a (Zc k d) X.env.locals sB.heap := by rw [← hs]; exact sky
    show wpAny (model X.prog X.w) X.A (noteFrame (.ref a) X.env) _ _ _
    refine Sky.land Zc.steady frm hf skyB fun g3 fl u3 => ?_
    have K3 : Inv X pins σB HB { sB with heap := g3 } := J0.landed nb fl.1 (up.trans u3) os ag
    obtain ⟨ob3, ws3, ge3, gz3, gd3⟩ := fl.there
    have nofr : a ∉ frs (X.env :: X.outer) := fun hm => by
      obtain ⟨_, o', e', hnf⟩ := fl.2.2.1.mem hm
      rw [ge3] at e'; cases e'
      exact hnf _ gd3
    have notL : a ≠ X.env.locals := fun z => nofr (List.mem_filterMap.mpr ⟨X.env, List.mem_cons_self, by rw [hf, z]⟩)
    have notF : a ∉ X.fs := fun hm => by
      obtain ⟨e, he, q⟩ := List.mem_filterMap.mp hm
      exact nofr (List.mem_filterMap.mpr ⟨e, List.mem_cons_of_mem _ he, q⟩)
    have T3 := K3.suite ge3 gd3 na notL notF
    have go : ∀ {hs2 : List ExceptHandler} {l2 : HTs}, HsA X n hs2 l2 → wMA X.K i W0 E l2 k d σB HB →
        wpAny (model X.prog X.w) X.A (handleBy (.ref a) X.env hs2) (SP X pins E) X.xe { sB with heap := g3 } := by
      intro hs2 l2 hk
      induction hk with
      | nil =>
        intro ww
        refine wpAny_handleBy_nil ?_
        obtain ⟨k1, k2, k3, ob, vs, T, oT, ts', he, hz, hd, h1, hr⟩ := id fl
        unfold PySem.passOn
        refine wpAny_bind (wpAny_field he hd h1 ?_)
        rw [if_neg (show ¬ ((Value.ref T == Value.none) = true) by simp)]
        have fin : wpAny (model X.prog X.w) X.A (setFlight (.ref a) X.env.frame) (fun _ t4 => wpAny (model X.prog X.w) X.A (throw (.ref a) : Sem Flow) (SP X pins E) X.xe t4) X.xe { sB with heap := g3 } := by
          rw [hf]
          exact HandSPX.setFlight_upZ fl fun g4 hh4 u4 => wpAny_throw (tk _ _ ⟨a, B, sI, pins, σB, HB, k, d, rfl, J0, nb, (up.trans u3).trans u4, .inr (.inr (by rw [hs]; exact hh4)), na, os, ag, ww⟩)
        first
          | exact wpAny_bind fin
          | exact wpAny_bind (wpAny_pure (wpAny_bind fin))
      | @cons x c ts s0 ss p1 p2 hs3 l3 hc hsu r ih =>
        intro ww
        obtain ⟨v, ev, hyes, hno⟩ := ww
        refine wpAny_handleBy_cons (codeAny_handlers_test ?_) (by intro z; cases z)
        have LTy : PySem.W.Looks (model X.prog X.w) g3 (typeOf (.ref a)) k := fun A Q F s kp q => wpAny_typeOf_ref (kp _ _ ge3) (by rw [gz3.1]; exact q)
        have LEx := PySem.W.exm_one (M := model X.prog X.w) K3.kIn LTy ev
        have tst : ∀ {Q : Value → Shared → Prop} {F : Value → Shared → Prop}, Q c { sB with heap := g3 } → wpAny (model X.prog X.w) (X.A.mark (some (.ref a))) (eval (.Name x p1) X.env) Q F { sB with heap := g3 } := fun {Q F} q => by
          obtain ⟨hg, hdb, hm | ⟨hm, hv, hnn⟩⟩ := hc
          · exact ld_glob (X := X.suite a ((a, ob3) :: (X.pn ++ pins))) T3 hg hm q hdb
          · exact ld_blt (X := X.suite a ((a, ob3) :: (X.pn ++ pins))) T3 hg hm hv q hnn hdb
        refine tst (LEx.here ?_)
        cases v with
        | true =>
          refine codeAny_handlers_suite_as ?_
          refine HandSPX.lands_againZ fl fun g4 fl4 u4 => ?_
          have K4 : Inv X pins σB HB { sB with heap := g4 } := J0.landed nb fl4.1 ((up.trans u3).trans u4) os ag
          obtain ⟨ob4, ws4, ge4, gz4, gd4⟩ := fl4.there
          have T4 := K4.suite ge4 gd4 na notL notF
          refine store_ok (X := X.suite a ((a, ob4) :: (X.pn ++ pins))) (v := .ref a) T4 hN hi lcl rfl (fun t5 T5 => ?_) (.inr hln)
          refine wpAny_mono ((hsu a ob4 k d (X.pn ++ pins) gz4 ⟨_, gd4⟩).run [] t5 _ HB _ T5 (hyes rfl a na)) (fun f t6 got => ?_) (fun _ _ z => z.elim)
          have leave : ∀ {σ6 : L2.St} {H6 : Hp} {Q : Shared → Prop}, Inv (X.suite a ((a, ob4) :: (X.pn ++ pins))) [] σ6 H6 t6 → (∀ t7, Inv X pins (σ6.set i none) H6 t7 → Q t7) →
              wpAny (model X.prog X.w) X.A (do bindName X.env n .none; unbindBehindTheSuite X.env n p2) (fun _ t7 => Q t7) X.xe t6 := fun {σ6 H6 Q} T6 hq => gone_ok (T6.unsuite okk) hN hi hln hq
          cases f with
          | next =>
            obtain ⟨σ6, H6, T6, q6⟩ := got
            exact leave T6 fun t7 J7 => ⟨_, _, J7, q6⟩
          | brk =>
            obtain ⟨σ6, H6, T6, q6⟩ := got
            exact leave T6 fun t7 J7 => ⟨_, _, J7, q6⟩
          | cont =>
            obtain ⟨σ6, H6, T6, q6⟩ := got
            exact leave T6 fun t7 J7 => ⟨_, _, J7, q6⟩
          | ret u =>
            obtain ⟨v6, σ6, H6, T6, r6, q6⟩ := got
            exact leave T6 fun t7 J7 => ⟨_, _, _, J7, r6, q6⟩
        | false =>
          show wpAny _ X.A (handleBy (.ref a) X.env hs3) _ _ _
          exact ih (hno rfl)
    exact go hh w
  · cases f with
    | next =>
      obtain ⟨σB, HB, JB, q⟩ := got
      exact wpAny_execs_nil ⟨σB, HB, JB.ofTry okk, q⟩
    | brk =>
      obtain ⟨σB, HB, JB, q⟩ := got
      exact ⟨σB, HB, JB.ofTry okk, q⟩
    | cont =>
      obtain ⟨σB, HB, JB, q⟩ := got
      exact ⟨σB, HB, JB.ofTry okk, q⟩
    | ret u =>
      obtain ⟨v, σB, HB, JB, r, q⟩ := got
      exact ⟨v, σB, HB, JB.ofTry okk, r, q⟩
end
/-! ## two clauses for errors without a field -/
def try2 (i : Nat) (C1 : Addr) (h1 : Addr → SS) (C2 : Addr) (h2 : Addr → SS) (o : RS) : RS := match o with
  | .exc D fs e2 M2 => if fs.isEmpty = true then (if D = C1 then postX i (h1 0 (e2.set i (some (.ref 0))) M2) else if D = C2 then postX i (h2 0 (e2.set i (some (.ref 0))) M2) else .bad) else .bad
  | o => o
def sTry2 (i : Nat) (C1 : Addr) (h1 : Addr → SS) (C2 : Addr) (h2 : Addr → SS) (b : SS) : SS := fun e M => try2 i C1 h1 C2 h2 (b e M)
section
variable {X : Cx} {W : WX}
theorem s_try2 {x1 x2 n : Str} {C1 C2 : Addr} {i : Nat} {body su1 su2 : List Stmt} {b1 b2 : Stmt} {np1 np2 pos pos1 pos2 : Pos} {b : SS} {h1 h2 : Addr → SS} (hs : X.stack = X.env :: X.outer) (hf : X.env.frame = some X.env.locals) (hN : X.N.Nodup) (hi : X.N[i]? = some n) (hln : X.env.kindOf n = some .local)
    (hc1 : Names X x1 (.ref C1)) (hc2 : Names X x2 (.ref C2)) (tk : Takes X W)
    (hx1 : PySem.W.exmOne X.K (.ref C1) (.ref C1) = some true) (hx2 : PySem.W.exmOne X.K (.ref C2) (.ref C1) = some false) (hx3 : PySem.W.exmOne X.K (.ref C2) (.ref C2) = some true)
    (ind1 : ∀ (a : Addr) (e : En) (M : Mem), postX i (h1 a (e.set i (some (.ref a))) M) = postX i (h1 0 (e.set i (some (.ref 0))) M))
    (ind2 : ∀ (a : Addr) (e : En) (M : Mem), postX i (h2 a (e.set i (some (.ref a))) M) = postX i (h2 0 (e.set i (some (.ref 0))) M))
    (hb : ∀ (W2 : WX) (pn : List (Addr × Obj)) (xe : Value → Shared → Prop), Takes (X.tr pn xe) W2 → PassesOwn (model X.prog X.w) X.A X.env xe → ASs (X.tr pn xe) W2 body b)
    (hsu1 : ∀ (a : Addr) (oe : Obj) (pn : List (Addr × Obj)), Zc (.ref C1) none oe → (∃ vs, oe.data = .fields vs) → ASs (X.suite a ((a, oe) :: pn)) (fun _ _ _ _ => False) (b1 :: su1) (h1 a))
    (hsu2 : ∀ (a : Addr) (oe : Obj) (pn : List (Addr × Obj)), Zc (.ref C2) none oe → (∃ vs, oe.data = .fields vs) → ASs (X.suite a ((a, oe) :: pn)) (fun _ _ _ _ => False) (b2 :: su2) (h2 a)) :
    AS X W (.Try body [.ExceptHandler (some (.Name x1 np1)) (some n) (b1 :: su1) pos1, .ExceptHandler (some (.Name x2 np2)) (some n) (b2 :: su2) pos2] [] [] pos) (sTry2 i C1 h1 C2 h2 b) :=
  PS.imp (ps_tries (tb := fun W2 => tS X.K W2 b) (l := [(.ref C1, fun a k d D σ H => k = .ref C1 ∧ d = none ∧ tS X.K (fun _ _ _ _ => False) (h1 a) D σ H), (.ref C2, fun a k d D σ H => k = .ref C2 ∧ d = none ∧ tS X.K (fun _ _ _ _ => False) (h2 a) D σ H)]) hs hf hN hi hln tk hb
    (.cons hc1 (fun a oe k d pn hz hv => ⟨fun pins s σ H D I ⟨e1, e2, q⟩ => by
      subst e1; subst e2
      exact (hsu1 a oe pn hz hv).run pins s σ H D I q⟩) (.cons hc2 (fun a oe k d pn hz hv => ⟨fun pins s σ H D I ⟨e1, e2, q⟩ => by
      subst e1; subst e2
      exact (hsu2 a oe pn hz hv).run pins s σ H D I q⟩) .nil))) fun E σ H q => by
    obtain ⟨S, w, e, M, hs, sr, lv, p⟩ := q
    refine ⟨S, w, e, M, hs, sr, lv, ?_⟩
    have p : PstS X.K W S w H E (try2 i C1 h1 C2 h2 (b e M)) := p
    cases hb : b e M with
    | nx e2 M2 => rw [hb] at p; exact p
    | bk e2 M2 => rw [hb] at p; exact p
    | ct e2 M2 => rw [hb] at p; exact p
    | rt d M2 => rw [hb] at p; exact p
    | bad => rw [hb] at p; exact p
    | exc D fs e2 M2 =>
      rw [hb] at p
      have p9 : PstS X.K W S w H E (if fs.isEmpty = true then (if D = C1 then postX i (h1 0 (e2.set i (some (.ref 0))) M2) else if D = C2 then postX i (h2 0 (e2.set i (some (.ref 0))) M2) else .bad) else .bad) := p
      clear p
      by_cases hfs : fs.isEmpty = true
      · rw [if_pos hfs] at p9
        have hfs : fs = [] := List.isEmpty_iff.mp hfs
        subst hfs
        intro w' H' σ' od x s r xf
        have ho : od = none := by
          rcases xf with ⟨_, z⟩ | ⟨_, _, z, _⟩
          · exact z
          · exact absurd rfl z
        subst ho
        by_cases h1' : D = C1
        · rw [if_pos h1'] at p9
          subst h1'
          refine ⟨true, hx1, fun _ a ha => ⟨rfl, rfl, S, w', e2.set i (some (.ref a)), M2, s, r.setD (.ref a), lv.on x, ?_⟩, fun z => nomatch z⟩
          have p2 := PstS.shift x p9
          rw [← ind1 a e2 M2] at p2
          exact p2.postX
        · rw [if_neg h1'] at p9
          by_cases h2' : D = C2
          · rw [if_pos h2'] at p9
            subst h2'
            refine ⟨false, hx2, (fun z => nomatch z), fun _ => ⟨true, hx3, fun _ a ha => ⟨rfl, rfl, S, w', e2.set i (some (.ref a)), M2, s, r.setD (.ref a), lv.on x, ?_⟩, fun z => nomatch z⟩⟩
            have p2 := PstS.shift x p9
            rw [← ind2 a e2 M2] at p2
            exact p2.postX
          · rw [if_neg h2'] at p9; exact p9.elim
      · rw [if_neg hfs] at p9; exact p9.elim
end
section
variable (e : En) (M : Mem)
theorem sTry2_eq (i C1 h1 C2 h2 b) : sTry2 i C1 h1 C2 h2 b e M = try2 i C1 h1 C2 h2 (b e M) := rfl
@[simp] theorem try2_rt (i C1 h1 C2 h2 d) : try2 i C1 h1 C2 h2 (.rt d M) = .rt d M := nrfl rfl
@[simp] theorem try2_nx (i C1 h1 C2 h2) : try2 i C1 h1 C2 h2 (.nx e M) = .nx e M := nrfl rfl
theorem try2_1 (i C1 h1 C2 h2) : try2 i C1 h1 C2 h2 (.exc C1 [] e M) = postX i (h1 0 (e.set i (some (.ref 0))) M) := by unfold try2; simp
theorem try2_2 {i C1 h1 C2 h2} (hn : C2 ≠ C1) : try2 i C1 h1 C2 h2 (.exc C2 [] e M) = postX i (h2 0 (e.set i (some (.ref 0))) M) := by unfold try2; simp [hn]
end
end L3
namespace L3
open PySem PySem.Spec PyProof.Rows L2
/-! ## sum of a list or a tuple of ints -/
section
variable {prog : Program} {w : World} {A : Around} {E : Value → Shared → Prop} {s : Shared} {l : Addr} {xs : Array (Int × Tok)}
theorem sum_tup {Q : Value → Shared → Prop} (hh : A.handled = none) (hl : s.heap.IsTuple l (intItems xs))
    (h : ∀ h' tk t', (∀ b o, s.heap.get? b = some o → h'.get? b = some o) → Q (.int (preSum (numAt xs) xs.size) t') { s with heap := h', toks := tk }) : wpAny (model prog w) A (call (.builtin "sum") [.ref l]) Q E s := by
  have hlt : l < s.heap.objs.size := by obtain ⟨_, e, _⟩ := hl; exact Heap.lt_size e
  refine call_sum_walkG (wpAny_pyIter_tuple hl ?_)
  refine ⟨_, _, _, _, _, _, numAt xs, rfl, Walks.tuple (A := A.in1) hh _ l (Nat.ne_of_lt hlt) (intItems xs), ⟨⟨_, Heap.get?_push_size _ rfl, rfl, rfl⟩, hl.push _⟩, fun c hc => ?_, (fun _ _ => intItems_at), fun h' tk t' hk => ?_⟩
  · show c < (s.heap.push _).objs.size
    rw [Heap.size_push]
    rcases List.mem_cons.mp hc with rfl | hc
    · exact Nat.lt_succ_self _
    · rcases List.mem_cons.mp hc with rfl | hc
      · exact Nat.lt_succ_of_lt hlt
      · cases hc
  · have := h h' tk t' fun b o e => hk b o (fun hm => by
      rcases List.mem_cons.mp hm with e1 | hm
      · exact absurd (e1 ▸ Heap.lt_size e) (Nat.lt_irrefl _)
      · cases hm) (Heap.get?_push_of_some _ e)
    simpa [intItems] using this
end
def rSumT (K : PySem.W.Frag) : List V → Hp → VK → Prop := fun vs H Q => ∃ (a : Addr) (ns : List Int), vs = [V.ref a] ∧ SqT K H a (ns.map V.int) ∧ Q (.int ns.sum) H
def rSumU (K : PySem.W.Frag) : List V → Hp → VK → Prop := fun vs H Q => rSum K vs H Q ∨ rSumT K vs H Q
def sumOf (o : Option (List D)) (M : Mem) : R D := match o with
  | some ds => match intsOf ds with
    | some ns => .ok (.int ns.sum) M
    | none => .bad
  | none => .bad
def sumD (ds : List D) (M : Mem) : R D := match ds with
  | [d] => sumOf (sqs d M) M
  | _ => .bad
section
variable {X : Cx} {W : WX}
theorem call_sumT (hc : X.calm = true) : CallR X (.builtin "sum") (rSumT X.K) := by
  intro pins s σ H vs us Q I r h
  obtain ⟨a, ns, rfl, hs, q⟩ := h
  obtain ⟨its, rv, hl, _⟩ := I.tuple hs
  rw [Vals.ref1 r]
  obtain ⟨xs, e⟩ := rv.ints.allInts.items
  have hn : numsOf (intItems xs).toList = ns := by rw [← e]; exact rv.ints.numsOf
  rw [nums_intItems] at hn
  have hl' : s.heap.IsTuple a (intItems xs) := by rw [← e]; exact hl
  refine sum_tup (I.ok.hd hc) hl' fun h' tk t' hk => ?_
  rw [preSum_eq, List.take_of_length_le (by simp), hn]
  exact ⟨.int _, H, I.kept hk, ⟨_, rfl⟩, q⟩
theorem call_sumU (hc : X.calm = true) : CallR X (.builtin "sum") (rSumU X.K) := (cr_sum hc).or (call_sumT hc)
theorem sumUG : CallG X W (rSumU X.K) sumD := by
  intro S w M H σ xs ds Q hs rs p
  rcases ds with _ | ⟨d, _ | ⟨d2, t⟩⟩
  · exact p.elim
  · obtain ⟨x, rfl, r⟩ := rs.one
    have p : Pst X.K W w H σ (rlE X.K S) Q (sumOf (sqs d M) M) := p
    cases hl : sqs d M with
    | none => rw [hl] at p; exact p.elim
    | some zs =>
      rw [hl] at p
      obtain ⟨a, us, rfl, hq, q⟩ := r.sqs hs hl
      unfold sumOf at p
      cases hi : intsOf zs with
      | none => simp only [hi] at p; exact p.elim
      | some ns =>
        simp only [hi] at p
        have ez := intsOf_eq hi
        subst ez
        have eu := Reps.ints_inv q
        subst eu
        have fin := p w H (.int ns.sum) (.refl _ _) hs (.inl (.int _))
        rcases hq with hq | hq
        · exact .inl ⟨a, ns, rfl, hq, fin⟩
        · exact .inr ⟨a, ns, rfl, hq, fin⟩
  · exact p.elim
end
section
variable (e : En) (M : Mem)
@[simp] theorem sumD_tup (xs) : sumD [.tup xs] M = sumOf (some xs) M := nrfl rfl
@[simp] theorem sumD_lst (xs) : sumD [.lst xs] M = sumOf (some xs) M := nrfl rfl
@[simp] theorem sumD_own (xs) : sumD [.own xs] M = sumOf (some xs) M := nrfl rfl
@[simp] theorem sumD_brw (xs) : sumD [.brw xs] M = sumOf (some xs) M := nrfl rfl
theorem sumOf_ints (ns : List Int) : sumOf (some (ns.map D.int)) M = .ok (.int ns.sum) M := by unfold sumOf; simp only [intsOf_map]
end
end L3
namespace L3
open PySem PySem.Spec PyProof.Rows L2

/-! ## sorted(set(list of ints)), the list of any length, fewer than 64 members -/
theorem nodup_le {α : Type} [DecidableEq α] : ∀ {l B : List α}, l.Nodup → (∀ x ∈ l, x ∈ B) → l.length ≤ B.length
  | [], _, _, _ => Nat.zero_le _
  | a :: l, B, hn, h => by
    have h1 := List.nodup_cons.mp hn
    have ha := h a List.mem_cons_self
    have ih := nodup_le (l := l) (B := B.erase a) h1.2 fun x hx => by
      have hne : x ≠ a := fun e => h1.1 (e ▸ hx)
      exact (List.mem_erase_of_ne hne).mpr (h x (List.mem_cons_of_mem _ hx))
    rw [List.length_erase_of_mem ha] at ih
    have : 0 < B.length := List.length_pos_of_mem ha
    rw [List.length_cons]
    omega
def undup : List Int → List Int
  | [] => []
  | a :: l => if a ∈ undup l then undup l else a :: undup l
theorem undup_mem : ∀ (l : List Int) (x : Int), x ∈ undup l ↔ x ∈ l
  | [], x => Iff.rfl
  | a :: l, x => by
    unfold undup
    split
    · rename_i h
      rw [undup_mem l, List.mem_cons]
      constructor
      · exact .inr
      · rintro (rfl | h2)
        · exact (undup_mem l _).mp h
        · exact h2
    · rw [List.mem_cons, List.mem_cons, undup_mem l]
theorem undup_nodup : ∀ l : List Int, (undup l).Nodup
  | [] => List.nodup_nil
  | a :: l => by
    unfold undup
    split
    · exact undup_nodup l
    · rename_i h
      exact List.nodup_cons.mpr ⟨h, undup_nodup l⟩
/-- the members, ascending -/
def setL (ns : List Int) : List Int := sortN (undup ns)
theorem setL_mem (ns : List Int) (x : Int) : x ∈ setL ns ↔ x ∈ ns := by
  unfold setL sortN
  rw [List.mem_mergeSort, undup_mem]
theorem setL_asc (ns : List Int) : (setL ns).Pairwise (· < ·) := by
  have h1 : (setL ns).Pairwise (· ≤ ·) := by
    have := List.pairwise_mergeSort (le := fun a b : Int => decide (a ≤ b)) (fun a b c h k => by simp at h k ⊢; omega) (fun a b => by simp; omega) (undup ns)
    exact this.imp fun h => by simpa using h
  have h2 : (setL ns).Nodup := (List.mergeSort_perm (undup ns) _).nodup_iff.mpr (undup_nodup ns)
  exact (h1.and h2).imp fun ⟨a, b⟩ => by omega
theorem asc_uniq : ∀ {l m : List Int}, l.Pairwise (· < ·) → m.Pairwise (· < ·) → (∀ x, x ∈ l ↔ x ∈ m) → l = m := by
  intro l m h1 h2 h
  have n1 : l.Nodup := h1.imp fun h => by omega
  have n2 : m.Nodup := h2.imp fun h => by omega
  exact List.Perm.eq_of_pairwise (le := (· ≤ ·)) (fun a b _ _ h k => Int.le_antisymm h k) (h1.imp fun h => by omega) (h2.imp fun h => by omega) ((List.perm_ext_iff_of_nodup n1 n2).mpr h)
theorem setR_le {w : World} {h : Heap} {a : Addr} {S : Int → Bool} {n : Nat} (R : SetR w h a S n) (B : List Int) (hB : ∀ k, S k = true → k ∈ B) : n ≤ B.length := by
  obtain ⟨o, es, ep, t, ho, hx, hd, g, nd, hm, hb, hf, hn, _⟩ := R
  have := nodup_le nd fun x hx => hB x ((hm x).mpr hx)
  rw [List.length_map, Array.length_toList] at this
  omega
section
variable {P : Program} {w : World} {A : Around} {E : Value → Shared → Prop} {s : Shared}
/-- the loop that fills a set from ints: only the number of members is bounded -/
theorem set_fill {I : Addr} {fp wr : List Addr} {G : Array GenState → Array GenState → Prop} {n : Nat} {Pv : Nat → Value → Prop} {St : Nat → Shared → Prop} {R : Result → Shared → Prop}
    (W : WalksS P w A.in1 I fp wr G n Pv St) (S : Addr) (hSf : S ∉ fp) (ns B : List Int) (hn : n = ns.length) (hB : ∀ k ∈ ns, k ∈ B) (hb : B.length + 1 < scanBound) (hval : ∀ i v, Pv i v → ∃ k t, ns[i]? = some k ∧ v = .int k t) :
    ∀ (k i : Nat) (s : Shared), n - i = k → i ≤ n → St i s → (∃ c, SetR w s.heap S (fun j => decide (j ∈ ns.take i)) c) →
      (∀ s' c, Moved (S :: wr) G s s' → SetR w s'.heap S (fun j => decide (j ∈ ns)) c → R (.ok (.ret .none)) s') →
      codeAny (model P w) A (.builtin "set.update.loop" ⟨[.ref S, .ref I], []⟩) R s := by
  have hSw : S ∉ wr := fun h => hSf (W.sub _ h)
  have hsub : ∀ b ∈ wr, b ∈ S :: wr := fun b hb => List.mem_cons_of_mem _ hb
  intro k
  induction k with
  | zero =>
    intro i s hk' hi hst ⟨c, hS⟩ hR
    have hin : i = n := by omega
    subst hin
    refine codeAny_builtin F.entry_set_update_loop ?_
    rw [Around.under_plainId F.plain_set_update_loop _]
    show wpAny _ A.in1 (pyNext (.ref I) >>= _) _ _ s
    refine wpAny_bind (W.done s _ _ hst fun s' hm => ?_)
    show wpAny _ A.in1 (ret Value.none) _ _ s'
    have e : ns.take i = ns := List.take_of_length_le (by omega)
    rw [e] at hS
    exact wpAny_pure (hR s' c (hm.mono hsub) (hS.at fun o e => hm.heap S o hSw e))
  | succ k ih =>
    intro i s hk' hi hst ⟨c, hS⟩ hR
    have hlt : i < n := by omega
    refine codeAny_builtin F.entry_set_update_loop ?_
    rw [Around.under_plainId F.plain_set_update_loop _]
    show wpAny _ A.in1 (pyNext (.ref I) >>= _) _ _ s
    refine wpAny_bind (W.item i s _ _ hlt hst fun v s' hP hst' hm => ?_)
    obtain ⟨z, t, hz, rfl⟩ := hval i v hP
    have hS' : SetR w s'.heap S (fun j => decide (j ∈ ns.take i)) c := hS.at fun o e => hm.heap S o hSw e
    have hc := setR_le hS' B fun k hk => hB k (List.mem_of_mem_take (of_decide_eq_true hk))
    show wpAny _ A.in1 (holding [Value.int z t] (setAdd S (.int z t)) >>= _) _ _ s'
    refine wpAny_bind (wpAny_holding ?_)
    unfold setAdd
    refine wpAny_holding ?_
    refine wpAny_bind ((intKind P w).pyHash (k := z) (intKind_is _ _ _ _) ?_)
    refine setR_add_hashed (s := { s' with toks := s'.toks + 1 }) hS' (by omega) fun h' hsb hS2 => ?_
    have hS3 : SetR w h' S (fun j => decide (j ∈ ns.take (i + 1))) (if decide (z ∈ ns.take i) = true then c else c + 1) := hS2.congr fun j => by
      rw [List.take_add_one, hz]
      simp [List.mem_append]
    refine wpAny_pure ⟨plainId_quiet F.plain_set_update_loop _, ih (i + 1) _ (by omega) hlt (W.frame _ s' _ _ hst' (Nat.le_succ _) fun b hb o e => ?_) ⟨_, hS3⟩ fun s'' c2 hm'' hS'' => ?_⟩
    · rw [hsb.2 b (fun h : b = S => hSf (by rw [← h]; exact hb))]; exact e
    · refine hR s'' c2 (Moved.trans W.gtrans ((hm.mono hsub).then_heap (Nat.le_succ _) fun b o hb e => ?_) hm'') hS''
      rw [hsb.2 b (fun h : b = S => hb (by rw [h]; exact List.mem_cons_self))]; exact e
set_option maxRecDepth 100000 in
set_option maxHeartbeats 3200000 in
theorem call_set_lst {l : Addr} {items : Array Value} (ns B : List Int) {Q : Value → Shared → Prop} (hh : A.handled = none) (hl : s.heap.IsList l items) (hit : IntsAre items.toList ns) (hB : ∀ k ∈ ns, k ∈ B) (hb : B.length + 1 < scanBound)
    (h : ∀ (h' : Heap) (tk c : Nat), SetR w h' s.heap.objs.size (fun j => decide (j ∈ ns)) c → (∀ b o, s.heap.get? b = some o → h'.get? b = some o) → Q (.ref s.heap.objs.size) { s with heap := h', toks := tk }) :
    wpAny (model P w) A (call (.type "set") [.ref l]) Q E s := by
  have hisz : items.size = ns.length := by
    have q := IntsAre.length hit
    rw [Array.length_toList] at q
    exact q
  obtain ⟨c, tl, hmro⟩ := F.called_set.mro
  have hmade := F.called_set.made
  have hsub := F.called_set.sub
  refine wpAny_call (codeAny_of_tree ?_)
  show wpAny _ _ (callAny (.type "set") _) _ _ _
  refine wpAny_pure ⟨Code.quiet_builtin _ (by decide +kernel), codeAny_builtin F.entry_type_call ?_⟩
  rw [Around.under_plain (weight_type_call_type "set" [.ref l] []) rfl]
  have h1 := F.called_set.notType
  have h2 := F.called_set.canCreate
  have hct := F.typeCall_set_1 (.ref l)
  repeat (any_goals (first | assumption | wp_step))
  refine codeAny_mono (code_set_led1 (.ref l) (E := E) (Q₁ := fun obj s₁ => obj = .ref s.heap.objs.size ∧ s₁ = { s with heap := s.heap.push { cls := .type "set", dict := none, data := .set #[] 0 (.fresh 0 0 (!w.params.followText "set-order")) } }) ⟨rfl, rfl⟩) fun r s₁ hr => ?_
  cases r with
  | error e => exact hr
  | ok fl =>
    cases fl with
    | ret obj =>
      obtain ⟨rfl, rfl⟩ := hr
      have hS : (s.heap.push ({ cls := .type "set", dict := none, data := .set #[] 0 (.fresh 0 0 (!w.params.followText "set-order")) } : Obj)).get? s.heap.objs.size = some ({ cls := .type "set", dict := none, data := .set #[] 0 (.fresh 0 0 (!w.params.followText "set-order")) } : Obj) := Heap.get?_push_size _ rfl
      have hT : Shared.TypeIs { s with heap := s.heap.push ({ cls := .type "set", dict := none, data := .set #[] 0 (.fresh 0 0 (!w.params.followText "set-order")) } : Obj) } (.ref s.heap.objs.size) "set" := ⟨_, hS, rfl⟩
      have hli := F.called_set.init.lookup
      have hbi := F.called_set.init.bind (.ref s.heap.objs.size)
      repeat (any_goals (first | assumption | wp_step))
      refine codeAny_mono (codeAny_call_builtin (R := wants (fun r s₂ => r = .none ∧ ∃ h' tk c, s₂ = { s with heap := h', toks := tk } ∧ SetR w h' s.heap.objs.size (fun j => decide (j ∈ ns)) c ∧
          (∀ b o, s.heap.get? b = some o → h'.get? b = some o)) E) F.called_set.init.plain F.entry_set_init (check_set_init_1 hT ?_)) fun r₂ s₂ hr₂ => ?_
      · obtain ⟨ol, hol, hcl, nl, hdl⟩ := hl
        obtain ⟨ocls, odict, odata, oslots⟩ := ol
        simp only at hcl hdl
        subst hcl; subst hdl
        have hol' : (s.heap.push ({ cls := .type "set", dict := none, data := .set #[] 0 (.fresh 0 0 (!w.params.followText "set-order")) } : Obj)).get? l = some { cls := .type "list", dict := odict, data := .seq items nl, slots := oslots } := Heap.get?_push_of_some _ hol
        have hsls := F.sub_list_set
        have hslf := F.sub_list_frozenset
        have hne : (Value.type "list" == Value.type "dict") = false := by decide
        have hl1 : (s.heap.push ({ cls := .type "set", dict := none, data := .set #[] 0 (.fresh 0 0 (!w.params.followText "set-order")) } : Obj)).IsList l items := ⟨_, hol', rfl, nl, rfl⟩
        unfold Builtin.«set.__init__» noKeywords Builtin.Frozenset.updateFrom
        generalize hPI : pyIter = PI
        wp_walk
        subst hPI
        refine wpAny_pyIter_list hl1 ?_
        refine wpAny_bind (wpAny_runValue ?_)
        have hlS : l < s.heap.objs.size := Heap.lt_size hol
        have hh3 : A.in1.in1.in1.handled = none := by simp [hh]
        have hz1 : (s.heap.push ({ cls := .type "set", dict := none, data := .set #[] 0 (.fresh 0 0 (!w.params.followText "set-order")) } : Obj)).objs.size = s.heap.objs.size + 1 := Heap.size_push ..
        have hneI : l ≠ (s.heap.push ({ cls := .type "set", dict := none, data := .set #[] 0 (.fresh 0 0 (!w.params.followText "set-order")) } : Obj)).objs.size := by rw [Heap.size_push]; exact Nat.ne_of_lt (Nat.lt_succ_of_lt hlS)
        have hSf : s.heap.objs.size ∉ [(s.heap.push ({ cls := .type "set", dict := none, data := .set #[] 0 (.fresh 0 0 (!w.params.followText "set-order")) } : Obj)).objs.size, l] := by
          rw [hz1]; simp only [List.mem_cons, List.mem_singleton, List.not_mem_nil, or_false, not_or]
          exact ⟨Nat.ne_of_lt (Nat.lt_succ_self _), Nat.ne_of_gt hlS⟩
        have hval : ∀ (i : Nat) (v : Value), items[i]? = some v → ∃ k t, ns[i]? = some k ∧ v = .int k t := fun i v hv => by
          have hi : i < ns.length := by rw [← hisz]; exact (Array.getElem?_eq_some_iff.mp hv).1
          obtain ⟨t, e⟩ := PyProof.Rows.IntsAre.int_at hit i v (by rw [Array.getElem?_toList]; exact hv)
          refine ⟨ns[i], t, List.getElem?_eq_getElem hi, ?_⟩
          rw [e, List.getD_eq_getElem?_getD, List.getElem?_eq_getElem hi] <;> rfl
        refine set_fill ((Walks.list hh3 _ l hneI items).toS) s.heap.objs.size
          hSf ns B hisz hB hb hval (items.size - 0) 0 _ (by omega) (Nat.zero_le _)
          ⟨⟨_, Heap.get?_push_size _ rfl, rfl, rfl⟩, (hl1.push _)⟩ ?hS0 ?hR
        case hS0 =>
          have hget : ((s.heap.push ({ cls := .type "set", dict := none, data := .set #[] 0 (.fresh 0 0 (!w.params.followText "set-order")) } : Obj)).push { cls := .type "list_iterator", data := .fields #[.ref l, .int 0 0] }).get? s.heap.objs.size = some ({ cls := .type "set", dict := none, data := .set #[] 0 (.fresh 0 0 (!w.params.followText "set-order")) } : Obj) := Heap.get?_push_of_some _ hS
          exact ⟨0, setR_new_at hget⟩
        case hR =>
          intro s' c' hm hS'
          obtain ⟨h', g2, d', tk', os'⟩ := s'
          have eg : g2 = s.gens := hm.gens
          have ed : d' = s.drawn := hm.drawn
          have eo : os' = s.os := hm.os
          subst eg; subst ed; subst eo
          show wpAny _ _ _ _ _ _
          refine wpAny_pure ?_
          show wpAny _ _ (ret Value.none) _ _ _
          refine wpAny_pure ⟨rfl, h', tk', c', rfl, hS', fun b o e => ?_⟩
          have hb0 : b < s.heap.objs.size := Heap.lt_size e
          have hb1 : b ≠ s.heap.objs.size := Nat.ne_of_lt hb0
          have hb2 : b ≠ (s.heap.push ({ cls := .type "set", dict := none, data := .set #[] 0 (.fresh 0 0 (!w.params.followText "set-order")) } : Obj)).objs.size := by rw [Heap.size_push]; exact Nat.ne_of_lt (Nat.lt_succ_of_lt hb0)
          exact hm.heap b o (by simp only [List.mem_cons, List.mem_singleton, List.not_mem_nil, or_false, not_or]; exact ⟨hb1, hb2⟩) (Heap.get?_push_of_some _ (Heap.get?_push_of_some _ e))
      · cases r₂ with
        | error e => exact hr₂
        | ok fl₂ =>
          cases fl₂ with
          | ret r =>
            obtain ⟨rfl, h', tk, c', rfl, hS', hk'⟩ := hr₂
            repeat (any_goals (first | assumption | wp_step))
            exact h _ _ _ hS' hk'
          | _ => exact hr₂.elim
    | _ => exact hr.elim
end
def srtSet (d : D) (M : Mem) : R D := match lsq d M with
  | some xs => match intsOf xs with
    | some ns => if (undup ns).length < 64 then .ok (.own ((setL ns).map D.int)) M else .bad
    | none => .bad
  | none => .bad
def sSrtSet (f : SE) : SE := fun e M => (f e M).bind srtSet
section
variable {X : Cx} {W : WX} {pos : Pos}
def tSrtSet (K : PySem.W.Frag) (ta : TE) : TE := fun σ H Q => ta σ H fun x H1 => ∃ (l : Addr) (ns : List Int), x = V.ref l ∧ SqL K H1 l (ns.map V.int) ∧ (undup ns).length < 64 ∧
  ∀ p, H1 p = none → Q (.ref p) (upd H1 p (.lst ((setL ns).map V.int)))
theorem pe_srtSet {a : Expr} {ta : TE} {p p2 q pos : Pos} (hc : X.calm = true) (hg : Gl X "sorted") (hm : X.mg "sorted" = none) (hg2 : Gl X "set") (hm2 : X.mg "set" = none) (ha : PE X a ta)
    (na : starEach [a] X.env = (false, eval a X.env) :: starEach [] X.env := by rfl) : PE X (.Call (.Name "sorted" p) [.Call (.Name "set" p2) [a] [] q] [] pos) (tSrtSet X.K ta) := by
  refine ⟨fun pins s σ H Q I h => ?_⟩
  refine Call_ (ld_blt I hg hm PyProof.Rows.boot_sorted ?_)
  refine PyProof.Rows.callWith_builtin1 (PyProof.Rows.args_cons ?_ rfl) rfl rfl
  refine Call_ (ld_blt I hg2 hm2 PyProof.Rows.boot_set ?_)
  refine PyProof.Rows.callWith_type1 (PyProof.Rows.args_cons (thn (ha.run pins s σ H _ I h) fun v s1 ⟨x, H1, I1, r1, q1⟩ => PyProof.Rows.args_nil ?_) na) na rfl
  obtain ⟨l, ns, rfl, hq, h64, q1⟩ := q1
  cases r1
  obtain ⟨its, r, pl, hz⟩ := I1.list hq
  refine call_set_lst ns (undup ns) (I1.ok.hd hc) pl.isList (by simpa using r.ints) (fun k hk => (undup_mem ns k).mpr hk) (by unfold scanBound; omega) fun h' tk c R k => ?_
  refine PyProof.Rows.args_nil ?_
  have I2 : Inv X pins σ H1 { s1 with heap := h', toks := tk } := I1.kept k
  have hc := setR_le R (undup ns) fun j hj => (undup_mem ns j).mpr (of_decide_eq_true hj)
  have R' : SetR X.w ({ s1 with heap := h', toks := tk } : Shared).heap s1.heap.objs.size (fun j => decide (j ∈ ns)) c := R
  refine sorted_set R' (I2.ok.hd (by assumption)) (by omega) fun s' p out c2 ms k2 g o hp hg3 hi hs hmm hl => ?_
  have em : ms = setL ns := asc_uniq hs (setL_asc ns) fun x => by rw [hmm x, setL_mem, decide_eq_true_iff]
  subst em
  have kk : ∀ b o, s1.heap.get? b = some o → s'.heap.get? b = some o := fun b o e => k2 b o (k b o e)
  have hp1 : s1.heap.objs.size ≤ p := Nat.le_trans (Nat.le_of_lt R.lt) hp
  have hlen : ((setL ns).map V.int).length ≤ sizeLine := by rw [List.length_map, hl, sizeLine_eq]; omega
  have hn : H1 p = none := I2.hok.fresh hp
  have J : Inv X pins σ (upd H1 p (.lst ((setL ns).map V.int))) { s1 with heap := s'.heap, gens := s'.gens, drawn := s'.drawn, toks := s'.toks } :=
    I1.call (ch := []) (Un.laid kk hp1 hn) (I1.hok.laid kk hp1 ⟨hlen, out.toList, c2, vals_of_ints hi, hg3⟩) (by rw [g]; exact I1.bare) (fun _ z => nomatch z)
  have e : s' = { s1 with heap := s'.heap, gens := s'.gens, drawn := s'.drawn, toks := s'.toks } := by
    cases s'
    cases s1
    cases o
    rfl
  rw [e]
  exact ⟨.ref p, _, J, rfl, q1 p hn⟩
theorem a_srtSet {a : Expr} {f : SE} {p p2 q pos : Pos} (hc : X.calm = true) (hg : Gl X "sorted") (hm : X.mg "sorted" = none) (hg2 : Gl X "set") (hm2 : X.mg "set" = none) (ha : AE X W a f)
    (na : starEach [a] X.env = (false, eval a X.env) :: starEach [] X.env := by rfl) : AE X W (.Call (.Name "sorted" p) [.Call (.Name "set" p2) [a] [] q] [] pos) (sSrtSet f) :=
  PE.imp (pe_srtSet hc hg hm hg2 hm2 ha na) fun σ H Q q => tG.step (k := fun _ d M => srtSet d M) (fun _ => bkE) q fun S w e w' M' H' v d s sx x r p => by
    unfold srtSet at p
    cases hl : lsq d M' with
    | none => rw [hl] at p; exact p.elim
    | some xs =>
      simp only [hl] at p
      cases ht : intsOf xs with
      | none => simp only [ht] at p; exact p.elim
      | some ns =>
        simp only [ht] at p
        have ez := intsOf_eq ht
        subst ez
        obtain ⟨b, us, rfl, hq, q⟩ := r.toR.lsq s hl
        have eu := Reps.ints_inv q
        subst eu
        by_cases h64 : (undup ns).length < 64
        · rw [if_pos h64] at p
          exact ⟨b, ns, rfl, hq, h64, fun p' hp => fresh_own s (Reps.ints _) p hp⟩
        · rw [if_neg h64] at p; exact p.elim
end
section
variable (e : En) (M : Mem)
@[simp] theorem sSrtSet_eq (f : SE) : sSrtSet f e M = (f e M).bind srtSet := nrfl rfl
theorem srtSet_ints {ns : List Int} (h : (undup ns).length < 64) : srtSet (.own (ns.map D.int)) M = .ok (.own ((setL ns).map D.int)) M ∧ srtSet (.lst (ns.map D.int)) M = .ok (.own ((setL ns).map D.int)) M ∧ srtSet (.brw (ns.map D.int)) M = .ok (.own ((setL ns).map D.int)) M := by
  refine ⟨?_, ?_, ?_⟩ <;> (unfold srtSet; simp only [lsq, trk, intsOf_map, if_pos h])
end
theorem undup_le (ns : List Int) (n : Nat) (h : ∀ x ∈ ns, 0 ≤ x ∧ x < n) : (undup ns).length ≤ n := by
  have := nodup_le (undup_nodup ns) (B := (List.range n).map fun (x : Nat) => (x : Int)) fun x hx => by
    have := h x ((undup_mem ns x).mp hx)
    exact List.mem_map.mpr ⟨x.toNat, List.mem_range.mpr (by omega), by omega⟩
  simpa using this
end L3
namespace L3
open PySem PySem.Spec PyProof.Rows L2
/-! ## xs += [..] -/
def ext2 (i : Nat) (e : En) (d : D) (M : Mem) : RS := match lstAt e i M, d with
  | some ds, .own zs => if ds.length + zs.length ≤ sizeLine then putAt e i (ds ++ zs) M else .bad
  | _, _ => .bad
def ext1 (i : Nat) (f : SE) (e : En) (M : Mem) (o : Option (List D)) : RS := match o with
  | some _ => (f e M).bindS e (ext2 i e)
  | none => .bad
def sExt (i : Nat) (f : SE) : SS := fun e M => ext1 i f e M (lstAt e i M)
section
variable {X : Cx} {W : WX} {pos : Pos}
theorem s_ext {i : Nat} {x : Str} {e : Expr} {f : SE} {pos' : Pos} (hN : X.N.Nodup) (hi : X.N[i]? = some x) (hx : Loc X.env.scope x) (h : AE X W e f) (hf : X.fn x = true ∨ X.env.scope.names.lookup x = some .local := by first | exact .inl rfl | exact .inr rfl | assumption) :
    AS X W (.AugAssign (.Name x pos') .Add e pos) (sExt i f) := PS.imp (ps_aug (ti := rExt2) hN hi hx h (fun pins s σ H x y v u Q I rx ry q => iop_ext pins s σ H x y v u Q I rx ry q) hf) fun E σ H q => by
  obtain ⟨S, w, e, M, hs, sr, lv, p⟩ := q
  unfold sExt at p
  cases hl : lstAt e i M with
  | none => rw [hl] at p; exact p.elim
  | some ds0 =>
    rw [hl] at p
    have p : PstS X.K W S w H E ((f e M).bindS e (ext2 i e)) := p
    obtain ⟨a, us, hσ, hH, q0, _⟩ := SR.lstAt (W := W) sr hs hl
    refine ⟨.ref a, hσ, S, w, e, M, hs, sr.toSX, p.expr sr fun d M' w' H' v x s sr' r p' => ?_⟩
    unfold ext2 at p'
    cases hl' : lstAt e i M' with
    | none => rw [hl'] at p'; exact p'.elim
    | some ds =>
      obtain ⟨a', us', hσ', hH', q', k⟩ := SR.lstAt (W := W) sr' s hl'
      rw [hσ] at hσ'
      cases hσ'
      rw [hl'] at p'
      cases d with
      | own zs =>
        have p' : PstS X.K W S w H E (if ds.length + zs.length ≤ sizeLine then putAt e i (ds ++ zs) M' else .bad) := p'
        by_cases hz : ds.length + zs.length ≤ sizeLine
        · rw [if_pos hz] at p'
          have r : RepO X.K S H w' H' v (.own zs) := r
          rcases r with r | ⟨ys, e1, r⟩ | ⟨ys, e1, _⟩
          · exact (Rep.not_own r).elim
          · cases e1
            obtain ⟨b, vs, rfl, _, _, _, hB, qB⟩ := r
            have es : σ.set i (some (.ref a)) = σ := by
              refine List.ext_getElem? fun j => ?_
              rw [List.getElem?_set]
              split
              · rename_i e
                subst e
                split
                · exact hσ.symm
                · rename_i hlt
                  rw [List.getElem?_eq_none (by omega)]
              · rfl
            refine ⟨a, b, us', vs, rfl, rfl, hH', hB, by rw [q'.length, qB.length]; exact hz, ?_⟩
            show E.nx (σ.set i (some (.ref a))) _
            rw [es]
            exact k _ _ E (q'.append qB) (p'.shift x.of)
          · cases e1
        · rw [if_neg hz] at p'; exact p'.elim
      | _ => exact p'.elim
end
section
variable (e : En) (M : Mem)
@[simp] theorem sExt_eq (i f) : sExt i f e M = ext1 i f e M (lstAt e i M) := nrfl rfl
@[simp] theorem ext1_some (i f ds) : ext1 i f e M (some ds) = (f e M).bindS e (ext2 i e) := nrfl rfl
def ext3 (i : Nat) (e : En) (zs : List D) (M : Mem) (o : Option (List D)) : RS := match o with
  | some ds => if ds.length + zs.length ≤ sizeLine then putAt e i (ds ++ zs) M else .bad
  | none => .bad
@[simp] theorem ext2_own (i zs) : ext2 i e (.own zs) M = ext3 i e zs M (lstAt e i M) := by
  unfold ext2 ext3
  cases lstAt e i M <;> rfl
@[simp] theorem ext3_some (i zs ds) : ext3 i e zs M (some ds) = if ds.length + zs.length ≤ sizeLine then putAt e i (ds ++ zs) M else .bad := nrfl rfl
end
end L3
namespace L3
open PySem PySem.Spec PyProof.Rows L2
/-! ## a call without arguments -/
def sCall0 (g : Fn) : SE := fun _ M => okX (g [] M)
section
variable {X : Cx} {W : WX} {pos : Pos}
theorem a_call0 {T : List Addr} {k : Nat} {f : Addr} {fd : FuncData} {ps : List Str} {g : Fn} {x : Str} {p : Pos} (F : FnOk X.prog X.w X.K X.mg X.base (L2.CX X.prog X.w) k f fd ps (spS T X.K 0 g)) (hT : TOk T X.H_0) (hr : Room k X.A) (hg : Gl X x) (hm : X.mg x = some (.ref f)) (hk : PySem.W.keepIn X.K (.ref f) = true) (hb : Binds X.K fd ps [])
    (hdb : (x == ("__debug__" : Str)) = false := by decide) : AE X W (.Call (.Name x p) [] [] pos) (sCall0 g) :=
  ⟨fun pins s σ H Q I q => (pe_call0 (E := fun _ _ _ => False) F hr hg hm hk hb .nil (fun _ _ _ _ _ _ _ h => (cx_no h).elim) hdb).run pins s σ H Q I (by
    obtain ⟨S, w, en, M, hs, sx, p⟩ := q
    have p : Pst X.K W w H σ (rlE X.K S) Q (okX (g [] M)) := p
    exact ⟨rfl, hT.at I, w, [], M, hs, .nil, (Pst.okX p).imp fun a M2 w2 H2 v y s2 _ q2 k2 => k2 v (.inl q2)⟩)⟩
end
section
variable (e : En) (M : Mem)
@[simp] theorem sCall0_eq (g : Fn) : sCall0 g e M = okX (g [] M) := nrfl rfl
end
end L3
namespace L3
open PySem PySem.Spec PyProof.Rows L2 RT
/-! ## reversed(list or tuple) -/
theorem rev_get {α : Type} {xs : List α} {i : Nat} {x : α} (h : xs.reverse[i]? = some x) : i < xs.length ∧ xs[xs.length - 1 - i]? = some x := by
  have hi : i < xs.length := by
    have := (List.getElem?_eq_some_iff.mp h).1
    simpa using this
  rw [List.getElem?_reverse hi] at h
  exact ⟨hi, h⟩
theorem itv_ok {K : PySem.W.Frag} {w0 : Wd} {a : Addr} {us : List V} {ds : List D} (h : SqL K w0.B a us) (q : Reps K w0 us ds) : ItOk K w0 (Itv K a us.length) ds.reverse := fun w M H hb hr hs => by
  have h1 : SqL K H a us := hs.same.seq (hb.seq h)
  have q1 := q.mono' hb hr
  refine ⟨fun i d e => ?_, fun i hi => by show us.length ≤ i; rw [q.length]; simpa using hi⟩
  obtain ⟨hi, e⟩ := rev_get e
  obtain ⟨v, e1, r⟩ := q1.get e
  rw [← q.length] at e1
  refine ⟨⟨by rw [q.length]; exact hi, us, v, h1, e1⟩, fun x H' ⟨e2, k⟩ => ?_⟩
  subst e2
  have := k us h1
  rw [e1] at this
  cases this
  exact ⟨w, hs, .refl _ _, r⟩
theorem itvT_ok {K : PySem.W.Frag} {w0 : Wd} {a : Addr} {us : List V} {ds : List D} (h : SqT K w0.B a us) (q : Reps K w0 us ds) : ItOk K w0 (ItvT K a us.length) ds.reverse := fun w M H hb hr hs => by
  have h1 : SqT K H a us := seqT hs.same (seqT hb h)
  have q1 := q.mono' hb hr
  refine ⟨fun i d e => ?_, fun i hi => by show us.length ≤ i; rw [q.length]; simpa using hi⟩
  obtain ⟨hi, e⟩ := rev_get e
  obtain ⟨v, e1, r⟩ := q1.get e
  rw [← q.length] at e1
  refine ⟨⟨by rw [q.length]; exact hi, us, v, h1, e1⟩, fun x H' ⟨e2, k⟩ => ?_⟩
  subst e2
  have := k us h1
  rw [e1] at this
  cases this
  exact ⟨w, hs, .refl _ _, r⟩
def rev1 (d : D) (M : Mem) : R (List D) := match d with
  | .tup xs => .ok xs.reverse M
  | .lst xs => .ok xs.reverse M
  | .rol xs => .ok xs.reverse M
  | _ => .bad
def sRevW (f : SE) : SA := fun e M => (f e M).bind rev1
section
variable {X : Cx} {W : WX} {tg : Expr}
theorem i_rev {l : Expr} {f : SE} {p pos : Pos} (hg : Gl X "reversed") (hm : X.mg "reversed" = none) (h : AF X W l f) (hs : starEach [l] X.env = (false, eval l X.env) :: starEach [] X.env := by rfl) : AI X W tg (.Call (.Name "reversed" p) [l] [] pos) (sRevW f) :=
  PI.imp (pi_revA hg hm h hs) fun σ H R q => by
    unfold iRevA
    refine tG.step (k := fun _ d M => rev1 d M) (fun _ => bkI) q fun S w e w' M' H' v d s sx x r p => ?_
    cases d with
    | tup ds =>
      cases r with
      | tup hq q => exact ⟨_, _, rfl, .inr ⟨seqT s.same hq.sq, p w' H' _ (.refl _ _) s (itvT_ok hq.sq q)⟩⟩
    | lst ds =>
      cases r with
      | lst hq q => exact ⟨_, _, rfl, .inl ⟨.of (s.same _ _ hq), p w' H' _ (.refl _ _) s (itv_ok (.of hq) q)⟩⟩
    | rol ds =>
      cases r with
      | rol hq q => exact ⟨_, _, rfl, .inl ⟨s.same.seq hq, p w' H' _ (.refl _ _) s (itv_ok hq q)⟩⟩
    | _ => exact p.elim
end
section
variable (e : En) (M : Mem)
@[simp] theorem sRevW_eq (f : SE) : sRevW f e M = (f e M).bind rev1 := nrfl rfl
@[simp] theorem rev1_tup (xs) : rev1 (.tup xs) M = .ok xs.reverse M := nrfl rfl
@[simp] theorem rev1_lst (xs) : rev1 (.lst xs) M = .ok xs.reverse M := nrfl rfl
@[simp] theorem rev1_rol (xs) : rev1 (.rol xs) M = .ok xs.reverse M := nrfl rfl
end
end L3
namespace L3
open PySem PySem.Spec PyProof.Rows L2
/-! ## lists of lists that change: the inner ones are cells -/
def cl1 (d : D) (M : Mem) : R D := match d with
  | .own ds => .ok (.cell M.length) (M ++ [.lst ds])
  | _ => .bad
def cl (f : SE) : SE := fun e M => (f e M).bind cl1
def apE2 (e : En) (n : Nat) (d : D) (M : Mem) : RS := match cellL M n with
  | some ds => if ds.length < sizeLine then .nx e (M.set n (.lst (ds ++ [d]))) else .bad
  | none => .bad
def apE1 (f : SE) (e : En) (o : D) (M : Mem) : RS := match o with
  | .cell n => match cellL M n with
    | some _ => (f e M).bindS e (apE2 e n)
    | none => .bad
  | _ => .bad
def sAppE (fo f : SE) : SS := fun e M => (fo e M).bindS e (apE1 f e)
def killL : List D → Mem → Option (List D × Mem)
  | [], M => some ([], M)
  | .cell n :: r, M => match cellL M n with
    | some ds => (killL r (M.set n .dead)).map fun p => (.lst ds :: p.1, p.2)
    | none => none
  | _ :: _, _ => none
def retK (o : Option D) (M : Mem) : RS := match o with
  | some (.own ds) => match killL ds M with
    | some p => .rt (.lst p.1) p.2
    | none => .bad
  | _ => .bad
def sRetK (i : Nat) : SS := fun e M => retK (eget e i) M
section
variable {X : Cx} {W : WX} {pos : Pos}
theorem a_cl {e : Expr} {f : SE} (h : AE X W e f) : AF X W e (cl f) := PE.imp h fun σ H Q h => by
  obtain ⟨S, w, e, M, hs, sx, p⟩ := h
  refine ⟨S, w, e, M, hs, sx, ?_⟩
  unfold cl at p
  cases hf : f e M with
  | bad => rw [hf] at p; exact p
  | exc C fs M' => rw [hf] at p; exact p
  | ok d M' =>
    rw [hf] at p
    intro w' H' v x s q
    have p : Pst X.K W w H σ (rlF X.K) Q (cl1 d M') := p
    cases d with
    | own ds =>
      have q : RepO X.K S H w' H' v (.own ds) := q
      have p : Pst X.K W w H σ (rlF X.K) Q (.ok (.cell M'.length) (M' ++ [.lst ds])) := p
      rcases q with q | ⟨ds', ed, l⟩ | ⟨ds', ed, _⟩
      · exact (Rep.not_own q).elim
      · cases ed
        obtain ⟨a, us, rfl, hn, hb, hr, hH, q2⟩ := l
        obtain ⟨s2, x2⟩ := s.adopt hb hr hH q2 x hn
        refine p _ _ (.ref a) x2 s2 (.cell ?_)
        show (w'.ρ ++ [a])[M'.length]? = some a
        rw [← s.len]; simp
      · cases ed
    | _ => exact p.elim
theorem s_appE {o e : Expr} {fo f : SE} {apos cpos : Pos} (ho : AE X W o fo) (h : AF X W e f)
    (hbase : attributeBase o "append" X.env (eval o X.env) = eval o X.env := by rfl)
    (hfew : ((backTo cpos (starEach (e :: []) X.env)).all (fun x => !x.1) && (backToKw cpos (keywordEach [] X.env)).all (fun x => x.1.isSome)
      && decide ((e :: []).length + ([] : List Keyword).length + (if ([] : List Keyword).isEmpty then 0 else 1) < 30)) = true := by rfl)
    (hline : (apos.endLine == cpos.line) = true := by rfl) (hs : starEach (e :: []) X.env = (false, eval e X.env) :: starEach [] X.env := by rfl) (hsw : swapsWith (.Call (.Attribute o "append" apos) [e] [] cpos) none pos.line X.env = pure false := by rfl) :
    AS X W (.Expr (.Call (.Attribute o "append" apos) [e] [] cpos) pos) (sAppE fo f) :=
  PS.imp (ps_expr (pe_bm PySem.F.plainAttrs_list PySem.F.slot_list_append PySem.F.type_list_append (fun pins s σ H x xs v us Q I rx rs q => mt_append pins s σ H x xs v us Q I rx rs q) ho (pa_cons h pa_nil hs) hbase hfew hline hs rfl) hsw) fun E σ H q =>
    tS.step (k := fun e d M => apE1 f e d M) q fun S w e w' M' H' v d s sr lv x r p _ _ => by
      unfold apE1 at p
      cases d with
      | cell n =>
        have r : RepO X.K S H w' H' v (.cell n) := r
        simp only at p
        cases hc : cellL M' n with
        | none => simp only [hc] at p; exact p.elim
        | some ds0 =>
          simp only [hc] at p
          rcases r with r | ⟨_, ed, _⟩ | ⟨_, ed, _⟩
          · cases r with
            | @cell _ a hn =>
              obtain ⟨hb0, us, hH, q0⟩ := s.cells n a _ hn (cellL_some hc)
              refine ⟨.inl ⟨rfl, us, .of hH⟩, S, w', e, M', s, sr.toSX, p.expr sr fun d M2 w2 H2 y x2 s2 sr2 r2 p2 => ?_⟩
              unfold apE2 at p2
              cases hc2 : cellL M2 n with
              | none => simp only [hc2] at p2; exact p2.elim
              | some ds =>
                simp only [hc2] at p2
                have hn2 : w2.ρ[n]? = some a := x2.r n a hn
                obtain ⟨hb2, us2, hH2, q2⟩ := s2.cells n a _ hn2 (cellL_some hc2)
                by_cases hz : ds.length < sizeLine
                · rw [if_pos hz] at p2
                  have r2 : Rep X.K w2 y d := r2
                  obtain ⟨s3, x3⟩ := s2.write (o := .lst (us2 ++ [y])) (m := .lst (ds ++ [d])) hn2 hb2 ⟨hb2, _, upd_same, q2.append (.one r2)⟩
                  exact ⟨a, us2, y, rfl, rfl, hH2, by rw [q2.length]; exact hz, (p2.shift x2.of) _ _ σ x3.of s3 (sr2.mono x3)⟩
                · rw [if_neg hz] at p2; exact p2.elim
          · cases ed
          · cases ed
      | _ => exact p.elim
theorem kill_ok {K : PySem.W.Frag} {S : Addr → Prop} {H : Hp} : ∀ {ds : List D} {us : List V} {w : Wd} {M : Mem} {ds' : List D} {M' : Mem}, HS K w M H → Reps K w us ds → killL ds M = some (ds', M') →
    ∃ w', HS K w' M' H ∧ Ext S w H w' H ∧ Reps K w' us ds' ∧ ∀ a, w.B a = none → a ∉ w.ρ → w'.B a = none ∧ a ∉ w'.ρ
  | [], us, w, M, ds', M', hs, r, e => by
    cases e
    cases r
    exact ⟨w, hs, .refl _ _, .nil, fun a h1 h2 => ⟨h1, h2⟩⟩
  | d :: ds, us, w, M, ds', M', hs, r, e => by
    cases d with
    | cell n =>
      unfold killL at e
      cases hc : cellL M n with
      | none => rw [hc] at e; cases e
      | some xs =>
        rw [hc] at e
        cases hk : killL ds (M.set n .dead) with
        | none => simp only [hk] at e; cases e
        | some p =>
          simp only [hk, Option.map_some] at e
          cases e
          cases r with
          | cons r t =>
            cases r with
            | @cell _ a hn =>
              obtain ⟨us0, hH, q, s2, x⟩ := hs.freezeC (S := S) hn hc
              have t2 : Reps K ⟨upd w.B a (.lst us0), w.ρ⟩ _ ds := Reps.mono' (w := w) (fun b u e => x.b b u e) (fun _ _ z => z) t
              have q2 : Reps K ⟨upd w.B a (.lst us0), w.ρ⟩ us0 xs := Reps.mono' (w := w) (fun b u e => x.b b u e) (fun _ _ z => z) q
              have r2 : Rep K ⟨upd w.B a (.lst us0), w.ρ⟩ (.ref a) (.lst xs) := .lst (us := us0) upd_same q2
              obtain ⟨w', s3, x3, t3, hf⟩ := kill_ok (S := S) s2 t2 hk
              refine ⟨w', s3, x.trans x3, .cons (r2.mono' x3.b x3.r) t3, fun b h1 h2 => hf b ?_ h2⟩
              show upd w.B a _ b = none
              rw [upd_ne (fun z => h2 (by rw [z]; exact List.mem_of_getElem? hn))]
              exact h1
    | _ => cases e
theorem s_retK {i : Nat} {x : Str} {p : Pos} (hN : X.N[i]? = some x) (hv : Vis X.env.scope x) (hd : (x == ("__debug__" : Str)) = false := by decide) (hcd : (x == ("__classdict__" : Str)) = false := by decide) : AS X W (.Return (some (.Name x p)) pos) (sRetK i) :=
  PS.imp (ps_ret (pe_var hN hv hd hcd)) fun E σ H q => by
    obtain ⟨S, w, e, M, hs, sr, lv, pp⟩ := q
    have pp : PstS X.K W S w H E (retK (eget e i) M) := pp
    unfold retK at pp
    cases he : eget e i with
    | none => rw [he] at pp; exact pp.elim
    | some d =>
      rw [he] at pp
      cases d with
      | own ds =>
        simp only at pp
        cases hk : killL ds M with
        | none => simp only [hk] at pp; exact pp.elim
        | some q =>
          simp only [hk] at pp
          obtain ⟨v, hσ, r⟩ := sr.at_ i _ (eget_iff.mp he)
          rcases r with r | ⟨_, ed, l⟩
          · exact (Rep.not_own r).elim
          · cases ed
            obtain ⟨a, us, rfl, hS, hb, hr, hH, q2⟩ := l
            obtain ⟨w', s2, x2, t2, hf⟩ := kill_ok (S := S) hs q2 (ds' := q.1) (M' := q.2) hk
            obtain ⟨hb2, hr2⟩ := hf a hb hr
            obtain ⟨s3, x3⟩ := s2.freezeO (S := S) hb2 hr2 hH hS
            exact ⟨_, hσ, pp _ _ (.ref a) (x2.trans x3) s3 (.lst (us := us) upd_same (Reps.mono' (w := w') (fun b u e => x3.b b u e) (fun _ _ z => z) t2))⟩
      | _ => exact pp.elim
end
section
variable (e : En) (M : Mem)
@[simp] theorem cl_eq (f : SE) : cl f e M = (f e M).bind cl1 := nrfl rfl
@[simp] theorem cl1_own (ds) : cl1 (.own ds) M = .ok (.cell M.length) (M ++ [.lst ds]) := nrfl rfl
@[simp] theorem sAppE_eq (fo f : SE) : sAppE fo f e M = (fo e M).bindS e (apE1 f e) := nrfl rfl
theorem apE1_cell {f : SE} {n : Nat} {ds : List D} (h : cellL M n = some ds) : apE1 f e (.cell n) M = (f e M).bindS e (apE2 e n) := by unfold apE1; simp only [h]
theorem apE2_cell {n : Nat} {d : D} {ds : List D} (h : cellL M n = some ds) (hz : ds.length < sizeLine) : apE2 e n d M = .nx e (M.set n (.lst (ds ++ [d]))) := by unfold apE2; simp only [h, if_pos hz]
@[simp] theorem sRetK_eq (i) : sRetK i e M = retK (eget e i) M := nrfl rfl
theorem retK_own {ds ds' : List D} {M' : Mem} (h : killL ds M = some (ds', M')) : retK (some (.own ds)) M = .rt (.lst ds') M' := by unfold retK; simp only [h]
end
end L3
namespace L3
open PySem PySem.Spec PyProof.Rows L2
/-! ## [.. for .. in .. for .. in ..] -/
def lc2L (g : SG) (t : SB) (it1 : SA) (g1 : SG) (t1 : SB) (f : SE) (vs1 : List Nat) : List D → List D → En → Mem → R (List D)
  | [], acc, _, M => .ok acc M
  | d :: r, acc, e, M => match g d e with
    | none => .bad
    | some e1 => match t e1 M with
      | .ok true M1 => match it1 e1 M1 with
        | .ok ds1 M2 => match lcL g1 t1 f ds1 acc (wipeE e1 vs1) M2 with
          | .ok acc2 M3 => lc2L g t it1 g1 t1 f vs1 r acc2 e M3
          | _ => .bad
        | _ => .bad
      | .ok false M1 => lc2L g t it1 g1 t1 f vs1 r acc e M1
      | _ => .bad
def sLc2 (it : SA) (g : SG) (t : SB) (it1 : SA) (g1 : SG) (t1 : SB) (f : SE) (vs vs1 : List Nat) : SE := fun e M => (it e M).bind fun ds M => lcE (lc2L g t it1 g1 t1 f vs1 ds [] (wipeE e vs) M)
theorem Sets.mono' {K : PySem.W.Frag} {w w' : Wd} (hb : Same w.B w'.B) (hr : ∀ (n : Nat) (a : Addr), w.ρ[n]? = some a → w'.ρ[n]? = some a) {is : List Nat} {σ σ1 : L2.St} {e e1 : En} (h : Sets K w is σ e σ1 e1) : Sets K w' is σ e σ1 e1 := by
  induction h with
  | nil => exact .nil
  | cons r _ ih => exact .cons (r.mono' hb hr) ih
section
variable {X : Cx} {W : WX} {pos : Pos}
theorem tLc2_of {it it1 : SA} {g g1 : SG} {t t1 : SB} {f : SE} {is is1 vs vs1 : List Nat} {tt tt1 : TG} {σ : L2.St} {H : Hp} {Q : VK} {K : PySem.W.Frag} (kg : KG K tt is g) (hv : ∀ i ∈ is, i ∈ vs) (kg1 : KG K tt1 is1 g1) (hv1 : ∀ i ∈ is1, i ∈ vs1)
    (q : tE K W (sLc2 it g t it1 g1 t1 f vs vs1) σ H Q) : tLc2 (tG K W (fun _ => rlI K) it) tt (tB K W0 t) (tG K W0 (fun _ => rlI K) it1) tt1 (tB K W0 t1) (tF K W0 f) vs vs1 σ H Q :=
  tG.step (k := fun e ds M => lcE (lc2L g t it1 g1 t1 f vs1 ds [] (wipeE e vs) M)) (fun _ => bkE) q fun S w0 e w1 M1 H1 J ds s1 sx1 x1 r p A hA => by
    have r : ItOk K w1 J ds := r
    cases hl : lc2L g t it1 g1 t1 f vs1 ds [] (wipeE e vs) M1 with
    | bad => rw [hl] at p; exact p.elim
    | exc C fs M2 => rw [hl] at p; exact p.elim
    | ok accF MF =>
      rw [hl] at p
      have hB : w1.B A = none := s1.same.free hA
      have hR : A ∉ w1.ρ := s1.fresh hA
      refine ⟨fun i m H => m = ds.length - i ∧ i ≤ ds.length ∧ ∃ (w : Wd) (M : Mem) (acc : List D) (us : List V), HS K w M H ∧ Ext All w1 H1 w H ∧ H A = some (.lst us) ∧ Reps K w us acc ∧ w.B A = none ∧ A ∉ w.ρ ∧ lc2L g t it1 g1 t1 f vs1 (ds.drop i) acc (wipeE e vs) M = .ok accF MF, ⟨ds.length, ?_⟩, ?_⟩
      · obtain ⟨s2, y⟩ := s1.loose (o := .lst []) hA
        exact ⟨by simp, Nat.zero_le _, w1, M1, [], [], s2, y, upd_same, .nil, hB, hR, hl⟩
      · rintro i m H2 ⟨rfl, hi, w2, M2, acc, us, s2, x2, hH2, q2, b2, r2, e2⟩
        obtain ⟨ri, rs⟩ := r w2 M2 H2 x2.b x2.r s2
        by_cases hlt : i < ds.length
        · refine .inr ⟨(ri i ds[i] (by simp [hlt])).1, fun H3 => ∃ (w : Wd) (M : Mem) (acc : List D) (us : List V), HS K w M H3 ∧ Ext All w1 H1 w H3 ∧ H3 A = some (.lst us) ∧ Reps K w us acc ∧ w.B A = none ∧ A ∉ w.ρ ∧ lc2L g t it1 g1 t1 f vs1 (ds.drop (i + 1)) acc (wipeE e vs) M = .ok accF MF, fun H3 h => ⟨ds.length - (i + 1), by omega, rfl, hlt, h⟩, fun y H3 hy => ?_⟩
          obtain ⟨w3, s3, x3, rd⟩ := (ri i ds[i] (by simp [hlt])).2 y H3 hy
          rw [drop_cons hlt] at e2
          unfold lc2L at e2
          obtain ⟨b3, r3, hH3⟩ := x3.keepB b2 r2 hH2
          have q3 := q2.mono x3
          have x13 := x2.trans x3
          have sx3 : SX K S w3 H3 (wipe σ vs) (wipeE e vs) := (sx1.mono x13).wipe vs
          cases hgd : g ds[i] (wipeE e vs) with
          | none => simp only [hgd] at e2; cases e2
          | some e3 =>
            simp only [hgd] at e2
            refine kg w3 M2 H3 (wipe σ vs) (wipeE e vs) y ds[i] e3 _ s3 rd hgd fun σ4 z4 => ⟨by rw [z4.wipe hv, wipe_wipe], S, w3, e3, M2, s3, z4.sx sx3, ?_⟩
            cases ht : t e3 M2 with
            | bad => simp only [ht] at e2; cases e2
            | exc C fs M4 => simp only [ht] at e2; cases e2
            | ok k M4 =>
              simp only [ht] at e2
              intro w4 H4 k' x4 s4 rk
              have rk : k' = k := rk
              subst rk
              obtain ⟨b4, r4, hH4⟩ := x4.keepB b3 r3 hH3
              have x14 := x13.trans x4
              have sx4 := (z4.sx sx3).mono x4
              cases k' with
              | false =>
                simp only [Bool.false_eq_true, if_false] at e2 ⊢
                exact ⟨w4, M4, acc, us, s4, x14, hH4, q3.mono x4, b4, r4, e2⟩
              | true =>
                simp only [if_true] at e2 ⊢
                refine ⟨S, w4, e3, M4, s4, sx4, ?_⟩
                cases hit : it1 e3 M4 with
                | bad => simp only [hit] at e2; cases e2
                | exc C fs M5 => simp only [hit] at e2; cases e2
                | ok ds1 M5 =>
                  simp only [hit] at e2
                  intro w5 H5 J1 x5 s5 rJ
                  have rJ : ItOk K w5 J1 ds1 := rJ
                  obtain ⟨b5, r5, hH5⟩ := x5.keepB b4 r4 hH4
                  have x15 := x14.trans x5
                  have q5 := (q3.mono x4).mono x5
                  have sx5 := sx4.mono x5
                  cases hl1 : lcL g1 t1 f ds1 acc (wipeE e3 vs1) M5 with
                  | bad => simp only [hl1] at e2; cases e2
                  | exc C fs M6 => simp only [hl1] at e2; cases e2
                  | ok acc2 M6 =>
                    simp only [hl1] at e2
                    refine ⟨fun j k H => k = ds1.length - j ∧ j ≤ ds1.length ∧ ∃ (w : Wd) (M : Mem) (acc : List D) (us : List V), HS K w M H ∧ (Ext All w1 H1 w H ∧ Same w5.B w.B ∧ ∀ (n : Nat) (a : Addr), w5.ρ[n]? = some a → w.ρ[n]? = some a) ∧ H A = some (.lst us) ∧ Reps K w us acc ∧ w.B A = none ∧ A ∉ w.ρ ∧ lcL g1 t1 f (ds1.drop j) acc (wipeE e3 vs1) M = .ok acc2 M6, ⟨ds1.length, by simp, Nat.zero_le _, w5, M5, acc, us, s5, ⟨x15, fun _ _ z => z, fun _ _ z => z⟩, hH5, q5, b5, r5, hl1⟩, ?_⟩
                    rintro j k Ha ⟨rfl, hj, wa, Ma, acca, usa, sa, ⟨xa, xab, xar⟩, hHa, qa, ba, ra, ea⟩
                    obtain ⟨rj, rjs⟩ := rJ wa Ma Ha xab xar sa
                    by_cases hjt : j < ds1.length
                    · refine .inr ⟨(rj j ds1[j] (by simp [hjt])).1, fun H3 => ∃ (w : Wd) (M : Mem) (acc : List D) (us : List V), HS K w M H3 ∧ (Ext All w1 H1 w H3 ∧ Same w5.B w.B ∧ ∀ (n : Nat) (a : Addr), w5.ρ[n]? = some a → w.ρ[n]? = some a) ∧ H3 A = some (.lst us) ∧ Reps K w us acc ∧ w.B A = none ∧ A ∉ w.ρ ∧ lcL g1 t1 f (ds1.drop (j + 1)) acc (wipeE e3 vs1) M = .ok acc2 M6, fun H3 h => ⟨ds1.length - (j + 1), by omega, rfl, hjt, h⟩, fun yb Hb hyb => ?_⟩
                      obtain ⟨wb, sb, xb, rb⟩ := (rj j ds1[j] (by simp [hjt])).2 yb Hb hyb
                      rw [drop_cons hjt] at ea
                      unfold lcL at ea
                      obtain ⟨bb, rrb, hHb⟩ := xb.keepB ba ra hHa
                      have qb := qa.mono xb
                      have x5b := xa.trans xb
                      have sxb : SX K S wb Hb (wipe σ4 vs1) (wipeE e3 vs1) := ((z4.mono' (fun b u z => xb.b b u (xab b u (x5.b b u (x4.b b u z)))) (fun n a z => xb.r n a (xar n a (x5.r n a (x4.r n a z))))).sx ((sx1.mono x5b).wipe vs)).wipe vs1
                      cases hg1 : g1 ds1[j] (wipeE e3 vs1) with
                      | none => simp only [hg1] at ea; cases ea
                      | some e4 =>
                        simp only [hg1] at ea
                        refine kg1 wb Ma Hb (wipe σ4 vs1) (wipeE e3 vs1) yb ds1[j] e4 _ sb rb hg1 fun σ6 z6 => ⟨by rw [z6.wipe hv1, wipe_wipe], S, wb, e4, Ma, sb, z6.sx sxb, ?_⟩
                        cases ht1 : t1 e4 Ma with
                        | bad => simp only [ht1] at ea; cases ea
                        | exc C fs M4 => simp only [ht1] at ea; cases ea
                        | ok kk Mc =>
                          simp only [ht1] at ea
                          intro wc Hc kk' xc sc rkk
                          have rkk : kk' = kk := rkk
                          subst rkk
                          obtain ⟨bc, rc, hHc⟩ := xc.keepB bb rrb hHb
                          have x5c := x5b.trans xc
                          cases kk' with
                          | false =>
                            simp only [Bool.false_eq_true, if_false] at ea ⊢
                            exact ⟨wc, Mc, acca, usa, sc, ⟨x5c, fun b u z => xc.b b u (xb.b b u (xab b u z)), fun n a z => xc.r n a (xb.r n a (xar n a z))⟩, hHc, qb.mono xc, bc, rc, ea⟩
                          | true =>
                            simp only [if_true] at ea ⊢
                            refine ⟨S, wc, e4, Mc, sc, (z6.sx sxb).mono xc, ?_⟩
                            cases hf : f e4 Mc with
                            | bad => simp only [hf] at ea; cases ea
                            | exc C fs M5 => simp only [hf] at ea; cases ea
                            | ok d Md =>
                              simp only [hf] at ea
                              by_cases hz : acca.length < sizeLine
                              · simp only [if_pos hz] at ea
                                intro wd Hd v xd sd rv
                                have rv : Rep K wd v d := rv
                                obtain ⟨bd, rd', hHd⟩ := xd.keepB bc rc hHc
                                have qd := (qb.mono xc).mono xd
                                have hB5 : H1 A = none := hA
                                refine ⟨usa, hHd, by rw [qa.length]; exact hz, wd, Md, acca ++ [d], usa ++ [v], ?_, ?_, upd_same, qd.append (.one rv), bd, rd', ea⟩
                                · exact (sd.writeO (S := fun b => b ≠ A) bd rd' (fun z => z rfl)).1
                                · exact ⟨Ext.but (x5c.trans xd) hA (sd.writeO (S := fun b => b ≠ A) bd rd' (fun z => z rfl)).2, fun b u z => xd.b b u (xc.b b u (xb.b b u (xab b u z))), fun n a z => xd.r n a (xc.r n a (xb.r n a (xar n a z)))⟩
                              · simp only [if_neg hz] at ea; cases ea
                    · have e1 : ds1.drop j = [] := List.drop_of_length_le (by omega)
                      rw [e1] at ea
                      unfold lcL at ea
                      injection ea with ea1 ea2
                      subst ea1 ea2
                      refine .inl ⟨rjs j (by omega), ?_⟩
                      exact ⟨wa, _, _, usa, sa, xa, hHa, qa, ba, ra, e2⟩
        · have e1 : ds.drop i = [] := List.drop_of_length_le (by omega)
          rw [e1] at e2
          unfold lc2L at e2
          cases e2
          refine .inl ⟨rs i (by omega), ?_⟩
          exact p w2 H2 (.ref A) x2 s2 (.inr (.inl ⟨_, rfl, A, us, rfl, hA, b2, r2, hH2, q2⟩))
theorem a_lc2 {elt tg iter tg1 iter1 : Expr} {ifs ifs1 : List Expr} {scope : Scope} {own : List (Str × Nat)} {it it1 : SA} {g g1 : SG} {t t1 : SB} {f : SE} {is is1 vs1 : List Nat} (hc : X.calm = true) (hN : X.N.Nodup) (hi : AI X W tg iter it) (ok : BlkOk X.N X.env.scope scope own) {tt tt1 : TG}
    (hg : BlkT X [] scope fun B => PG B tg tt) (kg : KG X.K tt is g) (hv : ∀ i ∈ is, i ∈ own.map (·.2)) (ht : BlkT X [] scope fun B => AT B W0 ifs t)
    (hi1 : BlkT X [] scope fun B => AI B W0 tg1 iter1 it1) (hg1 : BlkT X [] scope fun B => PG B tg1 tt1) (kg1 : KG X.K tt1 is1 g1) (hv1 : ∀ i ∈ is1, i ∈ vs1) (hv2 : ∀ i ∈ vs1, i ∈ own.map (·.2)) (ht1 : BlkT X [] scope fun B => AT B W0 ifs1 t1)
    (he : BlkT X [] scope fun B => AF B W0 elt f) (hs : ∀ x, foldedSetIterable iter X.env x = pure x := by intro _; rfl) (hs1 : ∀ env x, foldedSetIterable iter1 env x = pure x := by intro _ _; rfl) :
    AE X W (.ListComp elt [⟨tg, iter, ifs, 0⟩, ⟨tg1, iter1, ifs1, 0⟩] scope pos) (sLc2 it g t it1 g1 t1 f (own.map (·.2)) vs1) :=
  PE.imp (pe_lc2 hc hN hi ok hv2 (fun s H C cl fp => hg s H C cl fp (fun _ z => nomatch z)) (fun s H C cl fp => ht s H C cl fp (fun _ z => nomatch z)) (fun s H C cl fp => hi1 s H C cl fp (fun _ z => nomatch z)) (fun s H C cl fp => hg1 s H C cl fp (fun _ z => nomatch z)) (fun s H C cl fp => ht1 s H C cl fp (fun _ z => nomatch z)) (fun s H C cl fp => he s H C cl fp (fun _ z => nomatch z)) hs hs1) fun σ H Q q => tLc2_of kg hv kg1 hv1 q
end
section
variable (e : En) (M : Mem)
def kLc2 (g : SG) (t : SB) (it1 : SA) (g1 : SG) (t1 : SB) (f : SE) (vs vs1 : List Nat) (e : En) (ds : List D) (M : Mem) : R D := lcE (lc2L g t it1 g1 t1 f vs1 ds [] (wipeE e vs) M)
@[simp] theorem sLc2_eq (it g t it1 g1 t1 f vs vs1) : sLc2 it g t it1 g1 t1 f vs vs1 e M = (it e M).bind (kLc2 g t it1 g1 t1 f vs vs1 e) := nrfl rfl
end
end L3
namespace L3
open PySem PySem.Spec PyProof.Rows L2
/-! ## a generator expression whose items are known, drawn while one fresh object changes -/
def gvP (S : Addr) (Xg : Cx) (Fin : Hp → Prop) : Nat → Shared → Shared → Prop := fun n s₀ s => n = 0 ∧ (∃ σ H pins, Inv Xg pins σ H s ∧ Fin H) ∧ ∀ o, s₀.heap.get? S = some o → s.heap.get? S = some o
def gvY (Xg : Cx) (S : Addr) (Y0 : List V) : Protocol := fun k s₀ v s kap => ∃ (u : V) (σ : L2.St) (H : Hp) (pins : List (Addr × Obj)), RelV u v ∧ k < Y0.length ∧ Y0[Y0.length - 1 - k]? = some u ∧ Inv Xg pins σ H s ∧ (∀ o, s₀.heap.get? S = some o → s.heap.get? S = some o) ∧
  ∀ s'', (∀ b o, b ≠ S → s.heap.get? b = some o → s''.heap.get? b = some o) → (∃ o, s''.heap.get? S = some o ∧ ∀ c, o.data ≠ .cell c) → s''.os = s.os → AllBare s''.gens → kap (.send .none) s''
/-- what a turn asks -/
def gvTurn (J : It) (g : TG) (tt : TT) (te : TE) (σ0 : L2.St) (vs : List Nat) (Y0 : List V) (Fin : Hp → Prop) (W : Nat → Nat → Nat → Hp → Prop) : Prop := ∀ i m n H, W i m n H →
  (J.stop i H ∧ n = 0 ∧ Fin H) ∨ (J.go i H ∧ ∃ Nx : Nat → Hp → Prop, (∀ n' H', Nx n' H' → ∃ m', m' < m ∧ W (i + 1) m' n' H') ∧ ∀ x H', J.yld i H x H' → g x (wipe σ0 vs) H' fun σ2 H2 => wipe σ2 vs = wipe σ0 vs ∧ tt σ2 H2 fun b H3 =>
    if b = true then te σ2 H3 fun y H4 => ∃ k, n = k + 1 ∧ k < Y0.length ∧ Y0[Y0.length - 1 - k]? = some y ∧ Nx k H4 else Nx n H3)
/-- the fresh object has changed -/
theorem Inv.changed {X : Cx} {pl : List (Addr × Obj)} {σ : L2.St} {H : Hp} {s s'' : Shared} {S : Addr} {o o' : Obj} (I : Inv X ([(S, o)] ++ pl) σ H s) (hpl : ∀ p ∈ X.pn ++ pl, p.1 ≠ S) (hS : X.s_0.heap.objs.size ≤ S) (hc : ∀ x c, X.env.cells.lookup x = some c → c ≠ S)
    (hh : ∀ b o, b ≠ S → s.heap.get? b = some o → s''.heap.get? b = some o) (ho : s''.heap.get? S = some o') (hd : ∀ c, o'.data ≠ .cell c) (hos : s''.os = s.os) (hb : AllBare s''.gens) : Inv X ([(S, o')] ++ pl) σ H s'' := by
  obtain ⟨p1, p2, p3, p4, p5⟩ := I.pin (S, o) (List.mem_append_right _ (List.mem_append_left _ List.mem_cons_self))
  have I1 : Inv X pl σ H s := I.pins_of fun p hp => I.pin p (List.mem_append_right _ (List.mem_append_right _ hp))
  have I2 := I1.turned (h' := s''.heap) (t' := s''.toks) hh p2 p3 (.inr hS) hc hpl
  have I3 : Inv X pl σ H s'' := I2.call' (ch := []) hos (Un.kept fun b o e => e) (I2.hok.kept fun b o e => e) hb fun b z => by simp at z
  refine I3.pins_of fun p hp => ?_
  rcases List.mem_append.mp hp with h | h
  · have e : p = (S, o') := by simpa using h
    subst e
    exact ⟨ho, p2, p3, p4, hd⟩
  · exact I3.pin p (List.mem_append_right _ h)
theorem seg_gv {Xg : Cx} {A : Around} {tg elt iter : Expr} {ifs : List Expr} {scope : Scope} {pos : Pos} {it : Addr} {fp : List Addr} {tn : Nat → Heap → Prop} {J : It} {g : TG} {tt : TT} {te : TE} {vs : List Nat} {σ0 : L2.St} {Y0 : List V} {Fin : Hp → Prop} {W : Nat → Nat → Nat → Hp → Prop} {S : Addr}
    (hA : A.over (.compLoop (.GeneratorExp elt [⟨tg, iter, ifs, 0⟩] scope pos) 0 (.ref it) .none Xg.env) [] = Xg.A) (hc : Xg.calm = true) (hxe : Xg.xe = fun _ _ => False) (hco : Xg.env.scope.isCoroutine = false) (hex : ∀ b ∈ fp, b ∈ Xg.ex) (hpn : ∀ b ∈ fp, ∀ p ∈ Xg.pn, p.1 ≠ b)
    (hSf : S ∉ fp) (hSp : ∀ p ∈ Xg.pn, p.1 ≠ S) (hS : Xg.s_0.heap.objs.size ≤ S) (hSc : ∀ x c, Xg.env.cells.lookup x = some c → c ≠ S)
    (T : Turn Xg.prog Xg.w Xg.K tg J fp it tn) (pg : PG Xg tg g) (pt : PTs Xg ifs tt) (pe : PE Xg elt te) (turn : gvTurn J g tt te σ0 vs Y0 Fin W) :
    ∀ (m n i : Nat) (s₀ s : Shared) (H : Hp) (oS : Obj), W i m n H → Inv Xg [(S, oS)] (wipe σ0 vs) H s → s₀.heap.get? S = some oS → tn i s.heap → (∀ b ∈ fp, H b = none) →
      Seg (model Xg.prog Xg.w) A (fun n s₀ r s₁ => r = .ok .next ∧ gvP S Xg Fin n s₀ s₁) (gvY Xg S Y0) n s₀ (.compLoop (.GeneratorExp elt [⟨tg, iter, ifs, 0⟩] scope pos) 0 (.ref it) .none Xg.env)
        ((model Xg.prog Xg.w).den (.compLoop (.GeneratorExp elt [⟨tg, iter, ifs, 0⟩] scope pos) 0 (.ref it) .none Xg.env)) [] s := by
  have stat : ∀ {σ' : L2.St} {H' : Hp} {s' : Shared} {oS : Obj}, Inv Xg [(S, oS)] σ' H' s' → (∀ b ∈ fp, H' b = none) → ∀ b ∈ fp, FpOk Xg [(S, oS)] H' b := fun {σ' H' s' oS} I' hn b hb =>
    ⟨hn b hb, (I'.ok.exf b (hex b hb)).1, I'.ok.exfs b (hex b hb), .inl (hex b hb), fun x c e => (I'.ok.exf b (hex b hb)).2 x c e, fun p hp => by
      rcases List.mem_append.mp hp with h | h
      · exact hpn b hb p h
      · have e : p = (S, oS) := by simpa using h
        subst e
        exact fun z => hSf (by have z : S = b := z; rw [z]; exact hb)⟩
  intro m
  induction m using Nat.strongRecOn with
  | _ m ih =>
    intro n i s₀ s H oS w I hs0 st hn
    have keepS : ∀ {σ' : L2.St} {H' : Hp} {s' : Shared} {pl : List (Addr × Obj)}, Inv Xg ([(S, oS)] ++ pl) σ' H' s' → ∀ o, s₀.heap.get? S = some o → s'.heap.get? S = some o := fun {σ' H' s' pl} I' o e => by
      rw [hs0] at e; cases e
      exact (I'.pin (S, oS) (List.mem_append_right _ (List.mem_append_left _ List.mem_cons_self))).1
    show Seg _ A _ _ _ s₀ _ ((compTurn (.GeneratorExp elt [⟨tg, iter, ifs, 0⟩] scope pos) 0 (.ref it) .none Xg.env).onRaise (leaving Xg.env)) [] s
    rw [compTurn_gen, Sem.onRaise_eq_wrap]
    refine seg_bind_wrap (wpAny_standAt ?_)
    refine seg_bind_wrap ?_
    rw [hA]
    rcases turn i m n H w with ⟨hs, hn0, q⟩ | ⟨go, Nx, hNx, step⟩
    · refine noX (T.done Xg rfl rfl rfl hc i [(S, oS)] s _ H (fun _ _ => False) I (stat I hn) st hs) rfl fun r s1 ⟨hr, I1⟩ => ?_
      subst hr
      exact seg_end (.ok .next) ⟨rfl, hn0, ⟨_, _, _, I1, q⟩, keepS (pl := []) (by simpa using I1)⟩
    · refine noX (T.item Xg rfl rfl rfl hc i [(S, oS)] s _ H (fun _ _ => False) I (stat I hn) st go) rfl fun r s1 ⟨u, hr, h1⟩ => ?_
      subst hr
      refine seg_bind_wrap ?_
      rw [hA]
      refine noX h1 rfl fun _ s2 ⟨x, H2, I2, r2, y2, st2, n2⟩ => ?_
      have I2' := I2.pinned (stat I2 n2) (T.obj _ _ st2)
      refine seg_bind_wrap ?_
      rw [hA]
      refine noX (pg.run _ s2 _ H2 x u _ I2' r2 (step x H2 y2)) hxe fun _ s3 ⟨σ3, H3, I3, w3, q3⟩ => ?_
      refine seg_bind_wrap ?_
      rw [hA]
      refine noX (pt.run _ s3 σ3 H3 _ I3 q3) hxe fun b s4 ⟨H4, I4, q4⟩ => ?_
      have fin : ∀ {s' : Shared} {H' : Hp} {o' : Obj}, Inv Xg ([(S, o')] ++ pinsAt fp s2.heap) σ3 H' s' → Inv Xg [(S, o')] (wipe σ0 vs) H' s' ∧ tn (i + 1) s'.heap ∧ ∀ b ∈ fp, H' b = none := fun {s' H' o'} I' => by
        have pin' : ∀ b ∈ fp, ∀ o, s2.heap.get? b = some o → s'.heap.get? b = some o ∧ H' b = none := fun b hb o e =>
          let z := I'.pin (b, o) (List.mem_append_right _ (List.mem_append_right _ (mem_pinsAt hb e)))
          ⟨z.1, z.2.1⟩
        have hl : (wipe σ0 vs).length = σ3.length := by rw [← w3, wipe_length]
        refine ⟨(I'.unpinned (pins := [(S, o')])).weak hl (fun j v e => ?_), T.keep _ _ _ st2 fun b hb o e => (pin' b hb o e).1, fun b hb => ?_⟩
        · rw [← w3] at e
          exact (wipe_some e).1
        · obtain ⟨o, e, _⟩ := T.obj _ _ st2 b hb
          exact (pin' b hb o e).2
      cases b with
      | false =>
        simp only [Bool.false_eq_true, if_false] at q4 ⊢
        obtain ⟨m', hm, w'⟩ := hNx _ _ q4
        obtain ⟨J4, t4, n4⟩ := fin I4
        exact seg_again rfl (ih m' hm n (i + 1) s₀ s4 H4 oS w' J4 hs0 t4 n4)
      | true =>
        simp only [if_true] at q4 ⊢
        have hy : ∀ v, yieldOut Xg.env v = yieldValue v := fun v => by simp only [yieldOut, hco, Bool.false_eq_true, if_false]
        simp only [hy]
        rw [Sem.bind_eq_wrap', Sem.bind_eq_wrap', Sem.wrap_wrap, Sem.wrap_wrap]
        refine seg_wrap ?_
        rw [hA]
        refine noX (pe.run _ s4 σ3 H4 _ I4 q4) hxe fun z s5 ⟨yv, H5, I5, r5, k, en, hk, ey, f2⟩ => ?_
        subst en
        refine seg_at (seg_yield rfl rfl rfl ⟨yv, σ3, H5, _, r5, hk, ey, I5, keepS I5, fun s'' hh ⟨o', ho', hd'⟩ hos hbr => ?_⟩)
        obtain ⟨m', hm, w'⟩ := hNx _ _ f2
        have I6 : Inv Xg ([(S, o')] ++ pinsAt fp s2.heap) σ3 H5 s'' := Inv.changed I5 (fun p hp => by
          rcases List.mem_append.mp hp with h | h
          · exact hSp p h
          · obtain ⟨hb, _⟩ := of_pinsAt h
            exact fun z => hSf (by rw [← z]; exact hb)) hS hSc hh ho' hd' hos hbr
        obtain ⟨J6, t6, n6⟩ := fin I6
        exact seg_again rfl (ih m' hm k (i + 1) s'' s'' H5 o' w' J6 ho' t6 n6)
/-- behind the loop: what the generator left -/
def gvLeft (Xg : Cx) (Fin : Hp → Prop) (s' : Shared) : Prop := ∃ (s1 : Shared) (σ : L2.St) (H : Hp) (pins : List (Addr × Obj)), Inv Xg pins σ H s1 ∧ Fin H ∧ s'.os = s1.os ∧ (∀ b o, s1.heap.get? b = some o → s'.heap.get? b = some o) ∧ AllBare s'.gens
/-- sum.loop over it -/
theorem gv_sum {Xg : Cx} {A : Around} {a S : Addr} {g : Nat} {go : Obj} {Fin : Hp → Prop} {ns : List Int} (hh : A.handled = none) (hd : A.depth < recursionLimit) (hg : ∀ h : Heap, h.get? a = some go → h.IsGen a g) (hpn : (a, go) ∈ Xg.pn) (haS : a ≠ S) :
    ∀ (n : Nat) (s : Shared) (gs : GenState) (tA : Tok) (c : Nat) (stage : Int), n ≤ ns.length → (stage = 0 ∨ stage = 2) → s.heap.NoLimit → s.heap.IsGen a g → s.gens[g]? = some gs →
    s.heap.get? S = some { cls := .type "list", dict := none, data := .seq #[.int (ns.take (ns.length - n)).sum tA] c, slots := #[] } →
    gs.Goes (model Xg.prog Xg.w) A.in1.in1 (fun n s₀ r s₁ => r = .ok .next ∧ gvP S Xg Fin n s₀ s₁) (gvY Xg S (ns.map V.int)) n (.send .none) (s.setGen g .running) →
    codeAny (model Xg.prog Xg.w) A (.builtin "sum.loop" ⟨[.ref a, .ref S, rawInt stage, rawInt 0], []⟩) (fun r s' => ∃ t, r = .ok (.ret (.int ns.sum t)) ∧ gvLeft Xg Fin s') s := by
  intro n
  induction n using Nat.strongRecOn with
  | _ n ih =>
  intro s gs tA c stage hnl hstage hl hig hgs hS hgo
  refine codeAny_builtin F.entry_sum_loop ?_
  rw [Around.under_plainId F.plain_sum_loop _]
  show wpAny _ A.in1 (seqItems? (.ref S) >>= _) _ _ s
  refine wpAny_bind (wpAny_seqItems hS rfl ?_)
  show wpAny _ A.in1 (tryCatch (pyNext (.ref a)) _ >>= _) _ _ s
  refine wpAny_bind (wpAny_tryCatch (GenW.wpAny_gsz (lt_gens hgs) (wpAny_pyNext_genexpQ (A := A.in1) (P := gvP S Xg Fin) (Y := gvY Xg S (ns.map V.int)) hh hl hd hig hgs hgo (fun v s1 gs' hb hv hsz => ?_) fun s1 hp h' hk _ => ?_)))
  · obtain ⟨u, σ, H, pins, ru, hkl, hu, I, hkeep, k⟩ := hv
    rw [List.length_map] at hkl hu
    cases n with
    | zero => exact absurd (k s1 (fun b o _ e => e) ⟨_, hkeep _ hS, fun c => by intro z; cases z⟩ rfl I.bare) (fun z => z)
    | succ n =>
      have hn1 : n + 1 - 1 = n := rfl
      rw [hn1] at hu hkl
      have hix : ns.length - 1 - n < ns.length := by omega
      rw [List.getElem?_map, List.getElem?_eq_getElem hix] at hu
      have hu : V.int ns[ns.length - 1 - n] = u := Option.some.inj hu
      subst hu
      obtain ⟨t, rfl⟩ := (show ∃ t, v = Value.int ns[ns.length - 1 - n] t from ru)
      have hS1 := hkeep _ hS
      have es : (ns.take (ns.length - n)).sum = (ns.take (ns.length - (n + 1))).sum + ns[ns.length - 1 - n] := by
        have e : ns.length - n = (ns.length - (n + 1)) + 1 := by omega
        rw [e, List.take_add_one, List.sum_append]
        have e2 : ns.length - (n + 1) = ns.length - 1 - n := by omega
        rw [e2, List.getElem?_eq_getElem hix]
        simp
      have hS1' : (s1.setGen g gs').heap.get? S = some { cls := .type "list", dict := none, data := .seq #[.int (ns.take (ns.length - (n + 1))).sum tA] c, slots := #[] } := hS1
      have again : ∀ (h'' : Heap) (tk : Nat) (tA' : Tok) (c' : Nat) (stage' : Int), (stage' = 0 ∨ stage' = 2) → (∀ b o, b ≠ S → s1.heap.get? b = some o → h''.get? b = some o) → h''.get? S = some { cls := .type "list", dict := none, data := .seq #[.int (ns.take (ns.length - n)).sum tA'] c', slots := #[] } →
          codeAny (model Xg.prog Xg.w) A (.builtin "sum.loop" ⟨[.ref a, .ref S, rawInt stage', rawInt 0], []⟩) (fun r s' => ∃ t, r = .ok (.ret (.int ns.sum t)) ∧ gvLeft Xg Fin s') { (s1.setGen g gs') with heap := h'', toks := tk } := fun h'' tk tA' c' stage' hst' hk' hS2 => by
        have bare2 : AllBare ((s1.setGen g gs').setGen g .running).gens := allBare_setGen (allBare_setGen I.bare hb) rfl
        have lim2 : h''.NoLimit := by
          have pinl := I.nolimit
          obtain ⟨mc, hns, hm⟩ := pinl
          refine ⟨mc, ?_, hm⟩
          obtain ⟨o, es', ep, ho, r⟩ := hns
          refine ⟨o, es', ep, hk' _ _ (fun z => ?_) ho, r⟩
          rw [z, hS1] at ho
          cases ho
          cases r.1
        refine ih n (Nat.lt_succ_self n) _ gs' tA' c' stage' (by omega) hst' lim2 ?_ (get_setGen hsz) hS2 ?_
        · exact hg _ (hk' _ _ haS (I.pin (a, go) (List.mem_append_left _ hpn)).1)
        · exact k ({ (s1.setGen g gs') with heap := h'', toks := tk }.setGen g .running) hk' ⟨_, hS2, fun c => by intro z; cases z⟩ rfl bare2
      rcases hstage with rfl | rfl
      · show wpAny _ A.in1 (if (_ : Bool) = true then (mkInt ((ns.take (ns.length - (n + 1))).sum + ns[ns.length - 1 - n]) >>= _) else _) _ _ _
        rw [← es]
        split
        · refine wpAny_bind (wpAny_mkInt ?_)
          refine wpAny_bind ?_
          exact wpAny_updateSeq hS1' rfl (wpAny_pure ⟨plainId_quiet F.plain_sum_loop _, again _ _ _ _ 0 (.inl rfl) (fun b o hb e => (Heap.get?_update_other _ _ (Ne.symm hb)).trans e) (Heap.get?_update_self _ hS1' rfl)⟩)
        · refine wpAny_bind (wpAny_rule ?_)
          refine wpAny_bind (wpAny_attempt (wpAny_holding (PySem.P.add_int ?_)))
          rw [← es]
          refine wpAny_bind ?_
          refine wpAny_updateSeq hS1' rfl ?_
          have hS2 := Heap.get?_update_self (Obj.mapSeq fun _ => #[Value.int (ns.take (ns.length - n)).sum s1.toks]) hS1' rfl
          refine wpAny_bind (wpAny_letGo ?_)
          refine wpAny_bind ?_
          exact wpAny_updateSeq hS2 rfl (wpAny_pure ⟨plainId_quiet F.plain_sum_loop _, again _ _ _ _ 2 (.inr rfl) (fun b o hb e => (Heap.get?_update_other _ _ (Ne.symm hb)).trans ((Heap.get?_update_other _ _ (Ne.symm hb)).trans e)) (Heap.get?_update_self _ hS2 rfl)⟩)
      · show wpAny _ A.in1 ((holding [Value.int ns[ns.length - 1 - n] t] (binaryOp .Add (.int (ns.take (ns.length - (n + 1))).sum tA) (.int ns[ns.length - 1 - n] t))).attempt >>= _) _ _ _
        refine wpAny_bind (wpAny_attempt (wpAny_holding (PySem.P.add_int ?_)))
        rw [← es]
        refine wpAny_bind ?_
        refine wpAny_updateSeq hS1' rfl ?_
        have hS2 := Heap.get?_update_self (Obj.mapSeq fun _ => #[Value.int (ns.take (ns.length - n)).sum s1.toks]) hS1' rfl
        refine wpAny_bind (wpAny_letGo ?_)
        refine wpAny_bind ?_
        exact wpAny_updateSeq hS2 rfl (wpAny_pure ⟨plainId_quiet F.plain_sum_loop _, again _ _ _ _ 2 (.inr rfl) (fun b o hb e => (Heap.get?_update_other _ _ (Ne.symm hb)).trans ((Heap.get?_update_other _ _ (Ne.symm hb)).trans e)) (Heap.get?_update_self _ hS2 rfl)⟩)
  · obtain ⟨hn0, ⟨σ, H, pins, I, f⟩, hkeep⟩ := hp
    subst hn0
    have e0 : (ns.take (ns.length - 0)).sum = ns.sum := by simp
    refine wpAny_pure ?_
    exact ⟨tA, by
      show Except.ok (Flow.ret (Value.int (ns.take (ns.length - 0)).sum tA)) = _
      rw [e0], s1, σ, H, pins, I, f, rfl, hk, allBare_setGen I.bare rfl⟩
/-! ### the generator made -/
/-- drawn from a state with one more object -/
def GvReady (X : Cx) (pins : List (Addr × Obj)) (σ : L2.St) (Y0 : List V) (Fin : Hp → Prop) (a g S : Addr) (s6 : Shared) : Prop := ∃ (Xg : Cx) (go : Obj) (gs : GenState), Xg.prog = X.prog ∧ Xg.w = X.w ∧ (a, go) ∈ Xg.pn ∧ (∀ h : Heap, h.get? a = some go → h.IsGen a g) ∧ s6.heap.NoLimit ∧ s6.heap.IsGen a g ∧ s6.gens[g]? = some gs ∧
  gs.Goes (model Xg.prog Xg.w) X.A.in1.in1 (fun n s₀ r s₁ => r = .ok .next ∧ gvP S Xg Fin n s₀ s₁) (gvY Xg S Y0) Y0.length (.send .none) (s6.setGen g .running) ∧ ∀ s', gvLeft Xg Fin s' → ∃ H, Inv X pins σ H s' ∧ Fin H
/-- the reading -/
def tGv (P : Addr) (wi : TI) (g : TG) (tt : TT) (te : TE) (vs : List Nat) (Yk : List V → Prop) (Fin : List V → Hp → Prop) : L2.St → Hp → Prop := fun σ H => wi σ H fun J H1 => ∃ ps : Array Value, H1 P = some (.tbl ps) ∧ TriplesOk ps.toList ∧
  ∀ qs : Array Value, TriplesOk qs.toList → ∃ (Y0 : List V) (W : Nat → Nat → Nat → Hp → Prop), Yk Y0 ∧ (∃ m, W 0 m Y0.length (upd H1 P (.tbl qs))) ∧ gvTurn J g tt te σ vs Y0 (Fin Y0) W
section
variable {X : Cx} {pins : List (Addr × Obj)} {σ : L2.St} {H : Hp} {s : Shared} {T : List Addr}
theorem gv_make {c P : Addr} {tg elt iter : Expr} {ifs : List Expr} {scope : Scope} {gpos : Pos} {own : List (Str × Nat)} {k : Nat} {wi : TI} {g : TG} {tt : TT} {te : TE} {Yk : List V → Prop} {Fin : List V → Hp → Prop} {Q' : Value → Shared → Prop}
    (hr : Room (k + 1) X.A) (hT : TOk T X.H_0) (hN : X.N.Nodup) (TB : GxR.TabB X.base X.mg c P) (hcode : X.env.code = .ref c) (hi : PI X tg iter wi) (ok : BlkOk X.N X.env.scope scope own) (hco : scope.isCoroutine = false) (hcell : ∀ y ∈ scope.names, y.2 ≠ .cell) (h0 : scope.names.lookup (".0" : Str) = some NameKind.local)
    (hg : ∀ (s : Shared) (H : Hp) (C : Addr) (code : Value) (fp : List Addr) (pn : List (Addr × Obj)), TOk T H → Room k (X.A.in1.in1.deeper (genEnv scope (cloFrom X.env.cells scope.names []) C code builtinsNs X.env)) → PG (gxc X X.A.in1.in1 s H (genEnv scope (cloFrom X.env.cells scope.names []) C code builtinsNs X.env) fp pn) tg g)
    (ht : ∀ (s : Shared) (H : Hp) (C : Addr) (code : Value) (fp : List Addr) (pn : List (Addr × Obj)), TOk T H → Room k (X.A.in1.in1.deeper (genEnv scope (cloFrom X.env.cells scope.names []) C code builtinsNs X.env)) → PTs (gxc X X.A.in1.in1 s H (genEnv scope (cloFrom X.env.cells scope.names []) C code builtinsNs X.env) fp pn) ifs tt)
    (he : ∀ (s : Shared) (H : Hp) (C : Addr) (code : Value) (fp : List Addr) (pn : List (Addr × Obj)), TOk T H → Room k (X.A.in1.in1.deeper (genEnv scope (cloFrom X.env.cells scope.names []) C code builtinsNs X.env)) → PE (gxc X X.A.in1.in1 s H (genEnv scope (cloFrom X.env.cells scope.names []) C code builtinsNs X.env) fp pn) elt te)
    (hs : ∀ v, genFold iter X.env v = pure v) (I : Inv X pins σ H s) (h : tGv P wi g tt te (own.map (·.2)) Yk Fin σ H)
    (hQ : ∀ (a g : Addr) (s5 : Shared) (Y0 : List V), Yk Y0 → s5.heap.IsGen a g → (∀ (S : Addr) (s6 : Shared), s5.heap.objs.size ≤ S → (∀ b o, s5.heap.get? b = some o → s6.heap.get? b = some o) → (∃ o, s6.heap.get? S = some o ∧ ∀ c, o.data ≠ .cell c) → s6.os = s5.os → s6.gens = s5.gens → GvReady X pins σ Y0 (Fin Y0) a g S s6) → Q' (.ref a) s5) :
    wpAny (model X.prog X.w) X.A (eval (.GeneratorExp elt [⟨tg, iter, ifs, 0⟩] scope gpos) X.env) Q' X.xe s := by
  have hfree : ∀ z ∈ scope.names, z.2 = .free → ∃ c, X.env.cells.lookup z.1 = some c := fun z hz e => (ok.free z hz e).elim (fun q => I.ok.has _ (.inl q)) fun q => I.ok.has _ (.inr q)
  refine wpAny_GeneratorExp_make hco (closure_ok hfree) hcell h0 ok.kind (by have := hr.dp; omega) ?_ hs
  refine thn (hi.run pins s σ H _ I h) fun xv s1 h1 => thn h1 fun itv s2 h2 => ?_
  obtain ⟨it, fp, tn, J, H2, rfl, I2, Tn, st2, f2, ps, hP, htr, q⟩ := h2
  refine ⟨I2.nolimit, ?_⟩
  have hPs : s2.heap.get? P = some { cls := .none, data := .fields ps } := I2.hok P _ hP
  have cd : PySem.W.CodeHd s2.heap c P := TB.code.keeps fun b u e => I2.bk b u e
  have cont : ∀ (code : Value) (h3 : Heap) (tk : Nat) (qs : Array Value), Heap.ExtBut P s2.heap h3 → s2.heap.objs.size ≤ h3.objs.size → h3.get? P = some { cls := .none, data := .fields qs } → (∃ more, qs = ps ++ more) → TriplesOk qs.toList →
      wpAny (model X.prog X.w) X.A (builtinsFor X.env.globals X.env.builtins) (fun bi s₄ => ∀ h', h'.Ns s₄.heap.objs.size (fun y => if y = ".0" then some (.ref it) else none) → Heap.SameBut s₄.heap.objs.size (s₄.heap.push { cls := .type "frame", data := .dict #[] }) h' →
          Q' (.ref h'.objs.size) { s₄ with
            gens := s₄.gens.push (.fresh (.compStart (.GeneratorExp elt [⟨tg, iter, ifs, 0⟩] scope gpos) 0 (.ref it) .none (genEnv scope (cloFrom X.env.cells scope.names []) s₄.heap.objs.size code bi X.env))),
            toks := s₄.toks + 1 + 1 + 1,
            heap := h'.push { cls := .type "generator", data := .fields #[.int s₄.gens.size 0, .str "<genexpr>" (s₄.toks + 1), .str (X.env.qual ++ "<genexpr>") (s₄.toks + 1 + 1)] } }) X.xe { s2 with heap := h3, toks := tk } := by
    intro code h3 tk qs hx hsz hP3 hmore hq3
    obtain ⟨more, em⟩ := hmore
    have J3 := GxR.inv_tab (more := more) (h' := h3) (g' := s2.gens) (d' := s2.drawn) (t' := tk) I2 hP (fun b u hb e => hx b u hb e) (by rw [← em]; exact hP3) I2.bare
    rw [← em] at J3
    have nP : ∀ b ∈ fp, b ≠ P := fun b hb z => by
      have := (f2 b hb).1
      rw [z, hP] at this; cases this
    have f3 : ∀ b ∈ fp, FpOk X pins (upd H2 P (.tbl qs)) b ∧ b < h3.objs.size := fun b hb => by
      refine ⟨⟨by rw [upd_ne (nP b hb)]; exact (f2 b hb).1, (f2 b hb).2⟩, ?_⟩
      obtain ⟨o, e, _⟩ := Tn.obj _ _ st2 b hb
      exact Nat.lt_of_lt_of_le (Heap.lt_size e) hsz
    have st3 : tn 0 h3 := Tn.keep _ _ _ st2 fun b hb o e => hx b o (nP b hb) e
    obtain ⟨bm, ob, e1, e2, e3, e4, e5, e6, e7, e8⟩ := TB.bm
    refine wpAny_builtinsFor (m := X.mg) (by rw [I2.ok.glob]; exact J3.mod.glob.keeps J3.bk) e1 e2 (J3.bk _ _ e5) e6 e7 e8 ?_
    intro h' hn' hs'
    obtain ⟨Y0, W, hyk, ⟨m0, w0⟩, turn⟩ := q qs hq3
    have hsz' : h'.objs.size = h3.objs.size + 1 := by rw [hs'.1, Heap.size_push]
    have kp' : ∀ b o, h3.get? b = some o → h'.get? b = some o := fun b o e => hs'.extBut b o (Nat.ne_of_lt (Heap.lt_size e)) (Heap.get?_push_of_some _ e)
    refine hQ _ s2.gens.size _ Y0 hyk ⟨_, _, _, Heap.get?_push_size _ rfl, rfl, rfl, rfl⟩ ?_
    generalize hgo : ({ cls := .type "generator", data := .fields #[.int s2.gens.size 0, .str "<genexpr>" (tk + 1), .str (X.env.qual ++ "<genexpr>") (tk + 1 + 1)] } : Obj) = go
    have hgd : go.cls = .type "generator" ∧ go.data = .fields #[.int s2.gens.size 0, .str "<genexpr>" (tk + 1), .str (X.env.qual ++ "<genexpr>") (tk + 1 + 1)] ∧ go.slots = #[] := by subst hgo; exact ⟨rfl, rfl, rfl⟩
    have hgp : (h'.push go).get? h'.objs.size = some go := by subst hgo; exact Heap.get?_push_size _ rfl
    have isG : ∀ h : Heap, h.get? h'.objs.size = some go → h.IsGen h'.objs.size s2.gens.size := fun h e => ⟨go, _, _, e, hgd.1, hgd.2.1, hgd.2.2⟩
    generalize hce : genEnv scope (cloFrom X.env.cells scope.names []) h3.objs.size code builtinsNs X.env = ce
    have cS : ce.scope = scope := by subst hce; rfl
    have kp5 : ∀ b o, h3.get? b = some o → (h'.push go).get? b = some o := fun b o e => Heap.get?_push_of_some _ (kp' b o e)
    have TO : TOk T (upd H2 P (.tbl qs)) := fun p hp => by
      obtain ⟨ps', e'⟩ := hT.at I2 p hp
      by_cases hpP : p = P
      · exact ⟨qs, by rw [hpP, upd_same]⟩
      · exact ⟨ps', by rw [upd_ne hpP]; exact e'⟩
    have rg : Room k (X.A.in1.in1.deeper ce) := Room.gx hr ce
    intro S s6 hS6 hk6 ⟨oS, hoS, hdS⟩ hos6 hg6
    have hS6 : (h'.push go).objs.size ≤ S := hS6
    have hk6 : ∀ b o, (h'.push go).get? b = some o → s6.heap.get? b = some o := hk6
    rw [Heap.size_push] at hS6
    have I5 : Inv (gxc X X.A.in1.in1 { s2 with heap := h3, toks := tk } (upd H2 P (.tbl qs)) ce fp [(h'.objs.size, go)]) [] (wipe σ (own.map (·.2))) (upd H2 P (.tbl qs))
        { s2 with heap := h'.push go, gens := s2.gens.push (.fresh (.compStart (.GeneratorExp elt [⟨tg, iter, ifs, 0⟩] scope gpos) 0 (.ref it) .none ce)), toks := tk + 1 + 1 + 1 } := by
      rw [← hce]
      have lt9 : h3.objs.size < h'.objs.size := by rw [hsz']; exact Nat.lt_succ_self _
      have b9 : AllBare (s2.gens.push (.fresh (.compStart (.GeneratorExp elt [⟨tg, iter, ifs, 0⟩] scope gpos) 0 (.ref it) .none (genEnv scope (cloFrom X.env.cells scope.names []) h3.objs.size code builtinsNs X.env)))) := AllBare.push I2.bare rfl
      exact gx_start (s := { s2 with heap := h3, toks := tk }) (go := go) (a := h'.objs.size) (A := X.A.in1.in1) rfl hr.hd J3 ok hcell hN f3 kp5 (hn'.push _) rfl b9 hgp lt9 fun v z => by rw [hgd.2.1] at z; cases z
    generalize hs5 : ({ s2 with heap := h'.push go, gens := s2.gens.push (.fresh (.compStart (.GeneratorExp elt [⟨tg, iter, ifs, 0⟩] scope gpos) 0 (.ref it) .none ce)), toks := tk + 1 + 1 + 1 } : Shared) = s5 at I5
    have hg5 : s5.gens[s2.gens.size]? = some (.fresh (.compStart (.GeneratorExp elt [⟨tg, iter, ifs, 0⟩] scope gpos) 0 (.ref it) .none ce)) := by rw [← hs5]; exact Array.getElem?_push_size ..
    have hi5 : s5.heap.IsGen h'.objs.size s2.gens.size := isG _ (by rw [← hs5]; exact hgp)
    have hg65 : s6.gens = s5.gens := by rw [← hs5]; exact hg6
    have ho65 : s6.os = s5.os := by rw [← hs5]; exact hos6
    have hk65 : ∀ b o, s5.heap.get? b = some o → s6.heap.get? b = some o := by rw [← hs5]; exact hk6
    have hg6' : s6.gens[s2.gens.size]? = some (.fresh (.compStart (.GeneratorExp elt [⟨tg, iter, ifs, 0⟩] scope gpos) 0 (.ref it) .none ce)) := by rw [hg65]; exact hg5
    have st5 : tn 0 s6.heap := Tn.keep _ _ _ st3 fun b _ o e => hk6 b o (kp5 b o e)
    have n5 : ∀ b ∈ fp, (upd H2 P (.tbl qs)) b = none := fun b hb => (f3 b hb).1.1
    have I6 : Inv (gxc X X.A.in1.in1 { s2 with heap := h3, toks := tk } (upd H2 P (.tbl qs)) ce fp [(h'.objs.size, go)]) [] (wipe σ (own.map (·.2))) (upd H2 P (.tbl qs)) (s6.setGen s2.gens.size .running) :=
      I5.call' (ch := []) ho65 (Un.kept hk65) (I5.hok.kept hk65) (allBare_setGen (by rw [hg65]; exact I5.bare) rfl) fun b z => by simp at z
    have S3 : h3.objs.size < S := by omega
    have hcl : ∀ x c', ce.cells.lookup x = some c' → c' ≠ S := fun x c' e z => by
      obtain ⟨v, hv⟩ := I5.cell x c' e
      have := hv.lt
      rw [← hs5] at this
      have this : c' < (h'.push go).objs.size := this
      rw [Heap.size_push] at this
      rw [z] at this
      exact Nat.lt_irrefl _ (Nat.lt_of_lt_of_le this hS6)
    have S5 : s5.heap.objs.size ≤ S := by rw [← hs5]; show (h'.push go).objs.size ≤ S; rw [Heap.size_push]; exact hS6
    have I7 : Inv (gxc X X.A.in1.in1 { s2 with heap := h3, toks := tk } (upd H2 P (.tbl qs)) ce fp [(h'.objs.size, go)]) [(S, oS)] (wipe σ (own.map (·.2))) (upd H2 P (.tbl qs)) (s6.setGen s2.gens.size .running) := by
      refine I6.pins_of fun p hp => ?_
      have e : p = (S, oS) := by simpa using hp
      subst e
      refine ⟨hoS, I5.hok.fresh S5, ?_, fun z => ?_, hdS⟩
      · show S ≠ ce.locals
        have e9 : ce.locals = h3.objs.size := by rw [← hce]; rfl
        rw [e9]; exact Nat.ne_of_gt S3
      · have z : S ∈ frs X.stack := z
        rcases List.mem_cons.mp (J3.stkSub S z) with z | z
        · have := J3.lt
          have this : X.env.locals < h3.objs.size := this
          rw [z] at S3
          exact Nat.lt_irrefl _ (Nat.lt_trans S3 this)
        · obtain ⟨_, o, ho, _⟩ := J3.funs.mem z
          have := Heap.lt_size ho
          have this : S < h3.objs.size := this
          exact Nat.lt_irrefl _ (Nat.lt_trans S3 this)
    have hSf : S ∉ fp := fun hb => Nat.lt_irrefl _ (Nat.lt_trans S3 (f3 S hb).2)
    have loop := seg_gv (Xg := gxc X X.A.in1.in1 { s2 with heap := h3, toks := tk } (upd H2 P (.tbl qs)) ce fp [(h'.objs.size, go)]) (A := X.A.in1.in1) (scope := scope) (pos := gpos) (it := it) (iter := iter) (S := S) rfl rfl rfl (by show ce.scope.isCoroutine = false; rw [cS]; exact hco) (fun b hb => hb)
      (fun b hb p hp => by
        have e : p = (h'.objs.size, go) := by simpa using hp
        rw [e]
        have q := (f3 b hb).2
        exact Nat.ne_of_gt (Nat.lt_trans q (by rw [hsz']; exact Nat.lt_succ_self _))) hSf (fun p hp => by
        have e : p = (h'.objs.size, go) := by simpa using hp
        rw [e]
        show h'.objs.size ≠ S
        exact Nat.ne_of_lt (Nat.lt_of_lt_of_le (Nat.lt_succ_self _) hS6)) (Nat.le_of_lt S3) hcl Tn (by rw [← hce] at rg ⊢; exact hg _ _ _ _ _ _ TO rg) (by rw [← hce] at rg ⊢; exact ht _ _ _ _ _ _ TO rg) (by rw [← hce] at rg ⊢; exact he _ _ _ _ _ _ TO rg) turn m0 Y0.length 0 (s6.setGen s2.gens.size .running) (s6.setGen s2.gens.size .running) _ oS w0 I7 hoS st5 n5
    refine ⟨gxc X X.A.in1.in1 { s2 with heap := h3, toks := tk } (upd H2 P (.tbl qs)) ce fp [(h'.objs.size, go)], go, .fresh (.compStart (.GeneratorExp elt [⟨tg, iter, ifs, 0⟩] scope gpos) 0 (.ref it) .none ce), rfl, rfl, List.mem_cons_self, isG, ?_, ?_, hg6', ⟨rfl, seg_gx0 (Xg := gxc X X.A.in1.in1 { s2 with heap := h3, toks := tk } (upd H2 P (.tbl qs)) ce fp [(h'.objs.size, go)]) Tn (s := s6.setGen s2.gens.size .running) st5 loop⟩, fun s' ⟨s1', σ', H', pins', I', fq, ho, hk, hbr⟩ => ?_⟩
    · exact I6.nolimit
    · obtain ⟨o, i1, i2, z⟩ := hi5
      exact ⟨o, i1, i2, hk65 _ _ z.1, z.2⟩
    · refine ⟨H', J3.call' (ch := fp) (ho.trans I'.os) (I'.base.trans (Un.kept hk)) (I'.hok.kept hk) hbr fun b hb => ?_, fq⟩
      obtain ⟨_, z1, z2, z3, z4, z5⟩ := (f3 b hb).1
      exact ⟨z3, z1, z4, z5⟩
  cases hf : codeAmong gpos ps.toList with
  | none =>
    refine wpAny_genexprCodeX hcode (cd.code hPs htr) (cd.tab hPs) hf fun c' h' tk hx hge hlt hco' _ htab' _ => ?_
    obtain ⟨o1, vs, f1, tf, fl, tg', inF, tx, tt', op, _, _, _, _, _, _, _, _, _, htr', _⟩ := hco'
    exact cont _ h' tk _ hx (Nat.le_trans hge (Nat.le_of_lt hlt)) htab'.2 ⟨_, rfl⟩ htr'
  | some cv =>
    refine wpAny_genexprCode_hit hcode (cd.code hPs htr) hf ?_
    exact cont cv s2.heap s2.toks ps (Heap.ExtBut.refl _ _) (Nat.le_refl _) hPs ⟨#[], by simp⟩ htr
end
end L3
namespace L3
open PySem PySem.Spec PyProof.Rows L2
/-! ## sum of a generator expression -/
section
variable {X : Cx} {pins : List (Addr × Obj)} {σ : L2.St} {H : Hp} {s : Shared} {T : List Addr}
theorem boot_sumX : bootBuiltins ("sum" : Str) = some (.builtin "sum") := by decide +kernel
def tSumGx (P : Addr) (wi : TI) (g : TG) (tt : TT) (te : TE) (vs : List Nat) : TE := fun σ H Q => tGv P wi g tt te vs (fun Y0 => ∃ ns : List Int, Y0 = ns.map V.int) (fun Y0 H' => ∀ ns : List Int, Y0 = ns.map V.int → Q (.int ns.sum) H') σ H
theorem pe_sumGx {c P : Addr} {tg elt iter : Expr} {ifs : List Expr} {scope : Scope} {gpos p pos : Pos} {own : List (Str × Nat)} {k : Nat} {wi : TI} {g : TG} {tt : TT} {te : TE}
    (hr : Room (k + 1) X.A) (hT : TOk T X.H_0) (hN : X.N.Nodup) (TB : GxR.TabB X.base X.mg c P) (hcode : X.env.code = .ref c) (hgl : Gl X "sum") (hm : X.mg "sum" = none) (hi : PI X tg iter wi) (ok : BlkOk X.N X.env.scope scope own) (hco : scope.isCoroutine = false) (hcell : ∀ y ∈ scope.names, y.2 ≠ .cell) (h0 : scope.names.lookup (".0" : Str) = some NameKind.local)
    (hg : ∀ (s : Shared) (H : Hp) (C : Addr) (code : Value) (fp : List Addr) (pn : List (Addr × Obj)), TOk T H → Room k (X.A.in1.in1.deeper (genEnv scope (cloFrom X.env.cells scope.names []) C code builtinsNs X.env)) → PG (gxc X X.A.in1.in1 s H (genEnv scope (cloFrom X.env.cells scope.names []) C code builtinsNs X.env) fp pn) tg g)
    (ht : ∀ (s : Shared) (H : Hp) (C : Addr) (code : Value) (fp : List Addr) (pn : List (Addr × Obj)), TOk T H → Room k (X.A.in1.in1.deeper (genEnv scope (cloFrom X.env.cells scope.names []) C code builtinsNs X.env)) → PTs (gxc X X.A.in1.in1 s H (genEnv scope (cloFrom X.env.cells scope.names []) C code builtinsNs X.env) fp pn) ifs tt)
    (hel : ∀ (s : Shared) (H : Hp) (C : Addr) (code : Value) (fp : List Addr) (pn : List (Addr × Obj)), TOk T H → Room k (X.A.in1.in1.deeper (genEnv scope (cloFrom X.env.cells scope.names []) C code builtinsNs X.env)) → PE (gxc X X.A.in1.in1 s H (genEnv scope (cloFrom X.env.cells scope.names []) C code builtinsNs X.env) fp pn) elt te)
    (hs : ∀ v, genFold iter X.env v = pure v := by intro _; rfl)
    (he : starEach [.GeneratorExp elt [⟨tg, iter, ifs, 0⟩] scope gpos] X.env = (false, eval (.GeneratorExp elt [⟨tg, iter, ifs, 0⟩] scope gpos) X.env) :: starEach [] X.env := by rfl) :
    PE X (.Call (.Name "sum" p) [.GeneratorExp elt [⟨tg, iter, ifs, 0⟩] scope gpos] [] pos) (tSumGx P wi g tt te (own.map (·.2))) := by
  refine ⟨fun pins s σ H Q I h => ?_⟩
  refine wpAny_Call_Name_kw (ld_blt I hgl hm boot_sumX ?_)
  refine PyProof.Rows.callWith_builtin1 ?_ he (by rfl)
  rw [he]
  show wpAny _ _ (spliced ((false, eval (.GeneratorExp elt [⟨tg, iter, ifs, 0⟩] scope gpos) X.env) :: backTo pos (starEach [] X.env))) _ _ s
  refine Calls.spliced_cons (gv_make hr hT hN TB hcode hi ok hco hcell h0 hg ht hel hs I h fun a g s5 Y0 hy hig hk => ?_)
  refine Calls.spliced_nil ?_
  refine call_function_tree F.kind_sum F.plain_sum F.entry_sum (F.args_sum1 _) ?_
  unfold Builtin.«sum»
  simp only [List.length_cons, List.length_nil]
  rw [if_neg (by decide)]
  refine wpAny_bind (wpAny_of_eq (show Builtin.Builtins.bindParams "sum" ["start"] 0 { } = pure [none] from rfl) ?_)
  refine wpAny_bind (wpAny_pyIter_gen hig ?_)
  refine wpAny_bind (wpAny_mkInt ?_)
  refine wpAny_bind (wpAny_pure ?_)
  simp only [List.forIn_cons, List.forIn_nil]
  refine wpAny_bind (wpAny_bind (wpAny_bind (wpAny_isInstance (T := "int") (b := false) (typeIs_int _ _ _) PySem.sub_int_str ?_)))
  simp only [Bool.false_eq_true, if_false]
  refine wpAny_pure (wpAny_bind (wpAny_bind (wpAny_isInstance (T := "int") (b := false) (typeIs_int _ _ _) PySem.sub_int_bytes ?_)))
  simp only [Bool.false_eq_true, if_false]
  refine wpAny_pure (wpAny_bind (wpAny_bind (wpAny_isInstance (T := "int") (b := false) (typeIs_int _ _ _) PySem.sub_int_bytearray ?_)))
  simp only [Bool.false_eq_true, if_false]
  refine wpAny_pure (wpAny_pure ?_)
  refine wpAny_bind (wpAny_newObj_type ?_)
  obtain ⟨ns, hns⟩ := hy
  subst hns
  have hS := Heap.get?_push_size s5.heap (o := { cls := .type "list", dict := none, data := .seq #[.int 0 s5.toks] 0, slots := #[] }) rfl
  obtain ⟨Xg, go, gs, hp, hw, hpn, isG, nl, ig, hgs, goes, back⟩ := hk s5.heap.objs.size { s5 with heap := s5.heap.push { cls := .type "list", dict := none, data := .seq #[.int 0 s5.toks] 0, slots := #[] }, toks := s5.toks + 1 } (Nat.le_refl _) (fun b o e => Heap.get?_push_of_some _ e) ⟨_, hS, fun c => by intro z; cases z⟩ rfl rfl
  have haS : a ≠ s5.heap.objs.size := fun z => by
    obtain ⟨o, _, _, e, _⟩ := hig
    rw [z] at e
    exact Nat.lt_irrefl _ (Heap.lt_size e)
  have gv := gv_sum (Xg := Xg) (A := X.A) (S := s5.heap.objs.size) (Fin := fun H' => ∀ ns' : List Int, ns.map V.int = ns'.map V.int → Q (.int ns'.sum) H') (ns := ns) hr.hd hr.depth isG hpn haS ns.length _ gs s5.toks 0 0 (Nat.le_refl _) (.inl rfl) nl ig hgs (by simpa using hS) (by rw [List.length_map] at goes; exact goes)
  rw [hp, hw] at gv
  refine wpAny_pure ⟨plainId_quiet F.plain_sum_loop _, codeAny_mono gv fun r s' ⟨t, er, left⟩ => ?_⟩
  subst er
  obtain ⟨H', I', q⟩ := back s' left
  exact ⟨.int ns.sum, H', I', ⟨t, rfl⟩, q ns rfl⟩
end
/-! ### the meaning -/
def gvL (g : SG) (t : SB) (f : SE) : List D → En → Mem → R (List D)
  | [], _, M => .ok [] M
  | d :: r, e, M => match g d e with
    | none => .bad
    | some e1 => match t e1 M with
      | .ok true M1 => match f e1 M1 with
        | .ok y M2 => match gvL g t f r e M2 with
          | .ok ys M3 => .ok (y :: ys) M3
          | _ => .bad
        | _ => .bad
      | .ok false M1 => gvL g t f r e M1
      | _ => .bad
def sumY (ys : List D) (M : Mem) : R D := match intsOf ys with
  | some ns => .ok (.int ns.sum) M
  | none => .bad
def sSumGx (it : SA) (g : SG) (t : SB) (f : SE) (vs : List Nat) : SE := fun e M => (it e M).bind fun ds M => (gvL g t f ds (wipeE e vs) M).bind sumY
section
variable {X : Cx} {W : WX} {T : List Addr}
theorem gvL_noexc {g : SG} {t : SB} {f : SE} : ∀ (ds : List D) (e : En) (M : Mem) (C : Addr) (fs : List (Str × D)) (M2 : Mem), gvL g t f ds e M ≠ .exc C fs M2 := by
  intro ds
  induction ds with
  | nil => intro e M C fs M2 z; unfold gvL at z; cases z
  | cons d r ih =>
    intro e M C fs M2 z
    unfold gvL at z
    split at z
    · cases z
    · split at z
      · split at z
        · split at z <;> cases z
        · cases z
      · exact ih _ _ _ _ _ z
      · cases z
theorem tSum_of {it : SA} {g : SG} {t : SB} {f : SE} {is vs : List Nat} {tt : TG} {σ : L2.St} {H : Hp} {Q : VK} {K : PySem.W.Frag} {P : Addr} (hP : P ∈ T) (kg : KG K tt is g) (hv : ∀ i ∈ is, i ∈ vs)
    (q : tE K W (sSumGx it g t f vs) σ H Q) : tSumGx P (fun σ H R => tG K W (fun _ => rlI K) it σ H fun J H1 => TOk T H1 → R J H1) tt (tB K W0 t) (tE K W0 f) vs σ H Q :=
  tG.step (k := fun e ds M => (gvL g t f ds (wipeE e vs) M).bind sumY) (fun _ => bkE) q fun S w0 e w1 M1 H1 J ds s1 sx1 x1 r p hTO => by
    obtain ⟨ps, hps⟩ := hTO P hP
    obtain ⟨htr, _, _⟩ := s1.tabs P ps hps
    refine ⟨ps, hps, htr, fun qs hq => ?_⟩
    obtain ⟨s2, y2⟩ := s1.grown hps hq
    have r : ItOk K w1 J ds := r
    cases hl : gvL g t f ds (wipeE e vs) M1 with
    | bad => rw [hl] at p; exact p.elim
    | exc C fs M2 => exact absurd hl (gvL_noexc _ _ _ _ _ _)
    | ok ysF MF =>
      rw [hl, R.bind_ok] at p
      unfold sumY at p
      cases hi : intsOf ysF with
      | none => rw [hi] at p; exact p.elim
      | some ns =>
        rw [hi] at p
        have ey := intsOf_eq hi
        subst ey
        refine ⟨ns.map V.int, fun i m n H => m = ds.length - i ∧ i ≤ ds.length ∧ n ≤ ns.length ∧ ∃ (w : Wd) (M : Mem), HS K w M H ∧ Ext All w1 H1 w H ∧ gvL g t f (ds.drop i) (wipeE e vs) M = .ok ((ns.drop (ns.length - n)).map D.int) MF, ⟨ns, rfl⟩, ⟨ds.length, by simp, Nat.zero_le _, by simp, w1, M1, s2, y2, by simpa using hl⟩, ?_⟩
        rintro i m n H2 ⟨rfl, hi, hn, w2, M2, s2, x2, e2⟩
        obtain ⟨ri, rs⟩ := r w2 M2 H2 x2.b x2.r s2
        by_cases hlt : i < ds.length
        · refine .inr ⟨(ri i ds[i] (by simp [hlt])).1, fun n' H3 => n' ≤ ns.length ∧ ∃ (w : Wd) (M : Mem), HS K w M H3 ∧ Ext All w1 H1 w H3 ∧ gvL g t f (ds.drop (i + 1)) (wipeE e vs) M = .ok ((ns.drop (ns.length - n')).map D.int) MF, fun n' H3 h => ⟨ds.length - (i + 1), by omega, rfl, hlt, h⟩, fun y H3 hy => ?_⟩
          obtain ⟨w3, s3, x3, rd⟩ := (ri i ds[i] (by simp [hlt])).2 y H3 hy
          rw [drop_cons hlt] at e2
          unfold gvL at e2
          have x13 := x2.trans x3
          have sx3 : SX K S w3 H3 (wipe σ vs) (wipeE e vs) := (sx1.mono x13).wipe vs
          cases hgd : g ds[i] (wipeE e vs) with
          | none => simp only [hgd] at e2; cases e2
          | some e3 =>
            simp only [hgd] at e2
            refine kg w3 M2 H3 (wipe σ vs) (wipeE e vs) y ds[i] e3 _ s3 rd hgd fun σ4 z4 => ⟨by rw [z4.wipe hv, wipe_wipe], S, w3, e3, M2, s3, z4.sx sx3, ?_⟩
            cases ht : t e3 M2 with
            | bad => simp only [ht] at e2; cases e2
            | exc C fs M4 => simp only [ht] at e2; cases e2
            | ok k M4 =>
              simp only [ht] at e2
              intro w4 H4 k' x4 s4 rk
              have rk : k' = k := rk
              subst rk
              have x14 := x13.trans x4
              cases k' with
              | false =>
                simp only [Bool.false_eq_true, if_false] at e2 ⊢
                exact ⟨hn, w4, M4, s4, x14, e2⟩
              | true =>
                simp only [if_true] at e2 ⊢
                refine ⟨S, w4, e3, M4, s4, (z4.sx sx3).mono x4, ?_⟩
                cases hf : f e3 M4 with
                | bad => simp only [hf] at e2; cases e2
                | exc C fs M5 => simp only [hf] at e2; cases e2
                | ok d M5 =>
                  simp only [hf] at e2
                  cases hr : gvL g t f (ds.drop (i + 1)) (wipeE e vs) M5 with
                  | bad => simp only [hr] at e2; cases e2
                  | exc C fs M6 => exact absurd hr (gvL_noexc _ _ _ _ _ _)
                  | ok ys M6 =>
                    simp only [hr] at e2
                    have e3' : d :: ys = (ns.drop (ns.length - n)).map D.int ∧ M6 = MF := by
                      injection e2 with a b
                      exact ⟨a, b⟩
                    obtain ⟨e3', rfl⟩ := e3'
                    have hn0 : n ≠ 0 := fun z => by
                      subst z
                      rw [Nat.sub_zero, List.drop_length] at e3'
                      cases e3'
                    obtain ⟨k, rfl⟩ : ∃ k, n = k + 1 := ⟨n - 1, by omega⟩
                    have hix : ns.length - (k + 1) < ns.length := by omega
                    rw [List.drop_eq_getElem_cons hix, List.map_cons] at e3'
                    have e4 : d = .int ns[ns.length - (k + 1)] := (List.cons.inj e3').1
                    have e5 : ys = (ns.drop (ns.length - k)).map D.int := by
                      have := (List.cons.inj e3').2
                      rw [show ns.length - (k + 1) + 1 = ns.length - k by omega] at this
                      exact this
                    subst e4
                    intro w5 H5 v x5 s5 rv
                    have x15 := x14.trans x5
                    refine ⟨k, rfl, by rw [List.length_map]; omega, ?_, by omega, w5, M5, s5, x15, by rw [← e5]; exact hr⟩
                    rw [List.length_map, List.getElem?_map, show ns.length - 1 - k = ns.length - (k + 1) by omega, List.getElem?_eq_getElem hix]
                    exact congrArg some rv.toR.int.symm
        · have e1 : ds.drop i = [] := List.drop_of_length_le (by omega)
          rw [e1] at e2
          unfold gvL at e2
          have e3 : (ns.drop (ns.length - n)).map D.int = [] ∧ M2 = MF := by
            injection e2 with a b
            exact ⟨a.symm, b⟩
          obtain ⟨e3, rfl⟩ := e3
          have hn0 : n = 0 := by
            have := congrArg List.length e3
            simp at this
            omega
          refine .inl ⟨rs i (by omega), hn0, fun ns' e' => ?_⟩
          have : ns = ns' := map_inj' (fun x y h => V.int.inj h) e'
          subst this
          exact p w2 H2 _ x2 s2 (.inl (.int _))
theorem a_gxSum {c P : Addr} {tg elt iter : Expr} {ifs : List Expr} {scope : Scope} {gpos p pos : Pos} {own : List (Str × Nat)} {k : Nat} {it : SA} {g : SG} {t : SB} {f : SE} {is : List Nat} {tt : TG}
    (hr : Room (k + 1) X.A) (hT : TOk T X.H_0) (hP : P ∈ T) (hN : X.N.Nodup) (TB : GxR.TabB X.base X.mg c P) (hcode : X.env.code = .ref c) (hgl : Gl X "sum") (hm : X.mg "sum" = none) (hi : AI X W tg iter it) (ok : BlkOk X.N X.env.scope scope own) (hcell : (scope.names.all fun y => match y.2 with | .cell => false | _ => true) = true)
    (hg : ∀ (s : Shared) (H : Hp) (C : Addr) (code : Value) (fp : List Addr) (pn : List (Addr × Obj)), TOk T H → Room k (X.A.in1.in1.deeper (genEnv scope (cloFrom X.env.cells scope.names []) C code builtinsNs X.env)) → PG (gxc X X.A.in1.in1 s H (genEnv scope (cloFrom X.env.cells scope.names []) C code builtinsNs X.env) fp pn) tg tt) (kg : KG X.K tt is g) (hv : ∀ i ∈ is, i ∈ own.map (·.2))
    (ht : ∀ (s : Shared) (H : Hp) (C : Addr) (code : Value) (fp : List Addr) (pn : List (Addr × Obj)), TOk T H → Room k (X.A.in1.in1.deeper (genEnv scope (cloFrom X.env.cells scope.names []) C code builtinsNs X.env)) → AT (gxc X X.A.in1.in1 s H (genEnv scope (cloFrom X.env.cells scope.names []) C code builtinsNs X.env) fp pn) W0 ifs t)
    (hel : ∀ (s : Shared) (H : Hp) (C : Addr) (code : Value) (fp : List Addr) (pn : List (Addr × Obj)), TOk T H → Room k (X.A.in1.in1.deeper (genEnv scope (cloFrom X.env.cells scope.names []) C code builtinsNs X.env)) → AE (gxc X X.A.in1.in1 s H (genEnv scope (cloFrom X.env.cells scope.names []) C code builtinsNs X.env) fp pn) W0 elt f)
    (hco : scope.isCoroutine = false := by rfl) (h0 : scope.names.lookup (".0" : Str) = some NameKind.local := by rfl) (hs : ∀ v, genFold iter X.env v = pure v := by intro _; rfl)
    (he : starEach [.GeneratorExp elt [⟨tg, iter, ifs, 0⟩] scope gpos] X.env = (false, eval (.GeneratorExp elt [⟨tg, iter, ifs, 0⟩] scope gpos) X.env) :: starEach [] X.env := by rfl) :
    AE X W (.Call (.Name "sum" p) [.GeneratorExp elt [⟨tg, iter, ifs, 0⟩] scope gpos] [] pos) (sSumGx it g t f (own.map (·.2))) :=
  PE.imp (pe_sumGx hr hT hN TB hcode hgl hm (PI.tok hi hT) ok hco (fun y hy z => by
    have := List.all_eq_true.mp hcell y hy
    rw [z] at this
    exact Bool.noConfusion this) h0 hg ht hel hs he) fun σ H Q q => tSum_of hP kg hv q
end
/-! ### evaluation -/
def kSumGx (g : SG) (t : SB) (f : SE) (vs : List Nat) (e : En) (ds : List D) (M : Mem) : R D := (gvL g t f ds (wipeE e vs) M).bind sumY
section
variable (e : En) (M : Mem)
@[simp] theorem sSumGx_eq (it g t f vs) : sSumGx it g t f vs e M = (it e M).bind (kSumGx g t f vs e) := nrfl rfl
@[simp] theorem kSumGx_eq (g t f vs ds) : kSumGx g t f vs e ds M = (gvL g t f ds (wipeE e vs) M).bind sumY := nrfl rfl
theorem sumY_ints (ns : List Int) : sumY (ns.map D.int) M = .ok (.int ns.sum) M := by unfold sumY; simp only [intsOf_map]
end
/-- whose element does not write -/
theorem gvL_pure {α : Type} {g : SG} {f : SE} {e : En} {M : Mem} (h k : α → D) : ∀ (xs : List α), (∀ x ∈ xs, ∃ e1, g (h x) e = some e1 ∧ f e1 M = .ok (k x) M) → gvL g bYes f (xs.map h) e M = .ok (xs.map k) M
  | [], _ => rfl
  | x :: r, H => by
    obtain ⟨e1, g1, f1⟩ := H x List.mem_cons_self
    have ih := gvL_pure h k r fun x hx => H x (List.mem_cons_of_mem _ hx)
    rw [List.map_cons]
    unfold gvL
    simp only [g1, bYes_eq, f1, ih, List.map_cons]
end L3
namespace L3
open PySem PySem.Spec PyProof.Rows L2
/-! ## a constant dict of texts: x in D, D[x] -/
def ksget : List (Str × Str) → Str → Option Str
  | [], _ => none
  | (k, i) :: r, z => if k = z then some i else ksget r z
structure KDs (K : PySem.W.Frag) (w : World) (mg : Str → Option Value) (x : Str) (d : Addr) (kvs : List (Str × Str)) : Prop where
  g : mg x = some (.ref d)
  D : ∃ es n, KDict K w d es n
  get : ∀ z, ∃ r, PySem.W.nsIn K d z = some r ∧ (∀ i, ksget kvs z = some i → ∃ t, r = some (.str i t)) ∧ (ksget kvs z = none → r = none)
def kinD (neg : Bool) (kvs : List (Str × Str)) (d : D) (M : Mem) : R D := match d with
  | .str z => .ok (.bl (if neg then !(ksget kvs z).isSome else (ksget kvs z).isSome)) M
  | _ => .bad
def sKin (neg : Bool) (kvs : List (Str × Str)) (f : SE) : SE := fun e M => (f e M).bind (kinD neg kvs)
def ksubD (kvs : List (Str × Str)) (d : D) (M : Mem) : R D := match d with
  | .str z => match ksget kvs z with
    | some i => .ok (.str i) M
    | none => .bad
  | _ => .bad
def sKsub (kvs : List (Str × Str)) (f : SE) : SE := fun e M => (f e M).bind (ksubD kvs)
section
variable {X : Cx} {W : WX} {pos : Pos}
theorem ix_kd {d : Addr} {es : Array DictEntry} {n : Nat} (D : KDict X.K X.w d es n) : IxR X (fun x y H Q => ∃ (z : Str) (u0 : Value) (v0 : V), x = .ref d ∧ y = .str z ∧ PySem.W.nsIn X.K d z = some (some u0) ∧ RelV v0 u0 ∧ Q v0 H) := by
  intro value slice pins s σ H x y v u Q I rx ry h hs
  have h2 := op_item_kd D pins s σ H x y v u Q I rx ry h
  obtain ⟨z, u0, v0, rfl, rfl, g, r, q⟩ := h
  cases rx
  have hT : s.TypeIs (.ref d) "dict" := kd_type D I
  unfold subscriptTail
  refine wpAny_bind ?_
  rw [getitemInPython_of_ne hT.not_modules]
  refine wpAny_bind (wpAny_specialOf hT PySem.F.slot_dict_getitem.lookup ?_)
  have fin : wpAny (model X.prog X.w) X.A (subscripted slice false (.ref d) u) (fun r s₃ => wpAny (model X.prog X.w) X.A (letTemporaryGo value (.ref d) r >>= fun _ => pure r) (EP X pins σ Q) X.xe s₃) X.xe s := by
    rw [hs]
    exact wpAny_operating (wpAny_mono h2 (fun r s₃ h₃ => wpAny_bind (wpAny_letTemporaryGo (wpAny_pure h₃))) fun _ _ x => x)
  first
    | exact wpAny_pure (wpAny_bind fin)
    | exact wpAny_bind (wpAny_pure (wpAny_bind fin))
    | exact wpAny_bind fin
theorem kin_tOp {neg : Bool} {op : CmpOp} {x : Str} {d : Addr} {kvs : List (Str × Str)} {f : SE} (n : KDs X.K X.w X.mg x d kvs) {σ : L2.St} {H : Hp} {Q : VK} (q : tE X.K W (sKin neg kvs f) σ H Q) : tOp (fun x y H Q => ∃ (z : Str) (r : Option Value), x = .str z ∧ y = .ref d ∧ PySem.W.nsIn X.K d z = some r ∧ Q (.bl (if neg then !r.isSome else r.isSome)) H) (tE X.K W f) (tC (.ref d)) σ H Q :=
  tG.step (k := fun e d M => kinD neg kvs d M) (fun _ => bkE) q fun S w e w' M' H' v d1 s sx x r p => by
    cases d1 with
    | str z =>
      have ev : v = .str z := r.toR.str
      subst ev
      obtain ⟨o, e1, e2, e3⟩ := n.get z
      refine ⟨z, o, rfl, rfl, e1, ?_⟩
      have p : Pst X.K W w' H' σ (rlE X.K S) Q (.ok (.bl (if neg then !(ksget kvs z).isSome else (ksget kvs z).isSome)) M') := p
      have eo : o.isSome = (ksget kvs z).isSome := by
        cases hk : ksget kvs z with
        | some i => obtain ⟨t, rfl⟩ := e2 i hk; rfl
        | none => rw [e3 hk]; rfl
      rw [eo]
      exact p w' H' _ (.refl _ _) s (.inl (.bl _))
    | _ => exact p.elim
theorem a_kin {x : Str} {d : Addr} {kvs : List (Str × Str)} {a : Expr} {fa : SE} {p : Pos} (n : KDs X.K X.w X.mg x d kvs) (hg : Gl X x) (ha : AE X W a fa) (hm : behindInMarks .In (.Name x p) = false := by rfl) (hd : (x == ("__debug__" : Str)) = false := by decide) : AE X W (.Compare a [.In] [.Name x p] pos) (sKin false kvs fa) := by
  obtain ⟨es, k, D⟩ := n.D
  have ho : PE X (.Name x p) (tC (.ref d)) := pe_glob hg n.g rfl hd
  exact PE.imp (pe_cmpR (op_in_kd D) ha ho hm) fun σ H Q q => kin_tOp (neg := false) (op := .In) n q
theorem a_knin {x : Str} {d : Addr} {kvs : List (Str × Str)} {a : Expr} {fa : SE} {p : Pos} (n : KDs X.K X.w X.mg x d kvs) (hg : Gl X x) (ha : AE X W a fa) (hm : behindInMarks .NotIn (.Name x p) = false := by rfl) (hd : (x == ("__debug__" : Str)) = false := by decide) : AE X W (.Compare a [.NotIn] [.Name x p] pos) (sKin true kvs fa) := by
  obtain ⟨es, k, D⟩ := n.D
  have ho : PE X (.Name x p) (tC (.ref d)) := pe_glob hg n.g rfl hd
  exact PE.imp (pe_cmpR (op_notIn_kd D) ha ho hm) fun σ H Q q => kin_tOp (neg := true) (op := .NotIn) n q
theorem b_kin {x : Str} {d : Addr} {kvs : List (Str × Str)} {a : Expr} {fa : SE} {p : Pos} (n : KDs X.K X.w X.mg x d kvs) (hg : Gl X x) (ha : AE X W a fa) (hm : behindInMarks .In (.Name x p) = false := by rfl) (hd : (x == ("__debug__" : Str)) = false := by decide) : AB X W (.Compare a [.In] [.Name x p] pos) (sT (sKin false kvs fa)) := by
  obtain ⟨es, k, D⟩ := n.D
  have ho : PE X (.Name x p) (tC (.ref d)) := pe_glob hg n.g rfl hd
  exact PT.imp (pt_cmpR (op_in_kd D) ha ho hm) fun σ H Q q => by
    obtain ⟨S, w, e, M, hs, sx, p⟩ := q
    exact kin_tOp (neg := false) (op := .In) n ⟨S, w, e, M, hs, sx, p.bl⟩
theorem b_knin {x : Str} {d : Addr} {kvs : List (Str × Str)} {a : Expr} {fa : SE} {p : Pos} (n : KDs X.K X.w X.mg x d kvs) (hg : Gl X x) (ha : AE X W a fa) (hm : behindInMarks .NotIn (.Name x p) = false := by rfl) (hd : (x == ("__debug__" : Str)) = false := by decide) : AB X W (.Compare a [.NotIn] [.Name x p] pos) (sT (sKin true kvs fa)) := by
  obtain ⟨es, k, D⟩ := n.D
  have ho : PE X (.Name x p) (tC (.ref d)) := pe_glob hg n.g rfl hd
  exact PT.imp (pt_cmpR (op_notIn_kd D) ha ho hm) fun σ H Q q => by
    obtain ⟨S, w, e, M, hs, sx, p⟩ := q
    exact kin_tOp (neg := true) (op := .NotIn) n ⟨S, w, e, M, hs, sx, p.bl⟩
theorem a_ksub {x : Str} {d : Addr} {kvs : List (Str × Str)} {b : Expr} {fb : SE} {p : Pos} (n : KDs X.K X.w X.mg x d kvs) (hg : Gl X x) (hb : AE X W b fb) (hs : PlainIx b := by intro _ _; rfl) (hd : (x == ("__debug__" : Str)) = false := by decide) : AE X W (.Subscript (.Name x p) b pos) (sKsub kvs fb) := by
  obtain ⟨es, k, D⟩ := n.D
  have ho : PE X (.Name x p) (tC (.ref d)) := pe_glob hg n.g rfl hd
  refine PE.imp (pe_ix (ix_kd D) ho hb hs) fun σ H Q q => ?_
  show tE X.K W fb σ H fun y H2 => _
  refine tG.step (k := fun e d M => ksubD kvs d M) (fun _ => bkE) q fun S w e w' M' H' v d1 s sx x r p => ?_
  cases d1 with
  | str z =>
    have ev : v = .str z := r.toR.str
    subst ev
    obtain ⟨o, e1, e2, e3⟩ := n.get z
    cases hk : ksget kvs z with
    | some i =>
      obtain ⟨t, rfl⟩ := e2 i hk
      refine ⟨z, _, .str i, rfl, rfl, e1, ⟨_, rfl⟩, ?_⟩
      have p : Pst X.K W w' H' σ (rlE X.K S) Q (ksubD kvs (.str z) M') := p
      unfold ksubD at p
      simp only [hk] at p
      exact p w' H' _ (.refl _ _) s (.inl (.str _))
    | none =>
      have p : Pst X.K W w' H' σ (rlE X.K S) Q (ksubD kvs (.str z) M') := p
      unfold ksubD at p
      simp only [hk] at p
      exact p.elim
  | _ => exact p.elim
theorem a_ks {x : Str} {i : Str} {t : Nat} {pos : Pos} (h : X.mg x = some (.str i t)) (hg : Gl X x) (hd : (x == ("__debug__" : Str)) = false := by decide) : AE X W (.Name x pos) (sC (.str i)) :=
  a_const (pe_glob (v := .str i) hg h ⟨_, rfl⟩ hd) fun w => .str _
end
/-- from the written part -/
theorem kds_of {K : PySem.W.Frag} {w : World} {mg : Str → Option Value} {x : Str} {d : Addr} {kvs : List (Str × Str)} {es : Array DictEntry} {n : Nat} (g : mg x = some (.ref d)) (l : K.lookup d = some ⟨.type "dict", none, .dict es n, #[]⟩) (kl : PySem.W.KeysLit w.params es.toList) (low : (d == sysModules) = false)
    (he : ∀ z, (∀ i, ksget kvs z = some i → ∃ t e, es.toList.find? (fun u => u.key.isStr z) = some e ∧ e.val = .str i t) ∧ (ksget kvs z = none → es.toList.find? (fun u => u.key.isStr z) = none)) (hr : es.toList.any (·.refKey) = false) : KDs K w mg x d kvs := by
  refine ⟨g, ⟨es, n, l, kl, low⟩, fun z => ?_⟩
  obtain ⟨h1, h2⟩ := he z
  cases hk : ksget kvs z with
  | some i =>
    obtain ⟨t, e, h3, h4⟩ := h1 i hk
    refine ⟨some e.val, ?_, fun j hj => ?_, fun z => by cases z⟩
    · unfold PySem.W.nsIn
      rw [l]
      simp only [h3]
    · cases hj
      exact ⟨t, by rw [h4]⟩
  | none =>
    refine ⟨none, ?_, ⟨fun j hj => absurd hj (by intro z; cases z), fun _ => rfl⟩⟩
    unfold PySem.W.nsIn
    rw [l]
    simp only [h2 hk, hr, Bool.false_eq_true, if_false]
def EntOkS : List DictEntry → List (Str × Str) → Prop
  | [], [] => True
  | e :: r, (k, i) :: s => (∃ t, e.key = .str k t) ∧ (∃ t, e.val = .str i t) ∧ EntOkS r s
  | _, _ => False
theorem EntOkS.find : ∀ {es : List DictEntry} {kvs : List (Str × Str)}, EntOkS es kvs → ∀ z, (∀ i, ksget kvs z = some i → ∃ t e, es.find? (fun u => u.key.isStr z) = some e ∧ e.val = .str i t) ∧ (ksget kvs z = none → es.find? (fun u => u.key.isStr z) = none)
  | [], [], _, z => ⟨fun i h => absurd h (by intro w; cases w), fun _ => rfl⟩
  | e :: r, (k, j) :: s, h, z => by
    obtain ⟨⟨t, h1⟩, ⟨t2, h2⟩, h3⟩ := h
    obtain ⟨i1, i2⟩ := EntOkS.find h3 z
    unfold ksget
    by_cases hk : k = z
    · subst hk
      have e1 : e.key.isStr k = true := by rw [h1]; simp [Value.isStr]
      have e2 : (e :: r).find? (fun u => u.key.isStr k) = some e := by simp [List.find?, e1]
      rw [if_pos rfl, e2]
      exact ⟨fun i hi => ⟨t2, e, rfl, by cases hi; exact h2⟩, fun z => absurd z (by intro w; cases w)⟩
    · have e1 : e.key.isStr z = false := by rw [h1]; simp [Value.isStr]; exact hk
      have e2 : (e :: r).find? (fun u => u.key.isStr z) = r.find? fun u => u.key.isStr z := by simp [List.find?, e1]
      rw [if_neg hk, e2]
      exact ⟨i1, i2⟩
  | [], _ :: _, h, _ => h.elim
  | _ :: _, [], h, _ => h.elim
section
variable (e : En) (M : Mem)
@[simp] theorem sKin_eq (neg kvs f) : sKin neg kvs f e M = (f e M).bind (kinD neg kvs) := nrfl rfl
@[simp] theorem sKsub_eq (kvs f) : sKsub kvs f e M = (f e M).bind (ksubD kvs) := nrfl rfl
@[simp] theorem kinD_str (neg kvs z) : kinD neg kvs (.str z) M = .ok (.bl (if neg then !(ksget kvs z).isSome else (ksget kvs z).isSome)) M := nrfl rfl
theorem ksubD_str {kvs : List (Str × Str)} {z i : Str} (h : ksget kvs z = some i) : ksubD kvs (.str z) M = .ok (.str i) M := by unfold ksubD; simp only [h]
end
/-! ## x * n: ints, tuples, lists -/
theorem Reps.rep {K : PySem.W.Frag} {w : Wd} {us : List V} {ds : List D} (h : Reps K w us ds) : ∀ n : Nat, Reps K w (List.replicate n us).flatten (List.replicate n ds).flatten
  | 0 => .nil
  | n + 1 => by
    rw [List.replicate_succ, List.replicate_succ, List.flatten_cons, List.flatten_cons]
    exact h.append (Reps.rep h n)
def rMulX (K : PySem.W.Frag) : R2 := fun x y H Q => rI CMul (fun i j => .int (i * j)) x y H Q ∨ rRepT K x y H Q ∨ rRep x y H Q
theorem op_mulX {X : Cx} : OpR X (binaryOp .Mult) (rMulX X.K) := op_mul.or (op_repT.or op_rep)
def mulT (xs : List D) (k : Int) (M : Mem) : R D := if xs ≠ [] ∧ 2 ≤ k ∧ k ≤ 1000 ∧ xs.length ≤ 1000 then .ok (.tup (List.replicate k.toNat xs).flatten) M else .bad
def mulL (o : Option (List D)) (k : Int) (M : Mem) : R D := match o with
  | some xs => if -(2 ^ 63) ≤ k ∧ k < 2 ^ 63 ∧ xs.length * k.toNat ≤ sizeLine then .ok (.own (List.replicate k.toNat xs).flatten) M else .bad
  | none => .bad
def mulX (a b : D) (M : Mem) : R D := match b with
  | .int k => match a with
    | .int i => if mulOk i k = true then .ok (.int (i * k)) M else .bad
    | .tup xs => mulT xs k M
    | a => mulL (trk a M) k M
  | _ => .bad
theorem mulXG {X : Cx} {W : WX} : OpG X W (rMulX X.K) mulX := by
  intro S w M H σ x y d1 d2 Q hs r1 r2 p
  cases d2 with
  | int k =>
    have ey : y = .int k := r2.int
    subst ey
    by_cases hi : ∃ i, d1 = .int i
    · obtain ⟨i, rfl⟩ := hi
      exact .inl (mulG S w M H σ x _ (.int i) (.int k) Q hs r1 r2 p)
    · by_cases ht : ∃ xs, d1 = .tup xs
      · obtain ⟨xs, rfl⟩ := ht
        have p : Pst X.K W w H σ (rlE X.K S) Q (mulT xs k M) := p
        unfold mulT at p
        split at p
        · next c =>
          obtain ⟨c1, c2, c3, c4⟩ := c
          obtain ⟨a, us, rfl, hq, q⟩ := r1.tup hs
          refine .inr (.inl ⟨a, k, us, rfl, rfl, hq, fun e => c1 ?_, c2, c3, by rw [q.length]; exact c4, fun c hc => ?_⟩)
          · subst e; cases q; rfl
          · obtain ⟨s2, y2⟩ := hs.imm (o := .tup (List.replicate k.toNat us).flatten) hc
            exact p _ _ _ y2 s2 (.inl (.tup (.of upd_same) ((q.rep k.toNat).mono y2)))
        · exact p.elim
      · have p : Pst X.K W w H σ (rlE X.K S) Q (mulL (trk d1 M) k M) := by
          cases d1 <;> first | exact p | exact absurd ⟨_, rfl⟩ hi | exact absurd ⟨_, rfl⟩ ht
        cases e1 : trk d1 M with
        | none => rw [e1] at p; exact p.elim
        | some xs =>
          rw [e1] at p
          unfold mulL at p
          simp only at p
          split at p
          · next c =>
            obtain ⟨c1, c2, c3⟩ := c
            obtain ⟨a, us, rfl, h1, q⟩ := r1.trk hs e1
            exact .inr (.inr ⟨a, k, us, rfl, rfl, h1, c1, c2, by rw [q.length]; exact c3, fun b hb => fresh_own hs (q.rep k.toNat) p hb⟩)
          · exact p.elim
  | _ => exact p.elim
section
variable (M : Mem)
@[simp] theorem mulX_int (i j) : mulX (.int i) (.int j) M = if mulOk i j = true then .ok (.int (i * j)) M else .bad := nrfl rfl
@[simp] theorem mulX_tup (xs k) : mulX (.tup xs) (.int k) M = mulT xs k M := nrfl rfl
@[simp] theorem mulX_own (xs k) : mulX (.own xs) (.int k) M = mulL (some xs) k M := nrfl rfl
@[simp] theorem mulX_brw (xs k) : mulX (.brw xs) (.int k) M = mulL (some xs) k M := nrfl rfl
end
end L3
namespace L3
open PySem PySem.Spec PyProof.Rows L2
/-! ## sep.join(generator expression) -/
theorem Room.gx3 {k : Nat} {A : Around} (r : Room (k + 1) A) (env : Env) : Room k (A.in1.in1.in1.deeper env) :=
  ⟨r.hd, by have := r.dp; show A.depth + 1 + 3 * k + 5 < _; omega, by have := r.un; show A.units + 1 + 1 + 1 + 3 + 16 * k + 200 < _; omega⟩
/-- drawn from a state with one more object -/
def GvReady3 (X : Cx) (pins : List (Addr × Obj)) (σ : L2.St) (Y0 : List V) (Fin : Hp → Prop) (a g S : Addr) (s6 : Shared) : Prop := ∃ (Xg : Cx) (go : Obj) (gs : GenState), Xg.prog = X.prog ∧ Xg.w = X.w ∧ (a, go) ∈ Xg.pn ∧ (∀ h : Heap, h.get? a = some go → h.IsGen a g) ∧ s6.heap.NoLimit ∧ s6.heap.IsGen a g ∧ s6.gens[g]? = some gs ∧
  gs.Goes (model Xg.prog Xg.w) X.A.in1.in1.in1 (fun n s₀ r s₁ => r = .ok .next ∧ gvP S Xg Fin n s₀ s₁) (gvY Xg S Y0) Y0.length (.send .none) (s6.setGen g .running) ∧ ∀ s', gvLeft Xg Fin s' → ∃ H, Inv X pins σ H s' ∧ Fin H
section
variable {X : Cx} {pins : List (Addr × Obj)} {σ : L2.St} {H : Hp} {s : Shared} {T : List Addr}
theorem gv_make3 {c P : Addr} {tg elt iter : Expr} {ifs : List Expr} {scope : Scope} {gpos : Pos} {own : List (Str × Nat)} {k : Nat} {wi : TI} {g : TG} {tt : TT} {te : TE} {Yk : List V → Prop} {Fin : List V → Hp → Prop} {Q' : Value → Shared → Prop}
    (hr : Room (k + 1) X.A) (hT : TOk T X.H_0) (hN : X.N.Nodup) (TB : GxR.TabB X.base X.mg c P) (hcode : X.env.code = .ref c) (hi : PI X tg iter wi) (ok : BlkOk X.N X.env.scope scope own) (hco : scope.isCoroutine = false) (hcell : ∀ y ∈ scope.names, y.2 ≠ .cell) (h0 : scope.names.lookup (".0" : Str) = some NameKind.local)
    (hg : ∀ (s : Shared) (H : Hp) (C : Addr) (code : Value) (fp : List Addr) (pn : List (Addr × Obj)), TOk T H → Room k (X.A.in1.in1.in1.deeper (genEnv scope (cloFrom X.env.cells scope.names []) C code builtinsNs X.env)) → PG (gxc X X.A.in1.in1.in1 s H (genEnv scope (cloFrom X.env.cells scope.names []) C code builtinsNs X.env) fp pn) tg g)
    (ht : ∀ (s : Shared) (H : Hp) (C : Addr) (code : Value) (fp : List Addr) (pn : List (Addr × Obj)), TOk T H → Room k (X.A.in1.in1.in1.deeper (genEnv scope (cloFrom X.env.cells scope.names []) C code builtinsNs X.env)) → PTs (gxc X X.A.in1.in1.in1 s H (genEnv scope (cloFrom X.env.cells scope.names []) C code builtinsNs X.env) fp pn) ifs tt)
    (he : ∀ (s : Shared) (H : Hp) (C : Addr) (code : Value) (fp : List Addr) (pn : List (Addr × Obj)), TOk T H → Room k (X.A.in1.in1.in1.deeper (genEnv scope (cloFrom X.env.cells scope.names []) C code builtinsNs X.env)) → PE (gxc X X.A.in1.in1.in1 s H (genEnv scope (cloFrom X.env.cells scope.names []) C code builtinsNs X.env) fp pn) elt te)
    (hs : ∀ v, genFold iter X.env v = pure v) (I : Inv X pins σ H s) (h : tGv P wi g tt te (own.map (·.2)) Yk Fin σ H)
    (hQ : ∀ (a g : Addr) (s5 : Shared) (Y0 : List V), Yk Y0 → s5.heap.IsGen a g → (∀ (S : Addr) (s6 : Shared), s5.heap.objs.size ≤ S → (∀ b o, s5.heap.get? b = some o → s6.heap.get? b = some o) → (∃ o, s6.heap.get? S = some o ∧ ∀ c, o.data ≠ .cell c) → s6.os = s5.os → s6.gens = s5.gens → GvReady3 X pins σ Y0 (Fin Y0) a g S s6) → Q' (.ref a) s5) :
    wpAny (model X.prog X.w) X.A (eval (.GeneratorExp elt [⟨tg, iter, ifs, 0⟩] scope gpos) X.env) Q' X.xe s := by
  have hfree : ∀ z ∈ scope.names, z.2 = .free → ∃ c, X.env.cells.lookup z.1 = some c := fun z hz e => (ok.free z hz e).elim (fun q => I.ok.has _ (.inl q)) fun q => I.ok.has _ (.inr q)
  refine wpAny_GeneratorExp_make hco (closure_ok hfree) hcell h0 ok.kind (by have := hr.dp; omega) ?_ hs
  refine thn (hi.run pins s σ H _ I h) fun xv s1 h1 => thn h1 fun itv s2 h2 => ?_
  obtain ⟨it, fp, tn, J, H2, rfl, I2, Tn, st2, f2, ps, hP, htr, q⟩ := h2
  refine ⟨I2.nolimit, ?_⟩
  have hPs : s2.heap.get? P = some { cls := .none, data := .fields ps } := I2.hok P _ hP
  have cd : PySem.W.CodeHd s2.heap c P := TB.code.keeps fun b u e => I2.bk b u e
  have cont : ∀ (code : Value) (h3 : Heap) (tk : Nat) (qs : Array Value), Heap.ExtBut P s2.heap h3 → s2.heap.objs.size ≤ h3.objs.size → h3.get? P = some { cls := .none, data := .fields qs } → (∃ more, qs = ps ++ more) → TriplesOk qs.toList →
      wpAny (model X.prog X.w) X.A (builtinsFor X.env.globals X.env.builtins) (fun bi s₄ => ∀ h', h'.Ns s₄.heap.objs.size (fun y => if y = ".0" then some (.ref it) else none) → Heap.SameBut s₄.heap.objs.size (s₄.heap.push { cls := .type "frame", data := .dict #[] }) h' →
          Q' (.ref h'.objs.size) { s₄ with
            gens := s₄.gens.push (.fresh (.compStart (.GeneratorExp elt [⟨tg, iter, ifs, 0⟩] scope gpos) 0 (.ref it) .none (genEnv scope (cloFrom X.env.cells scope.names []) s₄.heap.objs.size code bi X.env))),
            toks := s₄.toks + 1 + 1 + 1,
            heap := h'.push { cls := .type "generator", data := .fields #[.int s₄.gens.size 0, .str "<genexpr>" (s₄.toks + 1), .str (X.env.qual ++ "<genexpr>") (s₄.toks + 1 + 1)] } }) X.xe { s2 with heap := h3, toks := tk } := by
    intro code h3 tk qs hx hsz hP3 hmore hq3
    obtain ⟨more, em⟩ := hmore
    have J3 := GxR.inv_tab (more := more) (h' := h3) (g' := s2.gens) (d' := s2.drawn) (t' := tk) I2 hP (fun b u hb e => hx b u hb e) (by rw [← em]; exact hP3) I2.bare
    rw [← em] at J3
    have nP : ∀ b ∈ fp, b ≠ P := fun b hb z => by
      have := (f2 b hb).1
      rw [z, hP] at this; cases this
    have f3 : ∀ b ∈ fp, FpOk X pins (upd H2 P (.tbl qs)) b ∧ b < h3.objs.size := fun b hb => by
      refine ⟨⟨by rw [upd_ne (nP b hb)]; exact (f2 b hb).1, (f2 b hb).2⟩, ?_⟩
      obtain ⟨o, e, _⟩ := Tn.obj _ _ st2 b hb
      exact Nat.lt_of_lt_of_le (Heap.lt_size e) hsz
    have st3 : tn 0 h3 := Tn.keep _ _ _ st2 fun b hb o e => hx b o (nP b hb) e
    obtain ⟨bm, ob, e1, e2, e3, e4, e5, e6, e7, e8⟩ := TB.bm
    refine wpAny_builtinsFor (m := X.mg) (by rw [I2.ok.glob]; exact J3.mod.glob.keeps J3.bk) e1 e2 (J3.bk _ _ e5) e6 e7 e8 ?_
    intro h' hn' hs'
    obtain ⟨Y0, W, hyk, ⟨m0, w0⟩, turn⟩ := q qs hq3
    have hsz' : h'.objs.size = h3.objs.size + 1 := by rw [hs'.1, Heap.size_push]
    have kp' : ∀ b o, h3.get? b = some o → h'.get? b = some o := fun b o e => hs'.extBut b o (Nat.ne_of_lt (Heap.lt_size e)) (Heap.get?_push_of_some _ e)
    refine hQ _ s2.gens.size _ Y0 hyk ⟨_, _, _, Heap.get?_push_size _ rfl, rfl, rfl, rfl⟩ ?_
    generalize hgo : ({ cls := .type "generator", data := .fields #[.int s2.gens.size 0, .str "<genexpr>" (tk + 1), .str (X.env.qual ++ "<genexpr>") (tk + 1 + 1)] } : Obj) = go
    have hgd : go.cls = .type "generator" ∧ go.data = .fields #[.int s2.gens.size 0, .str "<genexpr>" (tk + 1), .str (X.env.qual ++ "<genexpr>") (tk + 1 + 1)] ∧ go.slots = #[] := by subst hgo; exact ⟨rfl, rfl, rfl⟩
    have hgp : (h'.push go).get? h'.objs.size = some go := by subst hgo; exact Heap.get?_push_size _ rfl
    have isG : ∀ h : Heap, h.get? h'.objs.size = some go → h.IsGen h'.objs.size s2.gens.size := fun h e => ⟨go, _, _, e, hgd.1, hgd.2.1, hgd.2.2⟩
    generalize hce : genEnv scope (cloFrom X.env.cells scope.names []) h3.objs.size code builtinsNs X.env = ce
    have cS : ce.scope = scope := by subst hce; rfl
    have kp5 : ∀ b o, h3.get? b = some o → (h'.push go).get? b = some o := fun b o e => Heap.get?_push_of_some _ (kp' b o e)
    have TO : TOk T (upd H2 P (.tbl qs)) := fun p hp => by
      obtain ⟨ps', e'⟩ := hT.at I2 p hp
      by_cases hpP : p = P
      · exact ⟨qs, by rw [hpP, upd_same]⟩
      · exact ⟨ps', by rw [upd_ne hpP]; exact e'⟩
    have rg : Room k (X.A.in1.in1.in1.deeper ce) := Room.gx3 hr ce
    intro S s6 hS6 hk6 ⟨oS, hoS, hdS⟩ hos6 hg6
    have hS6 : (h'.push go).objs.size ≤ S := hS6
    have hk6 : ∀ b o, (h'.push go).get? b = some o → s6.heap.get? b = some o := hk6
    rw [Heap.size_push] at hS6
    have I5 : Inv (gxc X X.A.in1.in1.in1 { s2 with heap := h3, toks := tk } (upd H2 P (.tbl qs)) ce fp [(h'.objs.size, go)]) [] (wipe σ (own.map (·.2))) (upd H2 P (.tbl qs))
        { s2 with heap := h'.push go, gens := s2.gens.push (.fresh (.compStart (.GeneratorExp elt [⟨tg, iter, ifs, 0⟩] scope gpos) 0 (.ref it) .none ce)), toks := tk + 1 + 1 + 1 } := by
      rw [← hce]
      have lt9 : h3.objs.size < h'.objs.size := by rw [hsz']; exact Nat.lt_succ_self _
      have b9 : AllBare (s2.gens.push (.fresh (.compStart (.GeneratorExp elt [⟨tg, iter, ifs, 0⟩] scope gpos) 0 (.ref it) .none (genEnv scope (cloFrom X.env.cells scope.names []) h3.objs.size code builtinsNs X.env)))) := AllBare.push I2.bare rfl
      exact gx_start (s := { s2 with heap := h3, toks := tk }) (go := go) (a := h'.objs.size) (A := X.A.in1.in1.in1) rfl hr.hd J3 ok hcell hN f3 kp5 (hn'.push _) rfl b9 hgp lt9 fun v z => by rw [hgd.2.1] at z; cases z
    generalize hs5 : ({ s2 with heap := h'.push go, gens := s2.gens.push (.fresh (.compStart (.GeneratorExp elt [⟨tg, iter, ifs, 0⟩] scope gpos) 0 (.ref it) .none ce)), toks := tk + 1 + 1 + 1 } : Shared) = s5 at I5
    have hg5 : s5.gens[s2.gens.size]? = some (.fresh (.compStart (.GeneratorExp elt [⟨tg, iter, ifs, 0⟩] scope gpos) 0 (.ref it) .none ce)) := by rw [← hs5]; exact Array.getElem?_push_size ..
    have hi5 : s5.heap.IsGen h'.objs.size s2.gens.size := isG _ (by rw [← hs5]; exact hgp)
    have hg65 : s6.gens = s5.gens := by rw [← hs5]; exact hg6
    have ho65 : s6.os = s5.os := by rw [← hs5]; exact hos6
    have hk65 : ∀ b o, s5.heap.get? b = some o → s6.heap.get? b = some o := by rw [← hs5]; exact hk6
    have hg6' : s6.gens[s2.gens.size]? = some (.fresh (.compStart (.GeneratorExp elt [⟨tg, iter, ifs, 0⟩] scope gpos) 0 (.ref it) .none ce)) := by rw [hg65]; exact hg5
    have st5 : tn 0 s6.heap := Tn.keep _ _ _ st3 fun b _ o e => hk6 b o (kp5 b o e)
    have n5 : ∀ b ∈ fp, (upd H2 P (.tbl qs)) b = none := fun b hb => (f3 b hb).1.1
    have I6 : Inv (gxc X X.A.in1.in1.in1 { s2 with heap := h3, toks := tk } (upd H2 P (.tbl qs)) ce fp [(h'.objs.size, go)]) [] (wipe σ (own.map (·.2))) (upd H2 P (.tbl qs)) (s6.setGen s2.gens.size .running) :=
      I5.call' (ch := []) ho65 (Un.kept hk65) (I5.hok.kept hk65) (allBare_setGen (by rw [hg65]; exact I5.bare) rfl) fun b z => by simp at z
    have S3 : h3.objs.size < S := by omega
    have hcl : ∀ x c', ce.cells.lookup x = some c' → c' ≠ S := fun x c' e z => by
      obtain ⟨v, hv⟩ := I5.cell x c' e
      have := hv.lt
      rw [← hs5] at this
      have this : c' < (h'.push go).objs.size := this
      rw [Heap.size_push] at this
      rw [z] at this
      exact Nat.lt_irrefl _ (Nat.lt_of_lt_of_le this hS6)
    have S5 : s5.heap.objs.size ≤ S := by rw [← hs5]; show (h'.push go).objs.size ≤ S; rw [Heap.size_push]; exact hS6
    have I7 : Inv (gxc X X.A.in1.in1.in1 { s2 with heap := h3, toks := tk } (upd H2 P (.tbl qs)) ce fp [(h'.objs.size, go)]) [(S, oS)] (wipe σ (own.map (·.2))) (upd H2 P (.tbl qs)) (s6.setGen s2.gens.size .running) := by
      refine I6.pins_of fun p hp => ?_
      have e : p = (S, oS) := by simpa using hp
      subst e
      refine ⟨hoS, I5.hok.fresh S5, ?_, fun z => ?_, hdS⟩
      · show S ≠ ce.locals
        have e9 : ce.locals = h3.objs.size := by rw [← hce]; rfl
        rw [e9]; exact Nat.ne_of_gt S3
      · have z : S ∈ frs X.stack := z
        rcases List.mem_cons.mp (J3.stkSub S z) with z | z
        · have := J3.lt
          have this : X.env.locals < h3.objs.size := this
          rw [z] at S3
          exact Nat.lt_irrefl _ (Nat.lt_trans S3 this)
        · obtain ⟨_, o, ho, _⟩ := J3.funs.mem z
          have := Heap.lt_size ho
          have this : S < h3.objs.size := this
          exact Nat.lt_irrefl _ (Nat.lt_trans S3 this)
    have hSf : S ∉ fp := fun hb => Nat.lt_irrefl _ (Nat.lt_trans S3 (f3 S hb).2)
    have loop := seg_gv (Xg := gxc X X.A.in1.in1.in1 { s2 with heap := h3, toks := tk } (upd H2 P (.tbl qs)) ce fp [(h'.objs.size, go)]) (A := X.A.in1.in1.in1) (scope := scope) (pos := gpos) (it := it) (iter := iter) (S := S) rfl rfl rfl (by show ce.scope.isCoroutine = false; rw [cS]; exact hco) (fun b hb => hb)
      (fun b hb p hp => by
        have e : p = (h'.objs.size, go) := by simpa using hp
        rw [e]
        have q := (f3 b hb).2
        exact Nat.ne_of_gt (Nat.lt_trans q (by rw [hsz']; exact Nat.lt_succ_self _))) hSf (fun p hp => by
        have e : p = (h'.objs.size, go) := by simpa using hp
        rw [e]
        show h'.objs.size ≠ S
        exact Nat.ne_of_lt (Nat.lt_of_lt_of_le (Nat.lt_succ_self _) hS6)) (Nat.le_of_lt S3) hcl Tn (by rw [← hce] at rg ⊢; exact hg _ _ _ _ _ _ TO rg) (by rw [← hce] at rg ⊢; exact ht _ _ _ _ _ _ TO rg) (by rw [← hce] at rg ⊢; exact he _ _ _ _ _ _ TO rg) turn m0 Y0.length 0 (s6.setGen s2.gens.size .running) (s6.setGen s2.gens.size .running) _ oS w0 I7 hoS st5 n5
    refine ⟨gxc X X.A.in1.in1.in1 { s2 with heap := h3, toks := tk } (upd H2 P (.tbl qs)) ce fp [(h'.objs.size, go)], go, .fresh (.compStart (.GeneratorExp elt [⟨tg, iter, ifs, 0⟩] scope gpos) 0 (.ref it) .none ce), rfl, rfl, List.mem_cons_self, isG, ?_, ?_, hg6', ⟨rfl, seg_gx0 (Xg := gxc X X.A.in1.in1.in1 { s2 with heap := h3, toks := tk } (upd H2 P (.tbl qs)) ce fp [(h'.objs.size, go)]) Tn (s := s6.setGen s2.gens.size .running) st5 loop⟩, fun s' ⟨s1', σ', H', pins', I', fq, ho, hk, hbr⟩ => ?_⟩
    · exact I6.nolimit
    · obtain ⟨o, i1, i2, z⟩ := hi5
      exact ⟨o, i1, i2, hk65 _ _ z.1, z.2⟩
    · refine ⟨H', J3.call' (ch := fp) (ho.trans I'.os) (I'.base.trans (Un.kept hk)) (I'.hok.kept hk) hbr fun b hb => ?_, fq⟩
      obtain ⟨_, z1, z2, z3, z4, z5⟩ := (f3 b hb).1
      exact ⟨z3, z1, z4, z5⟩
  cases hf : codeAmong gpos ps.toList with
  | none =>
    refine wpAny_genexprCodeX hcode (cd.code hPs htr) (cd.tab hPs) hf fun c' h' tk hx hge hlt hco' _ htab' _ => ?_
    obtain ⟨o1, vs, f1, tf, fl, tg', inF, tx, tt', op, _, _, _, _, _, _, _, _, _, htr', _⟩ := hco'
    exact cont _ h' tk _ hx (Nat.le_trans hge (Nat.le_of_lt hlt)) htab'.2 ⟨_, rfl⟩ htr'
  | some cv =>
    refine wpAny_genexprCode_hit hcode (cd.code hPs htr) hf ?_
    exact cont cv s2.heap s2.toks ps (Heap.ExtBut.refl _ _) (Nat.le_refl _) hPs ⟨#[], by simp⟩ htr
end

/-- list.extend.loop over it -/
theorem strValues_snoc (l : List (Str × Tok)) (y : Str) (t : Tok) : strValues (l ++ [(y, t)]) = strValues l ++ [Value.str y t] := by
  unfold strValues; rw [List.map_append]; rfl
theorem gv_extend {Xg : Cx} {A : Around} {a S : Addr} {g : Nat} {go : Obj} {Fin : Hp → Prop} {ys : List Str} (hh : A.handled = none) (hd : A.depth < recursionLimit) (hg : ∀ h : Heap, h.get? a = some go → h.IsGen a g) (hpn : (a, go) ∈ Xg.pn) (haS : a ≠ S) (hz : ys.length ≤ sizeLine) :
    ∀ (n : Nat) (s : Shared) (gs : GenState) (l : List (Str × Tok)) (acc : Array Value) (c : Nat), n ≤ ys.length → acc = (strValues l).toArray → s.heap.NoLimit → s.heap.IsGen a g → s.gens[g]? = some gs →
    s.heap.get? S = some { cls := .type "list", dict := none, data := .seq acc c, slots := #[] } → l.map (·.1) = ys.take (ys.length - n) →
    gs.Goes (model Xg.prog Xg.w) A.in1.in1 (fun n s₀ r s₁ => r = .ok .next ∧ gvP S Xg Fin n s₀ s₁) (gvY Xg S (ys.map V.str)) n (.send .none) (s.setGen g .running) →
    codeAny (model Xg.prog Xg.w) A (.builtin "list.extend.loop" ⟨[.ref S, .ref a, .ref S], []⟩) (fun r s' => r = .ok (.ret (.ref S)) ∧ ∃ l' c', l'.map (·.1) = ys ∧ s'.heap.get? S = some { cls := .type "list", dict := none, data := .seq (strValues l').toArray c', slots := #[] } ∧ gvLeft Xg Fin s') s := by
  intro n
  induction n using Nat.strongRecOn with
  | _ n ih =>
  intro s gs l acc c hnl hacc hl hig hgs hS hlm hgo
  have hll : l.length = ys.length - n := by
    have := congrArg List.length hlm
    rw [List.length_map, List.length_take] at this
    omega
  refine codeAny_builtin F.entry_extend_loop ?_
  rw [Around.under_plainId F.plain_extend_loop _]
  show wpAny _ A.in1 (pyNext (.ref a) >>= _) _ _ s
  refine wpAny_bind (GenW.wpAny_gsz (lt_gens hgs) (wpAny_pyNext_genexpQ (A := A.in1) (P := gvP S Xg Fin) (Y := gvY Xg S (ys.map V.str)) hh hl hd hig hgs hgo (fun v s1 gs' hb hv hsz => ?_) fun s1 hp h' hk _ => ?_))
  · obtain ⟨u, σ, H, pins, ru, hkl, hu, I, hkeep, k⟩ := hv
    rw [List.length_map] at hkl hu
    cases n with
    | zero => exact absurd (k s1 (fun b o _ e => e) ⟨_, hkeep _ hS, fun c => by intro z; cases z⟩ rfl I.bare) (fun z => z)
    | succ n =>
      have hn1 : n + 1 - 1 = n := rfl
      rw [hn1] at hu hkl
      have hix : ys.length - 1 - n < ys.length := by omega
      rw [List.getElem?_map, List.getElem?_eq_getElem hix] at hu
      have hu : V.str ys[ys.length - 1 - n] = u := Option.some.inj hu
      subst hu
      obtain ⟨t, rfl⟩ := (show ∃ t, v = Value.str ys[ys.length - 1 - n] t from ru)
      have hS1 := hkeep _ hS
      have hS1' : (s1.setGen g gs').heap.get? S = some { cls := .type "list", dict := none, data := .seq acc c, slots := #[] } := hS1
      show wpAny _ A.in1 (updateSeq S (·.push (Value.str ys[ys.length - 1 - n] t)) >>= _) _ _ _
      refine wpAny_bind ?_
      have em : (l ++ [(ys[ys.length - 1 - n], t)]).map (·.1) = ys.take (ys.length - n) := by
        have e : ys.length - n = (ys.length - (n + 1)) + 1 := by omega
        rw [List.map_append, hlm, e, List.take_add_one]
        have e2 : ys.length - (n + 1) = ys.length - 1 - n := by omega
        rw [e2, List.getElem?_eq_getElem hix]
        rfl
      have hk' : ∀ b o, b ≠ S → s1.heap.get? b = some o → ((s1.setGen g gs').heap.update S (Obj.mapSeq (·.push (Value.str ys[ys.length - 1 - n] t)))).get? b = some o := fun b o hb e => (Heap.get?_update_other _ _ (Ne.symm hb)).trans e
      have hS2 := Heap.get?_update_self (Obj.mapSeq (·.push (Value.str ys[ys.length - 1 - n] t))) hS1' rfl
      have hz2 : acc.size + 1 ≤ sizeLine := by
        rw [hacc]
        have : (strValues l).length = l.length := by unfold strValues; rw [List.length_map]
        simp [this]
        omega
      have bare2 : AllBare ((s1.setGen g gs').setGen g .running).gens := allBare_setGen (allBare_setGen I.bare hb) rfl
      have lim2 : ((s1.setGen g gs').heap.update S (Obj.mapSeq (·.push (Value.str ys[ys.length - 1 - n] t)))).NoLimit := by
        have pinl := I.nolimit
        obtain ⟨mc, hns, hm⟩ := pinl
        refine ⟨mc, ?_, hm⟩
        obtain ⟨o, es', ep, ho, r⟩ := hns
        refine ⟨o, es', ep, hk' _ _ (fun z => ?_) ho, r⟩
        rw [z, hS1] at ho
        cases ho
        cases r.1
      refine wpAny_updateSeq hS1' rfl (wpAny_pure ⟨plainId_quiet F.plain_extend_loop _, ih n (Nat.lt_succ_self n) _ gs' (l ++ [(ys[ys.length - 1 - n], t)]) (acc.push (Value.str ys[ys.length - 1 - n] t)) _ (by omega) (by rw [hacc, strValues_snoc]; simp) lim2 ?_ (get_setGen hsz) (Heap.get?_update_self _ hS1' rfl) em ?_⟩) (by omega) (by show (acc.push _).size ≤ sizeLine + 1; rw [Array.size_push]; omega)
      · exact hg _ (hk' _ _ haS (I.pin (a, go) (List.mem_append_left _ hpn)).1)
      · exact k ({ (s1.setGen g gs') with heap := (s1.setGen g gs').heap.update S (Obj.mapSeq (·.push (Value.str ys[ys.length - 1 - n] t))) }.setGen g .running) hk' ⟨_, Heap.get?_update_self _ hS1' rfl, fun c => by intro z; cases z⟩ rfl bare2
  · obtain ⟨hn0, ⟨σ, H, pins, I, f⟩, hkeep⟩ := hp
    subst hn0
    refine wpAny_pure ⟨rfl, l, c, ?_, by rw [← hacc]; exact hk _ _ (hkeep _ hS), s1, σ, H, pins, I, f, rfl, hk, allBare_setGen I.bare rfl⟩
    rw [hlm]; simp
section
variable {X : Cx} {pins : List (Addr × Obj)} {σ : L2.St} {H : Hp} {s : Shared} {T : List Addr}
/-- the items collected -/
theorem gv_collect {E : Value → Shared → Prop} {Q : List Value → Shared → Prop} {a g : Nat} {ys : List Str} {Fin : Hp → Prop} (hh : X.A.handled = none) (hd : X.A.depth < recursionLimit) (hz : ys.length ≤ sizeLine) (hig : s.heap.IsGen a g)
    (hk : ∀ (S : Addr) (s6 : Shared), s.heap.objs.size ≤ S → (∀ b o, s.heap.get? b = some o → s6.heap.get? b = some o) → (∃ o, s6.heap.get? S = some o ∧ ∀ c, o.data ≠ .cell c) → s6.os = s.os → s6.gens = s.gens → GvReady3 X pins σ (ys.map V.str) Fin a g S s6)
    (hQ : ∀ (l : List (Str × Tok)) (s' : Shared), l.map (·.1) = ys → (∃ H, Inv X pins σ H s' ∧ Fin H) → Q (strValues l) s') : wpAny (model X.prog X.w) X.A.in1 (collect (.ref a)) Q E s := by
  have hSI : s.heap.objs.size ≠ a := fun e => by
    obtain ⟨o, _, _, ho, _⟩ := hig
    rw [← e] at ho
    exact Nat.lt_irrefl _ (Heap.lt_size ho)
  unfold collect
  refine wpAny_bind (wpAny_runValue (codeAny_builtin F.entry_proto_collect ?_))
  rw [Around.under_plainId F.plain_proto_collect _]
  show wpAny _ X.A.in1.in1 (newList [] >>= fun l => again (.builtin "list.__iadd__" ⟨[l, .ref a], []⟩)) _ _ s
  refine wpAny_bind (wpAny_newObj_type ?_)
  refine wpAny_pure ⟨plainId_quiet F.plain_list_iadd _, codeAny_builtin F.entry_list_iadd ?_⟩
  rw [Around.under_plainId F.plain_list_iadd _]
  have hig1 : (s.heap.push { cls := .type "list", data := .seq ([] : List Value).toArray }).IsGen a g := hig.push _
  show wpAny _ X.A.in1.in1 (Builtin.List.listExtendWith (.ref s.heap.objs.size) (.ref a) (.ref s.heap.objs.size)) _ _ _
  unfold Builtin.List.listExtendWith
  have hT1 : ({ s with heap := s.heap.push { cls := .type "list", data := .seq ([] : List Value).toArray } } : Shared).TypeIs (.ref a) "generator" := Heap.IsGen.typeIs (s := { s with heap := s.heap.push { cls := .type "list", data := .seq ([] : List Value).toArray } }) hig1
  refine wpAny_bind (wpAny_typeOf hT1 ?_)
  have h1 : Builtin.List.listSameRef (.ref s.heap.objs.size) (.ref a) = false := by simp [Builtin.List.listSameRef, hSI]
  have h2 : (Value.type "generator" == Value.type "list") = false := by decide
  have h3 : (Value.type "generator" == Value.type "tuple") = false := by decide
  simp only [h1, h2, h3, Bool.or_false, Bool.false_eq_true, if_false]
  refine wpAny_bind (wpAny_pyIter_gen hig1 ?_)
  refine wpAny_bind (wpAny_holding ?_)
  unfold Builtin.List.listLengthHint
  refine wpAny_bind (wpAny_specialOf hT1 F.gen_no_len ?_)
  show wpAny _ X.A.in1.in1 (specialOf (Value.ref a) (Str.ofString "__length_hint__") >>= _) _ _ _
  refine wpAny_bind (wpAny_specialOf hT1 F.gen_no_hint ?_)
  refine wpAny_pure ?_
  show wpAny _ X.A.in1.in1 (rule "list.extend.makes-room" >>= fun _ => Builtin.List.listTouch (.ref s.heap.objs.size) >>= fun _ =>
    again (.builtin "list.extend.loop" ⟨[.ref s.heap.objs.size, .ref a, .ref s.heap.objs.size], []⟩)) _ _ _
  refine wpAny_bind (wpAny_rule ?_)
  have hS₁ : (s.heap.push { cls := .type "list", data := .seq ([] : List Value).toArray }).get? s.heap.objs.size = some { cls := .type "list", data := .seq ([] : List Value).toArray } := Heap.get?_push_size _ rfl
  refine wpAny_bind ?_
  show wpAny _ X.A.in1.in1 (updateSeq s.heap.objs.size (·.push .none) >>= fun _ => updateSeq s.heap.objs.size (·.pop)) _ _ _
  refine wpAny_bind (wpAny_updateSeq hS₁ rfl ?_)
  have hS₂ := Heap.get?_update_self (Obj.mapSeq (·.push Value.none)) hS₁ rfl
  refine wpAny_updateSeq hS₂ rfl ?_
  have hS₃ := Heap.get?_update_self (Obj.mapSeq (·.pop)) hS₂ rfl
  have oth : ∀ b o, s.heap.get? b = some o →
      (((s.heap.push { cls := .type "list", data := .seq ([] : List Value).toArray }).update s.heap.objs.size (Obj.mapSeq (·.push Value.none))).update s.heap.objs.size (Obj.mapSeq (·.pop))).get? b = some o := fun b o e => by
    have hb : b ≠ s.heap.objs.size := Nat.ne_of_lt (Heap.lt_size e)
    exact (Heap.get?_update_other _ _ (Ne.symm hb)).trans ((Heap.get?_update_other _ _ (Ne.symm hb)).trans (Heap.get?_push_of_some _ e))
  obtain ⟨Xg, go, gs, hp, hw, hpn, isG, nl, ig, hgs, goes, back⟩ := hk s.heap.objs.size { s with heap := ((s.heap.push { cls := .type "list", data := .seq ([] : List Value).toArray }).update s.heap.objs.size (Obj.mapSeq (·.push Value.none))).update s.heap.objs.size (Obj.mapSeq (·.pop)) } (Nat.le_refl _) oth ⟨_, hS₃, fun c => by intro z; cases z⟩ rfl rfl
  have gv := gv_extend (Xg := Xg) (A := X.A.in1) (S := s.heap.objs.size) (Fin := Fin) (ys := ys) hh hd isG hpn (Ne.symm hSI) hz ys.length _ gs [] #[] _ (Nat.le_refl _) rfl nl ig hgs hS₃ (by simp) (by rw [List.length_map] at goes; exact goes)
  rw [hp, hw] at gv
  refine wpAny_pure ⟨plainId_quiet F.plain_extend_loop _, codeAny_mono gv fun r s' ⟨er, l', c', el, hS', left⟩ => ?_⟩
  subst er
  show wpAny _ X.A.in1 (load s.heap.objs.size >>= _) _ _ s'
  refine wpAny_bind (wpAny_load hS' ?_)
  refine wpAny_pure ?_
  exact hQ l' s' el (back s' left)
end
section
variable {X : Cx} {pins : List (Addr × Obj)} {σ : L2.St} {H : Hp} {s : Shared} {T : List Addr}
def tJoinGx (P : Addr) (to : TE) (wi : TI) (g : TG) (tt : TT) (te : TE) (vs : List Nat) : TE := fun σ H Q => to σ H fun v H1 => ∃ sep : Str, v = .str sep ∧ tGv P wi g tt te vs (fun Y0 => ∃ ys : List Str, Y0 = ys.map V.str ∧ ys.length ≤ sizeLine ∧ JoinOk sep ys = true) (fun Y0 H' => ∀ ys : List Str, Y0 = ys.map V.str → Q (.str (Txt.join sep ys)) H') σ H1
theorem str_inj {a b : List Str} (h : a.map V.str = b.map V.str) : a = b := map_inj' (fun x y h => V.str.inj h) h
theorem pe_joinGx {c P : Addr} {o tg elt iter : Expr} {ifs : List Expr} {scope : Scope} {gpos apos cpos : Pos} {own : List (Str × Nat)} {k : Nat} {wi : TI} {g : TG} {tt : TT} {te to : TE}
    (hr : Room (k + 1) X.A) (hT : TOk T X.H_0) (hN : X.N.Nodup) (TB : GxR.TabB X.base X.mg c P) (hcode : X.env.code = .ref c) (ho : PE X o to) (hi : PI X tg iter wi) (ok : BlkOk X.N X.env.scope scope own) (hco : scope.isCoroutine = false) (hcell : ∀ y ∈ scope.names, y.2 ≠ .cell) (h0 : scope.names.lookup (".0" : Str) = some NameKind.local)
    (hg : ∀ (s : Shared) (H : Hp) (C : Addr) (code : Value) (fp : List Addr) (pn : List (Addr × Obj)), TOk T H → Room k (X.A.in1.in1.in1.deeper (genEnv scope (cloFrom X.env.cells scope.names []) C code builtinsNs X.env)) → PG (gxc X X.A.in1.in1.in1 s H (genEnv scope (cloFrom X.env.cells scope.names []) C code builtinsNs X.env) fp pn) tg g)
    (ht : ∀ (s : Shared) (H : Hp) (C : Addr) (code : Value) (fp : List Addr) (pn : List (Addr × Obj)), TOk T H → Room k (X.A.in1.in1.in1.deeper (genEnv scope (cloFrom X.env.cells scope.names []) C code builtinsNs X.env)) → PTs (gxc X X.A.in1.in1.in1 s H (genEnv scope (cloFrom X.env.cells scope.names []) C code builtinsNs X.env) fp pn) ifs tt)
    (hel : ∀ (s : Shared) (H : Hp) (C : Addr) (code : Value) (fp : List Addr) (pn : List (Addr × Obj)), TOk T H → Room k (X.A.in1.in1.in1.deeper (genEnv scope (cloFrom X.env.cells scope.names []) C code builtinsNs X.env)) → PE (gxc X X.A.in1.in1.in1 s H (genEnv scope (cloFrom X.env.cells scope.names []) C code builtinsNs X.env) fp pn) elt te)
    (hs : ∀ v, genFold iter X.env v = pure v := by intro _; rfl)
    (he : starEach [.GeneratorExp elt [⟨tg, iter, ifs, 0⟩] scope gpos] X.env = (false, eval (.GeneratorExp elt [⟨tg, iter, ifs, 0⟩] scope gpos) X.env) :: starEach [] X.env := by rfl) (hbase : attributeBase o "join" X.env (eval o X.env) = eval o X.env := by rfl)
    (hfew : ((backTo cpos (starEach [.GeneratorExp elt [⟨tg, iter, ifs, 0⟩] scope gpos] X.env)).all (fun x => !x.1) && (backToKw cpos (keywordEach [] X.env)).all (fun x => x.1.isSome)
      && decide (([.GeneratorExp elt [⟨tg, iter, ifs, 0⟩] scope gpos] : List Expr).length + ([] : List Keyword).length + (if ([] : List Keyword).isEmpty then 0 else 1) < 30)) = true := by rfl)
    (hline : (apos.endLine == cpos.line) = true := by rfl) (hplain : (backTo cpos (starEach [] X.env)).any (·.1) = false := by rfl) :
    PE X (.Call (.Attribute o "join" apos) [.GeneratorExp elt [⟨tg, iter, ifs, 0⟩] scope gpos] [] cpos) (tJoinGx P to wi g tt te (own.map (·.2))) := by
  refine ⟨fun pins s σ H Q I h => ?_⟩
  refine wpAny_Call_method_late hbase hfew hline rfl (thn (ho.run pins s σ H _ I h) fun v s1 ⟨x', H1, I1, r1, sep, ex, q1⟩ => ?_)
  subst ex
  obtain ⟨tk, rfl⟩ := (show ∃ t, v = Value.str sep t from r1)
  refine ⟨"str", _, PySem.F.plainAttrs_str, PySem.F.slot_str_join, PySem.F.type_str_join, typeIs_str _ _ _, (fun _ e => nomatch e), ?_⟩
  rw [he]
  refine Calls.callWith_builtin (by show (false || (backTo cpos (starEach [] X.env)).any (·.1)) = false; rw [hplain] <;> rfl) (Calls.evalArgs_plain ?_)
  show wpAny _ _ (spliced ((false, eval (.GeneratorExp elt [⟨tg, iter, ifs, 0⟩] scope gpos) X.env) :: backTo cpos (starEach [] X.env))) _ _ s1
  refine Calls.spliced_cons (gv_make3 hr hT hN TB hcode hi ok hco hcell h0 hg ht hel hs I1 q1 fun a g s5 Y0 hy hig hk => ?_)
  refine Calls.spliced_nil ?_
  obtain ⟨ys, rfl, hz, hjok⟩ := hy
  refine wpAny_call (codeAny_call_builtin F.slot_str_join.plain F.entry_str_join (F.slot_str_join.check _ _ _ _ _ _ _ _ (typeIs_str _ _ _) (F.args_str_join_2 _ _) ?_))
  show wpAny _ _ (Builtin.«str.join» ⟨[.str sep tk, .ref a], []⟩) _ _ s5
  rw [join_tree_other]
  refine wpAny_bind (wpAny_typeOf hig.typeIs ?_)
  show wpAny _ X.A.in1 ((pyIter (.ref a)).tryCatch _ >>= fun it => collect it >>= fun items => joinTail sep items) _ _ s5
  refine wpAny_bind (wpAny_tryCatch (wpAny_pyIter_gen hig ?_))
  refine wpAny_bind (gv_collect hr.hd hr.depth hz hig hk fun l s' el ⟨H', I', q⟩ => ?_)
  have hok : JoinOk sep (l.map (·.1)) = true := by rw [el]; exact hjok
  unfold JoinOk at hok
  rw [Bool.not_eq_true'] at hok
  have hpost : ∀ t' k, EP X pins σ Q (.str (Txt.join sep (l.map (·.1))) t') { s' with toks := k } := fun t' k => by
    rw [el]
    exact ⟨.str _, H', I'.tok k, ⟨t', rfl⟩, q ys rfl⟩
  have gg : Gives (joinTail sep (strValues l)) (PySem.joinMade sep l) := by
    have g0 := gives_joinTail sep l hok
    cases l with
    | nil => exact g0
    | cons p r => cases r with
      | nil => exact g0
      | cons q r' => exact g0
  exact gg X.prog X.w X.A (wants (EP X pins σ Q) X.xe) s' (PySem.post_join l ⟨joinFit_length hok, hpost⟩)
end
/-! ### the meaning -/
def strOf1 : D → Option Str
  | .str y => some y
  | _ => none
def strsOf : List D → Option (List Str)
  | [] => some []
  | d :: r => match strOf1 d, strsOf r with
    | some y, some ys => some (y :: ys)
    | _, _ => none
theorem strsOf_map : ∀ ys : List Str, strsOf (ys.map D.str) = some ys
  | [] => rfl
  | y :: r => by rw [List.map_cons]; unfold strsOf; rw [strsOf_map r]; rfl
theorem strsOf_eq : ∀ {ds : List D} {ys : List Str}, strsOf ds = some ys → ds = ys.map D.str
  | [], ys, h => by cases h; rfl
  | d :: r, ys, h => by
    unfold strsOf at h
    cases d with
    | str y =>
      cases hr : strsOf r with
      | none => rw [hr] at h; cases h
      | some zs => rw [hr] at h; cases h; rw [strsOf_eq hr]; rfl
    | _ => cases h
def joinY (sep : Str) (ys : List D) (M : Mem) : R D := match strsOf ys with
  | some ns => if ns.length ≤ sizeLine ∧ JoinOk sep ns = true then .ok (.str (Txt.join sep ns)) M else .bad
  | none => .bad
def joinG (it : SA) (g : SG) (t : SB) (f : SE) (vs : List Nat) (e : En) (d : D) (M : Mem) : R D := match d with
  | .str sep => (it e M).bind fun ds M => (gvL g t f ds (wipeE e vs) M).bind (joinY sep)
  | _ => .bad
def sJoinGx (fo : SE) (it : SA) (g : SG) (t : SB) (f : SE) (vs : List Nat) : SE := fun e M => (fo e M).bind (joinG it g t f vs e)
section
variable {X : Cx} {W : WX} {T : List Addr}
theorem tJoin_of0 {sep : Str} {it : SA} {g : SG} {t : SB} {f : SE} {is vs : List Nat} {tt : TG} {σ : L2.St} {H : Hp} {Q : VK} {K : PySem.W.Frag} {P : Addr} (hP : P ∈ T) (kg : KG K tt is g) (hv : ∀ i ∈ is, i ∈ vs)
    (q : tE K W (fun e M => (it e M).bind fun ds M => (gvL g t f ds (wipeE e vs) M).bind (joinY sep)) σ H Q) : tGv P (fun σ H R => tG K W (fun _ => rlI K) it σ H fun J H1 => TOk T H1 → R J H1) tt (tB K W0 t) (tE K W0 f) vs (fun Y0 => ∃ ys : List Str, Y0 = ys.map V.str ∧ ys.length ≤ sizeLine ∧ JoinOk sep ys = true) (fun Y0 H' => ∀ ys : List Str, Y0 = ys.map V.str → Q (.str (Txt.join sep ys)) H') σ H :=
  tG.step (k := fun e ds M => (gvL g t f ds (wipeE e vs) M).bind (joinY sep)) (fun _ => bkE) q fun S w0 e w1 M1 H1 J ds s1 sx1 x1 r p hTO => by
    obtain ⟨ps, hps⟩ := hTO P hP
    obtain ⟨htr, _, _⟩ := s1.tabs P ps hps
    refine ⟨ps, hps, htr, fun qs hq => ?_⟩
    obtain ⟨s2, y2⟩ := s1.grown hps hq
    have r : ItOk K w1 J ds := r
    cases hl : gvL g t f ds (wipeE e vs) M1 with
    | bad => rw [hl] at p; exact p.elim
    | exc C fs M2 => exact absurd hl (gvL_noexc _ _ _ _ _ _)
    | ok ysF MF =>
      rw [hl, R.bind_ok] at p
      unfold joinY at p
      cases hi : strsOf ysF with
      | none => rw [hi] at p; exact p.elim
      | some ns =>
        rw [hi] at p
        have p : Pst K W w1 H1 σ (rlE K S) Q (if ns.length ≤ sizeLine ∧ JoinOk sep ns = true then .ok (.str (Txt.join sep ns)) MF else .bad) := p
        by_cases hc : ns.length ≤ sizeLine ∧ JoinOk sep ns = true
        case neg => rw [if_neg hc] at p; exact p.elim
        rw [if_pos hc] at p
        have ey := strsOf_eq hi
        subst ey
        refine ⟨ns.map V.str, fun i m n H => m = ds.length - i ∧ i ≤ ds.length ∧ n ≤ ns.length ∧ ∃ (w : Wd) (M : Mem), HS K w M H ∧ Ext All w1 H1 w H ∧ gvL g t f (ds.drop i) (wipeE e vs) M = .ok ((ns.drop (ns.length - n)).map D.str) MF, ⟨ns, rfl, hc.1, hc.2⟩, ⟨ds.length, by simp, Nat.zero_le _, by simp, w1, M1, s2, y2, by simpa using hl⟩, ?_⟩
        rintro i m n H2 ⟨rfl, hi, hn, w2, M2, s2, x2, e2⟩
        obtain ⟨ri, rs⟩ := r w2 M2 H2 x2.b x2.r s2
        by_cases hlt : i < ds.length
        · refine .inr ⟨(ri i ds[i] (by simp [hlt])).1, fun n' H3 => n' ≤ ns.length ∧ ∃ (w : Wd) (M : Mem), HS K w M H3 ∧ Ext All w1 H1 w H3 ∧ gvL g t f (ds.drop (i + 1)) (wipeE e vs) M = .ok ((ns.drop (ns.length - n')).map D.str) MF, fun n' H3 h => ⟨ds.length - (i + 1), by omega, rfl, hlt, h⟩, fun y H3 hy => ?_⟩
          obtain ⟨w3, s3, x3, rd⟩ := (ri i ds[i] (by simp [hlt])).2 y H3 hy
          rw [drop_cons hlt] at e2
          unfold gvL at e2
          have x13 := x2.trans x3
          have sx3 : SX K S w3 H3 (wipe σ vs) (wipeE e vs) := (sx1.mono x13).wipe vs
          cases hgd : g ds[i] (wipeE e vs) with
          | none => simp only [hgd] at e2; cases e2
          | some e3 =>
            simp only [hgd] at e2
            refine kg w3 M2 H3 (wipe σ vs) (wipeE e vs) y ds[i] e3 _ s3 rd hgd fun σ4 z4 => ⟨by rw [z4.wipe hv, wipe_wipe], S, w3, e3, M2, s3, z4.sx sx3, ?_⟩
            cases ht : t e3 M2 with
            | bad => simp only [ht] at e2; cases e2
            | exc C fs M4 => simp only [ht] at e2; cases e2
            | ok k M4 =>
              simp only [ht] at e2
              intro w4 H4 k' x4 s4 rk
              have rk : k' = k := rk
              subst rk
              have x14 := x13.trans x4
              cases k' with
              | false =>
                simp only [Bool.false_eq_true, if_false] at e2 ⊢
                exact ⟨hn, w4, M4, s4, x14, e2⟩
              | true =>
                simp only [if_true] at e2 ⊢
                refine ⟨S, w4, e3, M4, s4, (z4.sx sx3).mono x4, ?_⟩
                cases hf : f e3 M4 with
                | bad => simp only [hf] at e2; cases e2
                | exc C fs M5 => simp only [hf] at e2; cases e2
                | ok d M5 =>
                  simp only [hf] at e2
                  cases hr : gvL g t f (ds.drop (i + 1)) (wipeE e vs) M5 with
                  | bad => simp only [hr] at e2; cases e2
                  | exc C fs M6 => exact absurd hr (gvL_noexc _ _ _ _ _ _)
                  | ok ys M6 =>
                    simp only [hr] at e2
                    have e3' : d :: ys = (ns.drop (ns.length - n)).map D.str ∧ M6 = MF := by
                      injection e2 with a b
                      exact ⟨a, b⟩
                    obtain ⟨e3', rfl⟩ := e3'
                    have hn0 : n ≠ 0 := fun z => by
                      subst z
                      rw [Nat.sub_zero, List.drop_length] at e3'
                      cases e3'
                    obtain ⟨k, rfl⟩ : ∃ k, n = k + 1 := ⟨n - 1, by omega⟩
                    have hix : ns.length - (k + 1) < ns.length := by omega
                    rw [List.drop_eq_getElem_cons hix, List.map_cons] at e3'
                    have e4 : d = .str ns[ns.length - (k + 1)] := (List.cons.inj e3').1
                    have e5 : ys = (ns.drop (ns.length - k)).map D.str := by
                      have := (List.cons.inj e3').2
                      rw [show ns.length - (k + 1) + 1 = ns.length - k by omega] at this
                      exact this
                    subst e4
                    intro w5 H5 v x5 s5 rv
                    have x15 := x14.trans x5
                    refine ⟨k, rfl, by rw [List.length_map]; omega, ?_, by omega, w5, M5, s5, x15, by rw [← e5]; exact hr⟩
                    rw [List.length_map, List.getElem?_map, show ns.length - 1 - k = ns.length - (k + 1) by omega, List.getElem?_eq_getElem hix]
                    exact congrArg some rv.toR.str.symm
        · have e1 : ds.drop i = [] := List.drop_of_length_le (by omega)
          rw [e1] at e2
          unfold gvL at e2
          have e3 : (ns.drop (ns.length - n)).map D.str = [] ∧ M2 = MF := by
            injection e2 with a b
            exact ⟨a.symm, b⟩
          obtain ⟨e3, rfl⟩ := e3
          have hn0 : n = 0 := by
            have := congrArg List.length e3
            simp at this
            omega
          refine .inl ⟨rs i (by omega), hn0, fun ns' e' => ?_⟩
          have : ns = ns' := map_inj' (fun x y h => V.str.inj h) e'
          subst this
          exact p w2 H2 _ x2 s2 (.inl (.str _))
theorem tJoin_of {fo : SE} {it : SA} {g : SG} {t : SB} {f : SE} {is vs : List Nat} {tt : TG} {σ : L2.St} {H : Hp} {Q : VK} {K : PySem.W.Frag} {P : Addr} (hP : P ∈ T) (kg : KG K tt is g) (hv : ∀ i ∈ is, i ∈ vs)
    (q : tE K W (sJoinGx fo it g t f vs) σ H Q) : tJoinGx P (tE K W fo) (fun σ H R => tG K W (fun _ => rlI K) it σ H fun J H1 => TOk T H1 → R J H1) tt (tB K W0 t) (tE K W0 f) vs σ H Q :=
  tG.step (k := fun e d M => joinG it g t f vs e d M) (fun _ => bkE) q fun S w e w' M' H' v d s sx x r p => by
    cases d with
    | str sep =>
      have ev : v = .str sep := r.toR.str
      exact ⟨sep, ev, tJoin_of0 hP kg hv ⟨S, w', e, M', s, sx, p⟩⟩
    | _ => exact p.elim
theorem a_gxJoin {c P : Addr} {o tg elt iter : Expr} {ifs : List Expr} {scope : Scope} {gpos apos cpos : Pos} {own : List (Str × Nat)} {k : Nat} {it : SA} {g : SG} {t : SB} {f fo : SE} {is : List Nat} {tt : TG}
    (hr : Room (k + 1) X.A) (hT : TOk T X.H_0) (hP : P ∈ T) (hN : X.N.Nodup) (TB : GxR.TabB X.base X.mg c P) (hcode : X.env.code = .ref c) (ho : AE X W o fo) (hi : AI X W tg iter it) (ok : BlkOk X.N X.env.scope scope own) (hcell : (scope.names.all fun y => match y.2 with | .cell => false | _ => true) = true)
    (hg : ∀ (s : Shared) (H : Hp) (C : Addr) (code : Value) (fp : List Addr) (pn : List (Addr × Obj)), TOk T H → Room k (X.A.in1.in1.in1.deeper (genEnv scope (cloFrom X.env.cells scope.names []) C code builtinsNs X.env)) → PG (gxc X X.A.in1.in1.in1 s H (genEnv scope (cloFrom X.env.cells scope.names []) C code builtinsNs X.env) fp pn) tg tt) (kg : KG X.K tt is g) (hv : ∀ i ∈ is, i ∈ own.map (·.2))
    (ht : ∀ (s : Shared) (H : Hp) (C : Addr) (code : Value) (fp : List Addr) (pn : List (Addr × Obj)), TOk T H → Room k (X.A.in1.in1.in1.deeper (genEnv scope (cloFrom X.env.cells scope.names []) C code builtinsNs X.env)) → AT (gxc X X.A.in1.in1.in1 s H (genEnv scope (cloFrom X.env.cells scope.names []) C code builtinsNs X.env) fp pn) W0 ifs t)
    (hel : ∀ (s : Shared) (H : Hp) (C : Addr) (code : Value) (fp : List Addr) (pn : List (Addr × Obj)), TOk T H → Room k (X.A.in1.in1.in1.deeper (genEnv scope (cloFrom X.env.cells scope.names []) C code builtinsNs X.env)) → AE (gxc X X.A.in1.in1.in1 s H (genEnv scope (cloFrom X.env.cells scope.names []) C code builtinsNs X.env) fp pn) W0 elt f)
    (hco : scope.isCoroutine = false := by rfl) (h0 : scope.names.lookup (".0" : Str) = some NameKind.local := by rfl) (hs : ∀ v, genFold iter X.env v = pure v := by intro _; rfl)
    (he : starEach [.GeneratorExp elt [⟨tg, iter, ifs, 0⟩] scope gpos] X.env = (false, eval (.GeneratorExp elt [⟨tg, iter, ifs, 0⟩] scope gpos) X.env) :: starEach [] X.env := by rfl) (hbase : attributeBase o "join" X.env (eval o X.env) = eval o X.env := by rfl)
    (hfew : ((backTo cpos (starEach [.GeneratorExp elt [⟨tg, iter, ifs, 0⟩] scope gpos] X.env)).all (fun x => !x.1) && (backToKw cpos (keywordEach [] X.env)).all (fun x => x.1.isSome)
      && decide (([.GeneratorExp elt [⟨tg, iter, ifs, 0⟩] scope gpos] : List Expr).length + ([] : List Keyword).length + (if ([] : List Keyword).isEmpty then 0 else 1) < 30)) = true := by rfl)
    (hline : (apos.endLine == cpos.line) = true := by rfl) (hplain : (backTo cpos (starEach [] X.env)).any (·.1) = false := by rfl) :
    AE X W (.Call (.Attribute o "join" apos) [.GeneratorExp elt [⟨tg, iter, ifs, 0⟩] scope gpos] [] cpos) (sJoinGx fo it g t f (own.map (·.2))) :=
  PE.imp (pe_joinGx hr hT hN TB hcode ho (PI.tok hi hT) ok hco (fun y hy z => by
    have := List.all_eq_true.mp hcell y hy
    rw [z] at this
    exact Bool.noConfusion this) h0 hg ht hel hs he hbase hfew hline hplain) fun σ H Q q => tJoin_of hP kg hv q
end
/-! ### evaluation -/
def kJoinGx (sep : Str) (g : SG) (t : SB) (f : SE) (vs : List Nat) (e : En) (ds : List D) (M : Mem) : R D := (gvL g t f ds (wipeE e vs) M).bind (joinY sep)
section
variable (e : En) (M : Mem)
@[simp] theorem sJoinGx_eq (fo it g t f vs) : sJoinGx fo it g t f vs e M = (fo e M).bind (joinG it g t f vs e) := nrfl rfl
@[simp] theorem joinG_str (sep it g t f vs) : joinG it g t f vs e (.str sep) M = (it e M).bind (kJoinGx sep g t f vs e) := nrfl rfl
@[simp] theorem kJoinGx_eq (sep g t f vs ds) : kJoinGx sep g t f vs e ds M = (gvL g t f ds (wipeE e vs) M).bind (joinY sep) := nrfl rfl
theorem joinY_strs {sep : Str} {ns : List Str} (h1 : ns.length ≤ sizeLine) (h2 : JoinOk sep ns = true) : joinY sep (ns.map D.str) M = .ok (.str (Txt.join sep ns)) M := by
  unfold joinY; simp only [strsOf_map, h1, h2, and_self, if_true]
end
end L3
namespace L3
open PySem PySem.Spec PyProof.Rows L2
/-! ## texts: methods with one argument -/
def sm1 (g : Str → D → Mem → R D) (f : SE) (e : En) (d : D) (M : Mem) : R D := match d with
  | .str a => (f e M).bind (g a)
  | _ => .bad
def sSm (g : Str → D → Mem → R D) (fo f : SE) : SE := fun e M => (fo e M).bind (sm1 g f e)
def SmG (X : Cx) (W : WX) (r : V → List V → Hp → VK → Prop) (g : Str → D → Mem → R D) : Prop :=
  ∀ (S : Addr → Prop) (w : Wd) (M : Mem) (H : Hp) (σ : L2.St) (a : Str) (y : V) (d2 : D) (Q : VK), HS X.K w M H → RepR X.K w H y d2 → Pst X.K W w H σ (rlE X.K S) Q (g a d2 M) → r (.str a) [y] H Q
section
variable {X : Cx} {W : WX}
theorem a_sm1 {id : String} {name : Str} {r : V → List V → Hp → VK → Prop} {g : Str → D → Mem → R D} {o e1 : Expr} {fo f : SE} {apos cpos : Pos} (slot : Slot "str" name id) (ty : typeOf (.builtin id) = pure (.type "method_descriptor")) (hm : MtR X id r) (hg : SmG X W r g) (ho : AE X W o fo) (h : AE X W e1 f)
    (hbase : attributeBase o name X.env (eval o X.env) = eval o X.env := by rfl)
    (hfew : ((backTo cpos (starEach (e1 :: []) X.env)).all (fun x => !x.1) && (backToKw cpos (keywordEach [] X.env)).all (fun x => x.1.isSome)
      && decide ((e1 :: []).length + ([] : List Keyword).length + (if ([] : List Keyword).isEmpty then 0 else 1) < 30)) = true := by rfl)
    (hline : (apos.endLine == cpos.line) = true := by rfl) (hs : starEach (e1 :: []) X.env = (false, eval e1 X.env) :: starEach [] X.env := by rfl) :
    AE X W (.Call (.Attribute o name apos) [e1] [] cpos) (sSm g fo f) :=
  PE.imp (pe_bm PySem.F.plainAttrs_str slot ty hm ho (pa_cons h pa_nil hs) hbase hfew hline hs rfl) fun σ H Q q =>
    tG.step (k := fun e d M => sm1 g f e d M) (fun _ => bkE) q fun S w e w' M' H' v d s sx x r p => by
      cases d with
      | str a =>
        have ev : v = .str a := r.toR.str
        subst ev
        have p : Pst X.K W w' H' σ (rlE X.K S) Q ((f e M').bind (g a)) := p
        exact ⟨rfl, S, w', e, M', s, sx, p.bind bkE fun d2 M2 w2 H2 v2 y s2 q2 p3 => hg S w2 M2 H2 σ a v2 d2 Q s2 q2.toR p3⟩
      | _ => exact p.elim
/-! split -/
def splitM (a : Str) (d : D) (M : Mem) : R D := match d with
  | .str b => if (b.length == 0) = false ∧ a.length + 2 ≤ sizeLine then .ok (.own ((Txt.split a b).map D.str)) M else .bad
  | _ => .bad
theorem splitG : SmG X W (fun x xs H Q => ∃ a b, x = .str a ∧ xs = [.str b] ∧ (b.length == 0) = false ∧ a.length + 2 ≤ sizeLine ∧ rNewStrs (Txt.split a b) H Q) splitM := by
  intro S w M H σ a y d2 Q hs r2 p
  cases d2 with
  | str b =>
    have ey : y = .str b := r2.str
    subst ey
    have p : Pst X.K W w H σ (rlE X.K S) Q (if (b.length == 0) = false ∧ a.length + 2 ≤ sizeLine then .ok (.own ((Txt.split a b).map D.str)) M else .bad) := p
    by_cases hc : (b.length == 0) = false ∧ a.length + 2 ≤ sizeLine
    · rw [if_pos hc] at p
      exact ⟨a, b, rfl, rfl, hc.1, hc.2, fun q hq => fresh_own hs (reps_str _) p hq⟩
    · rw [if_neg hc] at p; exact p.elim
  | _ => exact p.elim
/-! index -/
def sindexM (a : Str) (d : D) (M : Mem) : R D := match d with
  | .str b => match Builtin.Str.occurrences a b 0 a.length 1 with
    | i :: _ => .ok (.int (i : Nat)) M
    | [] => .bad
  | _ => .bad
theorem sindexG : SmG X W (fun x xs H Q => ∃ a b i rest, x = .str a ∧ xs = [.str b] ∧ Builtin.Str.occurrences a b 0 a.length 1 = i :: rest ∧ Q (.int (i : Nat)) H) sindexM := by
  intro S w M H σ a y d2 Q hs r2 p
  cases d2 with
  | str b =>
    have ey : y = .str b := r2.str
    subst ey
    unfold sindexM at p
    cases ho : Builtin.Str.occurrences a b 0 a.length 1 with
    | nil => simp only [ho] at p; exact p.elim
    | cons i rest =>
      simp only [ho] at p
      exact ⟨a, b, i, rest, rfl, rfl, ho, p w H _ (.refl _ _) hs (.inl (.int _))⟩
  | _ => exact p.elim
/-! join of a list or tuple -/
def joinL1 (a : Str) (o : Option (List D)) (M : Mem) : R D := match o with
  | some ds => match strsOf ds with
    | some ys => if (ys.map (·.length)).sum + ys.length * a.length ≤ 16777216 then .ok (.str (Txt.join a ys)) M else .bad
    | none => .bad
  | none => .bad
def joinM (a : Str) (d : D) (M : Mem) : R D := joinL1 a (sqs d M) M
theorem reps_strs {K : PySem.W.Frag} {w : Wd} : ∀ {us : List V} {ys : List Str}, Reps K w us (ys.map D.str) → us = ys.map V.str
  | us, [], h => by cases h; rfl
  | us, y :: r, h => by
    rw [List.map_cons] at h
    cases h with
    | cons h1 h2 =>
      rw [List.map_cons, reps_strs h2]
      cases h1
      rfl
theorem joinMG : SmG X W (fun x xs H Q => ∃ a p, ∃ ys : List Str, x = .str a ∧ xs = [.ref p] ∧ (SqL X.K H p (ys.map V.str) ∨ SqT X.K H p (ys.map V.str)) ∧
    (ys.map (·.length)).sum + ys.length * a.length ≤ 16777216 ∧ Q (.str (Txt.join a ys)) H) joinM := by
  intro S w M H σ a y d2 Q hs r2 p
  unfold joinM at p
  cases e1 : sqs d2 M with
  | none => rw [e1] at p; exact p.elim
  | some ds =>
    rw [e1] at p
    unfold joinL1 at p
    simp only at p
    cases e2 : strsOf ds with
    | none => simp only [e2] at p; exact p.elim
    | some ys =>
      simp only [e2] at p
      split at p
      · next hc =>
        have ed := strsOf_eq e2
        subst ed
        obtain ⟨q, us, rfl, hq, rq⟩ := r2.sqs hs e1
        have eu := reps_strs rq
        subst eu
        exact ⟨a, q, ys, rfl, rfl, hq, hc, p w H _ (.refl _ _) hs (.inl (.str _))⟩
      · exact p.elim
end
/-! ## str(x), int(x) -/
def strX (ds : List D) (M : Mem) : R D := match ds with
  | [.int i] => if i.natAbs.log2 < 1920 then .ok (.str (Str.ofString (toString i))) M else .bad
  | [.str a] => .ok (.str a) M
  | _ => .bad
section
variable {X : Cx} {W : WX}
def rStrX : List V → Hp → VK → Prop := fun xs H Q => (∃ i : Int, xs = [.int i] ∧ i.natAbs.log2 < 1920 ∧ Q (.str (toString i)) H) ∨ ∃ a, xs = [.str a] ∧ Q (.str a) H
theorem call_strX : CallR X (.type "str") rStrX := call_str_int.or SkE.call_str_str
theorem strXG : CallG X W rStrX strX := by
  intro S w M H σ xs ds Q hs rs p
  cases ds with
  | nil => exact p.elim
  | cons d t =>
    cases t with
    | cons _ _ => exact absurd p (by cases d <;> exact id)
    | nil =>
      obtain ⟨x, rfl, r⟩ := rs.one
      cases d with
      | int i =>
        have p : Pst X.K W w H σ (rlE X.K S) Q (if i.natAbs.log2 < 1920 then .ok (.str (Str.ofString (toString i))) M else .bad) := p
        by_cases hc : i.natAbs.log2 < 1920
        · rw [if_pos hc] at p
          exact .inl ⟨i, by rw [r.int], hc, p w H _ (.refl _ _) hs (.inl (.str _))⟩
        · rw [if_neg hc] at p; exact p.elim
      | str a => exact .inr ⟨a, by rw [r.str], p w H _ (.refl _ _) hs (.inl (.str _))⟩
      | _ => exact p.elim
def intX (ds : List D) (M : Mem) : R D := match ds with
  | [.int i] => .ok (.int i) M
  | [.bl b] => .ok (.int (if b then 1 else 0)) M
  | [.str a] => match PySem.intText? a with
    | some n => if a.length ≤ 640 then .ok (.int n) M else .bad
    | none => .bad
  | _ => .bad
def rIntX : List V → Hp → VK → Prop := fun xs H Q => ((∃ i, xs = [.int i] ∧ Q (.int i) H) ∨ ∃ k, xs = [.bl k] ∧ Q (.int (if k then 1 else 0)) H) ∨ ∃ a n, xs = [.str a] ∧ PySem.intText? a = some n ∧ a.length ≤ 640 ∧ Q (.int n) H
theorem call_intX : CallR X (.type "int") rIntX := call_int1.or call_int_str
theorem intXG : CallG X W rIntX intX := by
  intro S w M H σ xs ds Q hs rs p
  cases ds with
  | nil => exact p.elim
  | cons d t =>
    cases t with
    | cons _ _ => exact absurd p (by cases d <;> exact id)
    | nil =>
      cases d with
      | int i => exact .inl (intG S w M H σ xs [.int i] Q hs rs p)
      | bl i => exact .inl (intG S w M H σ xs [.bl i] Q hs rs p)
      | str a =>
        obtain ⟨x, rfl, r⟩ := rs.one
        unfold intX at p
        simp only at p
        cases ht : PySem.intText? a with
        | none => simp only [ht] at p; exact p.elim
        | some n =>
          simp only [ht] at p
          split at p
          · next hc => exact .inr ⟨a, n, by rw [r.str], ht, hc, p w H _ (.refl _ _) hs (.inl (.int _))⟩
          · exact p.elim
      | _ => exact p.elim
/-! ## a sign in a text -/
def inSgn (neg : Bool) (a b : D) (M : Mem) : R D := match a with
  | .str x => match b with
    | .str z => match x.cps.toList with
      | [c] => .ok (.bl (if neg then !decide (c ∈ z.cps.toList) else decide (c ∈ z.cps.toList))) M
      | _ => .bad
    | _ => .bad
  | _ => .bad
def rInSgn (neg : Bool) : R2 := fun x y H Q => ∃ (c : Nat) (z : Str), x = .str ⟨#[c]⟩ ∧ y = .str z ∧ Q (.bl (if neg then !decide (c ∈ z.cps.toList) else decide (c ∈ z.cps.toList))) H
theorem op_inSgn : OpR X (compareOp .In) (rInSgn false) := op_in_sign
theorem op_ninSgn : OpR X (compareOp .NotIn) (rInSgn true) := op_notIn_sign
theorem inSgnG {neg : Bool} : OpG X W (rInSgn neg) (inSgn neg) := by
  intro S w M H σ x y d1 d2 Q hs r1 r2 p
  cases d1 with
  | str a =>
    cases d2 with
    | str z =>
      unfold inSgn at p
      simp only at p
      split at p
      · next c hc =>
        have ea : a = ⟨#[c]⟩ := by
          cases a with
          | mk cps =>
            have : cps = #[c] := by
              have : cps.toList = [c] := hc
              exact Array.toList_inj.mp this
            rw [this]
        subst ea
        exact ⟨c, z, r1.str, r2.str, p w H _ (.refl _ _) hs (.inl (.bl _))⟩
      · exact p.elim
    | _ => exact p.elim
  | _ => exact p.elim
/-! ## f-strings -/
def fmtD (d : D) (M : Mem) : R D := match d with
  | .str y => if y.length ≤ sizeLine then .ok (.str y) M else .bad
  | .int i => if i.natAbs.log2 < 1920 then .ok (.str (Str.ofString (toString i))) M else .bad
  | _ => .bad
def sFmt (f : SE) : SE := fun e M => (f e M).bind fmtD
theorem a_fmt {e : Expr} {f : SE} {pos : Pos} (h : AE X W e f) : AE X W (.FormattedValue e (-1) none pos) (sFmt f) :=
  PE.imp (pe_fmt h) fun σ H Q q => tG.step (k := fun e d M => fmtD d M) (fun _ => bkE) q fun S w e w' M' H' v d s sx x r p => by
    cases d with
    | str y =>
      have p : Pst X.K W w' H' σ (rlE X.K S) Q (if y.length ≤ sizeLine then .ok (.str y) M' else .bad) := p
      by_cases hc : y.length ≤ sizeLine
      · rw [if_pos hc] at p
        exact .inl ⟨y, r.toR.str, hc, p w' H' _ (.refl _ _) s (.inl (.str _))⟩
      · rw [if_neg hc] at p; exact p.elim
    | int i =>
      have p : Pst X.K W w' H' σ (rlE X.K S) Q (if i.natAbs.log2 < 1920 then .ok (.str (Str.ofString (toString i))) M' else .bad) := p
      by_cases hc : i.natAbs.log2 < 1920
      · rw [if_pos hc] at p
        exact .inr ⟨i, r.toR.int, hc, p w' H' _ (.refl _ _) s (.inl (.str _))⟩
      · rw [if_neg hc] at p; exact p.elim
    | _ => exact p.elim
def sJs : List SE → Str → SE
  | [], acc => fun _ M => .ok (.str acc) M
  | f :: fs, acc => fun e M => (f e M).bind fun d M => match d with
    | .str y => if (acc ++ y).length ≤ sizeLine then sJs fs (acc ++ y) e M else .bad
    | _ => .bad
def sFs (fs : List SE) : SE := sJs fs Str.empty
inductive AJ (X : Cx) (W : WX) : List Expr → List SE → Prop where
  | nil : AJ X W [] []
  | cons {e : Expr} {f : SE} {es : List Expr} {fs : List SE} (h : AE X W e f) (r : AJ X W es fs) : AJ X W (e :: es) (f :: fs)
theorem AJ.pj {es : List Expr} {fs : List SE} (h : AJ X W es fs) : PJ X es (fs.map (tE X.K W)) := by
  induction h with
  | nil => exact .nil
  | cons h r ih => exact .cons h ih
theorem tJs_of {fs : List SE} : ∀ {acc : Str} {σ : L2.St} {H : Hp} {Q : VK}, tE X.K W (sJs fs acc) σ H Q → tJs (fs.map (tE X.K W)) acc σ H fun out H1 => Q (.str out) H1 := by
  induction fs with
  | nil =>
    intro acc σ H Q q
    obtain ⟨S, w, e, M, hs, sx, p⟩ := q
    exact p w H _ (.refl _ _) hs (.inl (.str _))
  | cons f fs ih =>
    intro acc σ H Q q
    exact tG.step (k := fun e d M => match d with
      | .str y => if (acc ++ y).length ≤ sizeLine then sJs fs (acc ++ y) e M else .bad
      | _ => .bad) (fun _ => bkE) q fun S w e w' M' H' v d s sx x r p => by
      cases d with
      | str y =>
        have p : Pst X.K W w' H' σ (rlE X.K S) Q (if (acc ++ y).length ≤ sizeLine then sJs fs (acc ++ y) e M' else .bad) := p
        by_cases hc : (acc ++ y).length ≤ sizeLine
        · rw [if_pos hc] at p
          exact ⟨y, r.toR.str, hc, ih ⟨S, w', e, M', s, sx, p⟩⟩
        · rw [if_neg hc] at p; exact p.elim
      | _ => exact p.elim
theorem a_joined {v1 v2 : Expr} {rest : List Expr} {fs : List SE} {pos : Pos} (h : AJ X W (v1 :: v2 :: rest) fs) : AE X W (.JoinedStr (v1 :: v2 :: rest) pos) (sFs fs) :=
  PE.imp (pe_joined h.pj) fun σ H Q q => tJs_of q
theorem a_joined1 {e : Expr} {f : SE} {pos : Pos} (h : AE X W e f) : AE X W (.JoinedStr [e] pos) f := pe_joined1 h
end
/-! ### evaluation -/
def kJs (fs : List SE) (acc : Str) (e : En) (d : D) (M : Mem) : R D := match d with
  | .str y => if (acc ++ y).length ≤ sizeLine then sJs fs (acc ++ y) e M else .bad
  | _ => .bad
section
variable (e : En) (M : Mem)
@[simp] theorem sSm_eq (g fo f) : sSm g fo f e M = (fo e M).bind (sm1 g f e) := nrfl rfl
@[simp] theorem sm1_str (g f a) : sm1 g f e (.str a) M = (f e M).bind (g a) := nrfl rfl
@[simp] theorem splitM_str (a b) : splitM a (.str b) M = if (b.length == 0) = false ∧ a.length + 2 ≤ sizeLine then .ok (.own ((Txt.split a b).map D.str)) M else .bad := nrfl rfl
theorem sindexM_str {a b : Str} {i : Nat} {rest : List Nat} (h : Builtin.Str.occurrences a b 0 a.length 1 = i :: rest) : sindexM a (.str b) M = .ok (.int (i : Nat)) M := by unfold sindexM; simp only [h]
theorem joinM_strs {a : Str} {d : D} {ys : List Str} (h : sqs d M = some (ys.map D.str)) (hc : (ys.map (·.length)).sum + ys.length * a.length ≤ 16777216) : joinM a d M = .ok (.str (Txt.join a ys)) M := by
  unfold joinM joinL1; rw [h]; simp only [strsOf_map, hc, if_true]
@[simp] theorem strX_str (a) : strX [.str a] M = .ok (.str a) M := nrfl rfl
@[simp] theorem strX_int (i) : strX [.int i] M = if i.natAbs.log2 < 1920 then .ok (.str (Str.ofString (toString i))) M else .bad := nrfl rfl
@[simp] theorem intX_int (i) : intX [.int i] M = .ok (.int i) M := nrfl rfl
@[simp] theorem intX_bl (i) : intX [.bl i] M = .ok (.int (if i then 1 else 0)) M := nrfl rfl
theorem intX_str {a : Str} {n : Int} (h : PySem.intText? a = some n) (hl : a.length ≤ 640) : intX [.str a] M = .ok (.int n) M := by unfold intX; simp only [h, hl, if_true]
theorem inSgn_str (neg) (c : Nat) (z : Str) : inSgn neg (.str ⟨#[c]⟩) (.str z) M = .ok (.bl (if neg then !decide (c ∈ z.cps.toList) else decide (c ∈ z.cps.toList))) M := rfl
@[simp] theorem sFmt_eq (f) : sFmt f e M = (f e M).bind fmtD := nrfl rfl
@[simp] theorem fmtD_str (y) : fmtD (.str y) M = if y.length ≤ sizeLine then .ok (.str y) M else .bad := nrfl rfl
@[simp] theorem fmtD_int (i) : fmtD (.int i) M = if i.natAbs.log2 < 1920 then .ok (.str (Str.ofString (toString i))) M else .bad := nrfl rfl
@[simp] theorem sFs_eq (fs) : sFs fs e M = sJs fs Str.empty e M := nrfl rfl
@[simp] theorem sJs_nil (acc) : sJs [] acc e M = .ok (.str acc) M := nrfl rfl
@[simp] theorem sJs_cons (f fs acc) : sJs (f :: fs) acc e M = (f e M).bind (kJs fs acc e) := nrfl rfl
@[simp] theorem kJs_str (fs acc y) : kJs fs acc e (.str y) M = if (acc ++ y).length ≤ sizeLine then sJs fs (acc ++ y) e M else .bad := nrfl rfl
end
end L3
namespace L3
open PySem PySem.Spec PyProof.Rows L2 RT
/-! ## list(reversed(list)) -/
section
variable {prog : Program} {w : World} {A : Around} {E : Value → Shared → Prop} {s : Shared}
theorem list_init_rev {S it l : Addr} {items : Array Value} {R : Result → Shared → Prop} (hh : A.handled = none) (hit : s.heap.IsRevIter it l ((items.size : Int) - 1)) (hl : s.heap.IsList l items) (hne : l ≠ it) (hSi : S ≠ it) (hSl : S ≠ l) (hn : items.size ≤ sizeLine)
    (hS : s.heap.get? S = some { cls := .type "list", data := .seq #[] })
    (hR : ∀ (h' : Heap) (tk : Nat) (acc : Array Value) (c' : Nat), (∀ b o, b ≠ it → b ≠ S → s.heap.get? b = some o → h'.get? b = some o) → h'.get? S = some { cls := .type "list", dict := none, data := .seq acc c', slots := #[] } → ItemsOf (fun i v => items[items.size - 1 - i]? = some v) acc items.size → R (.ok (.ret .none)) { s with heap := h', toks := tk }) :
    wpAny (model prog w) A.in1 (Builtin.«list.__init__» ⟨[.ref S, .ref it], []⟩)
      (fun fin s' => match fin with | .done f => R (.ok f) s' | .again c' => c'.quiet = true ∧ codeAny (model prog w) A c' R s') (fun e s' => R (.error e) s') s := by
  have W := (Walks.listRev (prog := prog) (w := w) (A := A.in1) hh it l hne items).toS
  have hSf : S ∉ [it, l] := by simp only [List.mem_cons, List.not_mem_nil, or_false, not_or]; exact ⟨hSi, hSl⟩
  show wpAny _ A.in1 (do let old ← Builtin.List.listItems (.ref S); Builtin.List.listUpdate (.ref S) (fun _ => #[]); letGo old.toList.reverse; Builtin.List.listExtendWith (.ref S) (.ref it) .none) _ _ s
  refine wpAny_bind ?_
  unfold Builtin.List.listItems
  refine wpAny_bind (wpAny_seqItems hS rfl (wpAny_pure ?_))
  show wpAny _ A.in1 (updateSeq S (fun _ => #[]) >>= fun _ => letGo (#[] : Array Value).toList.reverse >>= fun _ => Builtin.List.listExtendWith (.ref S) (.ref it) .none) _ _ s
  refine wpAny_bind (wpAny_updateSeq hS rfl ?_)
  have hS₂ := Heap.get?_update_self (Obj.mapSeq (fun _ => (#[] : Array Value))) hS rfl
  have oth : ∀ b o, b ≠ S → s.heap.get? b = some o → (s.heap.update S (Obj.mapSeq (fun _ => (#[] : Array Value)))).get? b = some o :=
    fun b o hb e => (Heap.get?_update_other _ _ (Ne.symm hb)).trans e
  refine wpAny_bind (wpAny_letGo ?_)
  have hit1 : (s.heap.update S (Obj.mapSeq (fun _ => (#[] : Array Value)))).IsRevIter it l ((items.size : Int) - 1) := hit.at fun o e => oth _ _ (Ne.symm hSi) e
  have hl1 : (s.heap.update S (Obj.mapSeq (fun _ => (#[] : Array Value)))).IsList l items := by
    obtain ⟨ob, e, r⟩ := id hl
    exact ⟨ob, oth _ _ (Ne.symm hSl) e, r⟩
  have hT : ({ s with heap := s.heap.update S (Obj.mapSeq (fun _ => (#[] : Array Value))) } : Shared).TypeIs (.ref it) "list_reverseiterator" := Heap.IsRevIter.typeIs (s := { s with heap := s.heap.update S (Obj.mapSeq (fun _ => (#[] : Array Value))) }) hit1
  have h1 : Builtin.List.listSameRef (.ref S) (.ref it) = false := by simp [Builtin.List.listSameRef, hSi]
  unfold Builtin.List.listExtendWith
  refine wpAny_bind (wpAny_typeOf hT ?_)
  rw [if_neg (by rw [h1]; decide)]
  refine wpAny_bind (wpAny_pyIter_revIter (s := { s with heap := s.heap.update S (Obj.mapSeq (fun _ => (#[] : Array Value))) }) hit1 ?_)
  refine wpAny_bind (wpAny_holding ?_)
  unfold Builtin.List.listLengthHint
  refine wpAny_bind (wpAny_specialOf hT nolen_lri ?_)
  show wpAny _ A.in1 (specialOf (Value.ref it) (Str.ofString "__length_hint__") >>= _) _ _ _
  refine wpAny_bind (wpAny_specialOf hT hint_lri ?_)
  generalize hid : ("list_reverseiterator.__length_hint__" : String) = id0
  wp_delta
  rw [show splitId id0 = some ("list_reverseiterator", "__length_hint__") from by subst hid; decide +kernel]
  subst hid
  refine wpAny_bind (wpAny_isInstance (b := true) hT (by rw [isSubtype_type]; kernel_rfl) ?_)
  refine wpAny_pure ?_
  rw [if_neg (by decide)]
  have e0 : ((items.size : Nat) : Int) - 1 - ((0 : Nat) : Int) = (items.size : Int) - 1 := by omega
  refine wpAny_pure ⟨plainId_quiet F.plain_extend_loop _, codeAny_extend_loopS W hn _ hSf _ items.size 0 _ _ _ rfl (Nat.zero_le _) ⟨Nat.zero_le _, by rw [e0]; exact hit1, hl1⟩ hS₂ (ItemsOf.nil _) fun s' acc' c' hm hS' hacc => ?_⟩
  rw [Moved.eq_with hm]
  refine hR s'.heap s'.toks acc' c' (fun b o hb hb2 e => hm.heap b o (fun hmem => ?_) (oth b o hb2 e)) hS' hacc
  rcases List.mem_cons.mp hmem with e' | hmem
  · exact hb2 e'
  · exact hb (List.mem_singleton.mp hmem)
theorem call_list_rev {it l : Addr} {items : Array Value} {Q : Value → Shared → Prop} (hh : A.handled = none) (hit : s.heap.IsRevIter it l ((items.size : Int) - 1)) (hl : s.heap.IsList l items) (hne : l ≠ it) (hn : items.size ≤ sizeLine)
    (hQ : ∀ (h' : Heap) (tk : Nat) (acc : Array Value) (c' : Nat), (∀ b o, b ≠ it → s.heap.get? b = some o → h'.get? b = some o) → h'.get? s.heap.objs.size = some { cls := .type "list", dict := none, data := .seq acc c', slots := #[] } → ItemsOf (fun i v => items[items.size - 1 - i]? = some v) acc items.size →
      Q (.ref s.heap.objs.size) { s with heap := h', toks := tk }) :
    wpAny (model prog w) A (call (.type "list") [.ref it]) Q E s := by
  obtain ⟨oi, hoi, _⟩ := id hit
  obtain ⟨ol, hol, _⟩ := id hl
  have hSi : s.heap.objs.size ≠ it := Nat.ne_of_gt (Heap.lt_size hoi)
  have hSl : s.heap.objs.size ≠ l := Nat.ne_of_gt (Heap.lt_size hol)
  refine callType_codes (Q₁ := fun obj s₁ => obj = .ref s.heap.objs.size ∧ s₁ = { s with heap := s.heap.push { cls := .type "list", data := .seq #[] } }) F.called_list (F.typeCall_list_1 _) F.entry_list_init
    (code_list_new _ ⟨rfl, rfl⟩) fun obj s₁ h₁ => ?_
  obtain ⟨rfl, rfl⟩ := h₁
  have hS : (s.heap.push { cls := .type "list", data := .seq #[] }).get? s.heap.objs.size = some { cls := .type "list", data := .seq #[] } := Heap.get?_push_size _ rfl
  refine ⟨⟨_, hS, rfl⟩, F.args_list_init_2 _ _, list_init_rev (A := A.in1) (s := { s with heap := s.heap.push { cls := .type "list", data := .seq #[] } }) hh (hit.at fun o e => Heap.get?_push_of_some _ e) (hl.push _) hne hSi hSl hn hS fun h' tk acc c' hk hS' hacc => ?_⟩
  exact ⟨rfl, hQ h' tk acc c' (fun b o hb e => hk b o hb (Nat.ne_of_lt (Heap.lt_size e)) (Heap.get?_push_of_some _ e)) hS' hacc⟩
end
def tListRev (K : PySem.W.Frag) (te : TE) : TE := fun σ H Q => te σ H fun v H1 => ∃ (a : Addr) (xs : List V), v = .ref a ∧ SqL K H1 a xs ∧ ∀ q, H1 q = none → Q (.ref q) (upd H1 q (.lst xs.reverse))
section
variable {X : Cx} {W : WX}
theorem pe_listRev {e : Expr} {te : TE} {p p2 pos pos2 : Pos} (hc : X.calm = true) (hg : Gl X "list") (hm : X.mg "list" = none) (hg2 : Gl X "reversed") (hm2 : X.mg "reversed" = none) (he : PE X e te)
    (hs : starEach [e] X.env = (false, eval e X.env) :: starEach [] X.env := by rfl)
    (hs2 : starEach [.Call (.Name "reversed" p2) [e] [] pos2] X.env = (false, eval (.Call (.Name "reversed" p2) [e] [] pos2) X.env) :: starEach [] X.env := by rfl) :
    PE X (.Call (.Name "list" p) [.Call (.Name "reversed" p2) [e] [] pos2] [] pos) (tListRev X.K te) := by
  refine ⟨fun pins s σ H Q I h => ?_⟩
  refine Call_ (ld_blt I hg hm boot_list (PyProof.Rows.callWith_type1 (args_cons (Call_ (ld_blt I hg2 hm2 PyProof.Rows.boot_reversed (PyProof.Rows.callWith_type1 (args_cons (thn (he.run pins s σ H _ I h) fun u s1 ⟨v, H1, I1, r1, q1⟩ => args_nil ?_) hs) hs rfl))) hs2) hs2 rfl))
  obtain ⟨a, xs, ev, hq, q⟩ := q1
  subst ev
  obtain rfl : u = Value.ref a := r1
  obtain ⟨its, rv, p', hz⟩ := I1.list hq
  refine call_reversed_list p'.isList (args_nil ?_)
  have k0 : ∀ b o, s1.heap.get? b = some o → (s1.heap.push (revObj a ((its.toArray.size : Int) - 1))).get? b = some o := fun b o e => Heap.get?_push_of_some _ e
  have hl := p'.isList
  obtain ⟨ol, hol, _⟩ := id hl
  have hne : a ≠ s1.heap.objs.size := Nat.ne_of_lt (Heap.lt_size hol)
  have hn : its.toArray.size ≤ sizeLine := by rw [List.size_toArray, ← rv.length]; exact hz
  refine call_list_rev (s := { s1 with heap := s1.heap.push (revObj a ((its.toArray.size : Int) - 1)) }) (I1.ok.hd hc) ⟨_, Heap.get?_push_size _ rfl, rfl, rfl⟩ (hl.push _) hne hn fun h' tk acc c' hk hS hi => ?_
  have hsz : (s1.heap.push (revObj a ((its.toArray.size : Int) - 1))).objs.size = s1.heap.objs.size + 1 := Heap.size_push ..
  have kk : ∀ b o, s1.heap.get? b = some o → h'.get? b = some o := fun b o e => hk b o (Nat.ne_of_lt (Heap.lt_size e)) (k0 b o e)
  have I3 : Inv X pins σ (upd H1 (s1.heap.push (revObj a ((its.toArray.size : Int) - 1))).objs.size (.lst xs.reverse)) { s1 with heap := h', toks := tk } := I1.laid (t' := tk) kk (by rw [hsz]; omega) (show ObjOk X.prog X.w _ _ _ (.lst xs.reverse) from ⟨by rw [List.length_reverse]; exact hz, acc.toList, c', vals_rev rv hi, by rw [Array.toArray_toList]; exact hS⟩)
  exact ⟨.ref _, _, I3, rfl, q _ (I1.hok.fresh (by rw [hsz]; omega))⟩
def lrev1 (o : Option (List D)) (M : Mem) : R D := match o with
  | some xs => .ok (.own xs.reverse) M
  | none => .bad
def lrev (d : D) (M : Mem) : R D := lrev1 (lsq d M) M
def sLrev (f : SE) : SE := fun e M => (f e M).bind lrev
theorem Reps.rev {K : PySem.W.Frag} {w : Wd} : ∀ {us : List V} {ds : List D}, Reps K w us ds → Reps K w us.reverse ds.reverse
  | _, _, .nil => .nil
  | _, _, .cons h r => by
    rw [List.reverse_cons, List.reverse_cons]
    exact (Reps.rev r).append (.cons h .nil)
theorem a_lrev {e : Expr} {f : SE} {p p2 pos pos2 : Pos} (hc : X.calm = true) (hg : Gl X "list") (hm : X.mg "list" = none) (hg2 : Gl X "reversed") (hm2 : X.mg "reversed" = none) (h : AE X W e f)
    (hs : starEach [e] X.env = (false, eval e X.env) :: starEach [] X.env := by rfl)
    (hs2 : starEach [.Call (.Name "reversed" p2) [e] [] pos2] X.env = (false, eval (.Call (.Name "reversed" p2) [e] [] pos2) X.env) :: starEach [] X.env := by rfl) :
    AE X W (.Call (.Name "list" p) [.Call (.Name "reversed" p2) [e] [] pos2] [] pos) (sLrev f) :=
  PE.imp (pe_listRev hc hg hm hg2 hm2 h hs hs2) fun σ H Q q =>
    tG.step (k := fun _ d M => lrev d M) (fun _ => bkE) q fun S w e w' M' H' v d s sx x r p => by
      unfold lrev at p
      cases hl : lsq d M' with
      | none => rw [hl] at p; exact p.elim
      | some xs =>
        rw [hl] at p
        obtain ⟨a, us, rfl, hq, rq⟩ := r.toR.lsq s hl
        exact ⟨a, us, rfl, hq, fun b hb => fresh_own s rq.rev p hb⟩
end
section
variable (e : En) (M : Mem)
@[simp] theorem sLrev_eq (f) : sLrev f e M = (f e M).bind lrev := nrfl rfl
@[simp] theorem lrev_lst (xs) : lrev (.lst xs) M = .ok (.own xs.reverse) M := nrfl rfl
@[simp] theorem lrev_own (xs) : lrev (.own xs) M = .ok (.own xs.reverse) M := nrfl rfl
@[simp] theorem lrev_brw (xs) : lrev (.brw xs) M = .ok (.own xs.reverse) M := nrfl rfl
theorem lrev_cell {n : Nat} {xs : List D} (h : cellL M n = some xs) : lrev (.cell n) M = .ok (.own xs.reverse) M := by
  unfold lrev; rw [show lsq (.cell n) M = cellL M n from rfl, h]; rfl
end
end L3
namespace Lk04
open PySem PySem.Spec PyProof.Rows L2 L3
noncomputable section
-- children_of: 0=text 1=stack 2=calls 3=place 4=children   owns ['stack'] cells ['calls']
def l1_children_of : SS :=
    (sIfS (sT (sOp (eqD false) (sOp idxD (sVar 3) (sC (.int 0))) (sC (.str "letter")))) (sAppE (sOp idxD (sVar 1) (sNeg (sC (.int 1)))) (fz (sVar 3))) (sIfS (sT (sOp (eqD false) (sOp idxD (sVar 3) (sC (.int 0))) (sC (.str "call")))) (sSeq (sApp 2 (fz (sOp idxD (sVar 3) (sC (.int 1)))))
    (sApp 1 (cl (sLst sNil)))) (sSeq (sPopA 4 1)
    (sAppE (sOp idxD (sVar 1) (sNeg (sC (.int 1)))) (sTup (sCons (fz (sC (.str "arch"))) (sCons (sPopC 2) (sCons (fz (sOp idxD (sVar 3) (sC (.int 1)))) (sCons (fz (sVar 4)) sNil)))))))))
theorem l1_children_of_eq (e : En) (M : Mem) : l1_children_of e M = (sIfS (sT (sOp (eqD false) (sOp idxD (sVar 3) (sC (.int 0))) (sC (.str "letter")))) (sAppE (sOp idxD (sVar 1) (sNeg (sC (.int 1)))) (fz (sVar 3))) (sIfS (sT (sOp (eqD false) (sOp idxD (sVar 3) (sC (.int 0))) (sC (.str "call")))) (sSeq (sApp 2 (fz (sOp idxD (sVar 3) (sC (.int 1)))))
    (sApp 1 (cl (sLst sNil)))) (sSeq (sPopA 4 1)
    (sAppE (sOp idxD (sVar 1) (sNeg (sC (.int 1)))) (sTup (sCons (fz (sC (.str "arch"))) (sCons (sPopC 2) (sCons (fz (sOp idxD (sVar 3) (sC (.int 1)))) (sCons (fz (sVar 4)) sNil))))))))) e M := nrfl rfl

def b_children_of : SS :=
    (sSeq (sAsgO 1 (sLst (sCons (cl (sLst sNil)) sNil)))
    (sSeq (sAsgC 2 (sLst sNil))
    (sSeq (sFor (sWalk (fz (sVar 0))) (gN 3) l1_children_of)
    (sRet (sOp idxD (sVar 1) (sC (.int 0)))))))
def s_children_of : Fn := runF 5 b_children_of

-- row_of: 0=children 1=row 2=waiting 3=element   owns ['row', 'waiting'] cells []
def t1_row_of : SB :=
    (sTru (sVar 2))
theorem t1_row_of_eq (e : En) (M : Mem) : t1_row_of e M = (sTru (sVar 2)) e M := nrfl rfl
def l2_row_of : SS :=
    (sSeq (sPopA 3 2)
    (sIfS (sT (sOp (eqD false) (sOp idxD (sVar 3) (sC (.int 0))) (sC (.str "arch")))) (sSeq (sApp 1 (sTup (sCons (fz (sC (.str "call"))) (sCons (fz (sOp idxD (sVar 3) (sC (.int 1)))) sNil))))
    (sSeq (sApp 2 (sTup (sCons (fz (sC (.str "return"))) (sCons (fz (sOp idxD (sVar 3) (sC (.int 2)))) sNil))))
    (sExt 2 (sLrev (sOp idxD (sVar 3) (sC (.int 3))))))) (sApp 1 (fz (sVar 3)))))
theorem l2_row_of_eq (e : En) (M : Mem) : l2_row_of e M = (sSeq (sPopA 3 2)
    (sIfS (sT (sOp (eqD false) (sOp idxD (sVar 3) (sC (.int 0))) (sC (.str "arch")))) (sSeq (sApp 1 (sTup (sCons (fz (sC (.str "call"))) (sCons (fz (sOp idxD (sVar 3) (sC (.int 1)))) sNil))))
    (sSeq (sApp 2 (sTup (sCons (fz (sC (.str "return"))) (sCons (fz (sOp idxD (sVar 3) (sC (.int 2)))) sNil))))
    (sExt 2 (sLrev (sOp idxD (sVar 3) (sC (.int 3))))))) (sApp 1 (fz (sVar 3))))) e M := nrfl rfl

def b_row_of : SS :=
    (sSeq (sAsgO 1 (sLst sNil))
    (sSeq (sAsgO 2 (sLrev (sVar 0)))
    (sSeq (sWhile t1_row_of l2_row_of)
    (sRet (sVar 1)))))
def s_row_of : Fn := runF 4 b_row_of

-- _law_draws: 0=_law_cell 1=_law_modulus 2=_law_count 3=_law_number 4=_law_row 5=_law_k 6=_law_mixed   owns ['_law_row'] cells []
def l1__law_draws : SS :=
    (sSeq (sApp 4 (fz (sOp modD (sCall intD (sCons (sVar 3) sNil)) (sVar 1))))
    (sAsg 3 (fz (sOp fdivD (sVar 3) (sVar 1)))))
theorem l1__law_draws_eq (e : En) (M : Mem) : l1__law_draws e M = (sSeq (sApp 4 (fz (sOp modD (sCall intD (sCons (sVar 3) sNil)) (sVar 1))))
    (sAsg 3 (fz (sOp fdivD (sVar 3) (sVar 1))))) e M := nrfl rfl
def l2__law_draws : SS :=
    (sSeq (sAsg 6 (fz (sOp modD (sCall intD (sCons (sOp mulX (sOp addD (sOp addD (sVar 3) (sOp mulX (sC (.int 7)) (sVar 5))) (sC (.int 1))) (sC (.int 48271))) sNil)) (sC (.int 2147483647)))))
    (sSeq (sAsg 6 (fz (sOp modD (sCall intD (sCons (sOp addD (sOp mulX (sVar 6) (sC (.int 69621))) (sOp mulX (sC (.int 31)) (sVar 5))) sNil)) (sC (.int 2147483629)))))
    (sApp 4 (fz (sOp modD (sCall intD (sCons (sOp fdivD (sVar 6) (sC (.int 7))) sNil)) (sVar 1))))))
theorem l2__law_draws_eq (e : En) (M : Mem) : l2__law_draws e M = (sSeq (sAsg 6 (fz (sOp modD (sCall intD (sCons (sOp mulX (sOp addD (sOp addD (sVar 3) (sOp mulX (sC (.int 7)) (sVar 5))) (sC (.int 1))) (sC (.int 48271))) sNil)) (sC (.int 2147483647)))))
    (sSeq (sAsg 6 (fz (sOp modD (sCall intD (sCons (sOp addD (sOp mulX (sVar 6) (sC (.int 69621))) (sOp mulX (sC (.int 31)) (sVar 5))) sNil)) (sC (.int 2147483629)))))
    (sApp 4 (fz (sOp modD (sCall intD (sCons (sOp fdivD (sVar 6) (sC (.int 7))) sNil)) (sVar 1)))))) e M := nrfl rfl

def b__law_draws : SS :=
    (sSeq (sAsg 3 (fz (sVar 0)))
    (sSeq (sIfS (sT (sOp ltD (sVar 3) (sC (.int 0)))) (sAsg 3 (fz (sOp subD (sC (.int 0)) (sVar 3)))) sNext)
    (sSeq (sAsgO 4 (sLst sNil))
    (sSeq (sIfS (sT (sOp geD (sVar 3) (sOp powD (sC (.int 10)) (sC (.int 18))))) (sSeq (sFor (sRng1 (sCons (sVar 2) sNil)) (gN 5) l1__law_draws)
    (sRet (sVar 4))) sNext)
    (sSeq (sFor (sRng1 (sCons (sVar 2) sNil)) (gN 5) l2__law_draws)
    (sRet (sVar 4)))))))
def s__law_draws : Fn := runF 7 b__law_draws

-- _law_next: 0=_law_box_here 1=_law_modulus 2=_law_at 3=_law_number   owns [] cells ['_law_box_here']

def b__law_next : SS :=
    (sSeq (sAsg 2 (fz (sOp idxD (sVar 0) (sC (.str "at")))))
    (sSeq (sSet 0 (sC (.str "at")) (fz (sOp addD (sVar 2) (sC (.int 1)))))
    (sSeq (sAsg 3 (fz (sOp idxD (sOp idxD (sVar 0) (sC (.str "row"))) (sOp modD (sVar 2) (sCall lenD (sCons (sOp idxD (sVar 0) (sC (.str "row"))) sNil))))))
    (sRet (sOp modD (sCall intD (sCons (sOp addD (sVar 3) (sOp mulX (sC (.int 7919)) (sOp fdivD (sVar 2) (sCall lenD (sCons (sOp idxD (sVar 0) (sC (.str "row"))) sNil))))) sNil)) (sVar 1))))))
def s__law_next : Fn := runF 4 b__law_next

-- _law_arches: 0=_law_text_here 1=_law_found 2=_law_at 3=_law_depth 4=_law_end 5=_law_k   owns ['_law_found'] cells []
def l1__law_arches : SS :=
    (sSeq (sIfS (sT (sOp (eqD false) (sOp idxD (sOp idxD (sVar 0) (sVar 5)) (sC (.int 0))) (sC (.str "call")))) (sAsg 3 (fz (sOp addD (sVar 3) (sC (.int 1))))) sNext)
    (sSeq (sIfS (sT (sOp (eqD false) (sOp idxD (sOp idxD (sVar 0) (sVar 5)) (sC (.int 0))) (sC (.str "return")))) (sAsg 3 (fz (sOp subD (sVar 3) (sC (.int 1))))) sNext)
    (sIfS (bAnd (sT (sOp (eqD false) (sVar 3) (sC (.int 0)))) (sT (sOp ltD (sVar 4) (sC (.int 0))))) (sAsg 4 (fz (sVar 5))) sNext)))
theorem l1__law_arches_eq (e : En) (M : Mem) : l1__law_arches e M = (sSeq (sIfS (sT (sOp (eqD false) (sOp idxD (sOp idxD (sVar 0) (sVar 5)) (sC (.int 0))) (sC (.str "call")))) (sAsg 3 (fz (sOp addD (sVar 3) (sC (.int 1))))) sNext)
    (sSeq (sIfS (sT (sOp (eqD false) (sOp idxD (sOp idxD (sVar 0) (sVar 5)) (sC (.int 0))) (sC (.str "return")))) (sAsg 3 (fz (sOp subD (sVar 3) (sC (.int 1))))) sNext)
    (sIfS (bAnd (sT (sOp (eqD false) (sVar 3) (sC (.int 0)))) (sT (sOp ltD (sVar 4) (sC (.int 0))))) (sAsg 4 (fz (sVar 5))) sNext))) e M := nrfl rfl
def l2__law_arches : SS :=
    (sIfS (sT (sOp (eqD false) (sOp idxD (sOp idxD (sVar 0) (sVar 2)) (sC (.int 0))) (sC (.str "call")))) (sSeq (sAsg 3 (fz (sC (.int 0))))
    (sSeq (sAsg 4 (fz (sOp subD (sC (.int 0)) (sC (.int 1)))))
    (sSeq (sFor (sRng2 (sCons (sVar 2) (sCons (sCall lenD (sCons (sVar 0) sNil)) sNil))) (gN 5) l1__law_arches)
    (sApp 1 (sTup (sCons (fz (sVar 2)) (sCons (fz (sVar 4)) sNil))))))) sNext)
theorem l2__law_arches_eq (e : En) (M : Mem) : l2__law_arches e M = (sIfS (sT (sOp (eqD false) (sOp idxD (sOp idxD (sVar 0) (sVar 2)) (sC (.int 0))) (sC (.str "call")))) (sSeq (sAsg 3 (fz (sC (.int 0))))
    (sSeq (sAsg 4 (fz (sOp subD (sC (.int 0)) (sC (.int 1)))))
    (sSeq (sFor (sRng2 (sCons (sVar 2) (sCons (sCall lenD (sCons (sVar 0) sNil)) sNil))) (gN 5) l1__law_arches)
    (sApp 1 (sTup (sCons (fz (sVar 2)) (sCons (fz (sVar 4)) sNil))))))) sNext) e M := nrfl rfl

def b__law_arches : SS :=
    (sSeq (sAsgO 1 (sLst sNil))
    (sSeq (sFor (sRng1 (sCons (sCall lenD (sCons (sVar 0) sNil)) sNil)) (gN 2) l2__law_arches)
    (sRet (sVar 1))))
def s__law_arches : Fn := runF 6 b__law_arches

-- _law_box: 0=_law_script 1=_law_row 2=_law_cell   owns [] cells []
def l1__law_box : SS :=
    (sAsg 1 (fz (sOp addD (sVar 1) (sCall s__law_draws (sCons (fz (sVar 2)) (sCons (fz (sC (.int 1000003))) (sCons (fz (sC (.int 6))) sNil)))))))
theorem l1__law_box_eq (e : En) (M : Mem) : l1__law_box e M = (sAsg 1 (fz (sOp addD (sVar 1) (sCall s__law_draws (sCons (fz (sVar 2)) (sCons (fz (sC (.int 1000003))) (sCons (fz (sC (.int 6))) sNil))))))) e M := nrfl rfl

def b__law_box : SS :=
    (sSeq (sAsg 1 (fz (sLst sNil)))
    (sSeq (sFor (sWalk (fz (sVar 0))) (gN 2) l1__law_box)
    (sSeq (sIfS (sT (sOp (eqD false) (sCall lenD (sCons (sVar 1) sNil)) (sC (.int 0)))) (sAsg 1 (fz (sLst (sCons (fz (sC (.int 11))) (sCons (fz (sC (.int 5))) (sCons (fz (sC (.int 2))) (sCons (fz (sC (.int 7))) (sCons (fz (sC (.int 31))) (sCons (fz (sC (.int 101))) (sCons (fz (sC (.int 997))) sNil)))))))))) sNext)
    (sRet (sDict (((sC (.str "row")), (fz (sVar 1))) :: (((sC (.str "at")), (fz (sC (.int 0)))) :: [])))))))
def s__law_box : Fn := runF 3 b__law_box

-- _law_labels: 0=_law_box_here   owns [] cells ['_law_box_here']

def b__law_labels : SS :=
    (sRet (sTup (sCons (fz (sOp addD (sC (.int 1)) (sCall s__law_next (sCons (fz (sVar 0)) (sCons (fz (sC (.int 3))) sNil))))) (sCons (fz (sOp addD (sC (.int 1)) (sCall s__law_next (sCons (fz (sVar 0)) (sCons (fz (sC (.int 3))) sNil))))) (sCons (fz (sOp addD (sC (.int 1)) (sCall s__law_next (sCons (fz (sVar 0)) (sCons (fz (sC (.int 3))) sNil))))) sNil)))))
def s__law_labels : Fn := runF 1 b__law_labels

-- _law_text: 0=_law_box_here 1=_law_labels_here 2=_law_most 3=_law_row 4=_law_opened 5=_law_k 6=_law_choice   owns ['_law_row'] cells ['_law_box_here']
def l1__law_text : SS :=
    (sSeq (sAsg 6 (fz (sCall s__law_next (sCons (fz (sVar 0)) (sCons (fz (sC (.int 6))) sNil)))))
    (sIfS (bAnd (sT (sOp ltD (sVar 6) (sC (.int 2)))) (sT (sOp leD (sOp addD (sOp addD (sCall lenD (sCons (sVar 3) sNil)) (sVar 4)) (sC (.int 2))) (sVar 2)))) (sSeq (sApp 3 (sTup (sCons (fz (sC (.str "call"))) (sCons (fz (sCall s__law_next (sCons (fz (sVar 0)) (sCons (fz (sOp idxD (sVar 1) (sC (.int 1)))) sNil)))) sNil))))
    (sAsg 4 (fz (sOp addD (sVar 4) (sC (.int 1)))))) (sIfS (bAnd (sT (sOp ltD (sVar 6) (sC (.int 4)))) (sT (sOp gtD (sVar 4) (sC (.int 0))))) (sSeq (sApp 3 (sTup (sCons (fz (sC (.str "return"))) (sCons (fz (sCall s__law_next (sCons (fz (sVar 0)) (sCons (fz (sOp idxD (sVar 1) (sC (.int 2)))) sNil)))) sNil))))
    (sAsg 4 (fz (sOp subD (sVar 4) (sC (.int 1)))))) (sIfS (sT (sOp ltD (sOp addD (sCall lenD (sCons (sVar 3) sNil)) (sVar 4)) (sVar 2))) (sApp 3 (sTup (sCons (fz (sC (.str "letter"))) (sCons (fz (sCall s__law_next (sCons (fz (sVar 0)) (sCons (fz (sOp idxD (sVar 1) (sC (.int 0)))) sNil)))) sNil)))) sNext))))
theorem l1__law_text_eq (e : En) (M : Mem) : l1__law_text e M = (sSeq (sAsg 6 (fz (sCall s__law_next (sCons (fz (sVar 0)) (sCons (fz (sC (.int 6))) sNil)))))
    (sIfS (bAnd (sT (sOp ltD (sVar 6) (sC (.int 2)))) (sT (sOp leD (sOp addD (sOp addD (sCall lenD (sCons (sVar 3) sNil)) (sVar 4)) (sC (.int 2))) (sVar 2)))) (sSeq (sApp 3 (sTup (sCons (fz (sC (.str "call"))) (sCons (fz (sCall s__law_next (sCons (fz (sVar 0)) (sCons (fz (sOp idxD (sVar 1) (sC (.int 1)))) sNil)))) sNil))))
    (sAsg 4 (fz (sOp addD (sVar 4) (sC (.int 1)))))) (sIfS (bAnd (sT (sOp ltD (sVar 6) (sC (.int 4)))) (sT (sOp gtD (sVar 4) (sC (.int 0))))) (sSeq (sApp 3 (sTup (sCons (fz (sC (.str "return"))) (sCons (fz (sCall s__law_next (sCons (fz (sVar 0)) (sCons (fz (sOp idxD (sVar 1) (sC (.int 2)))) sNil)))) sNil))))
    (sAsg 4 (fz (sOp subD (sVar 4) (sC (.int 1)))))) (sIfS (sT (sOp ltD (sOp addD (sCall lenD (sCons (sVar 3) sNil)) (sVar 4)) (sVar 2))) (sApp 3 (sTup (sCons (fz (sC (.str "letter"))) (sCons (fz (sCall s__law_next (sCons (fz (sVar 0)) (sCons (fz (sOp idxD (sVar 1) (sC (.int 0)))) sNil)))) sNil)))) sNext)))) e M := nrfl rfl
def l2__law_text : SS :=
    (sApp 3 (sTup (sCons (fz (sC (.str "return"))) (sCons (fz (sCall s__law_next (sCons (fz (sVar 0)) (sCons (fz (sOp idxD (sVar 1) (sC (.int 2)))) sNil)))) sNil))))
theorem l2__law_text_eq (e : En) (M : Mem) : l2__law_text e M = (sApp 3 (sTup (sCons (fz (sC (.str "return"))) (sCons (fz (sCall s__law_next (sCons (fz (sVar 0)) (sCons (fz (sOp idxD (sVar 1) (sC (.int 2)))) sNil)))) sNil)))) e M := nrfl rfl

def b__law_text : SS :=
    (sSeq (sAsgO 3 (sLst sNil))
    (sSeq (sAsg 4 (fz (sC (.int 0))))
    (sSeq (sFor (sRng1 (sCons (sVar 2) sNil)) (gN 5) l1__law_text)
    (sSeq (sFor (sRng1 (sCons (sVar 4) sNil)) (gN 5) l2__law_text)
    (sRet (sVar 3))))))
def s__law_text : Fn := runF 7 b__law_text

-- _law_walk: 0=_law_children 1=_law_text_here 2=_law_at 3=_law_ends 4=_law_child 5=_law_end   owns [] cells ['_law_children']
def l1__law_walk (r : Fn) : SS :=
    (sSeq (sIfS (bOr (bNot (sTru (sCall isiD (sCons (sVar 4) (sCons (sC (.ty "tuple")) sNil))))) (sT (sOp geD (sVar 2) (sCall lenD (sCons (sVar 1) sNil))))) (sRet (sOp subD (sC (.int 0)) (sC (.int 1)))) sNext)
    (sIfS (sT (sOp (eqD false) (sOp idxD (sVar 4) (sC (.int 0))) (sC (.str "letter")))) (sSeq (sIfS (sT (sOp (eqD true) (sVar 4) (sOp idxD (sVar 1) (sVar 2)))) (sRet (sOp subD (sC (.int 0)) (sC (.int 1)))) sNext)
    (sAsg 2 (fz (sOp addD (sVar 2) (sC (.int 1)))))) (sSeq (sIfS (bOr (sT (sOp (eqD true) (sCall lenD (sCons (sVar 4) sNil)) (sC (.int 4)))) (bOr (bNot (sTru (sCall isiD (sCons (sOp idxD (sVar 4) (sC (.int 3))) (sCons (sC (.ty "list")) sNil))))) (sT (sOp (eqD true) (sOp idxD (sVar 1) (sVar 2)) (sTup (sCons (fz (sC (.str "call"))) (sCons (fz (sOp idxD (sVar 4) (sC (.int 1)))) sNil))))))) (sRet (sOp subD (sC (.int 0)) (sC (.int 1)))) sNext)
    (sSeq (sAsg 5 (fz (sOp idxD (sVar 3) (sVar 2))))
    (sSeq (sIfS (bOr (sT (sOp (eqD true) (sOp idxD (sVar 1) (sVar 5)) (sTup (sCons (fz (sC (.str "return"))) (sCons (fz (sOp idxD (sVar 4) (sC (.int 2)))) sNil))))) (sT (sOp (eqD true) (sCall r (sCons (fz (sOp idxD (sVar 4) (sC (.int 3)))) (sCons (fz (sVar 1)) (sCons (fz (sOp addD (sVar 2) (sC (.int 1)))) (sCons (fz (sVar 3)) sNil))))) (sVar 5)))) (sRet (sOp subD (sC (.int 0)) (sC (.int 1)))) sNext)
    (sAsg 2 (fz (sOp addD (sVar 5) (sC (.int 1))))))))))
theorem l1__law_walk_eq (r : Fn) (e : En) (M : Mem) : l1__law_walk r e M = (sSeq (sIfS (bOr (bNot (sTru (sCall isiD (sCons (sVar 4) (sCons (sC (.ty "tuple")) sNil))))) (sT (sOp geD (sVar 2) (sCall lenD (sCons (sVar 1) sNil))))) (sRet (sOp subD (sC (.int 0)) (sC (.int 1)))) sNext)
    (sIfS (sT (sOp (eqD false) (sOp idxD (sVar 4) (sC (.int 0))) (sC (.str "letter")))) (sSeq (sIfS (sT (sOp (eqD true) (sVar 4) (sOp idxD (sVar 1) (sVar 2)))) (sRet (sOp subD (sC (.int 0)) (sC (.int 1)))) sNext)
    (sAsg 2 (fz (sOp addD (sVar 2) (sC (.int 1)))))) (sSeq (sIfS (bOr (sT (sOp (eqD true) (sCall lenD (sCons (sVar 4) sNil)) (sC (.int 4)))) (bOr (bNot (sTru (sCall isiD (sCons (sOp idxD (sVar 4) (sC (.int 3))) (sCons (sC (.ty "list")) sNil))))) (sT (sOp (eqD true) (sOp idxD (sVar 1) (sVar 2)) (sTup (sCons (fz (sC (.str "call"))) (sCons (fz (sOp idxD (sVar 4) (sC (.int 1)))) sNil))))))) (sRet (sOp subD (sC (.int 0)) (sC (.int 1)))) sNext)
    (sSeq (sAsg 5 (fz (sOp idxD (sVar 3) (sVar 2))))
    (sSeq (sIfS (bOr (sT (sOp (eqD true) (sOp idxD (sVar 1) (sVar 5)) (sTup (sCons (fz (sC (.str "return"))) (sCons (fz (sOp idxD (sVar 4) (sC (.int 2)))) sNil))))) (sT (sOp (eqD true) (sCall r (sCons (fz (sOp idxD (sVar 4) (sC (.int 3)))) (sCons (fz (sVar 1)) (sCons (fz (sOp addD (sVar 2) (sC (.int 1)))) (sCons (fz (sVar 3)) sNil))))) (sVar 5)))) (sRet (sOp subD (sC (.int 0)) (sC (.int 1)))) sNext)
    (sAsg 2 (fz (sOp addD (sVar 5) (sC (.int 1)))))))))) e M := nrfl rfl

def b__law_walk (r : Fn) : SS :=
    (sSeq (sForC (sWalkC (sVar 0)) (gN 4) (l1__law_walk r))
    (sRet (sVar 2)))
def s__law_walk : Nat → Fn
  | 0 => badF
  | n + 1 => runF 6 (b__law_walk (s__law_walk n))
theorem s__law_walk_eq (n : Nat) : s__law_walk (n + 1) = runF 6 (b__law_walk (s__law_walk n)) := nrfl rfl

-- law: 0=_law_script 1=_law_box_here 2=_law_labels_here 3=_law_text_here 4=_law_ends 5=_law_pair 6=_law_children 7=_law_place   owns ['_law_ends'] cells ['_law_box_here']
def e1_law : SE :=
    (fz (sC (.int 0)))
theorem e1_law_eq (e : En) (M : Mem) : e1_law e M = (fz (sC (.int 0))) e M := nrfl rfl
def l2_law : SS :=
    (sSet 4 (sOp idxD (sVar 5) (sC (.int 0))) (fz (sOp idxD (sVar 5) (sC (.int 1)))))
theorem l2_law_eq (e : En) (M : Mem) : l2_law e M = (sSet 4 (sOp idxD (sVar 5) (sC (.int 0))) (fz (sOp idxD (sVar 5) (sC (.int 1))))) e M := nrfl rfl

def b_law : SS :=
    (sSeq (sAsg 1 (fz (sCall s__law_box (sCons (fz (sVar 0)) sNil))))
    (sSeq (sAsg 2 (fz (sCall s__law_labels (sCons (fz (sVar 1)) sNil))))
    (sSeq (sAsg 3 (fz (sCall s__law_text (sCons (fz (sVar 1)) (sCons (fz (sVar 2)) (sCons (fz (sCall s__law_next (sCons (fz (sVar 1)) (sCons (fz (sC (.int 61))) sNil)))) sNil))))))
    (sSeq (sAsgO 4 (sLc (sWalk (fz (sVar 3))) (gN 7) bYes e1_law [7]))
    (sSeq (sFor (sWalk (fz (sCall s__law_arches (sCons (fz (sVar 3)) sNil)))) (gN 5) l2_law)
    (sSeq (sAsg 6 (fz (sCall s_children_of (sCons (fz (sCall listD (sCons (sVar 3) sNil))) sNil))))
    (sSeq (sFrz [4] (sIfS (bOr (bNot (sTru (sCall isiD (sCons (sVar 6) (sCons (sC (.ty "list")) sNil))))) (sT (sOp (eqD true) (sCall (s__law_walk 70) (sCons (fz (sVar 6)) (sCons (fz (sVar 3)) (sCons (fz (sC (.int 0))) (sCons (fz (sVar 4)) sNil))))) (sCall lenD (sCons (sVar 3) sNil))))) (sRet (sC (.bl false))) sNext))
    (sRet (sAnd (sOp (eqD false) (sCall s_row_of (sCons (fz (sVar 6)) sNil)) (sVar 3)) (sCall isiD (sCons (sCall s_row_of (sCons (fz (sVar 6)) sNil)) (sCons (sC (.ty "list")) sNil))))))))))))
def s_law : Fn := runF 8 b_law
end
end Lk04
namespace Lk04
open PySem PySem.Spec PyProof.Rows L2 L3
/-! ### the box of draws -/
theorem modOk_of {m : Int} (h : 0 < m) (i : Int) : modOk i m = true := by unfold modOk; simp; omega
theorem divOk_of {m : Int} (h : 0 < m) (h2 : m < 1073741824) (i : Int) : divOk i m = true := by unfold divOk; simp; omega
theorem fmod_of {m : Int} (h : 0 < m) (i : Int) : 0 ≤ i.fmod m ∧ i.fmod m < m := by
  rw [Int.fmod_eq_emod_of_nonneg _ (Int.le_of_lt h)]
  exact ⟨Int.emod_nonneg _ (by omega), Int.emod_lt_of_pos _ h⟩
theorem mulOk_l (i j : Int) (h : -(2 ^ 64) < i ∧ i < 2 ^ 64) : mulOk i j = true := by
  unfold mulOk
  simp only [Bool.or_eq_true, Bool.and_eq_true, decide_eq_true_eq]
  exact .inl h
theorem in62_int (n : Int) (h0 : 0 ≤ n) (h : n ≤ 100000) : in62 n = true := by unfold in62; simp; omega
theorem in62_nat (n : Nat) (h : n ≤ 100000) : in62 (n : Int) = true := by unfold in62; simp; omega
theorem s_row_at : (Str.ofString "row" = Str.ofString "at") = False := by
  apply propext
  constructor
  · intro h; exact absurd h (by decide +kernel)
  · exact False.elim
theorem s_at_row : (Str.ofString "at" = Str.ofString "row") = False := by
  apply propext
  constructor
  · intro h; exact absurd h (by decide +kernel)
  · exact False.elim
theorem draws (c : Int) (M : Mem) : ∃ r : List Int, s__law_draws [.int c, .int 1000003, .int 6] M = .ok (.lst (r.map .int)) M ∧ r.length = 6 := by
  have e1 : ∀ i, modOk i 1000003 = true := modOk_of (by decide)
  have e2 : ∀ i, divOk i 1000003 = true := divOk_of (by decide) (by decide)
  have e3 : ∀ i, modOk i 2147483647 = true := modOk_of (by decide)
  have e4 : ∀ i, modOk i 2147483629 = true := modOk_of (by decide)
  have e5 : ∀ i, divOk i 7 = true := divOk_of (by decide) (by decide)
  have e6 : ∀ i, mulOk i 48271 = true := fun i => mulOk_r i _ (by decide)
  have e7 : ∀ i, mulOk i 69621 = true := fun i => mulOk_r i _ (by decide)
  have e8 : ∀ i, mulOk 7 i = true := fun i => mulOk_l _ _ (by decide)
  have e9 : ∀ i, mulOk 31 i = true := fun i => mulOk_l _ _ (by decide)
  have ep : powOk 10 18 = true := by decide
  have i6 : in62 6 = true := by decide
  have z : ∀ n : Nat, n ≤ 10 → n < sizeLine := fun n h => big' _ (by omega)
  have z0 := z 0 (by decide)
  have z1 := z 1 (by decide)
  have z2 := z 2 (by decide)
  have z3 := z 3 (by decide)
  have z4 := z 4 (by decide)
  have z5 := z 5 (by decide)
  have go : ∀ n : Int, ∃ a1 a2 a3 a4 a5 a6 : Int, RS.out (RS.seq (if 1000000000000000000 ≤ n then RS.seq (forL (gN 5) l1__law_draws (rangeL 0 6) [some (.int c), some (.int 1000003), some (.int 6), some (.int n), some (.own []), none, none] M) (sRet (sVar 4)) else .nx [some (.int c), some (.int 1000003), some (.int 6), some (.int n), some (.own []), none, none] M) (sSeq (sFor (sRng1 (sCons (sVar 2) sNil)) (gN 5) l2__law_draws) (sRet (sVar 4)))) = .ok (.lst [.int a1, .int a2, .int a3, .int a4, .int a5, .int a6]) M := by
    intro n
    by_cases h : 1000000000000000000 ≤ n
    · simp [h, rangeL_succ, forL_cons, l1__law_draws_eq, e1, e2, z0, z1, z2, z3, z4, z5]
    · simp [h, i6, rangeL_succ, forL_cons, l2__law_draws_eq, e1, e3, e4, e5, e6, e7, e8, e9, z0, z1, z2, z3, z4, z5]
  by_cases hc : c < 0
  · obtain ⟨a1, a2, a3, a4, a5, a6, e⟩ := go (-c)
    refine ⟨[a1, a2, a3, a4, a5, a6], ?_, rfl⟩
    rw [show List.map D.int [a1, a2, a3, a4, a5, a6] = [.int a1, .int a2, .int a3, .int a4, .int a5, .int a6] from rfl]
    rw [← e]
    simp [s__law_draws, runF_eq, b__law_draws, hc, ep, i6]
  · obtain ⟨a1, a2, a3, a4, a5, a6, e⟩ := go c
    refine ⟨[a1, a2, a3, a4, a5, a6], ?_, rfl⟩
    rw [show List.map D.int [a1, a2, a3, a4, a5, a6] = [.int a1, .int a2, .int a3, .int a4, .int a5, .int a6] from rfl]
    rw [← e]
    simp [s__law_draws, runF_eq, b__law_draws, hc, ep, i6]
theorem box_loop (x0 : Option D) : ∀ (ns row : List Int) (x : Option D) (M : Mem), row.length + 6 * ns.length ≤ 5000 →
    ∃ (row' : List Int) (x' : Option D), forL (gN 2) l1__law_box (ns.map .int) [x0, some (.lst (row.map .int)), x] M = .nx [x0, some (.lst (row'.map .int)), x'] M ∧ row'.length = row.length + 6 * ns.length := by
  intro ns
  induction ns with
  | nil => intro row x M _; exact ⟨row, x, by simp, by simp⟩
  | cons c ns ih =>
    intro row x M h
    rw [List.length_cons] at h
    obtain ⟨r, e, hr⟩ := draws c M
    obtain ⟨row', x', e2, h2⟩ := ih (row ++ r) (some (.int c)) M (by simp; omega)
    have hz : row.length + r.length ≤ sizeLine := big _ (by omega)
    refine ⟨row', x', ?_, by simp at h2 ⊢; omega⟩
    rw [← e2]
    simp [forL_cons, l1__law_box_eq, e, hz]
def Bx (M : Mem) : Prop := ∃ (row : List Int) (a : Int), M = [.dic [(.inr (Str.ofString "row"), .lst (row.map .int)), (.inr (Str.ofString "at"), .int a)]] ∧ 0 < row.length ∧ row.length ≤ 500 ∧ 0 ≤ a
theorem box (ns : List Int) (hl : ns.length ≤ 63) : ∃ M, s__law_box [.rol (ns.map .int)] [] = .ok (.cell 0) M ∧ Bx M := by
  obtain ⟨row, x, e, h⟩ := box_loop (some (.rol (ns.map .int))) ns [] none [] (by simp; omega)
  have hu : ∀ a b : D, uniqK [(Sum.inr (Str.ofString "row"), a), (Sum.inr (Str.ofString "at"), b)] = true := fun a b => by simp [uniqK, s_at_row]
  simp at e h
  by_cases h0 : row.length = 0
  · have h0' : row = [] := List.length_eq_zero_iff.mp h0
    subst h0'
    have e0 : ns = [] := by
      simp at h
      cases ns with
      | nil => rfl
      | cons _ _ => simp at h
    subst e0
    refine ⟨_, ?_, [11, 5, 2, 7, 31, 101, 997], 0, rfl, by decide, by decide, by decide⟩
    simp at e
    simp [s__law_box, runF_eq, b__law_box, e, hu]
  · refine ⟨_, ?_, row, 0, rfl, by omega, by omega, by decide⟩
    have h0' : ¬ (row.length : Int) = 0 := by omega
    have h1 : ¬ row = [] := fun z => h0 (by rw [z]; rfl)
    simp [s__law_box, runF_eq, b__law_box, e, hu, h0', h1]
theorem next (m : Int) (M : Mem) (h : Bx M) (hm : 0 < m) : ∃ r M', s__law_next [.cell 0, .int m] M = .ok (.int r) M' ∧ Bx M' ∧ 0 ≤ r ∧ r < m := by
  obtain ⟨row, a, rfl, h1, h2, h3⟩ := h
  have e1 : ∀ i, modOk i m = true := modOk_of hm
  have e2 : ∀ i, modOk i (row.length : Int) = true := modOk_of (by omega)
  have e3 : ∀ i, divOk i (row.length : Int) = true := divOk_of (by omega) (by omega)
  have e4 : ∀ i, mulOk 7919 i = true := fun i => mulOk_l _ _ (by decide)
  have hu : ∀ a b : D, uniqK [(Sum.inr (Str.ofString "row"), a), (Sum.inr (Str.ofString "at"), b)] = true := fun a b => by simp [uniqK, s_at_row]
  have z2 : 2 < sizeLine := by decide
  have f := fmod_of (m := (row.length : Int)) (by omega) a
  obtain ⟨k, hk⟩ := Int.eq_ofNat_of_zero_le f.1
  have hk2 : k < row.length := by omega
  have fin : ∀ x : Int, ∃ r M', (x.fmod m = r ∧ ([.dic [(.inr (Str.ofString "row"), .lst (row.map .int)), (.inr (Str.ofString "at"), .int (a + 1))]] : Mem) = M') ∧ Bx M' ∧ 0 ≤ r ∧ r < m := fun x =>
    ⟨_, _, ⟨rfl, rfl⟩, ⟨row, a + 1, rfl, h1, h2, by omega⟩, (fmod_of hm x).1, (fmod_of hm x).2⟩
  simp [s__law_next, runF_eq, b__law_next, s_row_at, s_at_row, e1, e2, e3, e4, hu, z2, hk, hk2]
  exact fin _
end Lk04
namespace Lk04
open PySem PySem.Spec PyProof.Rows L2 L3
/-! ### draws of a box, as natural numbers -/
theorem toN (n : Nat) : ((n : Int)).toNat = n := by omega
theorem nextN (m : Nat) (M : Mem) (h : Bx M) (hm : 0 < m) : ∃ (r : Nat) (M' : Mem), s__law_next [.cell 0, .int (m : Nat)] M = .ok (.int (r : Nat)) M' ∧ Bx M' ∧ r < m := by
  obtain ⟨r, M', e, h', h0, h1⟩ := next m M h (by omega)
  obtain ⟨k, rfl⟩ := Int.eq_ofNat_of_zero_le h0
  exact ⟨k, M', e, h', by omega⟩
theorem nextI (m : Int) (M : Mem) (h : Bx M) (hm : 0 < m) : ∃ (r : Nat) (M' : Mem), s__law_next [.cell 0, .int m] M = .ok (.int (r : Nat)) M' ∧ Bx M' ∧ (r : Int) < m := by
  obtain ⟨k, rfl⟩ := Int.eq_ofNat_of_zero_le (Int.le_of_lt hm)
  obtain ⟨r, M', e, h', h1⟩ := nextN k M h (by omega)
  exact ⟨r, M', e, h', by omega⟩
theorem labelsN (M : Mem) (h : Bx M) : ∃ (a b c : Nat) (M' : Mem), s__law_labels [.cell 0] M = .ok (labD a b c) M' ∧ Bx M' ∧ (1 ≤ a ∧ a ≤ 3) ∧ (1 ≤ b ∧ b ≤ 3) ∧ (1 ≤ c ∧ c ≤ 3) := by
  obtain ⟨a, M1, e1, h1, a1⟩ := nextI 3 M h (by decide)
  obtain ⟨b, M2, e2, h2, b1⟩ := nextI 3 M1 h1 (by decide)
  obtain ⟨c, M3, e3, h3, c1⟩ := nextI 3 M2 h2 (by decide)
  refine ⟨1 + a, 1 + b, 1 + c, M3, ?_, h3, by omega, by omega, by omega⟩
  simp [s__law_labels, runF_eq, b__law_labels, e1, e2, e3, labD, nD]
theorem okP_re {la lb lc : Nat} : ∀ (l : List Nat), (∀ b ∈ l, b < lc) → okP la lb lc l.length (l.map Pl.re) 0
  | [], _ => rfl
  | b :: l, h => ⟨h b List.mem_cons_self, by simp, by have := okP_re (la := la) (lb := lb) l fun c hc => h c (List.mem_cons_of_mem _ hc); simpa using this⟩
theorem text_loop (la lb lc : Nat) (ha : 1 ≤ la ∧ la ≤ 3) (hb : 1 ≤ lb ∧ lb ≤ 3) (hc : 1 ≤ lc ∧ lc ≤ 3) (m : Nat) (hm : m ≤ 1000) : ∀ (ds : List D) (u : List Pl) (d : Nat) (M : Mem) (x5 x6 : Option D), Bx M → okP la lb lc 0 u d → u.length + d ≤ m →
    ∃ (u' : List Pl) (d' : Nat) (M' : Mem) (y5 y6 : Option D), forL (gN 5) l1__law_text ds [some (.cell 0), some (labD la lb lc), some (.int (m : Nat)), some (.own (u.map Pl.D)), some (.int (d : Nat)), x5, x6] M = .nx [some (.cell 0), some (labD la lb lc), some (.int (m : Nat)), some (.own (u'.map Pl.D)), some (.int (d' : Nat)), y5, y6] M' ∧ Bx M' ∧ okP la lb lc 0 u' d' ∧ u'.length + d' ≤ m := by
  have v2 : ∀ M, var1 (some (labD la lb lc)) M = .ok (labD la lb lc) M := fun M => rfl
  have f2 : ∀ M, fz1 (labD la lb lc) M = .ok (labD la lb lc) M := fun M => rfl
  have i0 : ∀ M, idxD (labD la lb lc) (.int 0) M = .ok (.int (la : Nat)) M := fun M => by simp [labD, nD]
  have i1 : ∀ M, idxD (labD la lb lc) (.int 1) M = .ok (.int (lb : Nat)) M := fun M => by simp [labD, nD]
  have i2 : ∀ M, idxD (labD la lb lc) (.int 2) M = .ok (.int (lc : Nat)) M := fun M => by simp [labD, nD]
  intro ds
  induction ds with
  | nil => intro u d M x5 x6 h hu hl; exact ⟨u, d, M, x5, x6, by simp, h, hu, hl⟩
  | cons x ds ih =>
    intro u d M x5 x6 h hu hl
    have hz : u.length < sizeLine := big' _ (by omega)
    obtain ⟨k, M1, e1, h1, k1⟩ := nextI 6 M h (by decide)
    by_cases c1 : k < 2 ∧ u.length + d + 2 ≤ m
    · obtain ⟨b, M2, e2, h2, b1⟩ := nextN lb M1 h1 (by omega)
      obtain ⟨u', d', M', y5, y6, e3, h3, u1, u2⟩ := ih (u ++ [.ca b]) (d + 1) M2 (some x) (some (.int (k : Nat))) h2 (hu.app (v := [.ca b]) (d2 := d + 1) ⟨b1, rfl⟩) (by simp; omega)
      refine ⟨u', d', M', y5, y6, ?_, h3, u1, u2⟩
      have q1 : (k : Int) < 2 := by omega
      have q2 : (u.length : Int) + (d : Int) + 2 ≤ (m : Int) := by omega
      rw [List.map_append] at e3
      rw [forL_cons]
      simp [l1__law_text_eq, e1, q1, q2, v2, i1, e2, hz]
      exact e3
    by_cases c2 : k < 4 ∧ 0 < d
    · obtain ⟨b, M2, e2, h2, b1⟩ := nextN lc M1 h1 (by omega)
      obtain ⟨u', d', M', y5, y6, e3, h3, u1, u2⟩ := ih (u ++ [.re b]) (d - 1) M2 (some x) (some (.int (k : Nat))) h2 (hu.app (v := [.re b]) (d2 := d - 1) ⟨b1, c2.2, rfl⟩) (by simp; omega)
      refine ⟨u', d', M', y5, y6, ?_, h3, u1, u2⟩
      have q2 : (k : Int) < 4 := by omega
      have ed : (d : Int) - 1 = ((d - 1 : Nat) : Int) := by omega
      have q3 := c2.2
      rw [List.map_append] at e3
      rw [forL_cons]
      by_cases q1 : (k : Int) < 2
      · have q4 : ¬ (u.length : Int) + (d : Int) + 2 ≤ (m : Int) := by omega
        simp [l1__law_text_eq, e1, q1, q4, q2, q3, v2, i2, e2, hz, ed]
        exact e3
      · simp [l1__law_text_eq, e1, q1, q2, q3, v2, i2, e2, hz, ed]
        exact e3
    · have skip1 : ∀ (A B : En → Mem → RS) (e : En) (M : Mem), e = [some (.cell 0), some (labD la lb lc), some (.int (m : Nat)), some (.own (u.map Pl.D)), some (.int (d : Nat)), some x, some (.int (k : Nat))] →
          (sIfS (bAnd (sT (sOp ltD (sVar 6) (sC (.int 2)))) (sT (sOp leD (sOp addD (sOp addD (sCall lenD (sCons (sVar 3) sNil)) (sVar 4)) (sC (.int 2))) (sVar 2)))) A (sIfS (bAnd (sT (sOp ltD (sVar 6) (sC (.int 4)))) (sT (sOp gtD (sVar 4) (sC (.int 0))))) B
          (sIfS (sT (sOp ltD (sOp addD (sCall lenD (sCons (sVar 3) sNil)) (sVar 4)) (sVar 2))) (sApp 3 (sTup (sCons (fz (sC (.str "letter"))) (sCons (fz (sCall s__law_next (sCons (fz (sVar 0)) (sCons (fz (sOp idxD (sVar 1) (sC (.int 0)))) sNil)))) sNil)))) sNext))) e M =
          (sIfS (sT (sOp ltD (sOp addD (sCall lenD (sCons (sVar 3) sNil)) (sVar 4)) (sVar 2))) (sApp 3 (sTup (sCons (fz (sC (.str "letter"))) (sCons (fz (sCall s__law_next (sCons (fz (sVar 0)) (sCons (fz (sOp idxD (sVar 1) (sC (.int 0)))) sNil)))) sNil)))) sNext) e M := fun A B e M he => by
        subst he
        by_cases q1 : (k : Int) < 2
        · have q4 : ¬ (u.length : Int) + (d : Int) + 2 ≤ (m : Int) := by omega
          have q2 : (k : Int) < 4 := by omega
          have q3 : ¬ 0 < d := by omega
          simp [q1, q4, q2, q3]
        · by_cases q2 : (k : Int) < 4
          · have q3 : ¬ 0 < d := by omega
            simp [q1, q2, q3]
          · simp [q1, q2]
      by_cases c3 : u.length + d < m
      · obtain ⟨b, M2, e2, h2, b1⟩ := nextN la M1 h1 (by omega)
        obtain ⟨u', d', M', y5, y6, e3, h3, u1, u2⟩ := ih (u ++ [.lt b]) d M2 (some x) (some (.int (k : Nat))) h2 (hu.app (v := [.lt b]) (d2 := d) ⟨b1, rfl⟩) (by simp; omega)
        refine ⟨u', d', M', y5, y6, ?_, h3, u1, u2⟩
        have q : (u.length : Int) + (d : Int) < (m : Int) := by omega
        rw [List.map_append] at e3
        rw [forL_cons]
        simp [l1__law_text_eq, e1, -sIfS_eq]
        rw [skip1 _ _ _ _ rfl]
        simp [q, v2, i0, e2, hz]
        exact e3
      · obtain ⟨u', d', M', y5, y6, e3, h3, u1, u2⟩ := ih u d M1 (some x) (some (.int (k : Nat))) h1 hu hl
        refine ⟨u', d', M', y5, y6, ?_, h3, u1, u2⟩
        have q : ¬ (u.length : Int) + (d : Int) < (m : Int) := by omega
        rw [forL_cons]
        simp [l1__law_text_eq, e1, -sIfS_eq]
        rw [skip1 _ _ _ _ rfl]
        simp [q]
        exact e3
theorem close_loop (la lb lc : Nat) (hc : 1 ≤ lc ∧ lc ≤ 3) (x2 x4 x6 : Option D) : ∀ (ds : List D) (u : List Pl) (M : Mem) (x5 : Option D), Bx M → u.length + ds.length ≤ 1000 →
    ∃ (l : List Nat) (M' : Mem) (y5 : Option D), forL (gN 5) l2__law_text ds [some (.cell 0), some (labD la lb lc), x2, some (.own (u.map Pl.D)), x4, x5, x6] M = .nx [some (.cell 0), some (labD la lb lc), x2, some (.own ((u ++ l.map Pl.re).map Pl.D)), x4, y5, x6] M' ∧ Bx M' ∧ l.length = ds.length ∧ ∀ b ∈ l, b < lc := by
  have v2 : ∀ M, var1 (some (labD la lb lc)) M = .ok (labD la lb lc) M := fun M => rfl
  have i2 : ∀ M, idxD (labD la lb lc) (.int 2) M = .ok (.int (lc : Nat)) M := fun M => by simp [labD, nD]
  intro ds
  induction ds with
  | nil => intro u M x5 h _; exact ⟨[], M, x5, by simp, h, rfl, by simp⟩
  | cons x ds ih =>
    intro u M x5 h hl
    rw [List.length_cons] at hl
    have hz : u.length < sizeLine := big' _ (by omega)
    obtain ⟨b, M1, e1, h1, b1⟩ := nextN lc M h (by omega)
    obtain ⟨l, M2, y5, e2, h2, l1, l2⟩ := ih (u ++ [.re b]) M1 (some x) h1 (by simp; omega)
    refine ⟨b :: l, M2, y5, ?_, h2, by simp [l1], fun c hcm => by
      rcases List.mem_cons.mp hcm with rfl | hcm
      · exact b1
      · exact l2 c hcm⟩
    have ea : u ++ (b :: l).map Pl.re = u ++ [.re b] ++ l.map Pl.re := by simp
    rw [ea, ← e2, forL_cons, List.map_append]
    simp [l2__law_text_eq, v2, i2, e1, hz, Pl.D]
theorem text (la lb lc : Nat) (ha : 1 ≤ la ∧ la ≤ 3) (hb : 1 ≤ lb ∧ lb ≤ 3) (hc : 1 ≤ lc ∧ lc ≤ 3) (m : Nat) (hm : m ≤ 500) (M : Mem) (h : Bx M) : ∃ (t : List Pl) (M' : Mem), s__law_text [.cell 0, labD la lb lc, .int (m : Nat)] M = .ok (.lst (t.map Pl.D)) M' ∧ Bx M' ∧ Bal la lb lc t ∧ t.length ≤ m := by
  have hi := in62_nat m (by omega)
  obtain ⟨u, d, M1, y5, y6, e1, h1, u1, u2⟩ := text_loop la lb lc ha hb hc m (by omega) (rangeL 0 m) [] 0 M none none h rfl (by simp)
  have hd := in62_nat d (by omega)
  obtain ⟨l, M2, z5, e2, h2, l1, l2⟩ := close_loop la lb lc hc (some (.int (m : Nat))) (some (.int (d : Nat))) y6 (rangeL 0 d) u M1 y5 h1 (by rw [rangeL_length]; omega)
  rw [rangeL_length] at l1
  have hb2 := okP_re (la := la) (lb := lb) l l2
  rw [l1] at hb2
  refine ⟨u ++ l.map Pl.re, M2, ?_, h2, okP.bal _ _ (Nat.le_refl _) (u1.app hb2), by simp [l1]; omega⟩
  simp only [List.map_nil, Int.natCast_zero] at e1
  simp [-List.map_append, s__law_text, runF_eq, b__law_text, hi, toN, e1, hd, e2]
end Lk04
namespace Lk04
open PySem PySem.Spec PyProof.Rows L2 L3
/-! ### arches: C by calls, R by returns -/
inductive Ar : Nat → List Pl → List (Nat × Nat) → List (Nat × Nat) → Prop
  | nil (k : Nat) : Ar k [] [] []
  | lt {k a : Nat} {t : List Pl} {C R : List (Nat × Nat)} : Ar (k + 1) t C R → Ar k (.lt a :: t) C R
  | arch {k a b : Nat} {u v : List Pl} {C1 R1 C2 R2 : List (Nat × Nat)} : Ar (k + 1) u C1 R1 → Ar (k + 1 + u.length + 1) v C2 R2 → Ar k (.ca a :: (u ++ .re b :: v)) ((k, k + 1 + u.length) :: (C1 ++ C2)) (R1 ++ (k, k + 1 + u.length) :: R2)
theorem ar_of {la lb lc : Nat} {t : List Pl} (h : Bal la lb lc t) : ∀ k, ∃ C R, Ar k t C R := by
  induction h with
  | nil => intro k; exact ⟨[], [], .nil k⟩
  | lt _ _ ih => intro k; obtain ⟨C, R, h⟩ := ih (k + 1); exact ⟨C, R, .lt h⟩
  | @arch a b u v _ _ _ _ i1 i2 =>
    intro k
    obtain ⟨C1, R1, h1⟩ := i1 (k + 1)
    obtain ⟨C2, R2, h2⟩ := i2 (k + 1 + u.length + 1)
    exact ⟨_, _, .arch h1 h2⟩
theorem Ar.perm {k : Nat} {t : List Pl} {C R : List (Nat × Nat)} (h : Ar k t C R) : C.Perm R := by
  induction h with
  | nil => exact .nil
  | lt _ ih => exact ih
  | @arch k a b u v C1 R1 C2 R2 _ _ i1 i2 => exact ((i1.append i2).cons _).trans List.perm_middle.symm
theorem Ar.bd {k : Nat} {t : List Pl} {C R : List (Nat × Nat)} (h : Ar k t C R) : ∀ p ∈ C, k ≤ p.1 ∧ p.1 < p.2 ∧ p.2 < k + t.length := by
  induction h with
  | nil => intro p hp; cases hp
  | lt _ ih => intro p hp; have := ih p hp; rw [List.length_cons]; omega
  | @arch k a b u v C1 R1 C2 R2 _ _ i1 i2 =>
    intro p hp
    rw [List.length_cons, List.length_append, List.length_cons]
    rcases List.mem_cons.mp hp with rfl | hp
    · exact ⟨by simp, by simp; omega, by simp; omega⟩
    · rcases List.mem_append.mp hp with hp | hp
      · have := i1 p hp; omega
      · have := i2 p hp; omega
theorem Ar.pw {k : Nat} {t : List Pl} {C R : List (Nat × Nat)} (h : Ar k t C R) : C.Pairwise fun p q => p.1 < q.1 := by
  induction h with
  | nil => exact .nil
  | lt _ ih => exact ih
  | @arch k a b u v C1 R1 C2 R2 h1 h2 i1 i2 =>
    refine List.pairwise_cons.mpr ⟨fun q hq => ?_, List.pairwise_append.mpr ⟨i1, i2, fun p hp q hq => ?_⟩⟩
    · rcases List.mem_append.mp hq with hq | hq
      · have := h1.bd q hq; show k < q.1; omega
      · have := h2.bd q hq; show k < q.1; omega
    · have a1 := h1.bd p hp
      have a2 := h2.bd q hq
      omega
theorem Ar.len {k : Nat} {t : List Pl} {C R : List (Nat × Nat)} (h : Ar k t C R) : 2 * C.length ≤ t.length := by
  induction h with
  | nil => exact Nat.le_refl _
  | lt _ ih => rw [List.length_cons]; omega
  | arch _ _ i1 i2 => simp; omega
theorem getM (pre suf : List Pl) (x : Pl) {lo : Nat} (h : lo = pre.length) : (pre ++ x :: suf)[lo]? = some x := by subst h; simp
theorem in_scan (x1 x2 : Option D) (M : Mem) (full : List Pl) {k : Nat} {u : List Pl} {C R : List (Nat × Nat)} (h : Ar k u C R) : ∀ (pre suf : List Pl) (n : Nat) (d : Int) (e : Int) (x5 : Option D), 1 ≤ d → full = pre ++ (u ++ suf) → k = pre.length →
    ∃ y5, forL (gN 5) l1__law_arches (rangeL (k : Int) (u.length + n)) [some (.lst (full.map Pl.D)), x1, x2, some (.int d), some (.int e), x5] M = forL (gN 5) l1__law_arches (rangeL ((k + u.length : Nat) : Int) n) [some (.lst (full.map Pl.D)), x1, x2, some (.int d), some (.int e), y5] M := by
  obtain ⟨s1, s2, s3, s4, s5, s6⟩ := str_ne
  induction h with
  | nil => intro pre suf n d e x5 _ _ _; exact ⟨x5, by simp⟩
  | @lt k a t C R _ ih =>
    intro pre suf n d e x5 hd hf hk
    have d0 : ¬ d = 0 := by omega
    have hx : full[k]? = some (.lt a) := by rw [hf]; exact getM pre _ _ hk
    obtain ⟨y5, q⟩ := ih (pre ++ [.lt a]) suf n d e (some (.int (k : Nat))) hd (by rw [hf]; simp) (by simp [hk])
    refine ⟨y5, ?_⟩
    rw [List.length_cons, show t.length + 1 + n = (t.length + n) + 1 by omega, show k + (t.length + 1) = k + 1 + t.length by omega, ← q, rangeL_succN, forL_cons]
    simp [-Int.natCast_add, l1__law_arches_eq, hx, Pl.D, s1, s2, d0]
  | @arch k a b u v C1 R1 C2 R2 _ _ i1 i2 =>
    intro pre suf n d e x5 hd hf hk
    have d0 : ¬ d = 0 := by omega
    have d1 : ¬ d + 1 = 0 := by omega
    have hx : full[k]? = some (.ca a) := by rw [hf]; exact getM pre _ _ hk
    obtain ⟨y5, q1⟩ := i1 (pre ++ [.ca a]) (.re b :: (v ++ suf)) (v.length + n + 1) (d + 1) e (some (.int (k : Nat))) (by omega) (by rw [hf]; simp) (by simp [hk])
    have hy : full[k + 1 + u.length]? = some (.re b) := by
      rw [hf, show pre ++ (.ca a :: (u ++ .re b :: v) ++ suf) = (pre ++ .ca a :: u) ++ .re b :: (v ++ suf) by simp]
      exact getM _ _ _ (by simp [hk]; omega)
    obtain ⟨z5, q2⟩ := i2 (pre ++ .ca a :: (u ++ [.re b])) suf n d e (some (.int ((k + 1 + u.length : Nat) : Int))) hd (by rw [hf]; simp) (by simp [hk]; omega)
    refine ⟨z5, ?_⟩
    rw [show (Pl.ca a :: (u ++ .re b :: v)).length + n = (u.length + (v.length + n + 1)) + 1 by simp; omega, show k + (Pl.ca a :: (u ++ .re b :: v)).length = k + 1 + u.length + 1 + v.length by simp; omega, ← q2, rangeL_succN, forL_cons]
    have step1 : ∀ rest, for1 (gN 5) l1__law_arches rest M (gN 5 (.int (k : Nat)) [some (.lst (full.map Pl.D)), x1, x2, some (.int d), some (.int e), x5]) = forL (gN 5) l1__law_arches rest [some (.lst (full.map Pl.D)), x1, x2, some (.int (d + 1)), some (.int e), some (.int (k : Nat))] M := fun rest => by
      simp [-Int.natCast_add, l1__law_arches_eq, hx, Pl.D, s4, d1]
    rw [step1, q1, rangeL_succN, forL_cons]
    generalize k + 1 + u.length = m at hy ⊢
    simp [-Int.natCast_add, l1__law_arches_eq, hy, Pl.D, s6, d0]
theorem in_rest (x1 x2 : Option D) (M : Mem) (full : List Pl) (e : Nat) : ∀ (n k : Nat) (d : Int) (x5 : Option D), k + n ≤ full.length →
    ∃ y3 y5, forL (gN 5) l1__law_arches (rangeL (k : Int) n) [some (.lst (full.map Pl.D)), x1, x2, some (.int d), some (.int (e : Nat)), x5] M = .nx [some (.lst (full.map Pl.D)), x1, x2, y3, some (.int (e : Nat)), y5] M := by
  obtain ⟨s1, s2, s3, s4, s5, s6⟩ := str_ne
  intro n
  induction n with
  | zero => intro k d x5 _; exact ⟨some (.int d), x5, by simp⟩
  | succ n ih =>
    intro k d x5 hk
    have hx : ∃ x, full[k]? = some x := ⟨full[k], List.getElem?_eq_getElem (by omega)⟩
    obtain ⟨x, hx⟩ := hx
    have e0 : ¬ ((e : Int) < 0) := by omega
    rw [rangeL_succN, forL_cons]
    have fin : ∀ d', forL (gN 5) l1__law_arches (rangeL ((k + 1 : Nat) : Int) n) [some (.lst (full.map Pl.D)), x1, x2, some (.int d'), some (.int (e : Nat)), some (.int (k : Nat))] M = forL (gN 5) l1__law_arches (rangeL ((k + 1 : Nat) : Int) n) [some (.lst (full.map Pl.D)), x1, x2, some (.int d'), some (.int (e : Nat)), some (.int (k : Nat))] M → ∃ y3 y5, forL (gN 5) l1__law_arches (rangeL ((k + 1 : Nat) : Int) n) [some (.lst (full.map Pl.D)), x1, x2, some (.int d'), some (.int (e : Nat)), some (.int (k : Nat))] M = .nx [some (.lst (full.map Pl.D)), x1, x2, y3, some (.int (e : Nat)), y5] M := fun d' _ => ih (k + 1) d' _ (by omega)
    cases x with
    | lt a =>
      obtain ⟨y3, y5, q⟩ := fin d rfl
      refine ⟨y3, y5, ?_⟩
      rw [← q]
      by_cases hd : d = 0 <;> simp [-Int.natCast_add, l1__law_arches_eq, hx, Pl.D, s1, s2, hd, e0]
    | ca a =>
      obtain ⟨y3, y5, q⟩ := fin (d + 1) rfl
      refine ⟨y3, y5, ?_⟩
      rw [← q]
      by_cases hd : d + 1 = 0 <;> simp [-Int.natCast_add, l1__law_arches_eq, hx, Pl.D, s4, hd, e0]
    | re a =>
      obtain ⟨y3, y5, q⟩ := fin (d - 1) rfl
      refine ⟨y3, y5, ?_⟩
      rw [← q]
      by_cases hd : d - 1 = 0 <;> simp [-Int.natCast_add, l1__law_arches_eq, hx, Pl.D, s6, hd, e0]
theorem out_scan (M : Mem) (full : List Pl) (hfl : full.length ≤ 1000) {k : Nat} {u : List Pl} {C R : List (Nat × Nat)} (h : Ar k u C R) : ∀ (pre suf : List Pl) (n : Nat) (F : List (Nat × Nat)) (x2 x3 x4 x5 : Option D), full = pre ++ (u ++ suf) → k = pre.length → F.length + C.length ≤ 3000 →
    ∃ y2 y3 y4 y5, forL (gN 2) l2__law_arches (rangeL (k : Int) (u.length + n)) [some (.lst (full.map Pl.D)), some (.own (F.map pD)), x2, x3, x4, x5] M = forL (gN 2) l2__law_arches (rangeL ((k + u.length : Nat) : Int) n) [some (.lst (full.map Pl.D)), some (.own ((F ++ C).map pD)), y2, y3, y4, y5] M := by
  obtain ⟨s1, s2, s3, s4, s5, s6⟩ := str_ne
  induction h with
  | nil => intro pre suf n F x2 x3 x4 x5 _ _ _; exact ⟨x2, x3, x4, x5, by simp⟩
  | @lt k a t C R _ ih =>
    intro pre suf n F x2 x3 x4 x5 hf hk hl
    have hx : full[k]? = some (.lt a) := by rw [hf]; exact getM pre _ _ hk
    obtain ⟨y2, y3, y4, y5, q⟩ := ih (pre ++ [.lt a]) suf n F (some (.int (k : Nat))) x3 x4 x5 (by rw [hf]; simp) (by simp [hk]) hl
    refine ⟨y2, y3, y4, y5, ?_⟩
    rw [List.length_cons, show t.length + 1 + n = (t.length + n) + 1 by omega, show k + (t.length + 1) = k + 1 + t.length by omega, ← q, rangeL_succN, forL_cons]
    simp [-Int.natCast_add, l2__law_arches_eq, hx, Pl.D, s1]
  | @arch k a b u v C1 R1 C2 R2 h1 h2 i1 i2 =>
    intro pre suf n F x2 x3 x4 x5 hf hk hl
    simp at hl
    have hlen : full.length = pre.length + (u.length + v.length + 2 + suf.length) := by rw [hf]; simp; omega
    have hx : full[k]? = some (.ca a) := by rw [hf]; exact getM pre _ _ hk
    have hz : F.length < sizeLine := big' _ (by omega)
    have hy : full[k + 1 + u.length]? = some (.re b) := by
      rw [hf, show pre ++ (.ca a :: (u ++ .re b :: v) ++ suf) = (pre ++ .ca a :: u) ++ .re b :: (v ++ suf) by simp]
      exact getM _ _ _ (by simp [hk]; omega)
    -- the inner loop
    have inner : ∃ y3 y5, forL (gN 5) l1__law_arches (rangeL (k : Int) (full.length - k)) [some (.lst (full.map Pl.D)), some (.own (F.map pD)), some (.int (k : Nat)), some (.int 0), some (.int (-1)), x5] M = .nx [some (.lst (full.map Pl.D)), some (.own (F.map pD)), some (.int (k : Nat)), y3, some (.int ((k + 1 + u.length : Nat) : Int)), y5] M := by
      rw [show full.length - k = (u.length + (v.length + suf.length + 1)) + 1 by omega, rangeL_succN, forL_cons]
      obtain ⟨y5, q1⟩ := in_scan (some (.own (F.map pD))) (some (.int (k : Nat))) M full h1 (pre ++ [.ca a]) (.re b :: (v ++ suf)) (v.length + suf.length + 1) 1 (-1) (some (.int (k : Nat))) (by omega) (by rw [hf]; simp) (by simp [hk])
      have step1 : ∀ rest, for1 (gN 5) l1__law_arches rest M (gN 5 (.int (k : Nat)) [some (.lst (full.map Pl.D)), some (.own (F.map pD)), some (.int (k : Nat)), some (.int 0), some (.int (-1)), x5]) = forL (gN 5) l1__law_arches rest [some (.lst (full.map Pl.D)), some (.own (F.map pD)), some (.int (k : Nat)), some (.int 1), some (.int (-1)), some (.int (k : Nat))] M := fun rest => by
        simp [-Int.natCast_add, l1__law_arches_eq, hx, Pl.D, s4]
      rw [step1, q1, rangeL_succN, forL_cons]
      obtain ⟨y3, z5, q2⟩ := in_rest (some (.own (F.map pD))) (some (.int (k : Nat))) M full (k + 1 + u.length) (v.length + suf.length) (k + 1 + u.length + 1) 0 (some (.int ((k + 1 + u.length : Nat) : Int))) (by omega)
      refine ⟨y3, z5, ?_⟩
      rw [← q2]
      generalize k + 1 + u.length = m at hy ⊢
      simp [-Int.natCast_add, l1__law_arches_eq, hy, Pl.D, s6]
    obtain ⟨w3, w5, qi⟩ := inner
    obtain ⟨a2, a3, a4, a5, q1⟩ := i1 (pre ++ [.ca a]) (.re b :: (v ++ suf)) (v.length + n + 1) (F ++ [(k, k + 1 + u.length)]) (some (.int (k : Nat))) w3 (some (.int ((k + 1 + u.length : Nat) : Int))) w5 (by rw [hf]; simp) (by simp [hk]) (by simp; omega)
    obtain ⟨b2, b3, b4, b5, q2⟩ := i2 (pre ++ .ca a :: (u ++ [.re b])) suf n (F ++ [(k, k + 1 + u.length)] ++ C1) (some (.int ((k + 1 + u.length : Nat) : Int))) a3 a4 a5 (by rw [hf]; simp) (by simp [hk]; omega) (by simp; omega)
    refine ⟨b2, b3, b4, b5, ?_⟩
    rw [show (Pl.ca a :: (u ++ .re b :: v)).length + n = (u.length + (v.length + n + 1)) + 1 by simp; omega, show k + (Pl.ca a :: (u ++ .re b :: v)).length = k + 1 + u.length + 1 + v.length by simp; omega, show F ++ (k, k + 1 + u.length) :: (C1 ++ C2) = F ++ [(k, k + 1 + u.length)] ++ C1 ++ C2 by simp, ← q2, rangeL_succN, forL_cons]
    have hi1 := in62_nat k (by omega)
    have hi2 := in62_nat full.length (by omega)
    have er : ((full.length : Int) - (k : Int)).toNat = full.length - k := by omega
    have step : ∀ rest, for1 (gN 2) l2__law_arches rest M (gN 2 (.int (k : Nat)) [some (.lst (full.map Pl.D)), some (.own (F.map pD)), x2, x3, x4, x5]) = forL (gN 2) l2__law_arches rest [some (.lst (full.map Pl.D)), some (.own ((F ++ [(k, k + 1 + u.length)]).map pD)), some (.int (k : Nat)), w3, some (.int ((k + 1 + u.length : Nat) : Int)), w5] M := fun rest => by
      generalize k + 1 + u.length = m at qi ⊢
      simp [-Int.natCast_add, l2__law_arches_eq, hx, Pl.D, hi1, hi2, er, qi, hz, pD, nD]
    rw [step, q1, rangeL_succN, forL_cons]
    generalize k + 1 + u.length = m at hy ⊢
    simp [-Int.natCast_add, l2__law_arches_eq, hy, Pl.D, s6]
theorem law_arches (t : List Pl) {C R : List (Nat × Nat)} (h : Ar 0 t C R) (hl : t.length ≤ 100) (M : Mem) : s__law_arches [.lst (t.map Pl.D)] M = .ok (.lst (C.map pD)) M := by
  have hlen := h.len
  obtain ⟨y2, y3, y4, y5, e⟩ := out_scan M t (by omega) h [] [] 0 [] none none none none (by simp) rfl (by simp; omega)
  have hi := in62_nat t.length (by omega)
  simp only [Nat.add_zero, Nat.zero_add, List.map_nil, List.nil_append, rangeL_zero, forL_nil, Int.natCast_zero] at e
  simp [s__law_arches, runF_eq, b__law_arches, hi, toN, e]
end Lk04
namespace Lk04
open PySem PySem.Spec PyProof.Rows L2 L3
/-! ### trees of cells -/
def lfD (a : Nat) : D := .tup [.str "letter", nD a]
def reD (b : Nat) : D := .tup [.str "return", nD b]
def arD (a b m : Nat) : D := .tup [.str "arch", nD a, nD b, .cell m]
/-- the items ds tell the text t; the cells of arches lie from lo on -/
inductive Tl (lo : Nat) (M : Mem) : List D → List Pl → Prop
  | nil : Tl lo M [] []
  | lf {a : Nat} {ds : List D} {t : List Pl} : Tl lo M ds t → Tl lo M (lfD a :: ds) (.lt a :: t)
  | re {b : Nat} {ds : List D} {t : List Pl} : Tl lo M ds t → Tl lo M (reD b :: ds) (.re b :: t)
  | ar {a b m : Nat} {ds du : List D} {u t : List Pl} : lo ≤ m → m < M.length → cellL M m = some du → Tl lo M du u → Tl lo M ds t → Tl lo M (arD a b m :: ds) (.ca a :: (u ++ .re b :: t))
theorem cellL_of {M M' : Mem} {m : Nat} (h : M'[m]? = M[m]?) : cellL M' m = cellL M m := by unfold cellL; rw [h]
theorem cellD_of {M M' : Mem} {m : Nat} (h : M'[m]? = M[m]?) : cellD M' m = cellD M m := by unfold cellD; rw [h]
theorem Tl.keep {lo lo' : Nat} {M M' : Mem} {ds : List D} {t : List Pl} (h : Tl lo M ds t) (hlo : lo' ≤ lo) (hM : M.length ≤ M'.length) (hk : ∀ k, lo ≤ k → k < M.length → M'[k]? = M[k]?) : Tl lo' M' ds t := by
  induction h with
  | nil => exact .nil
  | lf _ ih => exact .lf ih
  | re _ ih => exact .re ih
  | ar h1 h2 h3 _ _ i1 i2 => exact .ar (by omega) (by omega) (by rw [cellL_of (hk _ h1 h2)]; exact h3) i1 i2
theorem Tl.app {lo : Nat} {M : Mem} {ds es : List D} {t w : List Pl} (h : Tl lo M ds t) (g : Tl lo M es w) : Tl lo M (ds ++ es) (t ++ w) := by
  induction h with
  | nil => exact g
  | lf _ ih => exact .lf ih
  | re _ ih => exact .re ih
  | @ar a b m ds du u t h1 h2 h3 h4 _ i1 i2 =>
    have e : (Pl.ca a :: (u ++ .re b :: t)) ++ w = .ca a :: (u ++ .re b :: (t ++ w)) := by simp
    rw [e]
    exact .ar h1 h2 h3 h4 i2
/-- the same with the arches' places -/
inductive Ta (lo : Nat) (M : Mem) : Nat → List D → List Pl → List (Nat × Nat) → Prop
  | nil {k : Nat} : Ta lo M k [] [] []
  | lf {k a : Nat} {ds : List D} {t : List Pl} {C : List (Nat × Nat)} : Ta lo M (k + 1) ds t C → Ta lo M k (lfD a :: ds) (.lt a :: t) C
  | ar {k a b m : Nat} {ds du : List D} {u v : List Pl} {C1 C2 : List (Nat × Nat)} : lo ≤ m → m < M.length → cellL M m = some du → Ta lo M (k + 1) du u C1 → Ta lo M (k + 1 + u.length + 1) ds v C2 → Ta lo M k (arD a b m :: ds) (.ca a :: (u ++ .re b :: v)) ((k, k + 1 + u.length) :: (C1 ++ C2))
theorem Ta.keep {lo lo' : Nat} {M M' : Mem} {k : Nat} {ds : List D} {t : List Pl} {C : List (Nat × Nat)} (h : Ta lo M k ds t C) (hlo : lo' ≤ lo) (hM : M.length ≤ M'.length) (hk : ∀ k, lo ≤ k → k < M.length → M'[k]? = M[k]?) : Ta lo' M' k ds t C := by
  induction h with
  | nil => exact .nil
  | lf _ ih => exact .lf ih
  | ar h1 h2 h3 _ _ i1 i2 => exact .ar (by omega) (by omega) (by rw [cellL_of (hk _ h1 h2)]; exact h3) i1 i2
theorem Ta.tl {lo : Nat} {M : Mem} {k : Nat} {ds : List D} {t : List Pl} {C : List (Nat × Nat)} (h : Ta lo M k ds t C) : Tl lo M ds t := by
  induction h with
  | nil => exact .nil
  | lf _ ih => exact .lf ih
  | ar h1 h2 h3 _ _ i1 i2 => exact .ar h1 h2 h3 i1 i2
theorem at_last {α : Type} (xs : List α) (x : α) : L2.atI (xs ++ [x]) (-1) = some x := by
  unfold L2.atI L2.ixN
  rw [if_neg (by decide), if_pos (by simp; omega)]
  have : ((-1 : Int) + ((xs ++ [x]).length : Int)).toNat = xs.length := by simp; omega
  rw [this]; simp
theorem popC_gen {M : Mem} {n : Nat} {xs : List D} {x : D} (h : cellL M n = some (xs ++ [x])) : popC1 n M = .ok x (M.set n (.lst xs)) := by
  unfold popC1
  rw [h]
  simp
theorem get_set_ne {M : Mem} {n k : Nat} {o : MO} (h : k ≠ n) : (M.set n o)[k]? = M[k]? := by rw [List.getElem?_set]; simp [Ne.symm h]
theorem cell_set {M : Mem} {n : Nat} {xs : List D} (h : n < M.length) : cellL (M.set n (.lst xs)) n = some xs := by unfold cellL; rw [List.getElem?_set]; simp [h]
theorem cellL_lt {M : Mem} {n : Nat} {xs : List D} (h : cellL M n = some xs) : n < M.length := by
  unfold cellL at h
  cases hm : M[n]? with
  | none => rw [hm] at h; cases h
  | some o => exact (List.getElem?_eq_some_iff.mp hm).1
theorem pl_lf (a : Nat) : (Pl.lt a).D = lfD a := rfl
theorem pl_re (b : Nat) : (Pl.re b).D = reD b := rfl
theorem pl_ca (a : Nat) : (Pl.ca a).D = .tup [.str "call", nD a] := rfl
/-! ### children_of -/
theorem ch_loop (x0 : Option D) (c : Nat) {k : Nat} {t : List Pl} {C R : List (Nat × Nat)} (h : Ar k t C R) : ∀ (M : Mem) (S : List D) (n : Nat) (ds cs : List D) (rest : List D) (x3 x4 : Option D),
    cellL M n = some ds → cellL M c = some cs → n ≠ c → ds.length + t.length ≤ 3000 → cs.length + t.length ≤ 3000 → S.length + t.length ≤ 3000 →
    ∃ (M' : Mem) (y3 y4 : Option D) (dt : List D), forL (gN 3) l1_children_of (t.map Pl.D ++ rest) [x0, some (.own (S ++ [.cell n])), some (.cell c), x3, x4] M = forL (gN 3) l1_children_of rest [x0, some (.own (S ++ [.cell n])), some (.cell c), y3, y4] M' ∧
      cellL M' n = some (ds ++ dt) ∧ cellL M' c = some cs ∧ M.length ≤ M'.length ∧ (∀ j, j ≠ n → j ≠ c → j < M.length → M'[j]? = M[j]?) ∧ Ta M.length M' k dt t C ∧ dt.length ≤ t.length := by
  obtain ⟨s1, s2, s3, s4, s5, s6⟩ := str_ne
  induction h with
  | nil =>
    intro M S n ds cs rest x3 x4 h1 h2 _ _ _ _
    exact ⟨M, x3, x4, [], by simp, by simpa using h1, h2, Nat.le_refl _, fun _ _ _ _ => rfl, .nil, Nat.le_refl _⟩
  | @lt k a t C R _ ih =>
    intro M S n ds cs rest x3 x4 h1 h2 hn l1 l2 l3
    rw [List.length_cons] at l1 l2 l3
    have hlt := cellL_lt h1
    have hz : ds.length < sizeLine := big' _ (by omega)
    have g1 : cellL (M.set n (.lst (ds ++ [lfD a]))) n = some (ds ++ [lfD a]) := cell_set hlt
    have g2 : cellL (M.set n (.lst (ds ++ [lfD a]))) c = some cs := by rw [cellL_of (get_set_ne (Ne.symm hn))]; exact h2
    obtain ⟨M', y3, y4, dt, e, q1, q2, q3, q4, q5, q6⟩ := ih (M.set n (.lst (ds ++ [lfD a]))) S n (ds ++ [lfD a]) cs rest (some (Pl.lt a).D) x4 g1 g2 hn (by simp; omega) (by omega) (by omega)
    rw [List.length_set] at q3 q4 q5
    refine ⟨M', y3, y4, lfD a :: dt, ?_, by rw [q1]; simp, q2, q3, fun j a1 a2 a3 => by rw [q4 j a1 a2 a3, get_set_ne a1], .lf q5, by rw [List.length_cons, List.length_cons]; omega⟩
    rw [← e, List.map_cons, List.cons_append, forL_cons]
    have e1 := apE1_cell (M := M) (n := n) (ds := ds) (f := fz (sVar 3)) (e := [x0, some (.own (S ++ [.cell n])), some (.cell c), some (Pl.lt a).D, x4]) h1
    have e2 := apE2_cell (M := M) (n := n) (ds := ds) (d := lfD a) (e := [x0, some (.own (S ++ [.cell n])), some (.cell c), some (Pl.lt a).D, x4]) h1 hz
    rw [pl_lf] at *
    have v0 : ∀ M, idxD (lfD a) (.int 0) M = .ok (.str "letter") M := fun M => by simp [lfD]
    have v1 : ∀ M, var1 (some (lfD a)) M = .ok (lfD a) M := fun M => rfl
    have v2 : ∀ M, fz1 (lfD a) M = .ok (lfD a) M := fun M => rfl
    simp [l1_children_of_eq, v0, v1, v2, at_last, e1, e2]
  | @arch k a b u v C1 R1 C2 R2 _ _ i1 i2 =>
    intro M S n ds cs rest x3 x4 h1 h2 hn l1 l2 l3
    simp at l1 l2 l3
    have ltn := cellL_lt h1
    have ltc := cellL_lt h2
    have zc : cs.length < sizeLine := big' _ (by omega)
    have zs : S.length + 1 < sizeLine := big' _ (by omega)
    have zd : ds.length < sizeLine := big' _ (by omega)
    generalize hM1 : M.set c (.lst (cs ++ [nD a])) = M1
    have L1 : M1.length = M.length := by rw [← hM1, List.length_set]
    have k1 : ∀ j, j ≠ c → M1[j]? = M[j]? := fun j hj => by rw [← hM1, get_set_ne hj]
    have c1 : cellL M1 c = some (cs ++ [nD a]) := by rw [← hM1]; exact cell_set ltc
    have n1 : cellL M1 n = some ds := by rw [cellL_of (k1 n hn)]; exact h1
    generalize hM2 : M1 ++ [.lst []] = M2
    have L2 : M2.length = M.length + 1 := by rw [← hM2]; simp [L1]
    have k2 : ∀ j, j < M.length → M2[j]? = M1[j]? := fun j hj => by rw [← hM2, List.getElem?_append_left (by omega)]
    have c2 : cellL M2 c = some (cs ++ [nD a]) := by rw [cellL_of (k2 c ltc)]; exact c1
    have m2 : cellL M2 M.length = some [] := by
      rw [← hM2]; unfold cellL; rw [List.getElem?_append_right (by omega), L1]; simp
    obtain ⟨M3, y3, y4, du, e3, p1, p2, p3, p4, p5, p6⟩ := i1 M2 (S ++ [.cell n]) M.length [] (cs ++ [nD a]) ((Pl.re b).D :: (v.map Pl.D ++ rest)) (some (Pl.ca a).D) x4 m2 c2 (by omega) (by simp; omega) (by simp; omega) (by simp; omega)
    have n3 : cellL M3 n = some ds := by rw [cellL_of (p4 n (by omega) hn (by omega)), cellL_of (k2 n ltn)]; exact n1
    have ltc3 := cellL_lt p2
    have ltn3 := cellL_lt n3
    generalize hM4 : M3.set c (.lst cs) = M4
    have n4 : cellL M4 n = some ds := by rw [← hM4, cellL_of (get_set_ne hn)]; exact n3
    generalize hM5 : M4.set n (.lst (ds ++ [arD a b M.length])) = M5
    have L5 : M5.length = M3.length := by rw [← hM5, ← hM4]; simp
    have k5 : ∀ j, j ≠ n → j ≠ c → M5[j]? = M3[j]? := fun j a1 a2 => by rw [← hM5, ← hM4, get_set_ne a1, get_set_ne a2]
    have n5 : cellL M5 n = some (ds ++ [arD a b M.length]) := by rw [← hM5]; exact cell_set (cellL_lt n4)
    have c5 : cellL M5 c = some cs := by rw [← hM5, cellL_of (get_set_ne (Ne.symm hn)), ← hM4]; exact cell_set ltc3
    obtain ⟨M6, z3, z4, dv, e6, r1, r2, r3, r4, r5, r6⟩ := i2 M5 S n (ds ++ [arD a b M.length]) cs rest (some (Pl.re b).D) (some (.cell M.length)) n5 c5 hn (by simp; omega) (by omega) (by omega)
    refine ⟨M6, z3, z4, arD a b M.length :: dv, ?_, by rw [r1]; simp, r2, by omega, fun j a1 a2 a3 => ?_, ?_, by simp; omega⟩
    · rw [← e6]
      have ee : (Pl.ca a :: (u ++ .re b :: v)).map Pl.D ++ rest = (Pl.ca a).D :: (u.map Pl.D ++ ((Pl.re b).D :: (v.map Pl.D ++ rest))) := by simp
      rw [ee, forL_cons]
      have st1 : ∀ r, for1 (gN 3) l1_children_of r M (gN 3 (Pl.ca a).D [x0, some (.own (S ++ [.cell n])), some (.cell c), x3, x4]) = forL (gN 3) l1_children_of r [x0, some (.own (S ++ [.cell n] ++ [.cell M.length])), some (.cell c), some (Pl.ca a).D, x4] M2 := fun r => by
        rw [pl_ca]
        simp [l1_children_of_eq, s3, h2, zc, zs, hM1, hM2, L1]
      rw [st1, e3, forL_cons]
      have ea1 := fun x3 x4 => apE1_cell (M := M3) (n := n) (ds := ds) (f := (sTup (sCons (fz (sC (.str "arch"))) (sCons (sPopC 2) (sCons (fz (sOp idxD (sVar 3) (sC (.int 1)))) (sCons (fz (sVar 4)) sNil)))))) (e := [x0, some (.own (S ++ [.cell n])), some (.cell c), x3, x4]) n3
      have ea2 := fun x3 x4 => apE2_cell (M := M4) (n := n) (ds := ds) (d := arD a b M.length) (e := [x0, some (.own (S ++ [.cell n])), some (.cell c), x3, x4]) n4 zd
      have pc := popC_gen p2
      have v0 : ∀ M, idxD (reD b) (.int 0) M = .ok (.str "return") M := fun M => by simp [reD]
      have v1 : ∀ M, var1 (some (reD b)) M = .ok (reD b) M := fun M => rfl
      have v2 : ∀ M, idxD (reD b) (.int 1) M = .ok (nD b) M := fun M => by simp [reD]
      rw [pl_re]
      have ad : D.tup [.str "arch", nD a, nD b, .cell M.length] = arD a b M.length := rfl
      rw [hM4] at pc
      have fn : ∀ b M, fz1 (nD b) M = .ok (nD b) M := fun b M => rfl
      simp [l1_children_of_eq, v0, v1, v2, s5, s6, at_last, ea1, ea2, pc, ad, hM5, fn]
    · rw [r4 j a1 a2 (by omega), k5 j a1 a2, p4 j (by omega) a2 (by omega), k2 j a3, k1 j a2]
    · have hm6 : cellL M6 M.length = some du := by
        rw [cellL_of (r4 M.length (by omega) (by omega) (by omega)), cellL_of (k5 M.length (by omega) (by omega))]
        simpa using p1
      refine .ar (Nat.le_refl _) (by omega) hm6 (p5.keep (by omega) (by omega) fun j b1 b2 => ?_) (r5.keep (by omega) (Nat.le_refl _) fun _ _ _ => rfl)
      rw [r4 j (by omega) (by omega) (by omega), k5 j (by omega) (by omega)]
theorem children_of {t : List Pl} {C R : List (Nat × Nat)} (h : Ar 0 t C R) (hl : t.length ≤ 1000) (M : Mem) : ∃ (M' : Mem) (dt : List D), s_children_of [.lst (t.map Pl.D)] M = .ok (.cell M.length) M' ∧ cellL M' M.length = some dt ∧ Ta M.length M' 0 dt t C ∧ dt.length ≤ t.length ∧ cellD M' M.length = none ∧ ∀ j, j < M.length → M'[j]? = M[j]? := by
  generalize hM2 : M ++ [.lst []] ++ [.lst []] = M2
  have L2 : M2.length = M.length + 2 := by rw [← hM2]; simp
  have m0 : cellL M2 M.length = some [] := by
    rw [← hM2, List.append_assoc]; unfold cellL; rw [List.getElem?_append_right (by omega)]; simp
  have m1 : cellL M2 (M.length + 1) = some [] := by
    rw [← hM2, List.append_assoc]; unfold cellL; rw [List.getElem?_append_right (by omega)]; simp
  obtain ⟨M', y3, y4, dt, e, q1, q2, q3, q4, q5, q6⟩ := ch_loop (some (.lst (t.map Pl.D))) (M.length + 1) h M2 [] M.length [] [] [] none none m0 m1 (by omega) (by simp; omega) (by simp; omega) (by simp; omega)
  have q1 : cellL M' M.length = some dt := by simpa using q1
  refine ⟨M', dt, ?_, q1, q5.keep (by omega) (Nat.le_refl _) fun _ _ _ => rfl, q6, ?_, fun j hj => ?_⟩
  · simp only [List.append_nil, List.nil_append, forL_nil] at e
    have hM2' : M ++ [MO.lst [], MO.lst []] = M2 := by rw [← hM2]; simp
    simp [s_children_of, runF_eq, b_children_of, hM2, hM2', e]
  · unfold cellL at q1
    unfold cellD
    cases hm : M'[M.length]? with
    | none => rfl
    | some o => rw [hm] at q1; cases o <;> first | rfl | cases q1
  · rw [q4 j (by omega) (by omega) (by omega), ← hM2, List.append_assoc, List.getElem?_append_left hj]
end Lk04
namespace Lk04
open PySem PySem.Spec PyProof.Rows L2 L3
theorem arch_ne : ¬ (Str.ofString "letter" = Str.ofString "arch") ∧ ¬ (Str.ofString "return" = Str.ofString "arch") ∧ ¬ (Str.ofString "arch" = Str.ofString "letter") := by decide +kernel
theorem Tl.len {lo : Nat} {M : Mem} {ds : List D} {t : List Pl} (h : Tl lo M ds t) : ds.length ≤ t.length := by
  induction h with
  | nil => exact Nat.le_refl _
  | lf _ ih => simp only [List.length_cons]; omega
  | re _ ih => simp only [List.length_cons]; omega
  | ar _ _ _ _ _ i1 i2 => simp only [List.length_cons, List.length_append]; omega
/-! ### row_of -/
theorem row_loop (x0 : Option D) {lo : Nat} {M : Mem} : ∀ (n : Nat) (t : List Pl) (ds : List D) (row : List Pl) (x3 : Option D), t.length ≤ n → Tl lo M ds t → row.length + t.length ≤ 2000 → ds.length ≤ t.length →
    ∃ y3, ∃ m, whileN t1_row_of l2_row_of m [x0, some (.own (row.map Pl.D)), some (.own ds.reverse), x3] M = .nx [x0, some (.own ((row ++ t).map Pl.D)), some (.own []), y3] M := by
  obtain ⟨a1, a2, a3⟩ := arch_ne
  intro n
  induction n with
  | zero =>
    intro t ds row x3 hn h _ _
    have : t = [] := List.length_eq_zero_iff.mp (by omega)
    subst this
    cases h
    refine ⟨x3, ?_⟩
    rw [List.append_nil]
    exact while_out (by simp [t1_row_of_eq])
  | succ n ih =>
    intro t ds row x3 hn h hl hd
    have hz : row.length < sizeLine := big' _ (by omega)
    cases h with
    | nil =>
      refine ⟨x3, ?_⟩
      rw [List.append_nil]
      exact while_out (by simp [t1_row_of_eq])
    | @lf a ds t h =>
      rw [List.length_cons] at hn hl hd
      rw [List.length_cons] at hd
      obtain ⟨y3, g⟩ := ih t ds (row ++ [.lt a]) (some (lfD a)) (by omega) h (by simp; omega) (by omega)
      refine ⟨y3, ?_⟩
      have e : row ++ Pl.lt a :: t = row ++ [Pl.lt a] ++ t := by simp
      rw [e]
      refine while_in (M1 := M) (by simp [t1_row_of_eq]) (e2 := [x0, some (.own ((row ++ [Pl.lt a]).map Pl.D)), some (.own ds.reverse), some (lfD a)]) ?_ g
      have v0 : ∀ M, idxD (lfD a) (.int 0) M = .ok (.str "letter") M := fun M => by simp [lfD]
      have v1 : ∀ M, var1 (some (lfD a)) M = .ok (lfD a) M := fun M => rfl
      have v2 : ∀ M, fz1 (lfD a) M = .ok (lfD a) M := fun M => rfl
      simp [l2_row_of_eq, v0, v1, v2, a1, hz, pl_lf]
    | @re b ds t h =>
      rw [List.length_cons] at hn hl hd
      rw [List.length_cons] at hd
      obtain ⟨y3, g⟩ := ih t ds (row ++ [.re b]) (some (reD b)) (by omega) h (by simp; omega) (by omega)
      refine ⟨y3, ?_⟩
      have e : row ++ Pl.re b :: t = row ++ [Pl.re b] ++ t := by simp
      rw [e]
      refine while_in (M1 := M) (by simp [t1_row_of_eq]) (e2 := [x0, some (.own ((row ++ [Pl.re b]).map Pl.D)), some (.own ds.reverse), some (reD b)]) ?_ g
      have v0 : ∀ M, idxD (reD b) (.int 0) M = .ok (.str "return") M := fun M => by simp [reD]
      have v1 : ∀ M, var1 (some (reD b)) M = .ok (reD b) M := fun M => rfl
      have v2 : ∀ M, fz1 (reD b) M = .ok (reD b) M := fun M => rfl
      simp [l2_row_of_eq, v0, v1, v2, a2, hz, pl_re]
    | @ar a b m ds du u t h1 h2 h3 h4 h5 =>
      simp at hn hl hd
      have hdu := h4.len
      have hdt := h5.len
      obtain ⟨y3, g⟩ := ih (u ++ .re b :: t) (du ++ reD b :: ds) (row ++ [.ca a]) (some (arD a b m)) (by simp; omega) (h4.app (.re h5)) (by simp; omega) (by simp; omega)
      refine ⟨y3, ?_⟩
      have e : row ++ Pl.ca a :: (u ++ Pl.re b :: t) = row ++ [Pl.ca a] ++ (u ++ Pl.re b :: t) := by simp
      rw [e]
      refine while_in (M1 := M) (by simp [t1_row_of_eq]) (e2 := [x0, some (.own ((row ++ [Pl.ca a]).map Pl.D)), some (.own (du ++ reD b :: ds).reverse), some (arD a b m)]) ?_ g
      have v0 : ∀ M, idxD (arD a b m) (.int 0) M = .ok (.str "arch") M := fun M => by simp [arD]
      have w1 : ∀ M, idxD (arD a b m) (.int 1) M = .ok (nD a) M := fun M => by simp [arD]
      have w2 : ∀ M, idxD (arD a b m) (.int 2) M = .ok (nD b) M := fun M => by simp [arD]
      have w3 : ∀ M, idxD (arD a b m) (.int 3) M = .ok (.cell m) M := fun M => by simp [arD]
      have v1 : ∀ M, var1 (some (arD a b m)) M = .ok (arD a b m) M := fun M => rfl
      have fn : ∀ b M, fz1 (nD b) M = .ok (nD b) M := fun b M => rfl
      have lr := lrev_cell M h3
      have z2 : ds.length < sizeLine := big' _ (by omega)
      have z3 : ds.length + 1 + du.length ≤ sizeLine := Nat.le_of_lt (big' _ (by omega))
      have re1 : D.tup [.str "return", nD b] = reD b := rfl
      simp [l2_row_of_eq, v0, v1, w1, w2, w3, fn, lr, hz, z2, z3, pl_ca, re1]
theorem row_of {lo : Nat} {M : Mem} {t : List Pl} {ds : List D} {n : Nat} (hc : cellL M n = some ds) (h : Tl lo M ds t) (hl : t.length ≤ 1000) (hd : ds.length ≤ t.length) : s_row_of [.cell n] M = .ok (.lst (t.map Pl.D)) M := by
  obtain ⟨y3, g⟩ := row_loop (some (.cell n)) t.length t ds [] none (Nat.le_refl _) h (by simpa using by omega) hd
  obtain ⟨m, g⟩ := g
  have w := sWhile_of g (by intro z; cases z)
  have lr := lrev_cell M hc
  simp only [List.map_nil, List.nil_append] at w
  simp [s_row_of, runF_eq, b_row_of, lr, w]
end Lk04
namespace Lk04
open PySem PySem.Spec PyProof.Rows L2 L3
/-! ### the law's walk -/
theorem cell_nd {M : Mem} {n : Nat} {xs : List D} (h : cellL M n = some xs) : cellD M n = none := by
  unfold cellL at h
  unfold cellD
  cases hm : M[n]? with
  | none => rfl
  | some o => rw [hm] at h; cases o <;> first | rfl | cases h
theorem isi_cell {M : Mem} {n : Nat} {xs : List D} (h : cellL M n = some xs) : isiD [.cell n, .ty "list"] M = .ok (.bl true) M := by
  have hk : kitB "list" "list" = some true := by decide +kernel
  have e : tyName (.cell n) M = some "list" := by
    unfold tyName
    simp only [cell_nd h, h]; rfl
  unfold isiD
  simp only [e, hk]; rfl
theorem pl2 (k : Str) (a : Nat) (hs : PyData.strOk k = true) : plD 1 (.tup [.str k, nD a]) = true := by
  show plDs 0 [.str k, .int (a : Nat)] = true
  simp [plDs, plD, hs]
theorem strs3 : PyData.strOk "letter" = true ∧ PyData.strOk "call" = true ∧ PyData.strOk "return" = true := by decide +kernel
theorem eq2 (k : Str) (a : Nat) (hs : PyData.strOk k = true) (M : Mem) (neg : Bool) : eqD neg (.tup [.str k, nD a]) (.tup [.str k, nD a]) M = .ok (.bl !neg) M := by
  rw [eqD_deep rfl]
  exact deep_eq (n := 1) (by decide) (pl2 k a hs) rfl
theorem walk_loop {lo : Nat} {M : Mem} {full : List Pl} {E : List Nat} (hE : E.length = full.length) (hfl : full.length ≤ 1000) {k : Nat} {ds : List D} {t : List Pl} {C : List (Nat × Nat)} (h : Ta lo M k ds t C) : ∀ (pre suf : List Pl) (f n0 : Nat) (ds0 rest : List D) (x0 x4 x5 : Option D),
    full = pre ++ (t ++ suf) → k = pre.length → (∀ p ∈ C, E[p.1]? = some p.2) → t.length ≤ f → cellL M n0 = some ds0 →
    ∃ y4 y5, forLC n0 ds0 (gN 4) (l1__law_walk (s__law_walk f)) (ds ++ rest) [x0, some (.lst (full.map Pl.D)), some (.int (k : Nat)), some (.lst (E.map nD)), x4, x5] M =
      forLC n0 ds0 (gN 4) (l1__law_walk (s__law_walk f)) rest [x0, some (.lst (full.map Pl.D)), some (.int ((k + t.length : Nat) : Int)), some (.lst (E.map nD)), y4, y5] M := by
  obtain ⟨s1, s2, s3, s4, s5, s6⟩ := str_ne
  obtain ⟨t1, t2, t3⟩ := strs3
  obtain ⟨a1, a2, a3⟩ := arch_ne
  induction h with
  | nil => intro pre suf f n0 ds0 rest x0 x4 x5 _ _ _ _ _; exact ⟨x4, x5, by simp⟩
  | @lf k a ds t C h ih =>
    intro pre suf f n0 ds0 rest x0 x4 x5 hf hk hC hl hc
    rw [List.length_cons] at hl
    obtain ⟨y4, y5, e⟩ := ih (pre ++ [.lt a]) suf f n0 ds0 rest x0 (some (lfD a)) x5 (by rw [hf]; simp) (by simp [hk]) hC (by omega) hc
    refine ⟨y4, y5, ?_⟩
    have hx : full[k]? = some (.lt a) := by rw [hf, hk]; simp
    have hk2 : k < full.length := (List.getElem?_eq_some_iff.mp hx).1
    rw [List.cons_append, show k + (Pl.lt a :: t).length = k + 1 + t.length by simp; omega, ← e]
    conv => lhs; unfold forLC
    rw [if_pos hc]
    have v0 : ∀ M, idxD (lfD a) (.int 0) M = .ok (.str "letter") M := fun M => by simp [lfD]
    have v1 : ∀ M, var1 (some (lfD a)) M = .ok (lfD a) M := fun M => rfl
    have v3 : ∀ M, isiD [lfD a, .ty "tuple"] M = .ok (.bl true) M := fun M => by simp [lfD]
    have ee : ∀ M, eqD true (lfD a) (lfD a) M = .ok (.bl false) M := fun M => eq2 "letter" a t1 M true
    have k2 : ¬ ((full.length : Int) ≤ (k : Int)) := by omega
    have k3 : ¬ (full.length ≤ k) := by omega
    simp [l1__law_walk_eq, v0, v1, v3, hx, pl_lf, ee, k2, k3]
  | @ar k a b m ds du u v C1 C2 h1 h2 h3 _ _ i1 i2 =>
    intro pre suf f n0 ds0 rest x0 x4 x5 hf hk hC hl hc
    simp at hl
    have hrec : s__law_walk f [.cell m, .lst (full.map Pl.D), .int ((k + 1 : Nat) : Int), .lst (E.map nD)] M = .ok (.int ((k + 1 + u.length : Nat) : Int)) M := by
      obtain ⟨f', rfl⟩ : ∃ f', f = f' + 1 := ⟨f - 1, by omega⟩
      obtain ⟨y4, y5, e⟩ := i1 (pre ++ [.ca a]) (.re b :: (v ++ suf)) f' m du [] (some (.cell m)) none none (by rw [hf]; simp) (by simp [hk]) (fun p hp => hC p (by simp [hp])) (by omega) h3
      have en : ∀ e, forLC m du (gN 4) (l1__law_walk (s__law_walk f')) [] e M = .nx e M := fun e => by unfold forLC; rw [if_pos h3]
      rw [List.append_nil, en] at e
      show runF 6 (b__law_walk (s__law_walk f')) _ M = _
      have wc := walkC_cell M h3
      generalize k + 1 = k1 at e ⊢
      generalize k1 + u.length = q at e ⊢
      simp [runF_eq, b__law_walk, sForC_eq, wc, forC1_eq, e]
    obtain ⟨y4, y5, e⟩ := i2 (pre ++ .ca a :: (u ++ [.re b])) suf f n0 ds0 rest x0 (some (arD a b m)) (some (.int ((k + 1 + u.length : Nat) : Int))) (by rw [hf]; simp) (by simp [hk]; omega) (fun p hp => hC p (by simp [hp])) (by omega) hc
    refine ⟨y4, y5, ?_⟩
    have hx : full[k]? = some (.ca a) := by rw [hf, hk]; simp
    have hq : E[k]? = some (k + 1 + u.length) := hC (k, k + 1 + u.length) (by simp)
    have hy : full[k + 1 + u.length]? = some (.re b) := by
      have ef : full = (pre ++ Pl.ca a :: u) ++ Pl.re b :: (v ++ suf) := by rw [hf]; simp
      have el : k + 1 + u.length = (pre ++ Pl.ca a :: u).length := by simp [hk]; omega
      rw [ef, el, List.getElem?_append_right (Nat.le_refl _)]; simp
    have hk2 : k < full.length := (List.getElem?_eq_some_iff.mp hx).1
    rw [List.cons_append, show k + (Pl.ca a :: (u ++ Pl.re b :: v)).length = k + 1 + u.length + 1 + v.length by simp; omega, ← e]
    conv => lhs; unfold forLC
    rw [if_pos hc]
    have v0 : ∀ M, idxD (arD a b m) (.int 0) M = .ok (.str "arch") M := fun M => by simp [arD]
    have w1 : ∀ M, idxD (arD a b m) (.int 1) M = .ok (nD a) M := fun M => by simp [arD]
    have w2 : ∀ M, idxD (arD a b m) (.int 2) M = .ok (nD b) M := fun M => by simp [arD]
    have w3 : ∀ M, idxD (arD a b m) (.int 3) M = .ok (.cell m) M := fun M => by simp [arD]
    have v1 : ∀ M, var1 (some (arD a b m)) M = .ok (arD a b m) M := fun M => rfl
    have v3 : ∀ M, isiD [arD a b m, .ty "tuple"] M = .ok (.bl true) M := fun M => by simp [arD]
    have v4 : ∀ M, lenD [arD a b m] M = .ok (.int 4) M := fun M => by simp [arD]
    have v5 := isi_cell h3
    have fn : ∀ b M, fz1 (nD b) M = .ok (nD b) M := fun b M => rfl
    have e1 : ∀ M, eqD true (.tup [.str "call", nD a]) (.tup [.str "call", nD a]) M = .ok (.bl false) M := fun M => eq2 "call" a t2 M true
    have e2 : ∀ M, eqD true (.tup [.str "return", nD b]) (.tup [.str "return", nD b]) M = .ok (.bl false) M := fun M => eq2 "return" b t3 M true
    have pr : (Pl.re b).D = .tup [.str "return", nD b] := rfl
    have k2 : ¬ ((full.length : Int) ≤ (k : Int)) := by omega
    have k3 : ¬ (full.length ≤ k) := by omega
    have hrec' : s__law_walk f [.cell m, .lst (full.map Pl.D), .int ((k : Int) + 1), .lst (E.map nD)] M = .ok (.int ((k + 1 + u.length : Nat) : Int)) M := hrec
    have nq : nD (k + 1 + u.length) = .int ((k + 1 + u.length : Nat) : Int) := rfl
    generalize k + 1 + u.length = q at hrec' hq hy nq ⊢
    simp [l1__law_walk_eq, v0, v1, v3, v4, v5, w1, w2, w3, fn, hx, hq, hy, pl_ca, pr, e1, e2, k2, k3, a3, hrec', nq]
theorem law_walk {lo : Nat} {M : Mem} {t : List Pl} {E : List Nat} {C : List (Nat × Nat)} {ds : List D} {n : Nat} (hE : E.length = t.length) (hl : t.length ≤ 69) (h : Ta lo M 0 ds t C) (hC : ∀ p ∈ C, E[p.1]? = some p.2) (hc : cellL M n = some ds) :
    s__law_walk 70 [.cell n, .lst (t.map Pl.D), .int 0, .lst (E.map nD)] M = .ok (.int (t.length : Nat)) M := by
  obtain ⟨y4, y5, e⟩ := walk_loop hE (by omega) h [] [] 69 n ds [] (some (.cell n)) none none (by simp) rfl hC (by omega) hc
  have en : ∀ e, forLC n ds (gN 4) (l1__law_walk (s__law_walk 69)) [] e M = .nx e M := fun e => by unfold forLC; rw [if_pos hc]
  rw [List.append_nil, en] at e
  show runF 6 (b__law_walk (s__law_walk 69)) _ M = _
  have wc := walkC_cell M hc
  generalize s__law_walk 69 = W at e ⊢
  simp at e
  simp [runF_eq, b__law_walk, sForC_eq, wc, forC1_eq, e]
end Lk04
namespace Lk04
open PySem PySem.Spec PyProof.Rows L2 L3
/-! ### the ends -/
def ups (C : List (Nat × Nat)) (E : List Nat) : List Nat := C.foldl (fun E p => E.set p.1 p.2) E
theorem ups_cons (p : Nat × Nat) (C : List (Nat × Nat)) (E : List Nat) : ups (p :: C) E = ups C (E.set p.1 p.2) := rfl
theorem ups_len : ∀ (C : List (Nat × Nat)) (E : List Nat), (ups C E).length = E.length
  | [], _ => rfl
  | p :: C, E => by rw [ups_cons, ups_len C, List.length_set]
theorem ups_ne : ∀ (C : List (Nat × Nat)) (E : List Nat) (q : Nat), (∀ p ∈ C, p.1 ≠ q) → (ups C E)[q]? = E[q]?
  | [], _, _, _ => rfl
  | p :: C, E, q, h => by
    rw [ups_cons, ups_ne C _ q fun r hr => h r (List.mem_cons_of_mem _ hr), List.getElem?_set]
    rw [if_neg (h p List.mem_cons_self)]
theorem ups_at : ∀ (C : List (Nat × Nat)) (E : List Nat), (C.Pairwise fun p q => p.1 < q.1) → (∀ p ∈ C, p.1 < E.length) → ∀ p ∈ C, (ups C E)[p.1]? = some p.2
  | [], _, _, _, p, hp => by cases hp
  | q :: C, E, hw, hb, p, hp => by
    obtain ⟨w1, w2⟩ := List.pairwise_cons.mp hw
    rw [ups_cons]
    rcases List.mem_cons.mp hp with rfl | hp
    · rw [ups_ne C _ p.1 fun r hr => by have := w1 r hr; omega, List.getElem?_set]
      have := hb p List.mem_cons_self
      simp [this]
    · exact ups_at C _ w2 (fun r hr => by rw [List.length_set]; exact hb r (List.mem_cons_of_mem _ hr)) p hp
theorem ixN_nat {n k : Nat} (h : k < n) : L2.ixN n (k : Int) = some k := by
  unfold L2.ixN
  rw [if_pos (by omega), if_pos (by omega)]; rfl
theorem ends_loop (x0 x1 x2 x3 x6 x7 : Option D) (M : Mem) : ∀ (C : List (Nat × Nat)) (E : List Nat) (x5 : Option D), (∀ p ∈ C, p.1 < E.length) →
    ∃ y5, forL (gN 5) l2_law (C.map pD) [x0, x1, x2, x3, some (.own (E.map nD)), x5, x6, x7] M = .nx [x0, x1, x2, x3, some (.own ((ups C E).map nD)), y5, x6, x7] M
  | [], E, x5, _ => ⟨x5, by simp [ups]⟩
  | p :: C, E, x5, h => by
    obtain ⟨y5, e⟩ := ends_loop x0 x1 x2 x3 x6 x7 M C (E.set p.1 p.2) (some (pD p)) fun r hr => by rw [List.length_set]; exact h r (List.mem_cons_of_mem _ hr)
    refine ⟨y5, ?_⟩
    rw [ups_cons, ← e, List.map_cons, forL_cons]
    have ix : L2.ixN E.length (p.1 : Int) = some p.1 := ixN_nat (h p List.mem_cons_self)
    have em : (E.set p.1 p.2).map nD = (E.map nD).set p.1 (.int (p.2 : Nat)) := by rw [List.map_set]; rfl
    rw [em]
    simp [l2_law_eq, pD, nD, set2_int, set1_none, ix]
theorem pl_pl (x : Pl) : plD 1 x.D = true := by
  obtain ⟨t1, t2, t3⟩ := strs3
  cases x with
  | lt a => exact pl2 "letter" a t1
  | ca a => exact pl2 "call" a t2
  | re a => exact pl2 "return" a t3
theorem eq_rows (t : List Pl) (M : Mem) : eqD false (.lst (t.map Pl.D)) (.lst (t.map Pl.D)) M = .ok (.bl true) M := by
  have hp : plD 2 (.lst (t.map Pl.D)) = true := plDs_map pl_pl t
  rw [eqD_deep rfl]
  exact deep_eq (n := 2) (by decide) hp rfl
theorem lc_const {i : Nat} {f : SE} {e : L3.En} {M : Mem} (v : D) (ds : List D) (hl : ds.length ≤ 1000) (hg : ∀ d, gN i d e = some (e.set i (some d))) (hf : ∀ d, f (e.set i (some d)) M = .ok v M) : lcL (gN i) bYes f ds [] e M = .ok (ds.map fun _ => v) M := by
  rw [lcL_pure (fun _ => true) (fun _ => v) ds [] (fun d hd => ⟨_, hg d, by simp, fun _ => hf d⟩) (big _ (by simp; omega)), List.nil_append, show (ds.filter fun _ => true) = ds from List.filter_eq_self.mpr fun _ _ => rfl]
theorem law_true (ns : List Int) (hl : ns.length ≤ 63) : ∃ M, s_law [.rol (ns.map D.int)] [] = .ok (.bl true) M := by
  obtain ⟨M0, e0, h0⟩ := box ns hl
  obtain ⟨la, lb, lc, M1, e1, h1, ha, hb, hc⟩ := labelsN M0 h0
  obtain ⟨m, M2, e2, h2, q2⟩ := nextI 61 M1 h1 (by decide)
  obtain ⟨t, M3, e3, h3, hB, htl⟩ := text la lb lc ha hb hc m (by omega) M2 h2
  obtain ⟨C, R, hA⟩ := ar_of hB 0
  have la_ := fun M => law_arches t hA (by omega) M
  have hbd := hA.bd
  obtain ⟨M4, dt, e4, q4, hT, hd, _, _⟩ := children_of hA (by omega) M3
  have lf : ∀ M, fz1 (labD la lb lc) M = .ok (labD la lb lc) M := fun M => rfl
  have lv : ∀ M, var1 (some (labD la lb lc)) M = .ok (labD la lb lc) M := fun M => rfl
  have c1 : ∀ e : L3.En, (∀ d, gN 7 d e = some (e.set 7 (some d))) → lcL (gN 7) bYes e1_law (t.map Pl.D) [] e M3 = .ok ((t.map Pl.D).map fun _ => .int 0) M3 := fun e he => lc_const _ _ (by simp; omega) he fun d => by simp [e1_law_eq]
  have r1 : ((t.map Pl.D).map fun _ => D.int 0) = (List.replicate t.length 0).map nD := by
    rw [List.map_map, List.map_replicate, ← List.map_const']; rfl
  obtain ⟨y5, f5⟩ := ends_loop (some (.rol (ns.map D.int))) (some (.cell 0)) (some (labD la lb lc)) (some (.lst (t.map Pl.D))) none none M3 C (List.replicate t.length 0) none fun p hp => by
    have := hbd p hp
    rw [List.length_replicate]; omega
  have hw := law_walk (E := ups C (List.replicate t.length 0)) (by rw [ups_len, List.length_replicate]) (by omega) hT (ups_at C _ hA.pw fun p hp => by have := hbd p hp; rw [List.length_replicate]; omega) q4
  have hr := row_of q4 hT.tl (by omega) hd
  have hi := isi_cell q4
  generalize ups C (List.replicate t.length 0) = E at f5 hw
  refine ⟨M4, ?_⟩
  try simp at e2
  simp [s_law, runF_eq, b_law, e0, e1, lf, lv, e2, e3, wipeE]
  rw [c1 _ fun d => rfl, r1]
  rw [show (List.replicate t.length (0 : Nat)).map nD = List.replicate t.length (nD 0) from List.map_replicate] at f5 ⊢
  simp [la_, f5, e4, frzE, hi, hw, hr, eq_rows]
end Lk04
namespace Lk04
open PySem PySem.Spec PyProof.Rows L2 L3
def topS (i : Nat) : Stmt := PySem.Challenge.pw_archway_k04_children_of_texts.main.body.getD i (.Pass ⟨0, 0, 0, 0⟩)

abbrev st_children_of : Stmt := topS 1
theorem sc_children_of : FnScope ["text", "stack", "calls", "place", "children"] ["text"] (defScope st_children_of) := ⟨rfl, rfl, rfl, by decide +kernel, rfl, by decide +kernel, by decide +kernel⟩

abbrev st_row_of : Stmt := topS 2
theorem sc_row_of : FnScope ["children", "row", "waiting", "element"] ["children"] (defScope st_row_of) := ⟨rfl, rfl, rfl, by decide +kernel, rfl, by decide +kernel, by decide +kernel⟩

abbrev st__law_draws : Stmt := topS 4
theorem sc__law_draws : FnScope ["_law_cell", "_law_modulus", "_law_count", "_law_number", "_law_row", "_law_k", "_law_mixed"] ["_law_cell", "_law_modulus", "_law_count"] (defScope st__law_draws) := ⟨rfl, rfl, rfl, by decide +kernel, rfl, by decide +kernel, by decide +kernel⟩

abbrev st__law_next : Stmt := topS 6
theorem sc__law_next : FnScope ["_law_box_here", "_law_modulus", "_law_at", "_law_number"] ["_law_box_here", "_law_modulus"] (defScope st__law_next) := ⟨rfl, rfl, rfl, by decide +kernel, rfl, by decide +kernel, by decide +kernel⟩

abbrev st__law_arches : Stmt := topS 9
theorem sc__law_arches : FnScope ["_law_text_here", "_law_found", "_law_at", "_law_depth", "_law_end", "_law_k"] ["_law_text_here"] (defScope st__law_arches) := ⟨rfl, rfl, rfl, by decide +kernel, rfl, by decide +kernel, by decide +kernel⟩

abbrev st__law_box : Stmt := topS 5
theorem sc__law_box : FnScope ["_law_script", "_law_row", "_law_cell"] ["_law_script"] (defScope st__law_box) := ⟨rfl, rfl, rfl, by decide +kernel, rfl, by decide +kernel, by decide +kernel⟩

abbrev st__law_labels : Stmt := topS 7
theorem sc__law_labels : FnScope ["_law_box_here"] ["_law_box_here"] (defScope st__law_labels) := ⟨rfl, rfl, rfl, by decide +kernel, rfl, by decide +kernel, by decide +kernel⟩

abbrev st__law_text : Stmt := topS 8
theorem sc__law_text : FnScope ["_law_box_here", "_law_labels_here", "_law_most", "_law_row", "_law_opened", "_law_k", "_law_choice"] ["_law_box_here", "_law_labels_here", "_law_most"] (defScope st__law_text) := ⟨rfl, rfl, rfl, by decide +kernel, rfl, by decide +kernel, by decide +kernel⟩

abbrev st__law_walk : Stmt := topS 10
theorem sc__law_walk : FnScope ["_law_children", "_law_text_here", "_law_at", "_law_ends", "_law_child", "_law_end"] ["_law_children", "_law_text_here", "_law_at", "_law_ends"] (defScope st__law_walk) := ⟨rfl, rfl, rfl, by decide +kernel, rfl, by decide +kernel, by decide +kernel⟩

abbrev st_law : Stmt := topS 11
theorem sc_law : FnScope ["_law_script", "_law_box_here", "_law_labels_here", "_law_text_here", "_law_ends", "_law_pair", "_law_children", "_law_place"] ["_law_script"] (defScope st_law) := ⟨rfl, rfl, rfl, by decide +kernel, rfl, by decide +kernel, by decide +kernel⟩

theorem ok_children_of {T : List Addr} {P : Program} {w : World} {K : PySem.W.Frag} {mg : Str → Option Value} {base : Heap} {a_children_of : Addr} {fd_children_of : FuncData} (d_children_of : Dn K mg "children_of" st_children_of ["text"] a_children_of fd_children_of) :
    FnOk P w K mg base (L2.CX P w) 1 a_children_of fd_children_of ["text"] (spS T K 1 s_children_of) :=
  fn_mk2 d_children_of.F sc_children_of (by decide) <| fun cdv A outer s H E hr hT ps pown => by
    have nd := sc_children_of.nd

    exact (
      (ss_cons (s_asgO (i := 1) nd rfl (by first | exact .inl rfl | exact .inr rfl) (a_lst (af_cons (a_cl (a_lst af_nil)) af_nil)))
      (ss_cons (s_asgC (i := 2) nd rfl (by first | exact .inl rfl | exact .inr rfl) (a_lst af_nil))
      (ss_cons (s_for pown rfl (i_seq (a_fz (av 0))) ⟨_, (pg_name (i := 3) nd rfl (by first | exact .inl rfl | exact .inr rfl)), k_name⟩ (ss_one (s_if (b_cmp (op_eqU (hu_64 hr)) (eqG false) (a_ix (hu_1 hr) (av 3) a_int) a_str (nomark _)) (ss_one (s_appE (a_ix (hu_1 hr) (av 1) (a_neg a_int)) (a_fz (av 3)))) (ss_one (s_if (b_cmp (op_eqU (hu_64 hr)) (eqG false) (a_ix (hu_1 hr) (av 3) a_int) a_str (nomark _)) (ss_cons (s_app (i := 2) rfl (by first | exact .inl rfl | exact .inr (.inl rfl) | exact .inr (.inr rfl)) (a_fz (a_ix (hu_1 hr) (av 3) a_int)))
      (ss_one (s_app (i := 1) rfl (by first | exact .inl rfl | exact .inr (.inl rfl) | exact .inr (.inr rfl)) (a_cl (a_lst af_nil))))) (ss_cons (s_popA (j := 4) (i := 1) nd rfl (by first | exact .inl rfl | exact .inr rfl) rfl (by first | exact .inl rfl | exact .inr (.inl rfl) | exact .inr (.inr rfl)))
      (ss_one (s_appE (a_ix (hu_1 hr) (av 1) (a_neg a_int)) (a_tup (af_cons (a_fz a_str) (af_cons (a_popC (i := 2) rfl (by first | exact .inl rfl | exact .inr (.inl rfl) | exact .inr (.inr rfl))) (af_cons (a_fz (a_ix (hu_1 hr) (av 3) a_int)) (af_cons (a_fz (av 4)) af_nil)))))))))))))
      (ss_one (s_ret (a_ix (hu_1 hr) (av 1) a_int)))))))

theorem ok_row_of {T : List Addr} {P : Program} {w : World} {K : PySem.W.Frag} {mg : Str → Option Value} {base : Heap} {a_row_of : Addr} {fd_row_of : FuncData} (d_row_of : Dn K mg "row_of" st_row_of ["children"] a_row_of fd_row_of) (n_list : mg "list" = none) (n_reversed : mg "reversed" = none) :
    FnOk P w K mg base (L2.CX P w) 1 a_row_of fd_row_of ["children"] (spS T K 1 s_row_of) :=
  fn_mk2 d_row_of.F sc_row_of (by decide) <| fun cdv A outer s H E hr hT ps pown => by
    have nd := sc_row_of.nd

    exact (
      (ss_cons (s_asgO (i := 1) nd rfl (by first | exact .inl rfl | exact .inr rfl) (a_lst af_nil))
      (ss_cons (s_asgO (i := 2) nd rfl (by first | exact .inl rfl | exact .inr rfl) (a_lrev rfl (by rfl) n_list (by rfl) n_reversed (av 0)))
      (ss_cons (s_while pown (b_truth (av 2)) (ss_cons (s_popA (j := 3) (i := 2) nd rfl (by first | exact .inl rfl | exact .inr rfl) rfl (by first | exact .inl rfl | exact .inr (.inl rfl) | exact .inr (.inr rfl)))
      (ss_one (s_if (b_cmp (op_eqU (hu_64 hr)) (eqG false) (a_ix (hu_1 hr) (av 3) a_int) a_str (nomark _)) (ss_cons (s_app (i := 1) rfl (by first | exact .inl rfl | exact .inr (.inl rfl) | exact .inr (.inr rfl)) (a_tup (af_cons (a_fz a_str) (af_cons (a_fz (a_ix (hu_1 hr) (av 3) a_int)) af_nil))))
      (ss_cons (s_app (i := 2) rfl (by first | exact .inl rfl | exact .inr (.inl rfl) | exact .inr (.inr rfl)) (a_tup (af_cons (a_fz a_str) (af_cons (a_fz (a_ix (hu_1 hr) (av 3) a_int)) af_nil))))
      (ss_one (s_ext (i := 2) nd rfl (by first | exact .inl rfl | exact .inr rfl) (a_lrev rfl (by rfl) n_list (by rfl) n_reversed (a_ix (hu_1 hr) (av 3) a_int)))))) (ss_one (s_app (i := 1) rfl (by first | exact .inl rfl | exact .inr (.inl rfl) | exact .inr (.inr rfl)) (a_fz (av 3))))))))
      (ss_one (s_ret (av 1)))))))

theorem ok__law_draws {T : List Addr} {P : Program} {w : World} {K : PySem.W.Frag} {mg : Str → Option Value} {base : Heap} {a__law_draws : Addr} {fd__law_draws : FuncData} (d__law_draws : Dn K mg "_law_draws" st__law_draws ["_law_cell", "_law_modulus", "_law_count"] a__law_draws fd__law_draws) (n_int : mg "int" = none) (n_range : mg "range" = none) :
    FnOk P w K mg base (L2.CX P w) 1 a__law_draws fd__law_draws ["_law_cell", "_law_modulus", "_law_count"] (spS T K 3 s__law_draws) :=
  fn_mk2 d__law_draws.F sc__law_draws (by decide) <| fun cdv A outer s H E hr hT ps pown => by
    have nd := sc__law_draws.nd

    exact (
      (ss_cons (s_asg (i := 3) nd rfl (by first | exact .inl rfl | exact .inr rfl) (a_fz (av 0)))
      (ss_cons (s_if (b_cmp op_lt cmpG (av 3) a_int (nomark _)) (ss_one (s_asg (i := 3) nd rfl (by first | exact .inl rfl | exact .inr rfl) (a_fz (a_op op_sub subG a_int (av 3))))) ss_nil)
      (ss_cons (s_asgO (i := 4) nd rfl (by first | exact .inl rfl | exact .inr rfl) (a_lst af_nil))
      (ss_cons (s_if (b_cmp op_ge cmpG (av 3) (a_op op_pow powG a_int a_int) (nomark _)) (ss_cons (s_for pown rfl (i_rng1 (by rfl) n_range (aa_cons (av 2) aa_nil)) ⟨_, (pg_name (i := 5) nd rfl (by first | exact .inl rfl | exact .inr rfl)), k_name⟩ (ss_cons (s_app (i := 4) rfl (by first | exact .inl rfl | exact .inr (.inl rfl) | exact .inr (.inr rfl)) (a_fz (a_op op_modN modG (a_callT call_int1 intG (by rfl) n_int (by decide +kernel) (aa_cons (av 3) aa_nil)) (av 1))))
      (ss_one (s_asg (i := 3) nd rfl (by first | exact .inl rfl | exact .inr rfl) (a_fz (a_op op_fdivN fdivG (av 3) (av 1)))))))
      (ss_one (s_ret (av 4)))) ss_nil)
      (ss_cons (s_for pown rfl (i_rng1 (by rfl) n_range (aa_cons (av 2) aa_nil)) ⟨_, (pg_name (i := 5) nd rfl (by first | exact .inl rfl | exact .inr rfl)), k_name⟩ (ss_cons (s_asg (i := 6) nd rfl (by first | exact .inl rfl | exact .inr rfl) (a_fz (a_op op_modN modG (a_callT call_int1 intG (by rfl) n_int (by decide +kernel) (aa_cons (a_op op_mulX mulXG (a_op op_addU addG (a_op op_addU addG (av 3) (a_op op_mulX mulXG a_int (av 5))) a_int) a_int) aa_nil)) a_int)))
      (ss_cons (s_asg (i := 6) nd rfl (by first | exact .inl rfl | exact .inr rfl) (a_fz (a_op op_modN modG (a_callT call_int1 intG (by rfl) n_int (by decide +kernel) (aa_cons (a_op op_addU addG (a_op op_mulX mulXG (av 6) a_int) (a_op op_mulX mulXG a_int (av 5))) aa_nil)) a_int)))
      (ss_one (s_app (i := 4) rfl (by first | exact .inl rfl | exact .inr (.inl rfl) | exact .inr (.inr rfl)) (a_fz (a_op op_modN modG (a_callT call_int1 intG (by rfl) n_int (by decide +kernel) (aa_cons (a_op op_fdivN fdivG (av 6) a_int) aa_nil)) (av 1))))))))
      (ss_one (s_ret (av 4)))))))))

theorem ok__law_next {T : List Addr} {P : Program} {w : World} {K : PySem.W.Frag} {mg : Str → Option Value} {base : Heap} {a__law_next : Addr} {fd__law_next : FuncData} (d__law_next : Dn K mg "_law_next" st__law_next ["_law_box_here", "_law_modulus"] a__law_next fd__law_next) (n_int : mg "int" = none) (n_len : mg "len" = none) :
    FnOk P w K mg base (L2.CX P w) 1 a__law_next fd__law_next ["_law_box_here", "_law_modulus"] (spS T K 2 s__law_next) :=
  fn_mk2 d__law_next.F sc__law_next (by decide) <| fun cdv A outer s H E hr hT ps pown => by
    have nd := sc__law_next.nd

    exact (
      (ss_cons (s_asg (i := 2) nd rfl (by first | exact .inl rfl | exact .inr rfl) (a_fz (a_ix (hu_1 hr) (av 0) a_str)))
      (ss_cons (s_set (i := 0) (hu_1 hr) rfl (by first | exact .inl rfl | exact .inr (.inl rfl) | exact .inr (.inr rfl)) a_str (a_fz (a_op op_addU addG (av 2) a_int)))
      (ss_cons (s_asg (i := 3) nd rfl (by first | exact .inl rfl | exact .inr rfl) (a_fz (a_ix (hu_1 hr) (a_ix (hu_1 hr) (av 0) a_str) (a_op op_modN modG (av 2) (a_callB call_lenU lenG (by rfl) n_len (by decide +kernel) (aa_cons (a_ix (hu_1 hr) (av 0) a_str) aa_nil))))))
      (ss_one (s_ret (a_op op_modN modG (a_callT call_int1 intG (by rfl) n_int (by decide +kernel) (aa_cons (a_op op_addU addG (av 3) (a_op op_mulX mulXG a_int (a_op op_fdivN fdivG (av 2) (a_callB call_lenU lenG (by rfl) n_len (by decide +kernel) (aa_cons (a_ix (hu_1 hr) (av 0) a_str) aa_nil))))) aa_nil)) (av 1))))))))

theorem ok__law_arches {T : List Addr} {P : Program} {w : World} {K : PySem.W.Frag} {mg : Str → Option Value} {base : Heap} {a__law_arches : Addr} {fd__law_arches : FuncData} (d__law_arches : Dn K mg "_law_arches" st__law_arches ["_law_text_here"] a__law_arches fd__law_arches) (n_len : mg "len" = none) (n_range : mg "range" = none) :
    FnOk P w K mg base (L2.CX P w) 1 a__law_arches fd__law_arches ["_law_text_here"] (spS T K 1 s__law_arches) :=
  fn_mk2 d__law_arches.F sc__law_arches (by decide) <| fun cdv A outer s H E hr hT ps pown => by
    have nd := sc__law_arches.nd

    exact (
      (ss_cons (s_asgO (i := 1) nd rfl (by first | exact .inl rfl | exact .inr rfl) (a_lst af_nil))
      (ss_cons (s_for pown rfl (i_rng1 (by rfl) n_range (aa_cons (a_callB call_lenU lenG (by rfl) n_len (by decide +kernel) (aa_cons (av 0) aa_nil)) aa_nil)) ⟨_, (pg_name (i := 2) nd rfl (by first | exact .inl rfl | exact .inr rfl)), k_name⟩ (ss_one (s_if (b_cmp (op_eqU (hu_64 hr)) (eqG false) (a_ix (hu_1 hr) (a_ix (hu_1 hr) (av 0) (av 2)) a_int) a_str (nomark _)) (ss_cons (s_asg (i := 3) nd rfl (by first | exact .inl rfl | exact .inr rfl) (a_fz a_int))
      (ss_cons (s_asg (i := 4) nd rfl (by first | exact .inl rfl | exact .inr rfl) (a_fz (a_op op_sub subG a_int a_int)))
      (ss_cons (s_for pown rfl (i_rng2 (by rfl) n_range (aa_cons (av 2) (aa_cons (a_callB call_lenU lenG (by rfl) n_len (by decide +kernel) (aa_cons (av 0) aa_nil)) aa_nil))) ⟨_, (pg_name (i := 5) nd rfl (by first | exact .inl rfl | exact .inr rfl)), k_name⟩ (ss_cons (s_if (b_cmp (op_eqU (hu_64 hr)) (eqG false) (a_ix (hu_1 hr) (a_ix (hu_1 hr) (av 0) (av 5)) a_int) a_str (nomark _)) (ss_one (s_asg (i := 3) nd rfl (by first | exact .inl rfl | exact .inr rfl) (a_fz (a_op op_addU addG (av 3) a_int)))) ss_nil)
      (ss_cons (s_if (b_cmp (op_eqU (hu_64 hr)) (eqG false) (a_ix (hu_1 hr) (a_ix (hu_1 hr) (av 0) (av 5)) a_int) a_str (nomark _)) (ss_one (s_asg (i := 3) nd rfl (by first | exact .inl rfl | exact .inr rfl) (a_fz (a_op op_sub subG (av 3) a_int)))) ss_nil)
      (ss_one (s_if (PW.pt (w_and (b_cmp (op_eqU (hu_64 hr)) (eqG false) (av 3) a_int (nomark _)) (w_and1 (b_cmp op_lt cmpG (av 4) a_int (nomark _))))) (ss_one (s_asg (i := 4) nd rfl (by first | exact .inl rfl | exact .inr rfl) (a_fz (av 5)))) ss_nil)))))
      (ss_one (s_app (i := 1) rfl (by first | exact .inl rfl | exact .inr (.inl rfl) | exact .inr (.inr rfl)) (a_tup (af_cons (a_fz (av 2)) (af_cons (a_fz (av 4)) af_nil)))))))) ss_nil)))
      (ss_one (s_ret (av 1))))))

theorem ok__law_box {T : List Addr} {P : Program} {w : World} {K : PySem.W.Frag} {mg : Str → Option Value} {base : Heap} {a__law_box : Addr} {fd__law_box : FuncData} (d__law_box : Dn K mg "_law_box" st__law_box ["_law_script"] a__law_box fd__law_box) {a__law_draws : Addr} {fd__law_draws : FuncData} (d__law_draws : Dn K mg "_law_draws" st__law_draws ["_law_cell", "_law_modulus", "_law_count"] a__law_draws fd__law_draws) (n_int : mg "int" = none) (n_len : mg "len" = none) (n_range : mg "range" = none) :
    FnOk P w K mg base (L2.CX P w) 2 a__law_box fd__law_box ["_law_script"] (spS T K 1 s__law_box) :=
  fn_mk2 d__law_box.F sc__law_box (by decide) <| fun cdv A outer s H E hr hT ps pown => by
    have nd := sc__law_box.nd

    have G__law_draws : FnOk P w K mg base (L2.CX P w) 1 a__law_draws fd__law_draws _ (spS T K 3 s__law_draws) := ok__law_draws d__law_draws n_int n_range
    exact (
      (ss_cons (s_asg (i := 1) nd rfl (by first | exact .inl rfl | exact .inr rfl) (a_fz (a_lst af_nil)))
      (ss_cons (s_for pown rfl (i_seq (a_fz (av 0))) ⟨_, (pg_name (i := 2) nd rfl (by first | exact .inl rfl | exact .inr rfl)), k_name⟩ (ss_one (s_asg (i := 1) nd rfl (by first | exact .inl rfl | exact .inr rfl) (a_fz (a_op op_addU addG (av 1) (a_call G__law_draws hT (hr.mono (by decide)) (by rfl) d__law_draws.g d__law_draws.F.kp d__law_draws.b ps (af_cons (a_fz (av 2)) (af_cons (a_fz a_int) (af_cons (a_fz a_int) af_nil))) rfl (sCons_len (sCons_len (sCons_len (fun _ _ _ _ h => sNil_len h))))))))))
      (ss_cons (s_if (b_cmp (op_eqU (hu_64 hr)) (eqG false) (a_callB call_lenU lenG (by rfl) n_len (by decide +kernel) (aa_cons (av 1) aa_nil)) a_int (nomark _)) (ss_one (s_asg (i := 1) nd rfl (by first | exact .inl rfl | exact .inr rfl) (a_fz (a_lst (af_cons (a_fz a_int) (af_cons (a_fz a_int) (af_cons (a_fz a_int) (af_cons (a_fz a_int) (af_cons (a_fz a_int) (af_cons (a_fz a_int) (af_cons (a_fz a_int) af_nil))))))))))) ss_nil)
      (ss_one (s_ret (a_dict (p_cons a_str (a_fz (av 1)) (p_cons a_str (a_fz a_int) p_nil)) rfl rfl (fun z => by cases z) (by decide))))))))

theorem ok__law_labels {T : List Addr} {P : Program} {w : World} {K : PySem.W.Frag} {mg : Str → Option Value} {base : Heap} {a__law_labels : Addr} {fd__law_labels : FuncData} (d__law_labels : Dn K mg "_law_labels" st__law_labels ["_law_box_here"] a__law_labels fd__law_labels) {a__law_next : Addr} {fd__law_next : FuncData} (d__law_next : Dn K mg "_law_next" st__law_next ["_law_box_here", "_law_modulus"] a__law_next fd__law_next) (n_int : mg "int" = none) (n_len : mg "len" = none) :
    FnOk P w K mg base (L2.CX P w) 2 a__law_labels fd__law_labels ["_law_box_here"] (spS T K 1 s__law_labels) :=
  fn_mk2 d__law_labels.F sc__law_labels (by decide) <| fun cdv A outer s H E hr hT ps pown => by
    have nd := sc__law_labels.nd

    have G__law_next : FnOk P w K mg base (L2.CX P w) 1 a__law_next fd__law_next _ (spS T K 2 s__law_next) := ok__law_next d__law_next n_int n_len
    exact (
      (ss_one (s_ret (a_data (a_tup (af_cons (a_fz (a_op op_addU addG a_int (a_call G__law_next hT (hr.mono (by decide)) (by rfl) d__law_next.g d__law_next.F.kp d__law_next.b ps (af_cons (a_fz (av 0)) (af_cons (a_fz a_int) af_nil)) rfl (sCons_len (sCons_len (fun _ _ _ _ h => sNil_len h)))))) (af_cons (a_fz (a_op op_addU addG a_int (a_call G__law_next hT (hr.mono (by decide)) (by rfl) d__law_next.g d__law_next.F.kp d__law_next.b ps (af_cons (a_fz (av 0)) (af_cons (a_fz a_int) af_nil)) rfl (sCons_len (sCons_len (fun _ _ _ _ h => sNil_len h)))))) (af_cons (a_fz (a_op op_addU addG a_int (a_call G__law_next hT (hr.mono (by decide)) (by rfl) d__law_next.g d__law_next.F.kp d__law_next.b ps (af_cons (a_fz (av 0)) (af_cons (a_fz a_int) af_nil)) rfl (sCons_len (sCons_len (fun _ _ _ _ h => sNil_len h)))))) af_nil))))))))

theorem ok__law_text {T : List Addr} {P : Program} {w : World} {K : PySem.W.Frag} {mg : Str → Option Value} {base : Heap} {a__law_text : Addr} {fd__law_text : FuncData} (d__law_text : Dn K mg "_law_text" st__law_text ["_law_box_here", "_law_labels_here", "_law_most"] a__law_text fd__law_text) {a__law_next : Addr} {fd__law_next : FuncData} (d__law_next : Dn K mg "_law_next" st__law_next ["_law_box_here", "_law_modulus"] a__law_next fd__law_next) (n_int : mg "int" = none) (n_len : mg "len" = none) (n_range : mg "range" = none) :
    FnOk P w K mg base (L2.CX P w) 2 a__law_text fd__law_text ["_law_box_here", "_law_labels_here", "_law_most"] (spS T K 3 s__law_text) :=
  fn_mk2 d__law_text.F sc__law_text (by decide) <| fun cdv A outer s H E hr hT ps pown => by
    have nd := sc__law_text.nd

    have G__law_next : FnOk P w K mg base (L2.CX P w) 1 a__law_next fd__law_next _ (spS T K 2 s__law_next) := ok__law_next d__law_next n_int n_len
    exact (
      (ss_cons (s_asgO (i := 3) nd rfl (by first | exact .inl rfl | exact .inr rfl) (a_lst af_nil))
      (ss_cons (s_asg (i := 4) nd rfl (by first | exact .inl rfl | exact .inr rfl) (a_fz a_int))
      (ss_cons (s_for pown rfl (i_rng1 (by rfl) n_range (aa_cons (av 2) aa_nil)) ⟨_, (pg_name (i := 5) nd rfl (by first | exact .inl rfl | exact .inr rfl)), k_name⟩ (ss_cons (s_asg (i := 6) nd rfl (by first | exact .inl rfl | exact .inr rfl) (a_fz (a_call G__law_next hT (hr.mono (by decide)) (by rfl) d__law_next.g d__law_next.F.kp d__law_next.b ps (af_cons (a_fz (av 0)) (af_cons (a_fz a_int) af_nil)) rfl (sCons_len (sCons_len (fun _ _ _ _ h => sNil_len h))))))
      (ss_one (s_if (PW.pt (w_and (b_cmp op_lt cmpG (av 6) a_int (nomark _)) (w_and1 (b_cmp op_le cmpG (a_op op_addU addG (a_op op_addU addG (a_callB call_lenU lenG (by rfl) n_len (by decide +kernel) (aa_cons (av 3) aa_nil)) (av 4)) a_int) (av 2) (nomark _))))) (ss_cons (s_app (i := 3) rfl (by first | exact .inl rfl | exact .inr (.inl rfl) | exact .inr (.inr rfl)) (a_tup (af_cons (a_fz a_str) (af_cons (a_fz (a_call G__law_next hT (hr.mono (by decide)) (by rfl) d__law_next.g d__law_next.F.kp d__law_next.b ps (af_cons (a_fz (av 0)) (af_cons (a_fz (a_ix (hu_1 hr) (av 1) a_int)) af_nil)) rfl (sCons_len (sCons_len (fun _ _ _ _ h => sNil_len h))))) af_nil))))
      (ss_one (s_asg (i := 4) nd rfl (by first | exact .inl rfl | exact .inr rfl) (a_fz (a_op op_addU addG (av 4) a_int))))) (ss_one (s_if (PW.pt (w_and (b_cmp op_lt cmpG (av 6) a_int (nomark _)) (w_and1 (b_cmp op_gt cmpG (av 4) a_int (nomark _))))) (ss_cons (s_app (i := 3) rfl (by first | exact .inl rfl | exact .inr (.inl rfl) | exact .inr (.inr rfl)) (a_tup (af_cons (a_fz a_str) (af_cons (a_fz (a_call G__law_next hT (hr.mono (by decide)) (by rfl) d__law_next.g d__law_next.F.kp d__law_next.b ps (af_cons (a_fz (av 0)) (af_cons (a_fz (a_ix (hu_1 hr) (av 1) a_int)) af_nil)) rfl (sCons_len (sCons_len (fun _ _ _ _ h => sNil_len h))))) af_nil))))
      (ss_one (s_asg (i := 4) nd rfl (by first | exact .inl rfl | exact .inr rfl) (a_fz (a_op op_sub subG (av 4) a_int))))) (ss_one (s_if (b_cmp op_lt cmpG (a_op op_addU addG (a_callB call_lenU lenG (by rfl) n_len (by decide +kernel) (aa_cons (av 3) aa_nil)) (av 4)) (av 2) (nomark _)) (ss_one (s_app (i := 3) rfl (by first | exact .inl rfl | exact .inr (.inl rfl) | exact .inr (.inr rfl)) (a_tup (af_cons (a_fz a_str) (af_cons (a_fz (a_call G__law_next hT (hr.mono (by decide)) (by rfl) d__law_next.g d__law_next.F.kp d__law_next.b ps (af_cons (a_fz (av 0)) (af_cons (a_fz (a_ix (hu_1 hr) (av 1) a_int)) af_nil)) rfl (sCons_len (sCons_len (fun _ _ _ _ h => sNil_len h))))) af_nil))))) ss_nil))))))))
      (ss_cons (s_for pown rfl (i_rng1 (by rfl) n_range (aa_cons (av 4) aa_nil)) ⟨_, (pg_name (i := 5) nd rfl (by first | exact .inl rfl | exact .inr rfl)), k_name⟩ (ss_one (s_app (i := 3) rfl (by first | exact .inl rfl | exact .inr (.inl rfl) | exact .inr (.inr rfl)) (a_tup (af_cons (a_fz a_str) (af_cons (a_fz (a_call G__law_next hT (hr.mono (by decide)) (by rfl) d__law_next.g d__law_next.F.kp d__law_next.b ps (af_cons (a_fz (av 0)) (af_cons (a_fz (a_ix (hu_1 hr) (av 1) a_int)) af_nil)) rfl (sCons_len (sCons_len (fun _ _ _ _ h => sNil_len h))))) af_nil))))))
      (ss_one (s_ret (av 3))))))))

theorem ok__law_walk {T : List Addr} {P : Program} {w : World} {K : PySem.W.Frag} {mg : Str → Option Value} {base : Heap} {a__law_walk : Addr} {fd__law_walk : FuncData} (d__law_walk : Dn K mg "_law_walk" st__law_walk ["_law_children", "_law_text_here", "_law_at", "_law_ends"] a__law_walk fd__law_walk) (n_isinstance : mg "isinstance" = none) (n_len : mg "len" = none) (n_list : mg "list" = none) (n_tuple : mg "tuple" = none) : ∀ n : Nat,
    FnOk P w K mg base (L2.CX P w) (0 + n) a__law_walk fd__law_walk ["_law_children", "_law_text_here", "_law_at", "_law_ends"] (spS T K 4 (s__law_walk n)) := by
  intro n
  induction n with
  | zero => exact fn_bad
  | succ n ih =>
   exact fn_mk2 (k := 0 + n) d__law_walk.F sc__law_walk (by decide) <| fun cdv A outer s H E hr hT ps pown => by
    have nd := sc__law_walk.nd

    exact (
      (ss_cons (s_forC pown rfl (i_cell (av 0)) ⟨_, (pg_name (i := 4) nd rfl (by first | exact .inl rfl | exact .inr rfl)), k_name⟩ (ss_cons (s_if (PW.pt (w_or (b_not (b_truth (a_callB call_isi isiG (by rfl) n_isinstance (by decide +kernel) (aa_cons (av 4) (aa_cons (a_const (v := .ty "tuple") (pe_bltn (by rfl) n_tuple (by decide +kernel) rfl) fun _ => .ty _) aa_nil))))) (w_or1 (b_cmp op_ge cmpG (av 2) (a_callB call_lenU lenG (by rfl) n_len (by decide +kernel) (aa_cons (av 1) aa_nil)) (nomark _))))) (ss_one (s_ret (a_op op_sub subG a_int a_int))) ss_nil)
      (ss_one (s_if (b_cmp (op_eqU (hu_64 hr)) (eqG false) (a_ix (hu_1 hr) (av 4) a_int) a_str (nomark _)) (ss_cons (s_if (b_cmp (op_neU (hu_64 hr)) (eqG true) (av 4) (a_ix (hu_1 hr) (av 1) (av 2)) (nomark _)) (ss_one (s_ret (a_op op_sub subG a_int a_int))) ss_nil)
      (ss_one (s_asg (i := 2) nd rfl (by first | exact .inl rfl | exact .inr rfl) (a_fz (a_op op_addU addG (av 2) a_int))))) (ss_cons (s_if (PW.pt (w_or (b_cmp (op_neU (hu_64 hr)) (eqG true) (a_callB call_lenU lenG (by rfl) n_len (by decide +kernel) (aa_cons (av 4) aa_nil)) a_int (nomark _)) (w_or (b_not (b_truth (a_callB call_isi isiG (by rfl) n_isinstance (by decide +kernel) (aa_cons (a_ix (hu_1 hr) (av 4) a_int) (aa_cons (a_const (v := .ty "list") (pe_bltn (by rfl) n_list (by decide +kernel) rfl) fun _ => .ty _) aa_nil))))) (w_or1 (b_cmp (op_neU (hu_64 hr)) (eqG true) (a_ix (hu_1 hr) (av 1) (av 2)) (a_data (a_tup (af_cons (a_fz a_str) (af_cons (a_fz (a_ix (hu_1 hr) (av 4) a_int)) af_nil)))) (nomark _)))))) (ss_one (s_ret (a_op op_sub subG a_int a_int))) ss_nil)
      (ss_cons (s_asg (i := 5) nd rfl (by first | exact .inl rfl | exact .inr rfl) (a_fz (a_ix (hu_1 hr) (av 3) (av 2))))
      (ss_cons (s_if (PW.pt (w_or (b_cmp (op_neU (hu_64 hr)) (eqG true) (a_ix (hu_1 hr) (av 1) (av 5)) (a_data (a_tup (af_cons (a_fz a_str) (af_cons (a_fz (a_ix (hu_1 hr) (av 4) a_int)) af_nil)))) (nomark _)) (w_or1 (b_cmp (op_neU (hu_64 hr)) (eqG true) (a_call ih hT hr (by rfl) d__law_walk.g d__law_walk.F.kp d__law_walk.b ps (af_cons (a_fz (a_ix (hu_1 hr) (av 4) a_int)) (af_cons (a_fz (av 1)) (af_cons (a_fz (a_op op_addU addG (av 2) a_int)) (af_cons (a_fz (av 3)) af_nil)))) rfl (sCons_len (sCons_len (sCons_len (sCons_len (fun _ _ _ _ h => sNil_len h)))))) (av 5) (nomark _))))) (ss_one (s_ret (a_op op_sub subG a_int a_int))) ss_nil)
      (ss_one (s_asg (i := 2) nd rfl (by first | exact .inl rfl | exact .inr rfl) (a_fz (a_op op_addU addG (av 5) a_int)))))))))))
      (ss_one (s_ret (av 2)))))

theorem ok_law {T : List Addr} {P : Program} {w : World} {K : PySem.W.Frag} {mg : Str → Option Value} {base : Heap} {a_law : Addr} {fd_law : FuncData} (d_law : Dn K mg "law" st_law ["_law_script"] a_law fd_law) {a__law_arches : Addr} {fd__law_arches : FuncData} (d__law_arches : Dn K mg "_law_arches" st__law_arches ["_law_text_here"] a__law_arches fd__law_arches) {a__law_next : Addr} {fd__law_next : FuncData} (d__law_next : Dn K mg "_law_next" st__law_next ["_law_box_here", "_law_modulus"] a__law_next fd__law_next) {a_children_of : Addr} {fd_children_of : FuncData} (d_children_of : Dn K mg "children_of" st_children_of ["text"] a_children_of fd_children_of) {a_row_of : Addr} {fd_row_of : FuncData} (d_row_of : Dn K mg "row_of" st_row_of ["children"] a_row_of fd_row_of) {a__law_draws : Addr} {fd__law_draws : FuncData} (d__law_draws : Dn K mg "_law_draws" st__law_draws ["_law_cell", "_law_modulus", "_law_count"] a__law_draws fd__law_draws) {a__law_box : Addr} {fd__law_box : FuncData} (d__law_box : Dn K mg "_law_box" st__law_box ["_law_script"] a__law_box fd__law_box) {a__law_labels : Addr} {fd__law_labels : FuncData} (d__law_labels : Dn K mg "_law_labels" st__law_labels ["_law_box_here"] a__law_labels fd__law_labels) {a__law_text : Addr} {fd__law_text : FuncData} (d__law_text : Dn K mg "_law_text" st__law_text ["_law_box_here", "_law_labels_here", "_law_most"] a__law_text fd__law_text) {a__law_walk : Addr} {fd__law_walk : FuncData} (d__law_walk : Dn K mg "_law_walk" st__law_walk ["_law_children", "_law_text_here", "_law_at", "_law_ends"] a__law_walk fd__law_walk) (n_int : mg "int" = none) (n_isinstance : mg "isinstance" = none) (n_len : mg "len" = none) (n_list : mg "list" = none) (n_range : mg "range" = none) (n_reversed : mg "reversed" = none) (n_tuple : mg "tuple" = none) :
    FnOk P w K mg base (L2.CX P w) 71 a_law fd_law ["_law_script"] (spS T K 1 s_law) :=
  fn_mk2 d_law.F sc_law (by decide) <| fun cdv A outer s H E hr hT ps pown => by
    have nd := sc_law.nd

    have G__law_arches : FnOk P w K mg base (L2.CX P w) 1 a__law_arches fd__law_arches _ (spS T K 1 s__law_arches) := ok__law_arches d__law_arches n_len n_range
    have G__law_box : FnOk P w K mg base (L2.CX P w) 2 a__law_box fd__law_box _ (spS T K 1 s__law_box) := ok__law_box d__law_box d__law_draws n_int n_len n_range
    have G__law_labels : FnOk P w K mg base (L2.CX P w) 2 a__law_labels fd__law_labels _ (spS T K 1 s__law_labels) := ok__law_labels d__law_labels d__law_next n_int n_len
    have G__law_next : FnOk P w K mg base (L2.CX P w) 1 a__law_next fd__law_next _ (spS T K 2 s__law_next) := ok__law_next d__law_next n_int n_len
    have G__law_text : FnOk P w K mg base (L2.CX P w) 2 a__law_text fd__law_text _ (spS T K 3 s__law_text) := ok__law_text d__law_text d__law_next n_int n_len n_range
    have G__law_walk : FnOk P w K mg base (L2.CX P w) 70 a__law_walk fd__law_walk _ (spS T K 4 (s__law_walk 70)) := ok__law_walk d__law_walk n_isinstance n_len n_list n_tuple 70
    have G_children_of : FnOk P w K mg base (L2.CX P w) 1 a_children_of fd_children_of _ (spS T K 1 s_children_of) := ok_children_of d_children_of
    have G_row_of : FnOk P w K mg base (L2.CX P w) 1 a_row_of fd_row_of _ (spS T K 1 s_row_of) := ok_row_of d_row_of n_list n_reversed
    exact (
      (ss_cons (s_asg (i := 1) nd rfl (by first | exact .inl rfl | exact .inr rfl) (a_fz (a_call G__law_box hT (hr.mono (by decide)) (by rfl) d__law_box.g d__law_box.F.kp d__law_box.b ps (af_cons (a_fz (av 0)) af_nil) rfl (sCons_len (fun _ _ _ _ h => sNil_len h)))))
      (ss_cons (s_asg (i := 2) nd rfl (by first | exact .inl rfl | exact .inr rfl) (a_fz (a_call G__law_labels hT (hr.mono (by decide)) (by rfl) d__law_labels.g d__law_labels.F.kp d__law_labels.b ps (af_cons (a_fz (av 1)) af_nil) rfl (sCons_len (fun _ _ _ _ h => sNil_len h)))))
      (ss_cons (s_asg (i := 3) nd rfl (by first | exact .inl rfl | exact .inr rfl) (a_fz (a_call G__law_text hT (hr.mono (by decide)) (by rfl) d__law_text.g d__law_text.F.kp d__law_text.b ps (af_cons (a_fz (av 1)) (af_cons (a_fz (av 2)) (af_cons (a_fz (a_call G__law_next hT (hr.mono (by decide)) (by rfl) d__law_next.g d__law_next.F.kp d__law_next.b ps (af_cons (a_fz (av 1)) (af_cons (a_fz a_int) af_nil)) rfl (sCons_len (sCons_len (fun _ _ _ _ h => sNil_len h))))) af_nil))) rfl (sCons_len (sCons_len (sCons_len (fun _ _ _ _ h => sNil_len h)))))))
      (ss_cons (s_asgLcO (i := 4) (it := (sWalk (fz (sVar 3)))) (g := (gN 7)) (t := bYes) (f := e1_law) (own := [("_law_place", 7)]) (tt := (gName 7)) rfl hT nd rfl rfl (sw_true rfl rfl rfl (by decide +kernel)) (i_seq (a_fz (av 3))) (blkOk_by (N := ["_law_script", "_law_box_here", "_law_labels_here", "_law_text_here", "_law_ends", "_law_pair", "_law_children", "_law_place"]) (sc := (defScope st_law)) (by decide +kernel)) (fun _ _ _ _ _ hT => (pg_name (i := 7) nd rfl (by first | exact .inl rfl | exact .inr rfl))) k_name (by decide) (fun _ _ _ _ _ hT => t_nil) (fun _ _ _ _ _ hT => (a_fz a_int)))
      (ss_cons (s_for pown rfl (i_seq (a_fz (a_call G__law_arches hT (hr.mono (by decide)) (by rfl) d__law_arches.g d__law_arches.F.kp d__law_arches.b ps (af_cons (a_fz (av 3)) af_nil) rfl (sCons_len (fun _ _ _ _ h => sNil_len h))))) ⟨_, (pg_name (i := 5) nd rfl (by first | exact .inl rfl | exact .inr rfl)), k_name⟩ (ss_one (s_set (i := 4) (hu_1 hr) rfl (by first | exact .inl rfl | exact .inr (.inl rfl) | exact .inr (.inr rfl)) (a_ix (hu_1 hr) (av 5) a_int) (a_fz (a_ix (hu_1 hr) (av 5) a_int)))))
      (ss_cons (s_asg (i := 6) nd rfl (by first | exact .inl rfl | exact .inr rfl) (a_fz (a_call G_children_of hT (hr.mono (by decide)) (by rfl) d_children_of.g d_children_of.F.kp d_children_of.b ps (af_cons (a_fz (a_callT call_list_of listG (by rfl) n_list (by decide +kernel) (aa_cons (av 3) aa_nil))) af_nil) rfl (sCons_len (fun _ _ _ _ h => sNil_len h)))))
      (ss_cons (s_frz [4] (s_if (PW.pt (w_or (b_not (b_truth (a_callB call_isi isiG (by rfl) n_isinstance (by decide +kernel) (aa_cons (av 6) (aa_cons (a_const (v := .ty "list") (pe_bltn (by rfl) n_list (by decide +kernel) rfl) fun _ => .ty _) aa_nil))))) (w_or1 (b_cmp (op_neU (hu_64 hr)) (eqG true) (a_call G__law_walk hT (hr.mono (by decide)) (by rfl) d__law_walk.g d__law_walk.F.kp d__law_walk.b ps (af_cons (a_fz (av 6)) (af_cons (a_fz (av 3)) (af_cons (a_fz a_int) (af_cons (a_fz (av 4)) af_nil)))) rfl (sCons_len (sCons_len (sCons_len (sCons_len (fun _ _ _ _ h => sNil_len h)))))) (a_callB call_lenU lenG (by rfl) n_len (by decide +kernel) (aa_cons (av 3) aa_nil)) (nomark _))))) (ss_one (s_ret a_bl)) ss_nil))
      (ss_one (s_ret (a_and (a_cmp (op_eqU (hu_64 hr)) (eqG false) (a_call G_row_of hT (hr.mono (by decide)) (by rfl) d_row_of.g d_row_of.F.kp d_row_of.b ps (af_cons (a_fz (av 6)) af_nil) rfl (sCons_len (fun _ _ _ _ h => sNil_len h))) (av 3) (nomark _)) (a_one (a_callB call_isi isiG (by rfl) n_isinstance (by decide +kernel) (aa_cons (a_call G_row_of hT (hr.mono (by decide)) (by rfl) d_row_of.g d_row_of.F.kp d_row_of.b ps (af_cons (a_fz (av 6)) af_nil) rfl (sCons_len (fun _ _ _ _ h => sNil_len h))) (aa_cons (a_const (v := .ty "list") (pe_bltn (by rfl) n_list (by decide +kernel) rfl) fun _ => .ty _) aa_nil)))))))))))))))

theorem all_mk {l : PySem.W.OpenLaw} {q : Program} {w : World} {K : PySem.W.Frag} {h : Heap} {mg : Str → Option Value} {fa : Addr} (X : K.In h) (G : h.Ns mainGlobals mg) (hfa : mg "law" = some (.ref fa))
    {f_children_of : Addr} {od_children_of an_children_of : Option Addr} {sl_children_of : Array (Option Value)} {oc_children_of kV_children_of dc_children_of pm_children_of cd_children_of ct_children_of : Value}
    (a_children_of : PySem.W.nsIn K mainGlobals "children_of" = some (some (.ref f_children_of))) (l_children_of : K.lookup f_children_of = some ⟨oc_children_of, od_children_of, .func (PySem.W.fnOf "children_of" "children_of" (defArgs st_children_of) (defBody st_children_of) (defScope st_children_of) .none kV_children_of dc_children_of pm_children_of an_children_of cd_children_of ct_children_of), sl_children_of⟩) (cc_children_of : PySem.W.codeIn K cd_children_of "children_of" = true) (k_children_of : PySem.W.keepIn K (.ref f_children_of) = true)
    {f_row_of : Addr} {od_row_of an_row_of : Option Addr} {sl_row_of : Array (Option Value)} {oc_row_of kV_row_of dc_row_of pm_row_of cd_row_of ct_row_of : Value}
    (a_row_of : PySem.W.nsIn K mainGlobals "row_of" = some (some (.ref f_row_of))) (l_row_of : K.lookup f_row_of = some ⟨oc_row_of, od_row_of, .func (PySem.W.fnOf "row_of" "row_of" (defArgs st_row_of) (defBody st_row_of) (defScope st_row_of) .none kV_row_of dc_row_of pm_row_of an_row_of cd_row_of ct_row_of), sl_row_of⟩) (cc_row_of : PySem.W.codeIn K cd_row_of "row_of" = true) (k_row_of : PySem.W.keepIn K (.ref f_row_of) = true)
    {f__law_draws : Addr} {od__law_draws an__law_draws : Option Addr} {sl__law_draws : Array (Option Value)} {oc__law_draws kV__law_draws dc__law_draws pm__law_draws cd__law_draws ct__law_draws : Value}
    (a__law_draws : PySem.W.nsIn K mainGlobals "_law_draws" = some (some (.ref f__law_draws))) (l__law_draws : K.lookup f__law_draws = some ⟨oc__law_draws, od__law_draws, .func (PySem.W.fnOf "_law_draws" "_law_draws" (defArgs st__law_draws) (defBody st__law_draws) (defScope st__law_draws) .none kV__law_draws dc__law_draws pm__law_draws an__law_draws cd__law_draws ct__law_draws), sl__law_draws⟩) (cc__law_draws : PySem.W.codeIn K cd__law_draws "_law_draws" = true) (k__law_draws : PySem.W.keepIn K (.ref f__law_draws) = true)
    {f__law_next : Addr} {od__law_next an__law_next : Option Addr} {sl__law_next : Array (Option Value)} {oc__law_next kV__law_next dc__law_next pm__law_next cd__law_next ct__law_next : Value}
    (a__law_next : PySem.W.nsIn K mainGlobals "_law_next" = some (some (.ref f__law_next))) (l__law_next : K.lookup f__law_next = some ⟨oc__law_next, od__law_next, .func (PySem.W.fnOf "_law_next" "_law_next" (defArgs st__law_next) (defBody st__law_next) (defScope st__law_next) .none kV__law_next dc__law_next pm__law_next an__law_next cd__law_next ct__law_next), sl__law_next⟩) (cc__law_next : PySem.W.codeIn K cd__law_next "_law_next" = true) (k__law_next : PySem.W.keepIn K (.ref f__law_next) = true)
    {f__law_arches : Addr} {od__law_arches an__law_arches : Option Addr} {sl__law_arches : Array (Option Value)} {oc__law_arches kV__law_arches dc__law_arches pm__law_arches cd__law_arches ct__law_arches : Value}
    (a__law_arches : PySem.W.nsIn K mainGlobals "_law_arches" = some (some (.ref f__law_arches))) (l__law_arches : K.lookup f__law_arches = some ⟨oc__law_arches, od__law_arches, .func (PySem.W.fnOf "_law_arches" "_law_arches" (defArgs st__law_arches) (defBody st__law_arches) (defScope st__law_arches) .none kV__law_arches dc__law_arches pm__law_arches an__law_arches cd__law_arches ct__law_arches), sl__law_arches⟩) (cc__law_arches : PySem.W.codeIn K cd__law_arches "_law_arches" = true) (k__law_arches : PySem.W.keepIn K (.ref f__law_arches) = true)
    {f__law_box : Addr} {od__law_box an__law_box : Option Addr} {sl__law_box : Array (Option Value)} {oc__law_box kV__law_box dc__law_box pm__law_box cd__law_box ct__law_box : Value}
    (a__law_box : PySem.W.nsIn K mainGlobals "_law_box" = some (some (.ref f__law_box))) (l__law_box : K.lookup f__law_box = some ⟨oc__law_box, od__law_box, .func (PySem.W.fnOf "_law_box" "_law_box" (defArgs st__law_box) (defBody st__law_box) (defScope st__law_box) .none kV__law_box dc__law_box pm__law_box an__law_box cd__law_box ct__law_box), sl__law_box⟩) (cc__law_box : PySem.W.codeIn K cd__law_box "_law_box" = true) (k__law_box : PySem.W.keepIn K (.ref f__law_box) = true)
    {f__law_labels : Addr} {od__law_labels an__law_labels : Option Addr} {sl__law_labels : Array (Option Value)} {oc__law_labels kV__law_labels dc__law_labels pm__law_labels cd__law_labels ct__law_labels : Value}
    (a__law_labels : PySem.W.nsIn K mainGlobals "_law_labels" = some (some (.ref f__law_labels))) (l__law_labels : K.lookup f__law_labels = some ⟨oc__law_labels, od__law_labels, .func (PySem.W.fnOf "_law_labels" "_law_labels" (defArgs st__law_labels) (defBody st__law_labels) (defScope st__law_labels) .none kV__law_labels dc__law_labels pm__law_labels an__law_labels cd__law_labels ct__law_labels), sl__law_labels⟩) (cc__law_labels : PySem.W.codeIn K cd__law_labels "_law_labels" = true) (k__law_labels : PySem.W.keepIn K (.ref f__law_labels) = true)
    {f__law_text : Addr} {od__law_text an__law_text : Option Addr} {sl__law_text : Array (Option Value)} {oc__law_text kV__law_text dc__law_text pm__law_text cd__law_text ct__law_text : Value}
    (a__law_text : PySem.W.nsIn K mainGlobals "_law_text" = some (some (.ref f__law_text))) (l__law_text : K.lookup f__law_text = some ⟨oc__law_text, od__law_text, .func (PySem.W.fnOf "_law_text" "_law_text" (defArgs st__law_text) (defBody st__law_text) (defScope st__law_text) .none kV__law_text dc__law_text pm__law_text an__law_text cd__law_text ct__law_text), sl__law_text⟩) (cc__law_text : PySem.W.codeIn K cd__law_text "_law_text" = true) (k__law_text : PySem.W.keepIn K (.ref f__law_text) = true)
    {f__law_walk : Addr} {od__law_walk an__law_walk : Option Addr} {sl__law_walk : Array (Option Value)} {oc__law_walk kV__law_walk dc__law_walk pm__law_walk cd__law_walk ct__law_walk : Value}
    (a__law_walk : PySem.W.nsIn K mainGlobals "_law_walk" = some (some (.ref f__law_walk))) (l__law_walk : K.lookup f__law_walk = some ⟨oc__law_walk, od__law_walk, .func (PySem.W.fnOf "_law_walk" "_law_walk" (defArgs st__law_walk) (defBody st__law_walk) (defScope st__law_walk) .none kV__law_walk dc__law_walk pm__law_walk an__law_walk cd__law_walk ct__law_walk), sl__law_walk⟩) (cc__law_walk : PySem.W.codeIn K cd__law_walk "_law_walk" = true) (k__law_walk : PySem.W.keepIn K (.ref f__law_walk) = true)
    {f_law : Addr} {od_law an_law : Option Addr} {sl_law : Array (Option Value)} {oc_law kV_law dc_law pm_law cd_law ct_law : Value}
    (a_law : PySem.W.nsIn K mainGlobals "law" = some (some (.ref f_law))) (l_law : K.lookup f_law = some ⟨oc_law, od_law, .func (PySem.W.fnOf "law" "law" (defArgs st_law) (defBody st_law) (defScope st_law) .none kV_law dc_law pm_law an_law cd_law ct_law), sl_law⟩) (cc_law : PySem.W.codeIn K cd_law "law" = true) (k_law : PySem.W.keepIn K (.ref f_law) = true)
    (z_int : PySem.W.nsIn K mainGlobals "int" = some none)
    (z_isinstance : PySem.W.nsIn K mainGlobals "isinstance" = some none)
    (z_len : PySem.W.nsIn K mainGlobals "len" = some none)
    (z_list : PySem.W.nsIn K mainGlobals "list" = some none)
    (z_range : PySem.W.nsIn K mainGlobals "range" = some none)
    (z_reversed : PySem.W.nsIn K mainGlobals "reversed" = some none)
    (z_tuple : PySem.W.nsIn K mainGlobals "tuple" = some none)
    :
    LawT q l w K 71 "_law_script" s_law mg fa := by
  have e := hfa.symm.trans (PySem.W.mg_of X G a_law)
  cases e
  have F_children_of := fun_mk (st := st_children_of) l_children_of cc_children_of k_children_of
  have d_children_of : Dn K mg "children_of" st_children_of ["text"] _ _ := ⟨PySem.W.mg_of X G a_children_of, F_children_of, F_children_of.binds fun _ _ _ _ _ _ us hl => match us, hl with | [_], _ => rfl⟩
  have F_row_of := fun_mk (st := st_row_of) l_row_of cc_row_of k_row_of
  have d_row_of : Dn K mg "row_of" st_row_of ["children"] _ _ := ⟨PySem.W.mg_of X G a_row_of, F_row_of, F_row_of.binds fun _ _ _ _ _ _ us hl => match us, hl with | [_], _ => rfl⟩
  have F__law_draws := fun_mk (st := st__law_draws) l__law_draws cc__law_draws k__law_draws
  have d__law_draws : Dn K mg "_law_draws" st__law_draws ["_law_cell", "_law_modulus", "_law_count"] _ _ := ⟨PySem.W.mg_of X G a__law_draws, F__law_draws, F__law_draws.binds fun _ _ _ _ _ _ us hl => match us, hl with | [_, _, _], _ => rfl⟩
  have F__law_next := fun_mk (st := st__law_next) l__law_next cc__law_next k__law_next
  have d__law_next : Dn K mg "_law_next" st__law_next ["_law_box_here", "_law_modulus"] _ _ := ⟨PySem.W.mg_of X G a__law_next, F__law_next, F__law_next.binds fun _ _ _ _ _ _ us hl => match us, hl with | [_, _], _ => rfl⟩
  have F__law_arches := fun_mk (st := st__law_arches) l__law_arches cc__law_arches k__law_arches
  have d__law_arches : Dn K mg "_law_arches" st__law_arches ["_law_text_here"] _ _ := ⟨PySem.W.mg_of X G a__law_arches, F__law_arches, F__law_arches.binds fun _ _ _ _ _ _ us hl => match us, hl with | [_], _ => rfl⟩
  have F__law_box := fun_mk (st := st__law_box) l__law_box cc__law_box k__law_box
  have d__law_box : Dn K mg "_law_box" st__law_box ["_law_script"] _ _ := ⟨PySem.W.mg_of X G a__law_box, F__law_box, F__law_box.binds fun _ _ _ _ _ _ us hl => match us, hl with | [_], _ => rfl⟩
  have F__law_labels := fun_mk (st := st__law_labels) l__law_labels cc__law_labels k__law_labels
  have d__law_labels : Dn K mg "_law_labels" st__law_labels ["_law_box_here"] _ _ := ⟨PySem.W.mg_of X G a__law_labels, F__law_labels, F__law_labels.binds fun _ _ _ _ _ _ us hl => match us, hl with | [_], _ => rfl⟩
  have F__law_text := fun_mk (st := st__law_text) l__law_text cc__law_text k__law_text
  have d__law_text : Dn K mg "_law_text" st__law_text ["_law_box_here", "_law_labels_here", "_law_most"] _ _ := ⟨PySem.W.mg_of X G a__law_text, F__law_text, F__law_text.binds fun _ _ _ _ _ _ us hl => match us, hl with | [_, _, _], _ => rfl⟩
  have F__law_walk := fun_mk (st := st__law_walk) l__law_walk cc__law_walk k__law_walk
  have d__law_walk : Dn K mg "_law_walk" st__law_walk ["_law_children", "_law_text_here", "_law_at", "_law_ends"] _ _ := ⟨PySem.W.mg_of X G a__law_walk, F__law_walk, F__law_walk.binds fun _ _ _ _ _ _ us hl => match us, hl with | [_, _, _, _], _ => rfl⟩
  have F_law := fun_mk (st := st_law) l_law cc_law k_law
  have d_law : Dn K mg "law" st_law ["_law_script"] _ _ := ⟨PySem.W.mg_of X G a_law, F_law, F_law.binds fun _ _ _ _ _ _ us hl => match us, hl with | [_], _ => rfl⟩
  exact ⟨PySem.W.fnOf "law" "law" (defArgs st_law) (defBody st_law) (defScope st_law) .none kV_law dc_law pm_law an_law cd_law ct_law, [], fun p hp => absurd hp List.not_mem_nil, fun s v => .of_eq rfl, fun base _ _ TB => ok_law d_law d__law_arches d__law_next d_children_of d_row_of d__law_draws d__law_box d__law_labels d__law_text d__law_walk (PySem.W.mg_none_of X G z_int) (PySem.W.mg_none_of X G z_isinstance) (PySem.W.mg_none_of X G z_len) (PySem.W.mg_none_of X G z_list) (PySem.W.mg_none_of X G z_range) (PySem.W.mg_none_of X G z_reversed) (PySem.W.mg_none_of X G z_tuple)⟩
end Lk04
open PySem PySem.W PyProof.Rows in
set_option maxHeartbeats 0 in
theorem PySem.Challenge.cw_archway_k04_children_of_texts_holds : PySem.Challenge.rw_archway_k04_children_of_texts.Holds := by
  w_on; o_law; k_head; (case hw => w_witness2)
  k_fill
  refine L3.walk_tabs (l := PySem.Challenge.rw_archway_k04_children_of_texts) (n := 63) (k := 71) (x := "_law_script") (g := Lk04.s_law) rfl (by decide) rfl ⟨rfl, by decide, by decide⟩ (fun w h Y => PySem.W.kIn_of Y) ?F (fun ns hl hb => Lk04.law_true ns hl)
  case F =>
    intro w mg fa h KX G hmg
    refine' Lk04.all_mk KX G hmg ?a_children_of ?l_children_of ?cc_children_of ?k_children_of ?a_row_of ?l_row_of ?cc_row_of ?k_row_of ?a__law_draws ?l__law_draws ?cc__law_draws ?k__law_draws ?a__law_next ?l__law_next ?cc__law_next ?k__law_next ?a__law_arches ?l__law_arches ?cc__law_arches ?k__law_arches ?a__law_box ?l__law_box ?cc__law_box ?k__law_box ?a__law_labels ?l__law_labels ?cc__law_labels ?k__law_labels ?a__law_text ?l__law_text ?cc__law_text ?k__law_text ?a__law_walk ?l__law_walk ?cc__law_walk ?k__law_walk ?a_law ?l_law ?cc_law ?k_law ?z_int ?z_isinstance ?z_len ?z_list ?z_range ?z_reversed ?z_tuple
    (case a_children_of => k_is); (case l_children_of => k_is); (case cc_children_of => k_is); (case k_children_of => k_is); (case a_row_of => k_is); (case l_row_of => k_is); (case cc_row_of => k_is); (case k_row_of => k_is); (case a__law_draws => k_is); (case l__law_draws => k_is); (case cc__law_draws => k_is); (case k__law_draws => k_is); (case a__law_next => k_is); (case l__law_next => k_is); (case cc__law_next => k_is); (case k__law_next => k_is); (case a__law_arches => k_is); (case l__law_arches => k_is); (case cc__law_arches => k_is); (case k__law_arches => k_is); (case a__law_box => k_is); (case l__law_box => k_is); (case cc__law_box => k_is); (case k__law_box => k_is); (case a__law_labels => k_is); (case l__law_labels => k_is); (case cc__law_labels => k_is); (case k__law_labels => k_is); (case a__law_text => k_is); (case l__law_text => k_is); (case cc__law_text => k_is); (case k__law_text => k_is); (case a__law_walk => k_is); (case l__law_walk => k_is); (case cc__law_walk => k_is); (case k__law_walk => k_is); (case a_law => k_is); (case l_law => k_is); (case cc_law => k_is); (case k_law => k_is); (case z_int => k_is); (case z_isinstance => k_is); (case z_len => k_is); (case z_list => k_is); (case z_range => k_is); (case z_reversed => k_is); (case z_tuple => k_is)
