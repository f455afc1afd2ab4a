import PyProof.Rows.All
import Wide.All
import OpenK.AllK
import Wide.FinOn
import HandS.ForMost
import HandS.ForExc
import HandS.Wide
import HandS.Lambda
import HandS.ExcInit
import HandS.TupAny
import HandS.IsInst
import HandS.Sort
import HandS.Style
import HandS.Steps
import HandS.SortInts
import HandS.Conv
import HandS.Iter
import KE.GoesEnum
import HandS.Defaults
import HandS.MakeKwOnly
import HandS.NoneIn
import PyProof.ListStr
import PyProof.ListRange
import PyProof.LongRange
import HandS.ExcIs
import HandS.ExcField
import HandS.ClsMeth
import HandS.HeadHook4
import HandS.SetFor
import KE.KExcIs
import KE.KDflt
import HandS.CallSlots
import HandS.NestedK
import HandS.Head0
import HandS.Head1
import HandS.Head2
import HandS.HeadEnd
import HandS.HeadHook1
import HandS.HeadHook2
import HandS.HeadHook3
import HandS.HeadWalk
import HandS.Text
import HandS.Dict
import HandS.SortRule
import HandS.Keys
import KE.KSortTupAny
import HandS.More
import HandS.Replace
import KE.DatumOrd
import PySem.Challenge.RW_halfsteps_k31_whole_written_and_read
set_option Elab.async false
set_option linter.all false
set_option autoImplicit false
set_option maxRecDepth 100000
set_option maxHeartbeats 8000000
set_option exponentiation.threshold 100
/-! DlA: data, worlds, steps, what is represented. -/
namespace Dl
open PySem L2
/-- data: what a value is worth; obj k: the k-th of the objects that change -/
inductive D where
  | non | bl (b : Bool) | int (i : Int) | str (s : Str) | tup (ds : List D) | lst (ds : List D) | frz (ds : List D) | obj (k : Nat)
  /-- a caught exception: where it stands; its own dict and the field there -/
  | exc (a : Addr) (o : Option (Addr × Str)) (y : D)
  /-- a def made here, with what its maker's slots held -/
  | clo (f : Addr) (vs : List V) (ms : List Bool) (ds : List D)
/-- an object that changes -/
inductive MO where
  | lst (ds : List D)
  | ins (c : Nat) (fs : List (Str × D))
abbrev Mem : Type := List MO
structure Err where
  c : Nat
  v : Option (Str × D)
inductive Res (α : Type) where
  | ok (a : α) (S : Mem)
  | er (x : Err) (S : Mem)
  | no
/-- a slot: nothing known; a value; a list of one's own -/
inductive Sl where
  | no | dat (d : D) | own (ds : List D)
abbrev Env : Type := List Sl
abbrev Sem := Env → Mem → Res D
abbrev SemL := Env → Mem → Res (List D)
/-- how a statement ends -/
inductive Fl where
  | nx (ρ : Env) (S : Mem)
  | rt (d : D) (S : Mem)
  | bk (ρ : Env) (S : Mem)
  | ct (ρ : Env) (S : Mem)
  | er (x : Err) (S : Mem)
  | no
abbrev SemS := Env → Mem → Fl
mutual
inductive Is (K : PySem.W.Frag) (ad : List Addr) (h : Hp) : V → D → Prop
  | non : Is K ad h .non .non
  | bl (b : Bool) : Is K ad h (.bl b) (.bl b)
  | int (i : Int) : Is K ad h (.int i) (.int i)
  | str (x : Str) : Is K ad h (.str x) (.str x)
  | lst {a : Addr} {xs : List V} {ds : List D} : h a = some (.lst xs) → IsL K ad h xs ds → Is K ad h (.ref a) (.lst ds)
  | frz {a : Addr} {xs : List V} {ds : List D} : SqL K h a xs → IsL K ad h xs ds → Is K ad h (.ref a) (.frz ds)
  | tup {a : Addr} {xs : List V} {ds : List D} : SqT K h a xs → IsL K ad h xs ds → Is K ad h (.ref a) (.tup ds)
  | obj {a : Addr} {k : Nat} : ad[k]? = some a → Is K ad h (.ref a) (.obj k)
  | exc0 {a : Addr} {y : D} : Is K ad h (.ref a) (.exc a none y)
  | exc1 {a dd : Addr} {f : Str} {fs : List (Str × V)} {u : V} {y : D} : h dd = some (.xd fs) → fs.lookup f = some u → Is K ad h u y → Is K ad h (.ref a) (.exc a (some (dd, f)) y)
  | clo {f : Addr} {vs : List V} {ms : List Bool} {ds : List D} : IsL K ad h vs ds → Is K ad h (.ref f) (.clo f vs ms ds)
inductive IsL (K : PySem.W.Frag) (ad : List Addr) (h : Hp) : List V → List D → Prop
  | nil : IsL K ad h [] []
  | cons {v : V} {vs : List V} {d : D} {ds : List D} : Is K ad h v d → IsL K ad h vs ds → IsL K ad h (v :: vs) (d :: ds)
end
structure Wd where
  h : Hp
  ad : List Addr
section
variable {K : PySem.W.Frag} {W W' W1 W2 : Wd} {H H' H1 H2 : Hp}
abbrev Ist (K : PySem.W.Frag) (W : Wd) (v : V) (d : D) : Prop := Is K W.ad W.h v d
abbrev IstL (K : PySem.W.Frag) (W : Wd) (vs : List V) (ds : List D) : Prop := IsL K W.ad W.h vs ds
/-- the world grows; the heap grows, what is not of the changing objects (nor a table) stays -/
structure Step (W : Wd) (H : Hp) (W' : Wd) (H' : Hp) : Prop where
  ex : ∀ a o, W.h a = some o → W'.h a = some o
  new : ∀ a vs, H a = some (.lst vs) → a ∉ W.ad → W.h a = none → W'.h a = none
  ad : ∃ more, W'.ad = W.ad ++ more ∧ ∀ a ∈ more, H a = none
  pres : ∀ a o, H a = some o → a ∉ W.ad → (∀ ps, o ≠ .tbl ps) → H' a = some o
  keep : ∀ a, H a ≠ none → H' a ≠ none
theorem Step.refl (W : Wd) (H : Hp) : Step W H W H := ⟨fun _ _ h => h, fun _ _ _ _ h => h, ⟨[], by simp, fun a h => by simp at h⟩, fun _ _ h _ _ => h, fun _ h => h⟩
theorem Step.trans (s : Step W H W1 H1) (t : Step W1 H1 W2 H2) : Step W H W2 H2 := by
  obtain ⟨m1, e1, f1⟩ := s.ad
  obtain ⟨m2, e2, f2⟩ := t.ad
  refine ⟨fun a o h => t.ex a o (s.ex a o h), fun a vs h n z => t.new a vs (s.pres a _ h n (fun ps q => by cases q)) (fun hm => by
    rw [e1] at hm
    rcases List.mem_append.mp hm with hm | hm
    · exact n hm
    · rw [f1 a hm] at h; cases h) (s.new a vs h n z), ⟨m1 ++ m2, by rw [e2, e1, List.append_assoc], fun a ha => ?_⟩, fun a o h n z => ?_, fun a h => t.keep a (s.keep a h)⟩
  · rcases List.mem_append.mp ha with ha | ha
    · exact f1 a ha
    · cases q : H a with
      | none => rfl
      | some o => exact absurd (f2 a ha) (s.keep a (by rw [q]; simp))
  · refine t.pres a o (s.pres a o h n z) (fun hm => ?_) z
    rw [e1] at hm
    rcases List.mem_append.mp hm with hm | hm
    · exact n hm
    · rw [f1 a hm] at h
      cases h
theorem SqL.ex {h h' : Hp} {a : Addr} {xs : List V} (e : ∀ b o, h b = some o → h' b = some o) (q : SqL K h a xs) : SqL K h' a xs := by
  rcases q with (q | ⟨o, q⟩) | q
  · exact .inl (.inl (e _ _ q))
  · exact .inl (.inr ⟨o, e _ _ q⟩)
  · exact .inr q
theorem SqT.ex {h h' : Hp} {a : Addr} {xs : List V} (e : ∀ b o, h b = some o → h' b = some o) (q : SqT K h a xs) : SqT K h' a xs := by
  rcases q with (q | ⟨o, q⟩) | q
  · exact .inl (.inl (e _ _ q))
  · exact .inl (.inr ⟨o, e _ _ q⟩)
  · exact .inr q
mutual
theorem Is.ex {ad ad' : List Addr} {h h' : Hp} (e : ∀ b o, h b = some o → h' b = some o) (p : ∃ m, ad' = ad ++ m) : ∀ {v : V} {d : D}, Is K ad h v d → Is K ad' h' v d
  | _, _, .non => .non
  | _, _, .bl b => .bl b
  | _, _, .int i => .int i
  | _, _, .str x => .str x
  | _, _, .lst q r => .lst (e _ _ q) (IsL.ex e p r)
  | _, _, .frz q r => .frz (SqL.ex e q) (IsL.ex e p r)
  | _, _, .tup q r => .tup (SqT.ex e q) (IsL.ex e p r)
  | _, _, .obj (k := k) q => .obj (by
      obtain ⟨m, rfl⟩ := p
      rw [List.getElem?_append_left (List.getElem?_eq_some_iff.mp q).1]
      exact q)
  | _, _, .exc0 => .exc0
  | _, _, .exc1 q l r => .exc1 (e _ _ q) l (Is.ex e p r)
  | _, _, .clo r => .clo (IsL.ex e p r)
theorem IsL.ex {ad ad' : List Addr} {h h' : Hp} (e : ∀ b o, h b = some o → h' b = some o) (p : ∃ m, ad' = ad ++ m) : ∀ {vs : List V} {ds : List D}, IsL K ad h vs ds → IsL K ad' h' vs ds
  | _, _, .nil => .nil
  | _, _, .cons q r => .cons (Is.ex e p q) (IsL.ex e p r)
end
theorem Step.adp (s : Step W H W' H') : ∃ m, W'.ad = W.ad ++ m := let ⟨m, e, _⟩ := s.ad; ⟨m, e⟩
theorem Is.step {v : V} {d : D} (s : Step W H W' H') (q : Ist K W v d) : Ist K W' v d := Is.ex s.ex s.adp q
theorem IsL.step {vs : List V} {ds : List D} (s : Step W H W' H') (q : IstL K W vs ds) : IstL K W' vs ds := IsL.ex s.ex s.adp q
theorem IsL.length {ad : List Addr} {h : Hp} : ∀ {vs : List V} {ds : List D}, IsL K ad h vs ds → vs.length = ds.length
  | _, _, .nil => rfl
  | _, _, .cons _ r => by rw [List.length_cons, List.length_cons, IsL.length r]
theorem IsL.append {ad : List Addr} {h : Hp} : ∀ {vs ws : List V} {ds es : List D}, IsL K ad h vs ds → IsL K ad h ws es → IsL K ad h (vs ++ ws) (ds ++ es)
  | _, _, _, _, .nil, s => s
  | _, _, _, _, .cons q r, s => .cons q (IsL.append r s)
theorem IsL.get {ad : List Addr} {h : Hp} : ∀ {vs : List V} {ds : List D} {i : Nat} {d : D}, IsL K ad h vs ds → ds[i]? = some d → ∃ v, vs[i]? = some v ∧ Is K ad h v d
  | _, _, _, _, .nil, e => by simp at e
  | _, _, 0, _, .cons q _, e => by
    simp at e
    subst e
    exact ⟨_, rfl, q⟩
  | _, _, i + 1, _, .cons _ r, e => by
    obtain ⟨v, h1, h2⟩ := IsL.get (i := i) r (by simpa using e)
    exact ⟨v, by simpa using h1, h2⟩
theorem IsL.get' {ad : List Addr} {h : Hp} : ∀ {vs : List V} {ds : List D} {i : Nat} {v : V}, IsL K ad h vs ds → vs[i]? = some v → ∃ d, ds[i]? = some d ∧ Is K ad h v d
  | _, _, _, _, .nil, e => by simp at e
  | _, _, 0, _, .cons q _, e => by
    simp at e
    subst e
    exact ⟨_, rfl, q⟩
  | _, _, i + 1, _, .cons _ r, e => by
    obtain ⟨v, h1, h2⟩ := IsL.get' (i := i) r (by simpa using e)
    exact ⟨v, by simpa using h1, h2⟩
theorem IsL.set {ad : List Addr} {h : Hp} {v : V} {d : D} (q : Is K ad h v d) : ∀ {vs : List V} {ds : List D} (i : Nat), IsL K ad h vs ds → IsL K ad h (vs.set i v) (ds.set i d)
  | _, _, _, .nil => .nil
  | _, _, 0, .cons _ r => .cons q r
  | _, _, i + 1, .cons p r => .cons p (IsL.set q i r)
theorem IsL.take {ad : List Addr} {h : Hp} : ∀ {vs : List V} {ds : List D} (n : Nat), IsL K ad h vs ds → IsL K ad h (vs.take n) (ds.take n)
  | _, _, 0, _ => .nil
  | _, _, _ + 1, .nil => .nil
  | _, _, n + 1, .cons q r => .cons q (IsL.take n r)
theorem IsL.drop {ad : List Addr} {h : Hp} : ∀ {vs : List V} {ds : List D} (n : Nat), IsL K ad h vs ds → IsL K ad h (vs.drop n) (ds.drop n)
  | _, _, 0, r => r
  | _, _, _ + 1, .nil => .nil
  | _, _, n + 1, .cons _ r => IsL.drop n r
theorem IsL.reverse {ad : List Addr} {h : Hp} : ∀ {vs : List V} {ds : List D}, IsL K ad h vs ds → IsL K ad h vs.reverse ds.reverse
  | _, _, .nil => .nil
  | _, _, .cons q r => by
    rw [List.reverse_cons, List.reverse_cons]
    exact IsL.append (IsL.reverse r) (.cons q .nil)
theorem IsL.one {ad : List Addr} {h : Hp} {vs : List V} {d : D} (q : IsL K ad h vs [d]) : ∃ v, vs = [v] ∧ Is K ad h v d := by
  cases q with
  | cons a b =>
    cases b
    exact ⟨_, rfl, a⟩
theorem IsL.two {ad : List Addr} {h : Hp} {vs : List V} {d e : D} (q : IsL K ad h vs [d, e]) : ∃ v w, vs = [v, w] ∧ Is K ad h v d ∧ Is K ad h w e := by
  cases q with
  | cons a b =>
    obtain ⟨w, rfl, c⟩ := IsL.one b
    exact ⟨_, _, rfl, a, c⟩
theorem Is.intv {ad : List Addr} {h : Hp} {v : V} {i : Int} (q : Is K ad h v (.int i)) : v = .int i := by cases q; rfl
theorem Is.blv {ad : List Addr} {h : Hp} {v : V} {i : Bool} (q : Is K ad h v (.bl i)) : v = .bl i := by cases q; rfl
theorem Is.strv {ad : List Addr} {h : Hp} {v : V} {i : Str} (q : Is K ad h v (.str i)) : v = .str i := by cases q; rfl
theorem Is.nonv {ad : List Addr} {h : Hp} {v : V} (q : Is K ad h v .non) : v = .non := by cases q; rfl
theorem Is.tupv {ad : List Addr} {h : Hp} {v : V} {ds : List D} (q : Is K ad h v (.tup ds)) : ∃ a xs, v = .ref a ∧ SqT K h a xs ∧ IsL K ad h xs ds := by
  cases q with
  | tup a b => exact ⟨_, _, rfl, a, b⟩
theorem Is.lstv {ad : List Addr} {h : Hp} {v : V} {ds : List D} (q : Is K ad h v (.lst ds)) : ∃ a xs, v = .ref a ∧ h a = some (.lst xs) ∧ IsL K ad h xs ds := by
  cases q with
  | lst a b => exact ⟨_, _, rfl, a, b⟩
theorem Is.frzv {ad : List Addr} {h : Hp} {v : V} {ds : List D} (q : Is K ad h v (.frz ds)) : ∃ a xs, v = .ref a ∧ SqL K h a xs ∧ IsL K ad h xs ds := by
  cases q with
  | frz a b => exact ⟨_, _, rfl, a, b⟩
theorem Is.objv {ad : List Addr} {h : Hp} {v : V} {k : Nat} (q : Is K ad h v (.obj k)) : ∃ a, v = .ref a ∧ ad[k]? = some a := by
  cases q with
  | obj a => exact ⟨_, rfl, a⟩
end
/-- what is told of the program besides the written part: its tables of code objects, its classes -/
structure Gm where
  T : List (Addr × Str)
  cl : Nat → Addr
/-- pairs of a name and a value -/
inductive IsF (K : PySem.W.Frag) (W : Wd) : List (Str × V) → List (Str × D) → Prop
  | nil : IsF K W [] []
  | cons {f : Str} {v : V} {d : D} {vs : List (Str × V)} {ds : List (Str × D)} : Ist K W v d → IsF K W vs ds → IsF K W ((f, v) :: vs) ((f, d) :: ds)
theorem IsF.step {K : PySem.W.Frag} {W W' : Wd} {H H' : Hp} (s : Step W H W' H') : ∀ {vs : List (Str × V)} {ds : List (Str × D)}, IsF K W vs ds → IsF K W' vs ds
  | _, _, .nil => .nil
  | _, _, .cons q r => .cons (Is.step s q) (IsF.step s r)
def ObjAt (K : PySem.W.Frag) (G : Gm) (W : Wd) (H : Hp) (a : Addr) : MO → Prop
  | .lst ds => ∃ vs, H a = some (.lst vs) ∧ IstL K W vs ds
  | .ins c fs => ∃ dx vs, H a = some (.ins (G.cl c) dx vs) ∧ IsF K W vs fs
structure WOk (K : PySem.W.Frag) (G : Gm) (W : Wd) (S : Mem) (H : Hp) : Prop where
  sub : ∀ a o, W.h a = some o → H a = some o
  ntb : ∀ a ps, W.h a ≠ some (.tbl ps)
  adn : ∀ a ∈ W.ad, W.h a = none
  nd : W.ad.Nodup
  len : W.ad.length = S.length
  obs : ∀ (k : Nat) (a : Addr) (o : MO), W.ad[k]? = some a → S[k]? = some o → ObjAt K G W H a o
  tab : LamX.Tabs G.T H
/-- transient: a list that may change later -/
def View (K : PySem.W.Frag) (W : Wd) (H : Hp) (v : V) (d : D) : Prop :=
  Ist K W v d ∨ ∃ l vs ds, v = .ref l ∧ d = .lst ds ∧ H l = some (.lst vs) ∧ IstL K W vs ds ∧ W.h l = none ∧ l ∉ W.ad
theorem View.step {K : PySem.W.Frag} {W W' : Wd} {H H' : Hp} {v : V} {d : D} (s : Step W H W' H') (q : View K W H v d) : View K W' H' v d := by
  rcases q with q | ⟨l, vs, ds, e1, e2, e3, e4, e5, e6⟩
  · exact .inl (Is.step s q)
  · refine .inr ⟨l, vs, ds, e1, e2, s.pres l _ e3 e6 (fun ps z => by cases z), IsL.step s e4, s.new l _ e3 e6 e5, fun hm => ?_⟩
    obtain ⟨m, em, fm⟩ := s.ad
    rw [em] at hm
    rcases List.mem_append.mp hm with hm | hm
    · exact e6 hm
    · rw [fm l hm] at e3
      cases e3
section
variable {K : PySem.W.Frag} {W : Wd} {H : Hp} {v : V}
theorem View.intv {i : Int} (q : View K W H v (.int i)) : v = .int i := by
  rcases q with q | ⟨_, _, _, _, e, _⟩
  · exact q.intv
  · cases e
theorem View.blv {i : Bool} (q : View K W H v (.bl i)) : v = .bl i := by
  rcases q with q | ⟨_, _, _, _, e, _⟩
  · exact q.blv
  · cases e
theorem View.strv {i : Str} (q : View K W H v (.str i)) : v = .str i := by
  rcases q with q | ⟨_, _, _, _, e, _⟩
  · exact q.strv
  · cases e
theorem View.nonv (q : View K W H v .non) : v = .non := by
  rcases q with q | ⟨_, _, _, _, e, _⟩
  · exact q.nonv
  · cases e
theorem View.tupv {G : Gm} {S : Mem} {ds : List D} (k : WOk K G W S H) (q : View K W H v (.tup ds)) : ∃ a xs, v = .ref a ∧ SqT K H a xs ∧ IstL K W xs ds := by
  rcases q with q | ⟨_, _, _, _, e, _⟩
  · obtain ⟨a, xs, e, h1, h2⟩ := q.tupv
    exact ⟨a, xs, e, SqT.ex k.sub h1, h2⟩
  · cases e
theorem View.lstv {G : Gm} {S : Mem} {ds : List D} (k : WOk K G W S H) (q : View K W H v (.lst ds)) : ∃ a xs, v = .ref a ∧ H a = some (.lst xs) ∧ IstL K W xs ds := by
  rcases q with q | ⟨l, vs, ds', e0, e, e1, e2, _⟩
  · obtain ⟨a, xs, e, h1, h2⟩ := q.lstv
    exact ⟨a, xs, e, k.sub _ _ h1, h2⟩
  · cases e
    exact ⟨l, vs, e0, e1, e2⟩
theorem View.frzv {G : Gm} {S : Mem} {ds : List D} (k : WOk K G W S H) (q : View K W H v (.frz ds)) : ∃ a xs, v = .ref a ∧ SqL K H a xs ∧ IstL K W xs ds := by
  rcases q with q | ⟨_, _, _, _, e, _⟩
  · obtain ⟨a, xs, e, h1, h2⟩ := q.frzv
    exact ⟨a, xs, e, SqL.ex k.sub h1, h2⟩
  · cases e
theorem View.tup {ds : List D} (q : View K W H v (.tup ds)) : Ist K W v (.tup ds) := by
  rcases q with q | ⟨_, _, _, _, e, _⟩
  · exact q
  · cases e
end
/-- a new list -/
def Fresh (K : PySem.W.Frag) (H0 : Hp) (W : Wd) (H : Hp) (v : V) (d : D) : Prop :=
  ∃ l vs ds, v = .ref l ∧ d = .lst ds ∧ H0 l = none ∧ H l = some (.lst vs) ∧ IstL K W vs ds ∧ W.h l = none ∧ l ∉ W.ad
def SlotAt (K : PySem.W.Frag) (W : Wd) (H : Hp) : Option V → Sl → Prop
  | _, .no => True
  | some v, .dat d => Ist K W v d
  | some v, .own ds => ∃ l vs, v = .ref l ∧ H l = some (.lst vs) ∧ IstL K W vs ds ∧ W.h l = none ∧ l ∉ W.ad
  | none, _ => False
/-- an error: its class, its own dict -/
def ErrIs (K : PySem.W.Frag) (G : Gm) (W : Wd) (H : Hp) (cls : Value) (dd : Option Addr) (x : Err) : Prop :=
  cls = .ref (G.cl x.c) ∧ match x.v with
    | none => dd = none
    | some (f, d) => ∃ a fs v, dd = some a ∧ H a = some (.xd fs) ∧ fs.lookup f = some v ∧ Ist K W v d
structure Rep (K : PySem.W.Frag) (G : Gm) (ρ : Env) (σ : L2.St) (S : Mem) (W : Wd) (H : Hp) : Prop where
  wok : WOk K G W S H
  len : ρ.length = σ.length
  at_ : ∀ (i : Nat) (s : Sl), ρ[i]? = some s → ∃ o, σ[i]? = some o ∧ SlotAt K W H o s
  own : ∀ (i j : Nat) (ds es : List D), ρ[i]? = some (.own ds) → ρ[j]? = some (.own es) → σ[i]? = σ[j]? → i = j
section
variable {K : PySem.W.Frag} {G : Gm} {W W' : Wd} {H H' : Hp} {ρ : Env} {σ : L2.St} {S S' : Mem}
theorem Step.notad (s : Step W H W' H') {l : Addr} (e : H l ≠ none) (n : l ∉ W.ad) : l ∉ W'.ad := fun hm => by
  obtain ⟨m, em, fm⟩ := s.ad
  rw [em] at hm
  rcases List.mem_append.mp hm with hm | hm
  · exact n hm
  · exact e (fm l hm)
theorem SlotAt.step (s : Step W H W' H') : ∀ {o : Option V} {t : Sl}, SlotAt K W H o t → SlotAt K W' H' o t
  | none, .no, _ => trivial
  | some _, .no, _ => trivial
  | none, .dat _, q => q.elim
  | none, .own _, q => q.elim
  | some v, .dat d, q => Is.step s q
  | some v, .own ds, q => by
    obtain ⟨l, vs, e1, e3, e4, e5, e6⟩ := q
    exact ⟨l, vs, e1, s.pres l _ e3 e6 (fun ps z => by cases z), IsL.step s e4, s.new l _ e3 e6 e5, s.notad (by rw [e3]; simp) e6⟩
theorem Rep.step (r : Rep K G ρ σ S W H) (s : Step W H W' H') (k : WOk K G W' S' H') : Rep K G ρ σ S' W' H' :=
  ⟨k, r.len, fun i t e => let ⟨o, e1, q⟩ := r.at_ i t e; ⟨o, e1, q.step s⟩, r.own⟩
theorem Rep.dat (r : Rep K G ρ σ S W H) {i : Nat} {d : D} (e : ρ[i]? = some (.dat d)) : ∃ v, σ[i]? = some (some v) ∧ Ist K W v d := by
  obtain ⟨o, e1, q⟩ := r.at_ i _ e
  cases o with
  | none => exact q.elim
  | some v => exact ⟨v, e1, q⟩
theorem Rep.owns (r : Rep K G ρ σ S W H) {i : Nat} {ds : List D} (e : ρ[i]? = some (.own ds)) : ∃ l vs, σ[i]? = some (some (.ref l)) ∧ H l = some (.lst vs) ∧ IstL K W vs ds ∧ W.h l = none ∧ l ∉ W.ad := by
  obtain ⟨o, e1, q⟩ := r.at_ i _ e
  cases o with
  | none => exact q.elim
  | some v =>
    obtain ⟨l, vs, rfl, q⟩ := q
    exact ⟨l, vs, e1, q⟩
/-- a value is stored in a slot -/
theorem Rep.set (r : Rep K G ρ σ S W H) {i : Nat} {v : V} {d : D} (q : Ist K W v d) : Rep K G (ρ.set i (.dat d)) (σ.set i (some v)) S W H := by
  refine ⟨r.wok, by rw [List.length_set, List.length_set]; exact r.len, fun j s e => ?_, fun j k ds es h1 h2 h3 => ?_⟩
  · by_cases hj : i = j
    · subst hj
      have hl : i < ρ.length := by
        have := (List.getElem?_eq_some_iff.mp e).1
        rwa [List.length_set] at this
      rw [List.getElem?_set_self hl] at e
      cases e
      exact ⟨some v, by rw [List.getElem?_set_self (r.len ▸ hl)], q⟩
    · rw [List.getElem?_set_ne hj] at e
      rw [List.getElem?_set_ne hj]
      exact r.at_ j s e
  · have nj : i ≠ j := fun z => by
      subst z
      have hl : i < ρ.length := by
        have := (List.getElem?_eq_some_iff.mp h1).1
        rwa [List.length_set] at this
      rw [List.getElem?_set_self hl] at h1
      cases h1
    have nk : i ≠ k := fun z => by
      subst z
      have hl : i < ρ.length := by
        have := (List.getElem?_eq_some_iff.mp h2).1
        rwa [List.length_set] at this
      rw [List.getElem?_set_self hl] at h2
      cases h2
    rw [List.getElem?_set_ne nj] at h1 h3
    rw [List.getElem?_set_ne nk] at h2 h3
    exact r.own j k ds es h1 h2 h3
/-- a new list of one's own in a slot -/
theorem Rep.setOwn (r : Rep K G ρ σ S W H) {i : Nat} {l : Addr} {vs : List V} {ds : List D} (h1 : H l = some (.lst vs)) (h2 : IstL K W vs ds) (h3 : W.h l = none) (h4 : l ∉ W.ad) (hn : ∀ (j : Nat) (es : List D), ρ[j]? = some (.own es) → σ[j]? ≠ some (some (.ref l))) :
    Rep K G (ρ.set i (.own ds)) (σ.set i (some (.ref l))) S W H := by
  refine ⟨r.wok, by rw [List.length_set, List.length_set]; exact r.len, fun j s e => ?_, fun j k es fs e1 e2 e3 => ?_⟩
  · by_cases hj : i = j
    · subst hj
      have hl : i < ρ.length := by
        have := (List.getElem?_eq_some_iff.mp e).1
        rwa [List.length_set] at this
      rw [List.getElem?_set_self hl] at e
      cases e
      exact ⟨some (.ref l), by rw [List.getElem?_set_self (r.len ▸ hl)], l, vs, rfl, h1, h2, h3, h4⟩
    · rw [List.getElem?_set_ne hj] at e
      rw [List.getElem?_set_ne hj]
      exact r.at_ j s e
  · have lt : ∀ {j : Nat} {es : List D}, (ρ.set i (.own ds))[j]? = some (.own es) → j < σ.length := fun {j es} e => by
      have := (List.getElem?_eq_some_iff.mp e).1
      rw [List.length_set, r.len] at this
      exact this
    by_cases hj : i = j
    · by_cases hk : i = k
      · rw [← hj, ← hk]
      · subst hj
        rw [List.getElem?_set_self (lt e1), List.getElem?_set_ne hk] at e3
        rw [List.getElem?_set_ne hk] at e2
        exact absurd e3.symm (hn k fs e2)
    · by_cases hk : i = k
      · subst hk
        rw [List.getElem?_set_self (lt e2), List.getElem?_set_ne hj] at e3
        rw [List.getElem?_set_ne hj] at e1
        exact absurd e3 (hn j es e1)
      · rw [List.getElem?_set_ne hj] at e1 e3
        rw [List.getElem?_set_ne hk] at e2 e3
        exact r.own j k es fs e1 e2 e3
end
end Dl
/-! DlB: what an expression denotes. -/
namespace Dl
open PySem L2
def Res.bind {α β : Type} (r : Res α) (f : α → Mem → Res β) : Res β := match r with
  | .ok a S => f a S
  | .er x S => .er x S
  | .no => .no
def Res.bindF {α : Type} (r : Res α) (f : α → Mem → Fl) : Fl := match r with
  | .ok a S => f a S
  | .er x S => .er x S
  | .no => .no
def Res.opt {α : Type} (o : Option α) (S : Mem) : Res α := match o with
  | some a => .ok a S
  | none => .no
/-! ### worlds -/
def Wd.add (W : Wd) (l : Addr) (o : HO) : Wd := ⟨upd W.h l o, W.ad⟩
section
variable {K : PySem.W.Frag} {G : Gm} {W W0 W' : Wd} {H H0 H' : Hp} {S S' : Mem}
theorem ObjAt.up {a : Addr} (u : ∀ b o, H b = some o → H' b = some o) (s : ∀ {vs ds}, IstL K W vs ds → IstL K W' vs ds) (t : ∀ {vs ds}, IsF K W vs ds → IsF K W' vs ds) : ∀ {o : MO}, ObjAt K G W H a o → ObjAt K G W' H' a o
  | .lst ds, ⟨vs, h1, h2⟩ => ⟨vs, u _ _ h1, s h2⟩
  | .ins c fs, ⟨dx, vs, h1, h2⟩ => ⟨dx, vs, u _ _ h1, t h2⟩
theorem WOk.up (k : WOk K G W S H) (u : ∀ b o, H b = some o → H' b = some o) : WOk K G W S H' :=
  ⟨fun a o h => u a o (k.sub a o h), k.ntb, k.adn, k.nd, k.len, fun i a o h1 h2 => (k.obs i a o h1 h2).up u id id, k.tab.ext u⟩
theorem Step.up (u : ∀ b o, H b = some o → H' b = some o) : Step W H W H' := ⟨fun _ _ h => h, fun _ _ _ _ h => h, ⟨[], by simp, fun a h => by simp at h⟩, fun a o h _ _ => u a o h, fun a h => by
  cases q : H a with
  | none => exact absurd q h
  | some o => rw [u a o q]; simp⟩
theorem up_new {p : Addr} {o : HO} (n : H p = none) : ∀ b u, H b = some u → (upd H p o) b = some u := fun b u e => by
  rw [upd_ne (ne_of_none e n)]
  exact e
theorem WOk.none_of (k : WOk K G W S H) {p : Addr} (n : H p = none) : W.h p = none := by
  cases q : W.h p with
  | none => rfl
  | some o => rw [k.sub p o q] at n; cases n
theorem WOk.there (k : WOk K G W S H) {a : Addr} (h : a ∈ W.ad) : H a ≠ none := by
  obtain ⟨i, hi⟩ := List.getElem?_of_mem h
  have hl : i < S.length := by rw [← k.len]; exact (List.getElem?_eq_some_iff.mp hi).1
  have := k.obs i a S[i] hi (by simp [hl])
  cases e : S[i] with
  | lst ds => rw [e] at this; obtain ⟨vs, h1, _⟩ := this; rw [h1]; simp
  | ins c fs => rw [e] at this; obtain ⟨dx, vs, h1, _⟩ := this; rw [h1]; simp
theorem WOk.nad (k : WOk K G W S H) {p : Addr} (n : H p = none) : p ∉ W.ad := fun h => k.there h n
theorem add_ex {l : Addr} {o : HO} (n : W.h l = none) : ∀ a u, W.h a = some u → (W.add l o).h a = some u := fun a u h => by
  show upd W.h l o a = some u
  rw [upd_ne (ne_of_none h n)]
  exact h
theorem IsL.add {l : Addr} {o : HO} {vs : List V} {ds : List D} (n : W.h l = none) (q : IstL K W vs ds) : IstL K (W.add l o) vs ds := IsL.ex (add_ex n) ⟨[], by simp [Wd.add]⟩ q
theorem Is.add {l : Addr} {o : HO} {v : V} {d : D} (n : W.h l = none) (q : Ist K W v d) : Ist K (W.add l o) v d := Is.ex (add_ex n) ⟨[], by simp [Wd.add]⟩ q
theorem IsF.add {l : Addr} {o : HO} (n : W.h l = none) : ∀ {vs : List (Str × V)} {ds : List (Str × D)}, IsF K W vs ds → IsF K (W.add l o) vs ds
  | _, _, .nil => .nil
  | _, _, .cons q r => .cons (Is.add n q) (IsF.add n r)
theorem WOk.add (k : WOk K G W S H) {l : Addr} {o : HO} (h1 : H l = some o) (h2 : W.h l = none) (h3 : l ∉ W.ad) (h4 : ∀ ps, o ≠ .tbl ps) : WOk K G (W.add l o) S H := by
  refine ⟨fun a u h => ?_, fun a ps h => ?_, fun a ha => ?_, k.nd, k.len, fun i a u e1 e2 => (k.obs i a u e1 e2).up (fun _ _ h => h) (fun q => IsL.add h2 q) (fun q => IsF.add h2 q), k.tab⟩
  · have h : upd W.h l o a = some u := h
    by_cases e : a = l
    · subst e; rw [upd_same] at h; cases h; exact h1
    · rw [upd_ne e] at h; exact k.sub a u h
  · have h : upd W.h l o a = some (.tbl ps) := h
    by_cases e : a = l
    · subst e; rw [upd_same] at h; cases h; exact h4 ps rfl
    · rw [upd_ne e] at h; exact k.ntb a ps h
  · show upd W.h l o a = none
    have ha : a ∈ W.ad := ha
    rw [upd_ne (fun z => h3 (by rw [← z]; exact ha))]
    exact k.adn a ha
theorem Step.add (s : Step W0 H0 W H) {l : Addr} {o : HO} (n : H0 l = none) (h2 : W.h l = none) : Step W0 H0 (W.add l o) H :=
  ⟨fun a u h => add_ex h2 a u (s.ex a u h), fun a vs h na z => by
    show upd W.h l o a = none
    have e : a ≠ l := fun q => by subst q; rw [n] at h; cases h
    rw [upd_ne e]
    exact s.new a vs h na z, s.ad, s.pres, s.keep⟩
/-- .. what is no list, new or not -/
theorem Step.addX (s : Step W0 H0 W H) {l : Addr} {o : HO} (hl : H l = some o) (no : ∀ vs, o ≠ .lst vs) (h2 : W.h l = none) : Step W0 H0 (W.add l o) H :=
  ⟨fun a u h => add_ex h2 a u (s.ex a u h), fun a vs h na z => by
    show upd W.h l o a = none
    have e : a ≠ l := fun q => by
      subst q
      have h3 := s.pres a _ h na (fun ps y => by cases y)
      rw [hl] at h3
      exact no vs (Option.some.inj h3)
    rw [upd_ne e]
    exact s.new a vs h na z, s.ad, s.pres, s.keep⟩
end
/-! ### posts -/
inductive Rk where
  | i | v | f
def RR (K : PySem.W.Frag) : Rk → Hp → Wd → Hp → V → D → Prop
  | .i, _, W, _, v, d => Ist K W v d
  | .v, _, W, H, v, d => View K W H v d
  | .f, H0, W, H, v, d => Fresh K H0 W H v d
theorem Step.back {W W' : Wd} {H H' : Hp} (s : Step W H W' H') {l : Addr} (n : H' l = none) : H l = none := by
  cases q : H l with
  | none => rfl
  | some o => exact absurd n (s.keep l (by rw [q]; simp))
theorem RR.pre {K : PySem.W.Frag} {k : Rk} {W W1 W' : Wd} {H H1 H' : Hp} {v : V} {d : D} (s : Step W H W1 H1) (q : RR K k H1 W' H' v d) : RR K k H W' H' v d := by
  cases k with
  | i => exact q
  | v => exact q
  | f =>
    obtain ⟨l, vs, ds, e1, e2, e3, r⟩ := q
    exact ⟨l, vs, ds, e1, e2, s.back e3, r⟩
theorem Fresh.view {K : PySem.W.Frag} {W : Wd} {H0 H : Hp} {v : V} {d : D} (q : Fresh K H0 W H v d) : View K W H v d := by
  obtain ⟨l, vs, ds, e1, e2, e3, e4, e5, e6, e7⟩ := q
  exact .inr ⟨l, vs, ds, e1, e2, e4, e5, e6, e7⟩
def ErrP (K : PySem.W.Frag) (G : Gm) (E : XK) (W : Wd) (H : Hp) (x : Err) (S' : Mem) : Prop :=
  ∀ (cls : Value) (dd : Option Addr) (W' : Wd) (H' : Hp), Step W H W' H' → WOk K G W' S' H' → ErrIs K G W' H' cls dd x → E cls dd H'
theorem ErrP.step {K : PySem.W.Frag} {G : Gm} {E : XK} {W W1 : Wd} {H H1 : Hp} {x : Err} {S' : Mem} (s : Step W H W1 H1) (p : ErrP K G E W H x S') : ErrP K G E W1 H1 x S' :=
  fun cls dd W' H' st ok er => p cls dd W' H' (s.trans st) ok er
def Pg (K : PySem.W.Frag) (G : Gm) (E : XK) {α : Type} (W : Wd) (H : Hp) (ok : α → Mem → Prop) : Res α → Prop
  | .ok a S' => ok a S'
  | .er x S' => ErrP K G E W H x S'
  | .no => False
abbrev okE (K : PySem.W.Frag) (G : Gm) (k : Rk) (W : Wd) (H : Hp) (Q : VK) : D → Mem → Prop := fun d S' =>
  ∀ v W' H', Step W H W' H' → WOk K G W' S' H' → RR K k H W' H' v d → Q v H'
abbrev okT (K : PySem.W.Frag) (G : Gm) (W : Wd) (H : Hp) (Q : Bool → Hp → Prop) : D → Mem → Prop := fun d S' =>
  ∃ b, d = .bl b ∧ ∀ W' H', Step W H W' H' → WOk K G W' S' H' → Q b H'
inductive AllR (R : V → D → Prop) : List V → List D → Prop
  | nil : AllR R [] []
  | cons {v : V} {d : D} {vs : List V} {ds : List D} : R v d → AllR R vs ds → AllR R (v :: vs) (d :: ds)
theorem AllR.imp {R R' : V → D → Prop} (h : ∀ v d, R v d → R' v d) : ∀ {vs ds}, AllR R vs ds → AllR R' vs ds
  | _, _, .nil => .nil
  | _, _, .cons a b => .cons (h _ _ a) (AllR.imp h b)
theorem AllR.is {K : PySem.W.Frag} {W : Wd} : ∀ {vs ds}, AllR (Ist K W) vs ds → IstL K W vs ds
  | _, _, .nil => .nil
  | _, _, .cons a b => .cons a (AllR.is b)
theorem AllR.of {K : PySem.W.Frag} {W : Wd} : ∀ {vs ds}, IstL K W vs ds → AllR (Ist K W) vs ds
  | _, _, .nil => .nil
  | _, _, .cons a b => .cons a (AllR.of b)
/-- arguments: values (false), or what may be lists in the making (true) -/
def RA (K : PySem.W.Frag) (vw : Bool) (W : Wd) (H : Hp) (v : V) (d : D) : Prop := match vw with
  | false => Ist K W v d
  | true => View K W H v d
theorem RA.step {K : PySem.W.Frag} {vw : Bool} {W W' : Wd} {H H' : Hp} {v : V} {d : D} (s : Step W H W' H') (q : RA K vw W H v d) : RA K vw W' H' v d := by
  cases vw with
  | false => exact Is.step s q
  | true => exact View.step s q
abbrev okA (K : PySem.W.Frag) (G : Gm) (vw : Bool) (W : Wd) (H : Hp) (Q : List V → Hp → Prop) : List D → Mem → Prop := fun ds S' =>
  ∀ vs W' H', Step W H W' H' → WOk K G W' S' H' → AllR (RA K vw W' H') vs ds → Q vs H'
/-! ### judgements -/
def SndE (K : PySem.W.Frag) (G : Gm) (E : XK) (k : Rk) (t : TE) (f : Sem) : Prop := ∀ (ρ : Env) (σ : L2.St) (S : Mem) (W : Wd) (H : Hp) (Q : VK), Rep K G ρ σ S W H → Pg K G E W H (okE K G k W H Q) (f ρ S) → t σ H Q
def SndT (K : PySem.W.Frag) (G : Gm) (E : XK) (t : TT) (f : Sem) : Prop := ∀ (ρ : Env) (σ : L2.St) (S : Mem) (W : Wd) (H : Hp) (Q : Bool → Hp → Prop), Rep K G ρ σ S W H → Pg K G E W H (okT K G W H Q) (f ρ S) → t σ H Q
def SndA (K : PySem.W.Frag) (G : Gm) (E : XK) (vw : Bool) (t : TA) (f : SemL) : Prop := ∀ (ρ : Env) (σ : L2.St) (S : Mem) (W : Wd) (H : Hp) (Q : List V → Hp → Prop), Rep K G ρ σ S W H → Pg K G E W H (okA K G vw W H Q) (f ρ S) → t σ H Q
def SE (G : Gm) (E : XK) (k : Rk) (X : Cx) (e : Expr) (f : Sem) : Prop := ∃ t, PE X e t ∧ SndE X.K G E k t f
def ST (G : Gm) (E : XK) (X : Cx) (e : Expr) (f : Sem) : Prop := ∃ t, PT X e t ∧ SndT X.K G E t f
def SW (G : Gm) (E : XK) (X : Cx) (e : Expr) (f : Sem) : Prop := ∃ t, PW X e t ∧ SndT X.K G E t f
def SA (G : Gm) (E : XK) (vw : Bool) (X : Cx) (es : List Expr) (f : SemL) : Prop := ∃ t, PA X es t ∧ SndA X.K G E vw t f
section
variable {K : PySem.W.Frag} {G : Gm} {E : XK}
theorem SndE.go {k : Rk} {t : TE} {f : Sem} {β : Type} {F : D → Mem → Res β} {ok : β → Mem → Prop} {ρ : Env} {σ : L2.St} {S : Mem} {W W0 : Wd} {H H0 : Hp} {Q : VK} (h : SndE K G E k t f) (r : Rep K G ρ σ S W H) (s0 : Step W0 H0 W H)
    (post : Pg K G E W0 H0 ok ((f ρ S).bind F))
    (cont : ∀ d S1 v W1 H1, Step W H W1 H1 → Step W0 H0 W1 H1 → Rep K G ρ σ S1 W1 H1 → RR K k H W1 H1 v d → Pg K G E W0 H0 ok (F d S1) → Q v H1) : t σ H Q := by
  refine h ρ σ S W H Q r ?_
  cases e : f ρ S with
  | no => rw [e] at post; exact post
  | er x S1 => rw [e] at post; exact ErrP.step s0 post
  | ok d S1 =>
    rw [e] at post
    exact fun v W1 H1 st ok1 rr => cont d S1 v W1 H1 st (s0.trans st) (r.step st ok1) rr post
theorem SndT.go {t : TT} {f : Sem} {β : Type} {F : D → Mem → Res β} {ok : β → Mem → Prop} {ρ : Env} {σ : L2.St} {S : Mem} {W W0 : Wd} {H H0 : Hp} {Q : Bool → Hp → Prop} (h : SndT K G E t f) (r : Rep K G ρ σ S W H) (s0 : Step W0 H0 W H)
    (post : Pg K G E W0 H0 ok ((f ρ S).bind F)) (hb : ∀ d S1, Pg K G E W0 H0 ok (F d S1) → ∃ b, d = .bl b)
    (cont : ∀ b S1 W1 H1, Step W H W1 H1 → Step W0 H0 W1 H1 → Rep K G ρ σ S1 W1 H1 → Pg K G E W0 H0 ok (F (.bl b) S1) → Q b H1) : t σ H Q := by
  refine h ρ σ S W H Q r ?_
  cases e : f ρ S with
  | no => rw [e] at post; exact post
  | er x S1 => rw [e] at post; exact ErrP.step s0 post
  | ok d S1 =>
    rw [e] at post
    obtain ⟨b, rfl⟩ := hb d S1 post
    exact ⟨b, rfl, fun W1 H1 st ok1 => cont b S1 W1 H1 st (s0.trans st) (r.step st ok1) post⟩
theorem SndA.go {vw : Bool} {t : TA} {f : SemL} {β : Type} {F : List D → Mem → Res β} {ok : β → Mem → Prop} {ρ : Env} {σ : L2.St} {S : Mem} {W W0 : Wd} {H H0 : Hp} {Q : List V → Hp → Prop} (h : SndA K G E vw t f) (r : Rep K G ρ σ S W H) (s0 : Step W0 H0 W H)
    (post : Pg K G E W0 H0 ok ((f ρ S).bind F))
    (cont : ∀ ds S1 vs W1 H1, Step W H W1 H1 → Step W0 H0 W1 H1 → Rep K G ρ σ S1 W1 H1 → AllR (RA K vw W1 H1) vs ds → Pg K G E W0 H0 ok (F ds S1) → Q vs H1) : t σ H Q := by
  refine h ρ σ S W H Q r ?_
  cases e : f ρ S with
  | no => rw [e] at post; exact post
  | er x S1 => rw [e] at post; exact ErrP.step s0 post
  | ok d S1 =>
    rw [e] at post
    exact fun v W1 H1 st ok1 rr => cont d S1 v W1 H1 st (s0.trans st) (r.step st ok1) rr post
end
section
variable {G : Gm} {E : XK} {X : Cx} {e a b : Expr} {es : List Expr} {f fa fb : Sem} {pos : Pos} {k : Rk}
/-! ### what is less is told -/
theorem snd_iv {t : TE} {K : PySem.W.Frag} (s : SndE K G E .i t f) : SndE K G E .v t f := by
  refine fun ρ σ S W H Q r post => s ρ σ S W H Q r ?_
  cases q : f ρ S with
  | no => rw [q] at post; exact post
  | er x S1 => rw [q] at post; exact post
  | ok d S1 => rw [q] at post; exact fun v W1 H1 st ok rr => post v W1 H1 st ok (.inl rr)
theorem SE.iv (h : SE G E .i X e f) : SE G E .v X e f := by
  obtain ⟨t, p, s⟩ := h
  refine ⟨t, p, fun ρ σ S W H Q r post => s ρ σ S W H Q r ?_⟩
  cases q : f ρ S with
  | no => rw [q] at post; exact post
  | er x S1 => rw [q] at post; exact post
  | ok d S1 => rw [q] at post; exact fun v W1 H1 st ok rr => post v W1 H1 st ok (.inl rr)
theorem SE.fv (h : SE G E .f X e f) : SE G E .v X e f := by
  obtain ⟨t, p, s⟩ := h
  refine ⟨t, p, fun ρ σ S W H Q r post => s ρ σ S W H Q r ?_⟩
  cases q : f ρ S with
  | no => rw [q] at post; exact post
  | er x S1 => rw [q] at post; exact post
  | ok d S1 => rw [q] at post; exact fun v W1 H1 st ok rr => post v W1 H1 st ok (Fresh.view rr)
theorem snd_fi {t : TE} {K : PySem.W.Frag} (s : SndE K G E .f t f) : SndE K G E .i t f := by
  refine fun ρ σ S W H Q r post => s ρ σ S W H Q r ?_
  cases q : f ρ S with
  | no => rw [q] at post; exact post
  | er x S1 => rw [q] at post; exact post
  | ok d S1 =>
    rw [q] at post
    intro v W1 H1 st ok rr
    obtain ⟨l, vs, ds, rfl, rfl, e3, e4, e5, e6, e7⟩ := rr
    refine post _ (W1.add l (.lst vs)) H1 (st.add e3 e6) (ok.add e4 e6 e7 (fun ps z => by cases z)) ?_
    exact .lst (show upd W1.h l (.lst vs) l = _ from upd_same) (IsL.add e6 e5)
theorem SE.fi (h : SE G E .f X e f) : SE G E .i X e f := by
  obtain ⟨t, p, s⟩ := h
  exact ⟨t, p, snd_fi s⟩
/-! ### names, constants -/
def vr (i : Nat) : Sem := fun ρ S => match ρ[i]? with
  | some (.dat d) => .ok d S
  | _ => .no
def vw (i : Nat) : Sem := fun ρ S => match ρ[i]? with
  | some (.dat d) => .ok d S
  | some (.own ds) => .ok (.lst ds) S
  | _ => .no
def cc (d : D) : Sem := fun _ S => .ok d S
theorem e_vr (i : Nat) {x : Str} (hN : X.N[i]? = some x := by rfl) (hv : Vis X.env.scope x := by first | exact Or.inl rfl | exact Or.inr (Or.inl rfl) | exact Or.inr (Or.inr rfl)) (hd : (x == ("__debug__" : Str)) = false := by decide)
    (hcd : (x == ("__classdict__" : Str)) = false := by decide) : SE G E .i X (.Name x pos) (vr i) := by
  refine ⟨tVar i, pe_var hN hv hd hcd, fun ρ σ S W H Q r post => ?_⟩
  unfold vr at post
  cases q : ρ[i]? with
  | none => rw [q] at post; exact post.elim
  | some s =>
    rw [q] at post
    cases s with
    | no => exact post.elim
    | own ds => exact post.elim
    | dat d =>
      obtain ⟨v, h1, h2⟩ := r.dat q
      exact ⟨v, h1, post v W H (Step.refl W H) r.wok h2⟩
theorem e_vw (i : Nat) {x : Str} (hN : X.N[i]? = some x := by rfl) (hv : Vis X.env.scope x := by first | exact Or.inl rfl | exact Or.inr (Or.inl rfl) | exact Or.inr (Or.inr rfl)) (hd : (x == ("__debug__" : Str)) = false := by decide)
    (hcd : (x == ("__classdict__" : Str)) = false := by decide) : SE G E .v X (.Name x pos) (vw i) := by
  refine ⟨tVar i, pe_var hN hv hd hcd, fun ρ σ S W H Q r post => ?_⟩
  unfold vw at post
  cases q : ρ[i]? with
  | none => rw [q] at post; exact post.elim
  | some s =>
    rw [q] at post
    cases s with
    | no => exact post.elim
    | own ds =>
      obtain ⟨l, vs, h1, h2, h3, h4, h5⟩ := r.owns q
      exact ⟨_, h1, post _ W H (Step.refl W H) r.wok (.inr ⟨l, vs, ds, rfl, rfl, h2, h3, h4, h5⟩)⟩
    | dat d =>
      obtain ⟨v, h1, h2⟩ := r.dat q
      exact ⟨v, h1, post v W H (Step.refl W H) r.wok (.inl h2)⟩
theorem e_cc {v : V} {d : D} (p : PE X e (tC v)) (hI : ∀ ad h, Is X.K ad h v d) : SE G E .i X e (cc d) :=
  ⟨tC v, p, fun ρ σ S W H Q r post => post v W H (Step.refl W H) r.wok (hI _ _)⟩
theorem e_int {i : Int} {j : Nat} : SE G E .i X (.Constant (.int i) j pos) (cc (.int i)) := e_cc pe_int fun _ _ => .int i
theorem e_bl {i : Bool} {j : Nat} : SE G E .i X (.Constant (.bool i) j pos) (cc (.bl i)) := e_cc pe_bl fun _ _ => .bl i
theorem e_non {j : Nat} : SE G E .i X (.Constant .none j pos) (cc .non) := e_cc pe_non fun _ _ => .non
theorem e_str {x : Str} {j : Nat} : SE G E .i X (.Constant (.str x) j pos) (cc (.str x)) := e_cc pe_str fun _ _ => .str x
/-- a name of the module's that holds a constant -/
theorem e_glb {x : Str} {v : V} {u : Value} {d : D} (hg : Gl X x) (hm : X.mg x = some u) (r : RelV v u) (hI : ∀ ad h, Is X.K ad h v d) (hd : (x == ("__debug__" : Str)) = false := by decide) : SE G E .i X (.Name x pos) (cc d) := e_cc (pe_glob hg hm r hd) hI
/-! ### operators -/
def OpD (K : PySem.W.Frag) (G : Gm) (k : Rk) (r : R2) (g : D → D → Option D) : Prop := ∀ (S : Mem) (W : Wd) (H : Hp) (x y : V) (dx dy d : D) (Q : VK), WOk K G W S H → View K W H x dx → View K W H y dy → g dx dy = some d → okE K G k W H Q d S → r x y H Q
def UnD (K : PySem.W.Frag) (G : Gm) (k : Rk) (r : V → Hp → VK → Prop) (g : D → Option D) : Prop := ∀ (S : Mem) (W : Wd) (H : Hp) (x : V) (dx d : D) (Q : VK), WOk K G W S H → View K W H x dx → g dx = some d → okE K G k W H Q d S → r x H Q
def bin (g : D → D → Option D) (fa fb : Sem) : Sem := fun ρ S => (fa ρ S).bind fun x S1 => (fb ρ S1).bind fun y S2 => Res.opt (g x y) S2
def un (g : D → Option D) (fa : Sem) : Sem := fun ρ S => (fa ρ S).bind fun x S1 => Res.opt (g x) S1
theorem snd_bin {ta tb : TE} {r : R2} {g : D → D → Option D} {K : PySem.W.Frag} (sa : SndE K G E .v ta fa) (sb : SndE K G E .v tb fb) (hg : OpD K G k r g) : SndE K G E k (tOp r ta tb) (bin g fa fb) := by
  intro ρ σ S W H Q rep post
  refine sa.go rep (Step.refl W H) post fun dx S1 x W1 H1 st1 s01 rep1 is1 post => ?_
  refine sb.go rep1 s01 post fun dy S2 y W2 H2 st2 s02 rep2 is2 post => ?_
  cases e3 : g dx dy with
  | none => rw [e3] at post; exact post.elim
  | some d =>
    rw [e3] at post
    exact hg S2 W2 H2 x y dx dy d Q rep2.wok (View.step st2 is1) is2 e3 fun v W' H' st3 ok3 rr => post v W' H' (s02.trans st3) ok3 (rr.pre s02)
theorem snd_un {ta : TE} {r : V → Hp → VK → Prop} {g : D → Option D} {K : PySem.W.Frag} (sa : SndE K G E .v ta fa) (hg : UnD K G k r g) : SndE K G E k (tUn r ta) (un g fa) := by
  intro ρ σ S W H Q rep post
  refine sa.go rep (Step.refl W H) post fun dx S1 x W1 H1 st1 s01 rep1 is1 post => ?_
  cases e3 : g dx with
  | none => rw [e3] at post; exact post.elim
  | some d =>
    rw [e3] at post
    exact hg S1 W1 H1 x dx d Q rep1.wok is1 e3 fun v W' H' st3 ok3 rr => post v W' H' (s01.trans st3) ok3 (rr.pre s01)
theorem e_bin {op : Operator} {r : R2} {g : D → D → Option D} (ho : OpR X (binaryOp op) r) (hg : OpD X.K G k r g) (ha : SE G E .v X a fa) (hb : SE G E .v X b fb) : SE G E k X (.BinOp a op b pos) (bin g fa fb) := by
  obtain ⟨ta, pa, sa⟩ := ha
  obtain ⟨tb, pb, sb⟩ := hb
  exact ⟨_, pe_op ho pa pb, snd_bin sa sb hg⟩
theorem e_un {op : UnaryOp} {r : V → Hp → VK → Prop} {g : D → Option D} (ho : UnR X (unaryOp op) r) (hg : UnD X.K G k r g) (ha : SE G E .v X a fa) : SE G E k X (.UnaryOp op a pos) (un g fa) := by
  obtain ⟨ta, pa, sa⟩ := ha
  exact ⟨_, pe_un ho pa, snd_un sa hg⟩
theorem e_cmp {op : CmpOp} {r : R2} {g : D → D → Option D} (ho : OpR X (compareOp op) r) (hg : OpD X.K G k r g) (ha : SE G E .v X a fa) (hb : SE G E .v X b fb) (hm : behindInMarks op b = false) : SE G E k X (.Compare a [op] [b] pos) (bin g fa fb) := by
  obtain ⟨ta, pa, sa⟩ := ha
  obtain ⟨tb, pb, sb⟩ := hb
  exact ⟨_, pe_cmpR ho pa pb hm, snd_bin sa sb hg⟩
theorem snd_test {t : TE} {K : PySem.W.Frag} (sa : SndE K G E .v t f) : SndT K G E (tTest t) f := by
  intro ρ σ S W H Q rep post
  refine sa ρ σ S W H _ rep ?_
  cases e : f ρ S with
  | no => rw [e] at post; exact post
  | er x S1 => rw [e] at post; exact post
  | ok d S1 =>
    rw [e] at post
    obtain ⟨b, rfl, post⟩ := post
    exact fun v W1 H1 st ok1 rr => ⟨b, rr.blv, post W1 H1 st ok1⟩
theorem t_cmp {op : CmpOp} {r : R2} {g : D → D → Option D} (ho : OpR X (compareOp op) r) (hg : OpD X.K G .v r g) (ha : SE G E .v X a fa) (hb : SE G E .v X b fb) (hm : behindInMarks op b = false) : ST G E X (.Compare a [op] [b] pos) (bin g fa fb) := by
  obtain ⟨ta, pa, sa⟩ := ha
  obtain ⟨tb, pb, sb⟩ := hb
  exact ⟨_, pt_cmpR ho pa pb hm, snd_test (snd_bin sa sb hg)⟩
theorem t_val (h : SE G E .v X e f) (he : ∀ whole, isTrue e X.env whole = (do let v ← whole; standAt e.pos; holding [v] (truthy v)) := by intro _; rfl) : ST G E X e f := by
  obtain ⟨t, p, s⟩ := h
  exact ⟨_, pt_val p he, snd_test s⟩
def nt (f : Sem) : Sem := fun ρ S => (f ρ S).bind fun x S1 => match x with
  | .bl b => .ok (.bl (!b)) S1
  | _ => .no
theorem t_not (h : ST G E X e f) : ST G E X (.UnaryOp .Not e pos) (nt f) := by
  obtain ⟨t, p, s⟩ := h
  refine ⟨_, pt_not p, fun ρ σ S W H Q rep post => ?_⟩
  refine s.go rep (Step.refl W H) post (fun d S1 q => ?_) fun b S1 W1 H1 st1 s01 rep1 post => ?_
  · cases d <;> first | exact ⟨_, rfl⟩ | exact (show False from q).elim
  · obtain ⟨b', e, post⟩ := post
    cases e
    exact post W1 H1 st1 rep1.wok
def ad (fa fb : Sem) : Sem := fun ρ S => (fa ρ S).bind fun x S1 => match x with
  | .bl true => fb ρ S1
  | .bl false => .ok (.bl false) S1
  | _ => .no
def orr (fa fb : Sem) : Sem := fun ρ S => (fa ρ S).bind fun x S1 => match x with
  | .bl true => .ok (.bl true) S1
  | .bl false => fb ρ S1
  | _ => .no
theorem pg_okT_step {K : PySem.W.Frag} {W W1 : Wd} {H H1 : Hp} {Q : Bool → Hp → Prop} (s : Step W H W1 H1) : ∀ {r : Res D}, Pg K G E W H (okT K G W H Q) r → Pg K G E W1 H1 (okT K G W1 H1 Q) r
  | .no, p => p
  | .er _ _, p => ErrP.step s p
  | .ok _ _, ⟨b, e, p⟩ => ⟨b, e, fun W' H' st ok => p W' H' (s.trans st) ok⟩
theorem pg_okE_step {K : PySem.W.Frag} {W W1 : Wd} {H H1 : Hp} {Q : VK} (s : Step W H W1 H1) : ∀ {r : Res D}, Pg K G E W H (okE K G k W H Q) r → Pg K G E W1 H1 (okE K G k W1 H1 Q) r
  | .no, p => p
  | .er _ _, p => ErrP.step s p
  | .ok _ _, p => fun v W' H' st ok rr => p v W' H' (s.trans st) ok (rr.pre s)
theorem w_and1 (h : ST G E X a f) : SW G E X (.BoolOp .And [a] pos) f := let ⟨t, p, s⟩ := h; ⟨t, pw_and1 p, s⟩
theorem w_or1 (h : ST G E X a f) : SW G E X (.BoolOp .Or [a] pos) f := let ⟨t, p, s⟩ := h; ⟨t, pw_or1 p, s⟩
theorem snd_and {ta tb : TT} {K : PySem.W.Frag} (sa : SndT K G E ta fa) (sb : SndT K G E tb fb) : SndT K G E (tAnd ta tb) (ad fa fb) := fun ρ σ S W H Q rep post => by
  refine sa.go rep (Step.refl W H) post (fun d S1 q => ?_) fun b S1 W1 H1 st1 s01 rep1 post => ?_
  · cases d <;> first | exact ⟨_, rfl⟩ | exact (show False from q).elim
  · cases b with
    | true => exact iteT (sb ρ σ S1 W1 H1 Q rep1 (pg_okT_step s01 post))
    | false =>
      obtain ⟨b', e, post⟩ := post
      cases e
      exact iteF (post W1 H1 st1 rep1.wok)
theorem snd_or {ta tb : TT} {K : PySem.W.Frag} (sa : SndT K G E ta fa) (sb : SndT K G E tb fb) : SndT K G E (tOr ta tb) (orr fa fb) := fun ρ σ S W H Q rep post => by
  refine sa.go rep (Step.refl W H) post (fun d S1 q => ?_) fun b S1 W1 H1 st1 s01 rep1 post => ?_
  · cases d <;> first | exact ⟨_, rfl⟩ | exact (show False from q).elim
  · cases b with
    | false => exact iteF (sb ρ σ S1 W1 H1 Q rep1 (pg_okT_step s01 post))
    | true =>
      obtain ⟨b', e, post⟩ := post
      cases e
      exact iteT (post W1 H1 st1 rep1.wok)
theorem w_and (ha : ST G E X a fa) (hb : SW G E X (.BoolOp .And (b :: es) pos) fb) : SW G E X (.BoolOp .And (a :: b :: es) pos) (ad fa fb) := by
  obtain ⟨ta, pa, sa⟩ := ha
  obtain ⟨tb, pb, sb⟩ := hb
  exact ⟨_, pw_and pa pb, snd_and sa sb⟩
theorem w_or (ha : ST G E X a fa) (hb : SW G E X (.BoolOp .Or (b :: es) pos) fb) : SW G E X (.BoolOp .Or (a :: b :: es) pos) (orr fa fb) := by
  obtain ⟨ta, pa, sa⟩ := ha
  obtain ⟨tb, pb, sb⟩ := hb
  exact ⟨_, pw_or pa pb, snd_or sa sb⟩
theorem t_w (h : SW G E X e f) : ST G E X e f := let ⟨t, p, s⟩ := h; ⟨t, p.pt, s⟩
/-- as values -/
theorem e_one {op : BoolOp} (h : SE G E k X a f) : SE G E k X (.BoolOp op [a] pos) f := let ⟨t, p, s⟩ := h; ⟨t, pe_one p, s⟩
theorem e_and (ha : SE G E .i X a fa) (hb : SE G E .i X (.BoolOp .And (b :: es) pos) fb) : SE G E .i X (.BoolOp .And (a :: b :: es) pos) (ad fa fb) := by
  obtain ⟨ta, pa, sa⟩ := ha
  obtain ⟨tb, pb, sb⟩ := hb
  refine ⟨_, pe_and pa pb, fun ρ σ S W H Q rep post => ?_⟩
  refine sa.go rep (Step.refl W H) post fun dx S1 x W1 H1 st1 s01 rep1 is1 post => ?_
  cases dx with
  | bl c =>
    refine ⟨c, Is.blv is1, ?_⟩
    cases c with
    | true => exact iteT (sb ρ σ S1 W1 H1 Q rep1 (pg_okE_step s01 post))
    | false => exact iteF (post _ W1 H1 st1 rep1.wok (.bl false))
  | _ => exact (show False from post).elim
theorem e_or (ha : SE G E .i X a fa) (hb : SE G E .i X (.BoolOp .Or (b :: es) pos) fb) : SE G E .i X (.BoolOp .Or (a :: b :: es) pos) (orr fa fb) := by
  obtain ⟨ta, pa, sa⟩ := ha
  obtain ⟨tb, pb, sb⟩ := hb
  refine ⟨_, pe_or pa pb, fun ρ σ S W H Q rep post => ?_⟩
  refine sa.go rep (Step.refl W H) post fun dx S1 x W1 H1 st1 s01 rep1 is1 post => ?_
  cases dx with
  | bl c =>
    refine ⟨c, Is.blv is1, ?_⟩
    cases c with
    | false => exact iteF (sb ρ σ S1 W1 H1 Q rep1 (pg_okE_step s01 post))
    | true => exact iteT (post _ W1 H1 st1 rep1.wok (.bl true))
  | _ => exact (show False from post).elim
theorem e_not (ha : SE G E .i X a fa) : SE G E .i X (.UnaryOp .Not a pos) (nt fa) := by
  obtain ⟨ta, pa, sa⟩ := ha
  refine ⟨_, pe_not pa, fun ρ σ S W H Q rep post => ?_⟩
  refine sa.go rep (Step.refl W H) post fun dx S1 x W1 H1 st1 s01 rep1 is1 post => ?_
  cases dx with
  | bl c => exact ⟨c, Is.blv is1, post _ W1 H1 st1 rep1.wok (.bl _)⟩
  | _ => exact (show False from post).elim
/-- a if t else b -/
def iff (fc fa fb : Sem) : Sem := fun ρ S => (fc ρ S).bind fun x S1 => match x with
  | .bl true => fa ρ S1
  | .bl false => fb ρ S1
  | _ => .no
theorem e_if {c : Expr} {fc : Sem} (hc : ST G E X c fc) (ha : SE G E k X a fa) (hb : SE G E k X b fb) : SE G E k X (.IfExp c a b pos) (iff fc fa fb) := by
  obtain ⟨tc, pc, sc⟩ := hc
  obtain ⟨ta, pa, sa⟩ := ha
  obtain ⟨tb, pb, sb⟩ := hb
  refine ⟨_, pe_ifExp pc pa pb, fun ρ σ S W H Q rep post => ?_⟩
  refine sc.go rep (Step.refl W H) post (fun d S1 q => ?_) fun c S1 W1 H1 st1 s01 rep1 post => ?_
  · cases d <;> first | exact ⟨_, rfl⟩ | exact (show False from q).elim
  · cases c with
    | true => exact iteT (sa ρ σ S1 W1 H1 Q rep1 (pg_okE_step s01 post))
    | false => exact iteF (sb ρ σ S1 W1 H1 Q rep1 (pg_okE_step s01 post))
/-- a < b < c -/
def chn (g g' : D → D → Option D) (fa fb fc : Sem) : Sem := fun ρ S => (fa ρ S).bind fun x S1 => (fb ρ S1).bind fun y S2 => match g x y with
  | some (.bl true) => (fc ρ S2).bind fun z S3 => Res.opt (g' y z) S3
  | some (.bl false) => .ok (.bl false) S2
  | _ => .no
theorem t_chn {c : Expr} {op op' : CmpOp} {r r' : R2} {g g' : D → D → Option D} {fc : Sem} (ho : OpR X (compareOp op) r) (hg : OpD X.K G .v r g) (ho' : OpR X (compareOp op') r') (hg' : OpD X.K G .v r' g')
    (ha : SE G E .v X a fa) (hb : SE G E .v X b fb) (hc : SE G E .v X c fc) (h1 : lastMarks [op, op'] [b, c] = false := by rfl) : ST G E X (.Compare a [op, op'] [b, c] pos) (chn g g' fa fb fc) := by
  obtain ⟨ta, pa, sa⟩ := ha
  obtain ⟨tb, pb, sb⟩ := hb
  obtain ⟨tc, pc, sc⟩ := hc
  refine ⟨_, pt_chain ho ho' pa pb pc h1, fun ρ σ S W H Q rep post => ?_⟩
  refine sa.go rep (Step.refl W H) post fun dx S1 x W1 H1 st1 s01 rep1 is1 post => ?_
  refine sb.go rep1 s01 post fun dy S2 y W2 H2 st2 s02 rep2 is2 post => ?_
  cases e3 : g dx dy with
  | none => rw [e3] at post; exact post.elim
  | some d =>
    rw [e3] at post
    refine hg S2 W2 H2 x y dx dy d _ rep2.wok (View.step st2 is1) is2 e3 fun v W3 H3 st3 ok3 rr => ?_
    cases d with
    | bl q =>
      refine ⟨q, View.blv rr, ?_⟩
      have rep3 := rep2.step st3 ok3
      have s03 := s02.trans st3
      cases q with
      | true =>
        refine iteT ?_
        refine sc.go rep3 s03 post fun dz S4 z W4 H4 st4 s04 rep4 is4 post => ?_
        cases e5 : g' dy dz with
        | none => rw [e5] at post; exact post.elim
        | some d' =>
          rw [e5] at post
          obtain ⟨b', rfl, post⟩ := post
          refine hg' S4 W4 H4 y z dy dz _ _ rep4.wok (View.step st4 (View.step st3 is2)) is4 e5 fun v' W5 H5 st5 ok5 rr5 => ?_
          exact ⟨b', View.blv rr5, post W5 H5 (s04.trans st5) ok5⟩
      | false =>
        refine iteF ?_
        obtain ⟨b', e, post⟩ := post
        cases e
        exact ⟨false, rfl, post W3 H3 s03 ok3⟩
    | _ => exact (show False from post).elim
/-! ### arguments, displays -/
def al0 : SemL := fun _ S => .ok [] S
def alc (f : Sem) (g : SemL) : SemL := fun ρ S => (f ρ S).bind fun x S1 => (g ρ S1).bind fun xs S2 => .ok (x :: xs) S2
theorem a_nil {vw : Bool} : SA G E vw X [] al0 := ⟨_, pa_nil, fun ρ σ S W H Q rep post => post [] W H (Step.refl W H) rep.wok .nil⟩
theorem a_cons {g : SemL} (ha : SE G E .i X e f) (hr : SA G E false X es g) (hs : starEach (e :: es) X.env = (false, eval e X.env) :: starEach es X.env := by rfl) : SA G E false X (e :: es) (alc f g) := by
  obtain ⟨ta, pa, sa⟩ := ha
  obtain ⟨tb, pb, sb⟩ := hr
  refine ⟨_, pa_cons pa pb hs, fun ρ σ S W H Q rep post => ?_⟩
  refine sa.go rep (Step.refl W H) post fun dx S1 x W1 H1 st1 s01 rep1 is1 post => ?_
  refine sb.go rep1 s01 post fun ds S2 vs W2 H2 st2 s02 rep2 is2 post => ?_
  exact post _ W2 H2 s02 rep2.wok (.cons (Is.step st2 is1) is2)
theorem a_consv {g : SemL} (ha : SE G E .v X e f) (hr : SA G E true X es g) (hs : starEach (e :: es) X.env = (false, eval e X.env) :: starEach es X.env := by rfl) : SA G E true X (e :: es) (alc f g) := by
  obtain ⟨ta, pa, sa⟩ := ha
  obtain ⟨tb, pb, sb⟩ := hr
  refine ⟨_, pa_cons pa pb hs, fun ρ σ S W H Q rep post => ?_⟩
  refine sa.go rep (Step.refl W H) post fun dx S1 x W1 H1 st1 s01 rep1 is1 post => ?_
  refine sb.go rep1 s01 post fun ds S2 vs W2 H2 st2 s02 rep2 is2 post => ?_
  exact post _ W2 H2 s02 rep2.wok (.cons (View.step st2 is1) is2)
def tupl (g : SemL) : Sem := fun ρ S => (g ρ S).bind fun xs S1 => if xs.length ≤ 10000 then .ok (.tup xs) S1 else .no
def lstl (g : SemL) : Sem := fun ρ S => (g ρ S).bind fun xs S1 => if xs.length ≤ 10000 then .ok (.lst xs) S1 else .no
theorem e_tup {g : SemL} {n : Nat} (h : SA G E false X es g) : SE G E .i X (.Tuple es n pos) (tupl g) := by
  obtain ⟨t, p, s⟩ := h
  refine ⟨_, pe_tup p, fun ρ σ S W H Q rep post => ?_⟩
  refine s.go rep (Step.refl W H) post fun ds S1 vs W1 H1 st1 s01 rep1 is1 post => ?_
  have is1 : AllR (Ist X.K W1) vs ds := is1
  have hl := IsL.length is1.is
  by_cases hz : ds.length ≤ 10000
  · rw [if_pos hz] at post
    refine ⟨by rw [hl]; exact Nat.le_trans hz (by decide), fun p' hp => ?_⟩
    have nW := rep1.wok.none_of hp
    refine post _ (W1.add p' (.tup vs)) _ ((s01.trans (Step.up (up_new hp))).add (s01.back hp) nW) ((rep1.wok.up (up_new hp)).add upd_same nW (rep1.wok.nad hp) (fun ps z => by cases z)) ?_
    exact .tup (SqT.of (show upd W1.h p' (.tup vs) p' = _ from upd_same)) (IsL.add nW is1.is)
  · rw [if_neg hz] at post
    exact post.elim
theorem e_lst {g : SemL} (h : SA G E false X es g) : SE G E .f X (.List es pos) (lstl g) := by
  obtain ⟨t, p, s⟩ := h
  refine ⟨_, pe_lst p, fun ρ σ S W H Q rep post => ?_⟩
  refine s.go rep (Step.refl W H) post fun ds S1 vs W1 H1 st1 s01 rep1 is1 post => ?_
  have is1 : AllR (Ist X.K W1) vs ds := is1
  have hl := IsL.length is1.is
  by_cases hz : ds.length ≤ 10000
  · rw [if_pos hz] at post
    refine ⟨by rw [hl]; exact Nat.le_trans hz (by decide), fun p' hp => ?_⟩
    exact post _ W1 _ (s01.trans (Step.up (up_new hp))) (rep1.wok.up (up_new hp)) ⟨p', vs, ds, rfl, rfl, s01.back hp, upd_same, is1.is, rep1.wok.none_of hp, rep1.wok.nad hp⟩
  · rw [if_neg hz] at post
    exact post.elim
end
end Dl
/-! DlC: operators, subscripts, calls of what is built in. -/
namespace Dl
open PySem L2
/-! ### data as the library's -/
mutual
def py : D → PyData
  | .non => .none
  | .bl b => .bool b
  | .int i => .int i
  | .str s => .str s
  | .tup ds => .tuple (pyL ds)
  | .lst ds => .list (pyL ds)
  | .frz ds => .list (pyL ds)
  | .obj _ => .dict []
  | .exc _ _ _ => .dict []
  | .clo _ _ _ _ => .dict []
def pyL : List D → List PyData
  | [] => []
  | d :: ds => py d :: pyL ds
end
def pureD : D → Bool := fun d => SeqAt.shaped (py d)
section
variable {K : PySem.W.Frag} {ad : List Addr} {h : Hp}
mutual
theorem dp_of : ∀ (d : D) {v : V}, (py d).canLay0 = true → Is K ad h v d → Dp K h v (py d)
  | .non, _, _, q => by cases q; exact .non
  | .bl b, _, _, q => by cases q; exact .bl b
  | .int i, _, _, q => by cases q; exact .int i
  | .str s, _, _, q => by cases q; exact .str s
  | .tup ds, _, c, q => by
    obtain ⟨a, xs, rfl, h1, h2⟩ := q.tupv
    exact .tup h1 (dpl_of ds (by simpa [py, PyData.canLay0] using c) h2)
  | .lst ds, _, c, q => by
    obtain ⟨a, xs, rfl, h1, h2⟩ := q.lstv
    exact .lst (SqL.of h1) (dpl_of ds (by simpa [py, PyData.canLay0] using c) h2)
  | .frz ds, _, c, q => by
    obtain ⟨a, xs, rfl, h1, h2⟩ := q.frzv
    exact .lst h1 (dpl_of ds (by simpa [py, PyData.canLay0] using c) h2)
  | .obj _, _, c, _ => by simp [py, PyData.canLay0] at c
  | .exc _ _ _, _, c, _ => by simp [py, PyData.canLay0] at c
  | .clo _ _ _ _, _, c, _ => by simp [py, PyData.canLay0] at c
theorem dpl_of : ∀ (ds : List D) {vs : List V}, PyData.canLayAll0 (pyL ds) = true → IsL K ad h vs ds → DpAll K h vs (pyL ds)
  | [], _, _, q => by cases q; exact .nil
  | d :: ds, _, c, q => by
    cases q with
    | cons q r =>
      have c2 : (py d).canLay0 = true ∧ PyData.canLayAll0 (pyL ds) = true := by simpa [pyL, PyData.canLayAll0] using c
      exact .cons (dp_of d c2.1 q) (dpl_of ds c2.2 r)
end
end
section
variable {K : PySem.W.Frag} {H H' : Hp}
mutual
theorem Dp.ex {h h' : Hp} (e : ∀ b o, h b = some o → h' b = some o) : ∀ {v : V} {d : PyData}, Dp K h v d → Dp K h' v d
  | _, _, .non => .non
  | _, _, .bl b => .bl b
  | _, _, .int b => .int b
  | _, _, .str b => .str b
  | _, _, .lst a b => .lst (SqL.ex e a) (DpAll.ex e b)
  | _, _, .tup a b => .tup (SqT.ex e a) (DpAll.ex e b)
theorem DpAll.ex {h h' : Hp} (e : ∀ b o, h b = some o → h' b = some o) : ∀ {v : List V} {d : List PyData}, DpAll K h v d → DpAll K h' v d
  | _, _, .nil => .nil
  | _, _, .cons a b => .cons (Dp.ex e a) (DpAll.ex e b)
end
end
theorem canLay_of {d : D} (h : pureD d = true) : (py d).canLay0 = true := (Bool.and_eq_true_iff.mp h).1
theorem View.dp {K : PySem.W.Frag} {G : Gm} {W : Wd} {S : Mem} {H : Hp} {v : V} {d : D} (k : WOk K G W S H) (c : pureD d = true) (q : View K W H v d) : Dp K H v (py d) := by
  have c := canLay_of c
  rcases q with q | ⟨l, vs, ds, rfl, rfl, e3, e4, _⟩
  · exact Dp.ex k.sub (dp_of d c q)
  · exact .lst (SqL.of e3) (DpAll.ex k.sub (dpl_of ds (by simpa [py, PyData.canLay0] using c) e4))
/-! ### the operators on data -/
def big : Nat := 2 ^ 100000
def bigD : Nat := 2 ^ 9000
def addD : D → D → Option D
  | .int i, .int j => some (.int (i + j))
  | .str x, .str y => if x.length + y.length ≤ 1000000 then some (.str (x ++ y)) else none
  | .lst xs, .lst ys => if xs.length + ys.length ≤ 1000000 then some (.lst (xs ++ ys)) else none
  | .tup xs, .tup ys => if xs.length + ys.length ≤ 1000000 then some (.tup (xs ++ ys)) else none
  | _, _ => none
def subD : D → D → Option D
  | .int i, .int j => some (.int (i - j))
  | _, _ => none
def mulD : D → D → Option D
  | .int i, .int j => if i.natAbs < big ∧ j.natAbs < big then some (.int (i * j)) else none
  | _, _ => none
def divD : D → D → Option D
  | .int i, .int j => if 0 < j ∧ j.natAbs < bigD then some (.int (i / j)) else none
  | _, _ => none
def modD : D → D → Option D
  | .int i, .int j => if 0 < j then some (.int (i % j)) else none
  | _, _ => none
def powD : D → D → Option D
  | .int i, .int j => if 0 ≤ j ∧ j ≤ 1000000 ∧ i.natAbs < 2 ^ 64 then some (.int (i ^ j.toNat)) else none
  | _, _ => none
def negD : D → Option D
  | .int i => some (.int (-i))
  | _ => none
def ltD : D → D → Option D
  | .int i, .int j => some (.bl (decide (i < j)))
  | _, _ => none
def leD : D → D → Option D
  | .int i, .int j => some (.bl (decide (i ≤ j)))
  | .str i, .str j => some (.bl (!decide (j.cps.toList < i.cps.toList)))
  | _, _ => none
def gtD : D → D → Option D
  | .int i, .int j => some (.bl (decide (j < i)))
  | _, _ => none
def geD : D → D → Option D
  | .int i, .int j => some (.bl (decide (j ≤ i)))
  | _, _ => none
/-- ==: of like scalars; else as data -/
def eqB : D → D → Option Bool
  | .int i, .int j => some (decide (i = j))
  | .str i, .str j => some (decide (i = j))
  | .bl i, .bl j => some (decide (i = j))
  | .non, .non => some true
  | .non, .int _ => some false
  | .non, .str _ => some false
  | .int _, .non => some false
  | .str _, .non => some false
  | x, y => if pureD x && pureD y then some (PyData.eqv (py x) (py y)) else none
def eqD (x y : D) : Option D := (eqB x y).map fun b => .bl b
def neD (x y : D) : Option D := (eqB x y).map fun b => .bl (!b)
def isNonB : D → Bool
  | .non => true
  | _ => false
def isNonD : D → D → Option D
  | x, .non => some (.bl (isNonB x))
  | _, _ => none
def notNonD : D → D → Option D
  | x, .non => some (.bl (!isNonB x))
  | _, _ => none
def flatD : D → Bool
  | .non => true
  | .bl _ => true
  | .int _ => true
  | .str _ => true
  | _ => false
def toV : D → V
  | .bl b => .bl b
  | .int i => .int i
  | .str s => .str s
  | _ => .non
def memB (x : D) (ds : List D) : Option Bool := if flatD x && ds.all flatD then some (inV (toV x) (ds.map toV)) else none
def inStr (x z : Str) : Bool := match x.cps.toList with
  | [c] => decide (c ∈ z.cps.toList)
  | _ => !(Builtin.Str.occurrences z x 0 z.length 1).isEmpty
def inB : D → D → Option Bool
  | x, .tup ds => memB x ds
  | x, .lst ds => memB x ds
  | .str x, .str z => some (inStr x z)
  | _, _ => none
def inD (x y : D) : Option D := (inB x y).map fun b => .bl b
def notInD (x y : D) : Option D := (inB x y).map fun b => .bl (!b)
def idxD : D → D → Option D
  | .tup ds, .int i => atI ds i
  | .lst ds, .int i => atI ds i
  | .frz ds, .int i => atI ds i
  | .str z, .int i => if z.length ≤ 1000000 then (atI z.cps.toList i).map fun c => .str ⟨#[c]⟩ else none
  | _, _ => none
section
variable {K : PySem.W.Frag} {G : Gm} {k : Rk}
/-- a value of the same heap -/
theorem okE.here {W : Wd} {S : Mem} {H : Hp} {Q : VK} {v : V} {d : D} (q : okE K G .i W H Q d S) (wok : WOk K G W S H) (r : Ist K W v d) : Q v H := q v W H (Step.refl W H) wok r
theorem okE.herev {W : Wd} {S : Mem} {H : Hp} {Q : VK} {v : V} {d : D} (q : okE K G .v W H Q d S) (wok : WOk K G W S H) (r : View K W H v d) : Q v H := q v W H (Step.refl W H) wok r
/-- a new tuple -/
theorem okE.newT {W : Wd} {S : Mem} {H : Hp} {Q : VK} {ds : List D} {vs : List V} {p : Addr} (q : okE K G .i W H Q (.tup ds) S) (wok : WOk K G W S H) (r : IstL K W vs ds) (n : H p = none) : Q (.ref p) (upd H p (.tup vs)) := by
  have nW := wok.none_of n
  exact q _ (W.add p (.tup vs)) _ ((Step.up (up_new n)).add n nW) ((wok.up (up_new n)).add upd_same nW (wok.nad n) (fun ps z => by cases z)) (.tup (SqT.of (show upd W.h p (.tup vs) p = _ from upd_same)) (IsL.add nW r))
theorem okE.newL {W : Wd} {S : Mem} {H : Hp} {Q : VK} {ds : List D} {vs : List V} {p : Addr} (q : okE K G .f W H Q (.lst ds) S) (wok : WOk K G W S H) (r : IstL K W vs ds) (n : H p = none) : Q (.ref p) (upd H p (.lst vs)) :=
  q _ W _ (Step.up (up_new n)) (wok.up (up_new n)) ⟨p, vs, ds, rfl, rfl, n, upd_same, r, wok.none_of n, wok.nad n⟩
theorem okE.newLi {W : Wd} {S : Mem} {H : Hp} {Q : VK} {ds : List D} {vs : List V} {p : Addr} (q : okE K G .i W H Q (.lst ds) S) (wok : WOk K G W S H) (r : IstL K W vs ds) (n : H p = none) : Q (.ref p) (upd H p (.lst vs)) := by
  have nW := wok.none_of n
  exact q _ (W.add p (.lst vs)) _ ((Step.up (up_new n)).add n nW) ((wok.up (up_new n)).add upd_same nW (wok.nad n) (fun ps z => by cases z)) (.lst (show upd W.h p (.lst vs) p = _ from upd_same) (IsL.add nW r))
end
theorem sz6 {n : Nat} (h : n ≤ 1000000) : n ≤ sizeLine := Nat.le_trans h (by decide)
section
variable {G : Gm} {X : Cx}
/-! ### + -/
def rAddA (K : PySem.W.Frag) : R2 := fun x y H Q => (rI0 fun i j => .int (i + j)) x y H Q ∨ (∃ i j, x = .str i ∧ y = .str j ∧ i.length + j.length ≤ sizeLine ∧ Q (.str (i ++ j)) H) ∨ rCat x y H Q ∨ rCatA K x y H Q
theorem op_addA : OpR X (binaryOp .Add) (rAddA X.K) := OpR.or op_add (OpR.or op_add_str (OpR.or op_cat op_catA))
theorem add_ok : OpD X.K G .i (rAddA X.K) addD := by
  intro S W H x y dx dy d Q wok ix iy e q
  cases dx with
  | int i =>
    cases dy with
    | int j =>
      cases e
      exact .inl ⟨i, j, ix.intv, iy.intv, q.here wok (.int _)⟩
    | _ => cases e
  | str i =>
    cases dy with
    | str j =>
      by_cases hz : i.length + j.length ≤ 1000000
      · dsimp only [addD] at e
        rw [if_pos hz] at e
        cases e
        exact .inr (.inl ⟨i, j, ix.strv, iy.strv, sz6 hz, q.here wok (.str _)⟩)
      · dsimp only [addD] at e
        rw [if_neg hz] at e
        cases e
    | _ => cases e
  | lst xs =>
    cases dy with
    | lst ys =>
      by_cases hz : xs.length + ys.length ≤ 1000000
      · dsimp only [addD] at e
        rw [if_pos hz] at e
        cases e
        obtain ⟨a, vs, rfl, h1, h2⟩ := ix.lstv wok
        obtain ⟨b, ws, rfl, h3, h4⟩ := iy.lstv wok
        refine .inr (.inr (.inl ⟨a, b, vs, ws, rfl, rfl, h1, h3, by rw [h2.length, h4.length]; exact sz6 hz, fun p hp => ?_⟩))
        exact q.newLi wok (h2.append h4) hp
      · dsimp only [addD] at e
        rw [if_neg hz] at e
        cases e
    | _ => cases e
  | tup xs =>
    cases dy with
    | tup ys =>
      by_cases hz : xs.length + ys.length ≤ 1000000
      · dsimp only [addD] at e
        rw [if_pos hz] at e
        cases e
        have ix' := ix.tup
        have iy' := iy.tup
        obtain ⟨a, vs, rfl, h1, h2⟩ := ix.tupv wok
        obtain ⟨b, ws, rfl, h3, h4⟩ := iy.tupv wok
        refine .inr (.inr (.inr ⟨a, b, vs, ws, rfl, rfl, h1, h3, by rw [h2.length, h4.length]; exact sz6 hz, fun z => ?_, fun z1 z2 => ?_, fun z1 z2 p hp => ?_⟩))
        · subst z
          cases h2
          exact q.here wok iy'
        · subst z2
          cases h4
          rw [List.append_nil] at q
          exact q.here wok ix'
        · exact q.newT wok (h2.append h4) hp
      · dsimp only [addD] at e
        rw [if_neg hz] at e
        cases e
    | _ => cases e
  | _ => cases e
/-- list + list, new -/
theorem cat_ok : OpD X.K G .f rCat (fun x y => match x, y with | .lst xs, .lst ys => if xs.length + ys.length ≤ 1000000 then some (.lst (xs ++ ys)) else none | _, _ => none) := by
  intro S W H x y dx dy d Q wok ix iy e q
  cases dx with
  | lst xs =>
    cases dy with
    | lst ys =>
      by_cases hz : xs.length + ys.length ≤ 1000000
      · simp only [if_pos hz] at e
        cases e
        obtain ⟨a, vs, rfl, h1, h2⟩ := ix.lstv wok
        obtain ⟨b, ws, rfl, h3, h4⟩ := iy.lstv wok
        exact ⟨a, b, vs, ws, rfl, rfl, h1, h3, by rw [h2.length, h4.length]; exact sz6 hz, fun p hp => q.newL wok (h2.append h4) hp⟩
      · simp only [if_neg hz] at e
        cases e
    | _ => cases e
  | _ => cases e
/-! ### ints -/
theorem int2_ok {C : Int → Int → Prop} {g : Int → Int → Int} {gD : D → D → Option D} (h : ∀ dx dy d, gD dx dy = some d → ∃ i j, dx = .int i ∧ dy = .int j ∧ C i j ∧ d = .int (g i j)) : OpD X.K G .i (rI C fun i j => .int (g i j)) gD := by
  intro S W H x y dx dy d Q wok ix iy e q
  obtain ⟨i, j, rfl, rfl, c, rfl⟩ := h _ _ _ e
  exact ⟨i, j, ix.intv, iy.intv, c, q.here wok (.int _)⟩
theorem sub_ok : OpD X.K G .i (rI0 fun i j => .int (i - j)) subD := by
  intro S W H x y dx dy d Q wok ix iy e q
  cases dx with
  | int i =>
    cases dy with
    | int j =>
      cases e
      exact ⟨i, j, ix.intv, iy.intv, q.here wok (.int _)⟩
    | _ => cases e
  | _ => cases e
theorem mul_ok : OpD X.K G .i (rI CMulW fun i j => .int (i * j)) mulD := int2_ok fun dx dy d e => by
  cases dx with
  | int i =>
    cases dy with
    | int j =>
      by_cases hz : i.natAbs < big ∧ j.natAbs < big
      · dsimp only [mulD] at e
        rw [if_pos hz] at e
        cases e
        exact ⟨i, j, rfl, rfl, wide_mul (a := 100000) (b := 100000) hz.1 hz.2 (by decide) (by decide) (by decide), rfl⟩
      · dsimp only [mulD] at e
        rw [if_neg hz] at e
        cases e
    | _ => cases e
  | _ => cases e
theorem div_ok : OpD X.K G .i (rI CDivW fun i j => .int (i / j)) divD := int2_ok fun dx dy d e => by
  cases dx with
  | int i =>
    cases dy with
    | int j =>
      by_cases hz : 0 < j ∧ j.natAbs < bigD
      · dsimp only [divD] at e
        rw [if_pos hz] at e
        cases e
        exact ⟨i, j, rfl, rfl, wide_div (b := 9000) hz.1 hz.2 (by decide) (by decide), rfl⟩
      · dsimp only [divD] at e
        rw [if_neg hz] at e
        cases e
    | _ => cases e
  | _ => cases e
theorem mod_ok : OpD X.K G .i (rI (fun _ j => 0 < j) fun i j => .int (i % j)) modD := int2_ok (C := fun _ j => 0 < j) fun dx dy d e => by
  cases dx with
  | int i =>
    cases dy with
    | int j =>
      by_cases hz : 0 < j
      · dsimp only [modD] at e
        rw [if_pos hz] at e
        cases e
        exact ⟨i, j, rfl, rfl, hz, rfl⟩
      · dsimp only [modD] at e
        rw [if_neg hz] at e
        cases e
    | _ => cases e
  | _ => cases e
theorem pow_ok : OpD X.K G .i (rI CPow fun i j => .int (i ^ j.toNat)) powD := int2_ok (C := CPow) fun dx dy d e => by
  cases dx with
  | int i =>
    cases dy with
    | int j =>
      by_cases hz : 0 ≤ j ∧ j ≤ 1000000 ∧ i.natAbs < 2 ^ 64
      · dsimp only [powD] at e
        rw [if_pos hz] at e
        cases e
        exact ⟨i, j, rfl, rfl, hz, rfl⟩
      · dsimp only [powD] at e
        rw [if_neg hz] at e
        cases e
    | _ => cases e
  | _ => cases e
theorem neg_ok : UnD X.K G .i (rU fun i => .int (-i)) negD := by
  intro S W H x dx d Q wok ix e q
  cases dx with
  | int i =>
    cases e
    exact ⟨i, ix.intv, q.here wok (.int _)⟩
  | _ => cases e
/-! ### comparisons -/
theorem lt_ok : OpD X.K G .i (rI0 fun i j => .bl (decide (i < j))) ltD := by
  intro S W H x y dx dy d Q wok ix iy e q
  cases dx with
  | int i =>
    cases dy with
    | int j =>
      cases e
      exact ⟨i, j, ix.intv, iy.intv, q.here wok (.bl _)⟩
    | _ => cases e
  | _ => cases e
theorem gt_ok : OpD X.K G .i (rI0 fun i j => .bl (decide (j < i))) gtD := by
  intro S W H x y dx dy d Q wok ix iy e q
  cases dx with
  | int i =>
    cases dy with
    | int j =>
      cases e
      exact ⟨i, j, ix.intv, iy.intv, q.here wok (.bl _)⟩
    | _ => cases e
  | _ => cases e
theorem ge_ok : OpD X.K G .i (rI0 fun i j => .bl (decide (j ≤ i))) geD := by
  intro S W H x y dx dy d Q wok ix iy e q
  cases dx with
  | int i =>
    cases dy with
    | int j =>
      cases e
      exact ⟨i, j, ix.intv, iy.intv, q.here wok (.bl _)⟩
    | _ => cases e
  | _ => cases e
def rLeA : R2 := fun x y H Q => (rI0 fun i j => .bl (decide (i ≤ j))) x y H Q ∨ (∃ i j, x = .str i ∧ y = .str j ∧ Q (.bl (!decide (j.cps.toList < i.cps.toList))) H)
theorem op_leA : OpR X (compareOp .LtE) rLeA := OpR.or op_le op_le_str
theorem le_ok : OpD X.K G .i rLeA leD := by
  intro S W H x y dx dy d Q wok ix iy e q
  cases dx with
  | int i =>
    cases dy with
    | int j =>
      cases e
      exact .inl ⟨i, j, ix.intv, iy.intv, q.here wok (.bl _)⟩
    | _ => cases e
  | str i =>
    cases dy with
    | str j =>
      cases e
      exact .inr ⟨i, j, ix.strv, iy.strv, q.here wok (.bl _)⟩
    | _ => cases e
  | _ => cases e
def rEqA (K : PySem.W.Frag) : R2 := fun x y H Q => rEq x y H Q ∨ rEqD K x y H Q
def rNeA (K : PySem.W.Frag) : R2 := fun x y H Q => rNe x y H Q ∨ rNeD K x y H Q
theorem op_eqA (hu : X.A.units + 64 < cLine) : OpR X (compareOp .Eq) (rEqA X.K) := OpR.or op_eq (op_eqD hu)
theorem op_neA (hu : X.A.units + 64 < cLine) : OpR X (compareOp .NotEq) (rNeA X.K) := OpR.or op_ne (op_neD hu)
/-- either like scalars, or data of a shape -/
theorem eqB_or {W : Wd} {S : Mem} {H : Hp} {x y : V} {dx dy : D} {b : Bool} {K : PySem.W.Frag} (wok : WOk K G W S H) (ix : View K W H x dx) (iy : View K W H y dy) (e : eqB dx dy = some b) :
    (scal x y = true ∧ decide (x = y) = b) ∨ ∃ d e, Dp K H x d ∧ Dp K H y e ∧ SeqAt.shaped d = true ∧ SeqAt.shaped e = true ∧ PyData.eqv d e = b := by
  have data : ∀ {dx dy : D}, View K W H x dx → View K W H y dy → (if (pureD dx && pureD dy) = true then some (PyData.eqv (py dx) (py dy)) else none) = some b →
      ∃ d e, Dp K H x d ∧ Dp K H y e ∧ SeqAt.shaped d = true ∧ SeqAt.shaped e = true ∧ PyData.eqv d e = b := fun {dx dy} ix iy e => by
    by_cases hz : (pureD dx && pureD dy) = true
    · rw [if_pos hz] at e
      have hz := Bool.and_eq_true_iff.mp hz
      exact ⟨py dx, py dy, ix.dp wok hz.1, iy.dp wok hz.2, hz.1, hz.2, Option.some.inj e⟩
    · rw [if_neg hz] at e
      cases e
  cases dx with
  | int i =>
    cases dy with
    | int j =>
      have e1 := ix.intv
      have e2 := iy.intv
      subst e1 e2
      refine .inl ⟨rfl, ?_⟩
      have e3 : decide (i = j) = b := Option.some.inj e
      rw [dec_int, ← e3]
      rfl
    | non =>
      have e1 := ix.intv
      have e2 := iy.nonv
      subst e1 e2
      exact .inl ⟨rfl, by rw [← Option.some.inj e]; rfl⟩
    | _ => exact .inr (data ix iy e)
  | str i =>
    cases dy with
    | str j =>
      have e1 := ix.strv
      have e2 := iy.strv
      subst e1 e2
      refine .inl ⟨rfl, ?_⟩
      have e3 : decide (i = j) = b := Option.some.inj e
      rw [← e3]
      by_cases hij : i = j
      · subst hij; simp
      · rw [decide_eq_false hij, decide_eq_false (fun z => hij (V.str.inj z))]
    | non =>
      have e1 := ix.strv
      have e2 := iy.nonv
      subst e1 e2
      exact .inl ⟨rfl, by rw [← Option.some.inj e]; rfl⟩
    | _ => exact .inr (data ix iy e)
  | bl i =>
    cases dy with
    | bl j =>
      have e1 := ix.blv
      have e2 := iy.blv
      subst e1 e2
      refine .inl ⟨rfl, ?_⟩
      have e3 : decide (i = j) = b := Option.some.inj e
      rw [← e3]
      by_cases hij : i = j
      · subst hij; simp
      · rw [decide_eq_false hij, decide_eq_false (fun z => hij (V.bl.inj z))]
    | _ => exact .inr (data ix iy e)
  | non =>
    have e1 := ix.nonv
    subst e1
    cases dy with
    | non =>
      have e2 := iy.nonv
      subst e2
      exact .inl ⟨rfl, by rw [← Option.some.inj e]; rfl⟩
    | int j =>
      have e2 := iy.intv
      subst e2
      exact .inl ⟨rfl, by rw [← Option.some.inj e]; rfl⟩
    | str j =>
      have e2 := iy.strv
      subst e2
      exact .inl ⟨rfl, by rw [← Option.some.inj e]; rfl⟩
    | _ => exact .inr (data ix iy e)
  | _ => exact .inr (data ix iy e)
theorem eq_ok : OpD X.K G .i (rEqA X.K) eqD := by
  intro S W H x y dx dy d Q wok ix iy e q
  unfold eqD at e
  cases e1 : eqB dx dy with
  | none => rw [e1] at e; cases e
  | some b =>
    rw [e1] at e
    cases e
    rcases eqB_or wok ix iy e1 with ⟨h1, h2⟩ | ⟨d, f, h1, h2, h3, h4, h5⟩
    · exact .inl ⟨h1, by rw [h2]; exact q.here wok (.bl _)⟩
    · exact .inr ⟨d, f, h1, h2, h3, h4, by rw [h5]; exact q.here wok (.bl _)⟩
theorem ne_ok : OpD X.K G .i (rNeA X.K) neD := by
  intro S W H x y dx dy d Q wok ix iy e q
  unfold neD at e
  cases e1 : eqB dx dy with
  | none => rw [e1] at e; cases e
  | some b =>
    rw [e1] at e
    cases e
    rcases eqB_or wok ix iy e1 with ⟨h1, h2⟩ | ⟨d, f, h1, h2, h3, h4, h5⟩
    · exact .inl ⟨h1, by rw [h2]; exact q.here wok (.bl _)⟩
    · exact .inr ⟨d, f, h1, h2, h3, h4, by rw [h5]; exact q.here wok (.bl _)⟩
theorem View.non_iff {K : PySem.W.Frag} {W : Wd} {H : Hp} {x : V} {dx : D} (ix : View K W H x dx) : decide (x = .non) = isNonB dx := by
  rcases ix with ix | ⟨l, vs, ds, rfl, rfl, _⟩
  · cases ix <;> rfl
  · rfl
theorem isN_ok : OpD X.K G .i (fun x y H Q => y = .non ∧ Q (.bl (decide (x = .non))) H) isNonD := by
  intro S W H x y dx dy d Q wok ix iy e q
  cases dy with
  | non =>
    cases e
    exact ⟨iy.nonv, by rw [ix.non_iff]; exact q.here wok (.bl _)⟩
  | _ => cases e
theorem notN_ok : OpD X.K G .i (fun x y H Q => y = .non ∧ Q (.bl (!decide (x = .non))) H) notNonD := by
  intro S W H x y dx dy d Q wok ix iy e q
  cases dy with
  | non =>
    cases e
    exact ⟨iy.nonv, by rw [ix.non_iff]; exact q.here wok (.bl _)⟩
  | _ => cases e
/-! ### in -/
theorem toV_of {K : PySem.W.Frag} {ad : List Addr} {h : Hp} {v : V} {d : D} (q : Is K ad h v d) (f : flatD d = true) : v = toV d ∧ flatV v = true := by
  cases q <;> first | exact ⟨rfl, rfl⟩ | cases f
theorem toVs_of {K : PySem.W.Frag} {ad : List Addr} {h : Hp} : ∀ {vs : List V} {ds : List D}, IsL K ad h vs ds → ds.all flatD = true → vs = ds.map toV ∧ vs.all flatV = true
  | _, _, .nil, _ => ⟨rfl, rfl⟩
  | _, _, .cons q r, f => by
    rw [List.all_cons, Bool.and_eq_true] at f
    obtain ⟨e1, f1⟩ := toV_of q f.1
    obtain ⟨e2, f2⟩ := toVs_of r f.2
    exact ⟨by rw [List.map_cons, e1, e2], by rw [List.all_cons, f1, f2]; rfl⟩
theorem View.flat {K : PySem.W.Frag} {W : Wd} {H : Hp} {x : V} {dx : D} (ix : View K W H x dx) (f : flatD dx = true) : x = toV dx ∧ flatV x = true := by
  rcases ix with ix | ⟨l, vs, ds, rfl, rfl, _⟩
  · exact toV_of ix f
  · cases f
def rInA (K : PySem.W.Frag) (neg : Bool) : R2 := fun x y H Q => rIn K neg x y H Q ∨ (∃ (c : Nat) (z : Str), x = .str ⟨#[c]⟩ ∧ y = .str z ∧ Q (.bl (if neg then !decide (c ∈ z.cps.toList) else decide (c ∈ z.cps.toList))) H) ∨
  (∃ i j, x = .str i ∧ y = .str j ∧ Q (.bl (if neg then !(!(Builtin.Str.occurrences j i 0 j.length 1).isEmpty) else !(Builtin.Str.occurrences j i 0 j.length 1).isEmpty)) H)
theorem op_inA : OpR X (compareOp .In) (rInA X.K false) := OpR.or op_in_seq (OpR.or op_in_sign op_in_str)
theorem op_notInA : OpR X (compareOp .NotIn) (rInA X.K true) := OpR.or op_notIn_seq (OpR.or op_notIn_sign op_notIn_str)
theorem in_any {neg : Bool} {S : Mem} {W : Wd} {H : Hp} {x y : V} {dx dy : D} {b : Bool} {Q : VK} (wok : WOk X.K G W S H) (ix : View X.K W H x dx) (iy : View X.K W H y dy) (e : inB dx dy = some b) (q : Q (.bl (if neg then !b else b)) H) : rInA X.K neg x y H Q := by
  have seq : ∀ {vs : List V} {ds : List D}, IstL X.K W vs ds → memB dx ds = some b → flatV x = true ∧ vs.all flatV = true ∧ inV x vs = b := fun {vs ds} h2 e => by
    unfold memB at e
    by_cases hz : (flatD dx && ds.all flatD) = true
    · rw [if_pos hz] at e
      have hz := Bool.and_eq_true_iff.mp hz
      obtain ⟨e1, f1⟩ := ix.flat hz.1
      obtain ⟨e2, f2⟩ := toVs_of h2 hz.2
      exact ⟨f1, f2, by rw [e1, e2]; exact Option.some.inj e⟩
    · rw [if_neg hz] at e
      cases e
  cases dy with
  | tup ds =>
    have e : memB dx ds = some b := by
      cases dx <;> exact e
    obtain ⟨a, vs, rfl, h1, h2⟩ := iy.tupv wok
    obtain ⟨f1, f2, f3⟩ := seq h2 e
    refine .inl ⟨a, vs, rfl, .inr h1, f1, f2, ?_⟩
    rw [f3]
    exact q
  | lst ds =>
    have e : memB dx ds = some b := by
      cases dx <;> exact e
    obtain ⟨a, vs, rfl, h1, h2⟩ := iy.lstv wok
    obtain ⟨f1, f2, f3⟩ := seq h2 e
    refine .inl ⟨a, vs, rfl, .inl (SqL.of h1), f1, f2, ?_⟩
    rw [f3]
    exact q
  | str z =>
    cases dx with
    | str i =>
      have e : inStr i z = b := Option.some.inj e
      unfold inStr at e
      split at e
      · rename_i c hc
        refine .inr (.inl ⟨c, z, ?_, iy.strv, ?_⟩)
        · rw [ix.strv]
          obtain ⟨cps⟩ := i
          have : cps = #[c] := by
            apply Array.ext'
            exact hc
          rw [this]
        · rw [e]
          exact q
      · refine .inr (.inr ⟨i, z, ix.strv, iy.strv, ?_⟩)
        rw [e]
        exact q
    | _ => cases e
  | _ => cases dx <;> cases e
theorem in_ok : OpD X.K G .i (rInA X.K false) inD := by
  intro S W H x y dx dy d Q wok ix iy e q
  unfold inD at e
  cases e1 : inB dx dy with
  | none => rw [e1] at e; cases e
  | some b =>
    rw [e1] at e
    cases e
    exact in_any wok ix iy e1 (q.here wok (.bl _))
theorem notIn_ok : OpD X.K G .i (rInA X.K true) notInD := by
  intro S W H x y dx dy d Q wok ix iy e q
  unfold notInD at e
  cases e1 : inB dx dy with
  | none => rw [e1] at e; cases e
  | some b =>
    rw [e1] at e
    cases e
    exact in_any wok ix iy e1 (q.here wok (.bl _))
/-! ### subscripts -/
theorem atI_map {α β : Type} {xs : List α} {f : α → β} {i : Int} : atI (xs.map f) i = (atI xs i).map f := by
  unfold atI
  rw [List.length_map]
  cases ixN xs.length i with
  | none => rfl
  | some j => simp
theorem IsL.at {K : PySem.W.Frag} {ad : List Addr} {h : Hp} {vs : List V} {ds : List D} {i : Int} {d : D} (q : IsL K ad h vs ds) (e : atI ds i = some d) : ∃ v, atI vs i = some v ∧ Is K ad h v d := by
  unfold atI at e ⊢
  rw [q.length]
  cases e1 : ixN ds.length i with
  | none => rw [e1] at e; cases e
  | some j =>
    rw [e1] at e
    exact q.get e
theorem ix_ok : OpD X.K G .i (rIx X.K) idxD := by
  intro S W H x y dx dy d Q wok ix iy e q
  cases dx with
  | tup ds =>
    cases dy with
    | int i =>
      obtain ⟨a, vs, rfl, h1, h2⟩ := ix.tupv wok
      obtain ⟨v, e1, e2⟩ := h2.at e
      exact .inr (.inl ⟨a, vs, i, v, rfl, iy.intv, h1, e1, q.here wok e2⟩)
    | _ => cases e
  | lst ds =>
    cases dy with
    | int i =>
      obtain ⟨a, vs, rfl, h1, h2⟩ := ix.lstv wok
      obtain ⟨v, e1, e2⟩ := h2.at e
      exact .inl ⟨a, vs, i, v, rfl, iy.intv, SqL.of h1, e1, q.here wok e2⟩
    | _ => cases e
  | frz ds =>
    cases dy with
    | int i =>
      obtain ⟨a, vs, rfl, h1, h2⟩ := ix.frzv wok
      obtain ⟨v, e1, e2⟩ := h2.at e
      exact .inl ⟨a, vs, i, v, rfl, iy.intv, h1, e1, q.here wok e2⟩
    | _ => cases e
  | str z =>
    cases dy with
    | int i =>
      dsimp only [idxD] at e
      by_cases hz : z.length ≤ 1000000
      · rw [if_pos hz] at e
        cases e1 : atI z.cps.toList i with
        | none => rw [e1] at e; cases e
        | some c =>
          rw [e1] at e
          cases e
          exact .inr (.inr ⟨z, i, c, ix.strv, iy.intv, sz6 hz, e1, q.here wok (.str _)⟩)
      · rw [if_neg hz] at e
        cases e
    | _ => cases e
  | _ => cases e
variable {E : XK} {a b e : Expr} {fa fb f : Sem} {pos : Pos}
theorem e_ix (ha : SE G E .v X a fa) (hb : SE G E .v X b fb) (hs : PlainIx b := by exact fun _ _ => rfl) : SE G E .i X (.Subscript a b pos) (bin idxD fa fb) := by
  obtain ⟨ta, pa, sa⟩ := ha
  obtain ⟨tb, pb, sb⟩ := hb
  exact ⟨_, pe_ix ix_seq pa pb hs, snd_bin sa sb ix_ok⟩
/-- a part of a slice -/
abbrev SemP := Env → Mem → Res (Option Int)
def pN : SemP := fun _ S => .ok none S
def pS (f : Sem) : SemP := fun ρ S => (f ρ S).bind fun x S1 => match x with
  | .int i => .ok (some i) S1
  | _ => .no
abbrev okP (K : PySem.W.Frag) (G : Gm) (W : Wd) (H : Hp) (Q : Option Int → Hp → Prop) : Option Int → Mem → Prop := fun o S' => ∀ W' H', Step W H W' H' → WOk K G W' S' H' → Q o H'
def SP' (G : Gm) (E : XK) (X : Cx) (e : Option Expr) (f : SemP) : Prop := ∃ t, PO X e t ∧ ∀ (ρ : Env) (σ : L2.St) (S : Mem) (W : Wd) (H : Hp) (Q : Option Int → Hp → Prop), Rep X.K G ρ σ S W H → Pg X.K G E W H (okP X.K G W H Q) (f ρ S) → t σ H Q
theorem p_none : SP' G E X none pN := ⟨_, po_none, fun ρ σ S W H Q rep post => post W H (Step.refl W H) rep.wok⟩
theorem p_some (h : SE G E .v X e f) : SP' G E X (some e) (pS f) := by
  obtain ⟨t, p, s⟩ := h
  refine ⟨_, po_some p, fun ρ σ S W H Q rep post => ?_⟩
  refine s.go rep (Step.refl W H) post fun dx S1 x W1 H1 st1 s01 rep1 is1 post => ?_
  cases dx with
  | int i => exact ⟨i, is1.intv, post W1 H1 st1 rep1.wok⟩
  | _ => exact (show False from post).elim
def cutD (ds : List D) (lo hi : Option Int) : List D := (ds.drop (HT.sIx ds.length 0 lo)).take (HT.sIx ds.length ds.length hi - HT.sIx ds.length 0 lo)
def sliceD : D → Option Int → Option Int → Option D
  | .str z, lo, hi => if z.length ≤ 1000000 then some (.str (cutS z lo hi)) else none
  | .lst ds, lo, hi => some (.lst (cutD ds lo hi))
  | .tup ds, lo, hi => some (.tup (cutD ds lo hi))
  | _, _, _ => none
def slc (f : Sem) (l u : SemP) : Sem := fun ρ S => (f ρ S).bind fun x S1 => (l ρ S1).bind fun lo S2 => (u ρ S2).bind fun hi S3 => Res.opt (sliceD x lo hi) S3
theorem SP'.go {t : TO} {g : SemP} (h : ∀ (ρ : Env) (σ : L2.St) (S : Mem) (W : Wd) (H : Hp) (Q : Option Int → Hp → Prop), Rep X.K G ρ σ S W H → Pg X.K G E W H (okP X.K G W H Q) (g ρ S) → t σ H Q)
    {β : Type} {F : Option Int → Mem → Res β} {ok : β → Mem → Prop} {ρ : Env} {σ : L2.St} {S : Mem} {W W0 : Wd} {H H0 : Hp} {Q : Option Int → Hp → Prop} (r : Rep X.K G ρ σ S W H) (s0 : Step W0 H0 W H) (post : Pg X.K G E W0 H0 ok ((g ρ S).bind F))
    (cont : ∀ o S1 W1 H1, Step W H W1 H1 → Step W0 H0 W1 H1 → Rep X.K G ρ σ S1 W1 H1 → Pg X.K G E W0 H0 ok (F o S1) → Q o H1) : t σ H Q := by
  refine h ρ σ S W H Q r ?_
  cases e : g ρ S with
  | no => rw [e] at post; exact post
  | er x S1 => rw [e] at post; exact ErrP.step s0 post
  | ok d S1 =>
    rw [e] at post
    exact fun W1 H1 st ok1 => cont d S1 W1 H1 st (s0.trans st) (r.step st ok1) post
theorem IsL.cut {K : PySem.W.Frag} {ad : List Addr} {h : Hp} {vs : List V} {ds : List D} {lo hi : Option Int} (q : IsL K ad h vs ds) : IsL K ad h (cutV vs lo hi) (cutD ds lo hi) := by
  unfold cutV cutD
  rw [q.length]
  exact (q.drop _).take _
def rSlAny (K : PySem.W.Frag) : V → Option Int → Option Int → Hp → VK → Prop := fun x lo hi H Q => rSlS x lo hi H Q ∨ rSlL K x lo hi H Q ∨ rSlA K x lo hi H Q
theorem sl_any : SlR X (rSlAny X.K) := SlR.or sl_str (SlR.or sl_list sl_tupA)
theorem cutD_whole {ds : List D} {lo hi : Option Int} (h : HT.sIx ds.length 0 lo = 0 ∧ HT.sIx ds.length ds.length hi = ds.length) : cutD ds lo hi = ds := by
  unfold cutD
  rw [h.1, h.2]
  simp
theorem slice_ok {S : Mem} {W : Wd} {H : Hp} {x : V} {dx d : D} {lo hi : Option Int} {Q : VK} (wok : WOk X.K G W S H) (ix : View X.K W H x dx) (e : sliceD dx lo hi = some d) (q : okE X.K G .i W H Q d S) : rSlAny X.K x lo hi H Q := by
  cases dx with
  | str z =>
    dsimp only [sliceD] at e
    by_cases hz : z.length ≤ 1000000
    · rw [if_pos hz] at e
      cases e
      exact .inl ⟨z, ix.strv, sz6 hz, q.here wok (.str _)⟩
    · rw [if_neg hz] at e
      cases e
  | lst ds =>
    cases e
    obtain ⟨a, vs, rfl, h1, h2⟩ := ix.lstv wok
    exact .inr (.inl ⟨a, vs, rfl, SqL.of h1, fun p hp => q.newLi wok h2.cut hp⟩)
  | tup ds =>
    cases e
    have ix' := ix.tup
    obtain ⟨a, vs, rfl, h1, h2⟩ := ix.tupv wok
    refine .inr (.inr ⟨a, vs, rfl, h1, fun w => ?_, fun w p hp => q.newT wok h2.cut hp⟩)
    rw [h2.length] at w
    rw [cutD_whole w] at q
    exact q.here wok ix'
  | _ => cases e
theorem e_sl {lo hi : Option Expr} {l u : SemP} {p2 : Pos} (ha : SE G E .v X e f) (hl : SP' G E X lo l) (hu : SP' G E X hi u) : SE G E .i X (.Subscript e (.Slice lo hi none p2) pos) (slc f l u) := by
  obtain ⟨t, p, s⟩ := ha
  obtain ⟨tl, pl, sl⟩ := hl
  obtain ⟨tu, pu, su⟩ := hu
  refine ⟨_, pe_slice sl_any p pl pu, fun ρ σ S W H Q rep post => ?_⟩
  refine s.go rep (Step.refl W H) post fun dx S1 x W1 H1 st1 s01 rep1 is1 post => ?_
  refine SP'.go sl rep1 s01 post fun lo' S2 W2 H2 st2 s02 rep2 post => ?_
  refine SP'.go su rep2 s02 post fun hi' S3 W3 H3 st3 s03 rep3 post => ?_
  cases e3 : sliceD dx lo' hi' with
  | none => rw [e3] at post; exact post.elim
  | some d =>
    rw [e3] at post
    exact slice_ok rep3.wok (View.step st3 (View.step st2 is1)) e3 fun v W' H' st4 ok4 rr => post v W' H' (s03.trans st4) ok4 (rr.pre (k := .i) s03)
/-! ### calls of what is built in -/
def CallD (K : PySem.W.Frag) (G : Gm) (k : Rk) (r : List V → Hp → VK → Prop) (g : List D → Option D) : Prop := ∀ (S : Mem) (W : Wd) (H : Hp) (vs : List V) (ds : List D) (d : D) (Q : VK), WOk K G W S H → AllR (View K W H) vs ds → g ds = some d → okE K G k W H Q d S → r vs H Q
def cal (g : List D → Option D) (fs : SemL) : Sem := fun ρ S => (fs ρ S).bind fun xs S1 => Res.opt (g xs) S1
theorem snd_cal {t : TA} {r : List V → Hp → VK → Prop} {g : List D → Option D} {fs : SemL} {k : Rk} {K : PySem.W.Frag} (s : SndA K G E true t fs) (hg : CallD K G k r g) : SndE K G E k (tCB r t) (cal g fs) := by
  intro ρ σ S W H Q rep post
  refine s.go rep (Step.refl W H) post fun ds S1 vs W1 H1 st1 s01 rep1 is1 post => ?_
  cases e3 : g ds with
  | none => rw [e3] at post; exact post.elim
  | some d =>
    rw [e3] at post
    exact hg S1 W1 H1 vs ds d Q rep1.wok is1 e3 fun v W' H' st3 ok3 rr => post v W' H' (s01.trans st3) ok3 (rr.pre s01)
theorem e_cb {id : String} {r : List V → Hp → VK → Prop} {g : List D → Option D} {fs : SemL} {k : Rk} {x : Str} {p : Pos} {es : List Expr} (hc : CallR X (.builtin id) r) (hg : CallD X.K G k r g) (hgl : Gl X x) (hm : X.mg x = none) (hv : bootBuiltins x = some (.builtin id))
    (ha : SA G E true X (e :: es) fs) (hn : x ≠ "__name__" := by decide) (hdb : (x == ("__debug__" : Str)) = false := by decide) (hst : starEach (e :: es) X.env = (false, eval e X.env) :: starEach es X.env := by rfl) (hpl : (backTo pos (starEach es X.env)).any (·.1) = false := by rfl) : SE G E k X (.Call (.Name x p) (e :: es) [] pos) (cal g fs) := by
  obtain ⟨t, p, s⟩ := ha
  exact ⟨_, pe_callB hc hgl hm hv p hn hdb hst hpl, snd_cal s hg⟩
theorem e_cty {T : String} {r : List V → Hp → VK → Prop} {g : List D → Option D} {fs : SemL} {k : Rk} {x : Str} {p : Pos} {es : List Expr} (hc : CallR X (.type T) r) (hg : CallD X.K G k r g) (hgl : Gl X x) (hm : X.mg x = none) (hv : bootBuiltins x = some (.type T))
    (ha : SA G E true X (e :: es) fs) (hn : x ≠ "__name__" := by decide) (hdb : (x == ("__debug__" : Str)) = false := by decide) (hst : starEach (e :: es) X.env = (false, eval e X.env) :: starEach es X.env := by rfl) (hpl : (backTo pos (starEach es X.env)).any (·.1) = false := by rfl) : SE G E k X (.Call (.Name x p) (e :: es) [] pos) (cal g fs) := by
  obtain ⟨t, p, s⟩ := ha
  exact ⟨_, pe_callTy hc hgl hm hv p hn hdb hst hpl, snd_cal s hg⟩
end
end Dl
/-! DlD: statements, loops, comprehensions, defs. -/
namespace Dl
open PySem L2
/-! ### the world grows -/
structure WGe (W W' : Wd) : Prop where
  ex : ∀ a o, W.h a = some o → W'.h a = some o
  ad : ∃ m, W'.ad = W.ad ++ m
theorem WGe.refl (W : Wd) : WGe W W := ⟨fun _ _ h => h, [], by simp⟩
theorem WGe.trans {W W1 W2 : Wd} (a : WGe W W1) (b : WGe W1 W2) : WGe W W2 := by
  obtain ⟨m1, e1⟩ := a.ad
  obtain ⟨m2, e2⟩ := b.ad
  exact ⟨fun c o h => b.ex c o (a.ex c o h), m1 ++ m2, by rw [e2, e1, List.append_assoc]⟩
theorem Step.ge {W W' : Wd} {H H' : Hp} (s : Step W H W' H') : WGe W W' := ⟨s.ex, s.adp⟩
theorem Is.ge {K : PySem.W.Frag} {W W' : Wd} {v : V} {d : D} (g : WGe W W') (q : Ist K W v d) : Ist K W' v d := Is.ex g.ex g.ad q
theorem IsL.ge {K : PySem.W.Frag} {W W' : Wd} {v : List V} {d : List D} (g : WGe W W') (q : IstL K W v d) : IstL K W' v d := IsL.ex g.ex g.ad q
def Own0 (H0 : Hp) (ρ : Env) (σ : L2.St) : Prop := ∀ (i : Nat) (ds : List D) (l : Addr), ρ[i]? = some (.own ds) → σ[i]? = some (some (.ref l)) → H0 l = none
structure RepS (K : PySem.W.Frag) (G : Gm) (Wb W0 : Wd) (H0 : Hp) (ρ : Env) (σ : L2.St) (S : Mem) (W : Wd) (H : Hp) : Prop where
  rep : Rep K G ρ σ S W H
  st : Step W0 H0 W H
  own : Own0 H0 ρ σ
  ge : WGe Wb W
def PostS (K : PySem.W.Frag) (G : Gm) (E : XK) (k : Rk) (Wb W0 : Wd) (H0 : Hp) (Dn : Ends) : Fl → Prop
  | .nx ρ S => ∀ σ W H, RepS K G Wb W0 H0 ρ σ S W H → Dn.nx σ H
  | .bk ρ S => ∀ σ W H, RepS K G Wb W0 H0 ρ σ S W H → Dn.bk σ H
  | .ct ρ S => ∀ σ W H, RepS K G Wb W0 H0 ρ σ S W H → Dn.ct σ H
  | .rt d S => ∀ v W H, Step W0 H0 W H → WOk K G W S H → RR K k H0 W H v d → Dn.rt v H
  | .er x S => ErrP K G E W0 H0 x S
  | .no => False
def SndS (K : PySem.W.Frag) (G : Gm) (E : XK) (k : Rk) (t : TS) (g : SemS) : Prop := ∀ (Wb W0 : Wd) (H0 : Hp) (ρ : Env) (σ : L2.St) (S : Mem) (W : Wd) (H : Hp) (Dn : Ends), RepS K G Wb W0 H0 ρ σ S W H → PostS K G E k Wb W0 H0 Dn (g ρ S) → t Dn σ H
def SS (G : Gm) (E : XK) (k : Rk) (X : Cx) (st : Stmt) (g : SemS) : Prop := ∃ t, PS X st t ∧ SndS X.K G E k t g
def SSs (G : Gm) (E : XK) (k : Rk) (X : Cx) (st : List Stmt) (g : SemS) : Prop := ∃ t, PSs X st t ∧ SndS X.K G E k t g
section
variable {K : PySem.W.Frag} {G : Gm} {E : XK} {k : Rk} {Wb W0 W W' : Wd} {H0 H H' : Hp} {ρ : Env} {σ : L2.St} {S S' : Mem}
theorem RepS.step (r : RepS K G Wb W0 H0 ρ σ S W H) (s : Step W H W' H') (k : WOk K G W' S' H') : RepS K G Wb W0 H0 ρ σ S' W' H' :=
  ⟨r.rep.step s k, r.st.trans s, r.own, r.ge.trans s.ge⟩
theorem RepS.set (r : RepS K G Wb W0 H0 ρ σ S W H) {i : Nat} {v : V} {d : D} (q : Ist K W v d) : RepS K G Wb W0 H0 (ρ.set i (.dat d)) (σ.set i (some v)) S W H := by
  refine ⟨r.rep.set q, r.st, fun j ds l e1 e2 => ?_, r.ge⟩
  by_cases hj : i = j
  · subst hj
    have hl : i < ρ.length := by
      have := (List.getElem?_eq_some_iff.mp e1).1
      rwa [List.length_set] at this
    rw [List.getElem?_set_self hl] at e1
    cases e1
  · rw [List.getElem?_set_ne hj] at e1 e2
    exact r.own j ds l e1 e2
theorem RepS.base (r : RepS K G Wb W0 H0 ρ σ S W H) {Wc : Wd} (g : WGe Wc W) : RepS K G Wc W0 H0 ρ σ S W H := ⟨r.rep, r.st, r.own, g⟩
/-- an expression in a statement -/
theorem SndE.goS {t : TE} {f : Sem} {F : D → Mem → Fl} {k1 : Rk} {Dn : Ends} {Q : VK} (h : SndE K G E k1 t f) (r : RepS K G Wb W0 H0 ρ σ S W H) (post : PostS K G E k Wb W0 H0 Dn ((f ρ S).bindF F))
    (cont : ∀ d S1 v W1 H1, Step W H W1 H1 → RepS K G Wb W0 H0 ρ σ S1 W1 H1 → RR K k1 H W1 H1 v d → PostS K G E k Wb W0 H0 Dn (F d S1) → Q v H1) : t σ H Q := by
  refine h ρ σ S W H Q r.rep ?_
  cases e : f ρ S with
  | no => rw [e] at post; exact post
  | er x S1 => rw [e] at post; exact ErrP.step r.st post
  | ok d S1 =>
    rw [e] at post
    exact fun v W1 H1 st ok1 rr => cont d S1 v W1 H1 st (r.step st ok1) rr post
theorem SndT.goS {t : TT} {f : Sem} {F : D → Mem → Fl} {Dn : Ends} {Q : Bool → Hp → Prop} (h : SndT K G E t f) (r : RepS K G Wb W0 H0 ρ σ S W H) (post : PostS K G E k Wb W0 H0 Dn ((f ρ S).bindF F)) (hb : ∀ d S1, PostS K G E k Wb W0 H0 Dn (F d S1) → ∃ b, d = .bl b)
    (cont : ∀ b S1 W1 H1, Step W H W1 H1 → RepS K G Wb W0 H0 ρ σ S1 W1 H1 → PostS K G E k Wb W0 H0 Dn (F (.bl b) S1) → Q b H1) : t σ H Q := by
  refine h ρ σ S W H Q r.rep ?_
  cases e : f ρ S with
  | no => rw [e] at post; exact post
  | er x S1 => rw [e] at post; exact ErrP.step r.st post
  | ok d S1 =>
    rw [e] at post
    obtain ⟨b, rfl⟩ := hb d S1 post
    exact ⟨b, rfl, fun W1 H1 st ok1 => cont b S1 W1 H1 st (r.step st ok1) post⟩
end
/-! ### blocks, assignments -/
def sq (g1 g2 : SemS) : SemS := fun ρ S => match g1 ρ S with
  | .nx ρ' S' => g2 ρ' S'
  | .bk ρ' S' => .bk ρ' S'
  | .ct ρ' S' => .ct ρ' S'
  | .rt d S' => .rt d S'
  | .er x S' => .er x S'
  | .no => .no
def skip : SemS := fun ρ S => .nx ρ S
def asg (i : Nat) (f : Sem) : SemS := fun ρ S => (f ρ S).bindF fun d S1 => .nx (ρ.set i (.dat d)) S1
def asgO (i : Nat) (f : Sem) : SemS := fun ρ S => (f ρ S).bindF fun d S1 => match d with
  | .lst ds => .nx (ρ.set i (.own ds)) S1
  | _ => .no
/-- a new list becomes one of the objects that change -/
def asgN (i : Nat) (f : Sem) : SemS := fun ρ S => (f ρ S).bindF fun d S1 => match d with
  | .lst ds => .nx (ρ.set i (.dat (.obj S1.length))) (S1 ++ [.lst ds])
  | _ => .no
def drp (f : Sem) : SemS := fun ρ S => (f ρ S).bindF fun _ S1 => .nx ρ S1
def ret (f : Sem) : SemS := fun ρ S => (f ρ S).bindF fun d S1 => .rt d S1
def retN : SemS := fun _ S => .rt .non S
def ifs (c : Sem) (g1 g2 : SemS) : SemS := fun ρ S => (c ρ S).bindF fun d S1 => match d with
  | .bl true => g1 ρ S1
  | .bl false => g2 ρ S1
  | _ => .no
def nev : SemS := fun _ _ => .no
def aug (i : Nat) (g : D → D → Option D) (f : Sem) : SemS := fun ρ S => match ρ[i]? with
  | some (.dat x) => (f ρ S).bindF fun y S1 => match g x y with
    | some z => .nx (ρ.set i (.dat z)) S1
    | none => .no
  | _ => .no
def app (i : Nat) (f : Sem) : SemS := fun ρ S => match ρ[i]? with
  | some (.own ds) => (f ρ S).bindF fun d S1 => if ds.length < 1000000 then .nx (ρ.set i (.own (ds ++ [d]))) S1 else .no
  | _ => .no
/-- a list of one's own is let be -/
def frzS (i : Nat) (g : SemS) : SemS := fun ρ S => match ρ[i]? with
  | some (.own ds) => g (ρ.set i (.dat (.lst ds))) S
  | _ => g ρ S
section
variable {G : Gm} {E : XK} {X : Cx} {e : Expr} {f : Sem} {pos pos' : Pos} {k : Rk} {st : Stmt} {rest sts : List Stmt} {g g1 g2 : SemS}
theorem s_nil : SSs G E k X [] skip := ⟨_, pss_nil, fun Wb W0 H0 ρ σ S W H Dn r post => post σ W H r⟩
theorem s_cons (h1 : SS G E k X st g1) (h2 : SSs G E k X rest g2) : SSs G E k X (st :: rest) (sq g1 g2) := by
  obtain ⟨t1, p1, s1⟩ := h1
  obtain ⟨t2, p2, s2⟩ := h2
  refine ⟨_, pss_cons p1 p2, fun Wb W0 H0 ρ σ S W H Dn r post => ?_⟩
  refine s1 Wb W0 H0 ρ σ S W H _ r ?_
  unfold sq at post
  cases q : g1 ρ S with
  | nx ρ' S' =>
    rw [q] at post
    exact fun σ' W' H' r' => s2 Wb W0 H0 ρ' σ' S' W' H' Dn r' post
  | bk ρ' S' => rw [q] at post; exact post
  | ct ρ' S' => rw [q] at post; exact post
  | rt d S' => rw [q] at post; exact post
  | er x S' => rw [q] at post; exact post
  | no => rw [q] at post; exact post
theorem s_one (h1 : SS G E k X st g1) : SSs G E k X [st] g1 := let ⟨t, p, s⟩ := h1; ⟨t, pss_one p, s⟩
theorem s_frz {i : Nat} (h : SSs G E k X sts g) : SSs G E k X sts (frzS i g) := by
  obtain ⟨t, p, s⟩ := h
  refine ⟨t, p, fun Wb W0 H0 ρ σ S W H Dn r post => ?_⟩
  unfold frzS at post
  cases q : ρ[i]? with
  | none => rw [q] at post; exact s Wb W0 H0 ρ σ S W H Dn r post
  | some sl =>
    rw [q] at post
    cases sl with
    | no => exact s Wb W0 H0 ρ σ S W H Dn r post
    | dat d => exact s Wb W0 H0 ρ σ S W H Dn r post
    | own ds =>
      obtain ⟨l, vs, e1, e2, e3, e4, e5⟩ := r.rep.owns q
      have hl0 := r.own i ds l q e1
      · refine s Wb W0 H0 _ σ S (W.add l (.lst vs)) H Dn ⟨⟨r.rep.wok.add e2 e4 e5 (fun ps z => by cases z), by rw [List.length_set]; exact r.rep.len, fun j t ej => ?_, fun j m as bs e6 e7 e8 => ?_⟩, r.st.add hl0 e4, fun j as m e6 e7 => ?_, r.ge.trans ⟨add_ex e4, [], by simp [Wd.add]⟩⟩ post
        · by_cases hj : i = j
          · subst hj
            have hl : i < ρ.length := (List.getElem?_eq_some_iff.mp q).1
            rw [List.getElem?_set_self hl] at ej
            cases ej
            exact ⟨_, e1, .lst (show upd W.h l (.lst vs) l = _ from upd_same) (IsL.add e4 e3)⟩
          · rw [List.getElem?_set_ne hj] at ej
            obtain ⟨o, h1, h2⟩ := r.rep.at_ j t ej
            refine ⟨o, h1, ?_⟩
            cases o with
            | none =>
              cases t with
              | no => trivial
              | dat d => exact h2.elim
              | own as => exact h2.elim
            | some v =>
              cases t with
              | no => trivial
              | dat d => exact Is.add e4 h2
              | own as =>
                obtain ⟨m, ws, rfl, f2, f3, f4, f5⟩ := h2
                refine ⟨m, ws, rfl, f2, IsL.add e4 f3, ?_, f5⟩
                have hm : m ≠ l := fun z => by
                  subst z
                  exact hj (r.rep.own i j ds as q ej (e1.trans h1.symm))
                show upd W.h l (.lst vs) m = none
                rw [upd_ne hm]
                exact f4
        · have nj : i ≠ j := fun z => by
            subst z
            rw [List.getElem?_set_self (List.getElem?_eq_some_iff.mp q).1] at e6
            cases e6
          have nm : i ≠ m := fun z => by
            subst z
            rw [List.getElem?_set_self (List.getElem?_eq_some_iff.mp q).1] at e7
            cases e7
          rw [List.getElem?_set_ne nj] at e6
          rw [List.getElem?_set_ne nm] at e7
          exact r.rep.own j m as bs e6 e7 e8
        · have nj : i ≠ j := fun z => by
            subst z
            rw [List.getElem?_set_self (List.getElem?_eq_some_iff.mp q).1] at e6
            cases e6
          rw [List.getElem?_set_ne nj] at e6
          exact r.own j as m e6 e7
theorem s_never : SS G E k X st nev := ⟨_, ps_never, fun _ _ _ _ _ _ _ _ _ _ post => post.elim⟩
theorem ss_never : SSs G E k X sts nev := ⟨_, pss_never, fun _ _ _ _ _ _ _ _ _ _ post => post.elim⟩
end
end Dl
/-! DlE: assignments, ifs, loops, comprehensions. -/
namespace Dl
open PySem L2
section
variable {K : PySem.W.Frag} {G : Gm} {W W0 W' : Wd} {H H0 H' : Hp} {S S' : Mem}
theorem codeO_lst {c : Addr} {q : Str} (xs : List V) : LamX.CodeO c q ≠ .lst xs := fun z => by
  have z' : HO.ext _ = HO.lst xs := z
  cases z'
/-- a list that no one else holds is written -/
theorem WOk.own (k : WOk K G W S H) {l : Addr} {vs ws : List V} (e : H l = some (.lst vs)) (n : W.h l = none) (na : l ∉ W.ad) : WOk K G W S (upd H l (.lst ws)) := by
  have ne : ∀ {b : Addr} {o : HO}, H b = some o → (∀ xs, o ≠ .lst xs) → b ≠ l := fun {b o} h z q => by
    subst q
    rw [e] at h
    exact z vs (Option.some.inj h).symm
  refine ⟨fun a o h => ?_, k.ntb, k.adn, k.nd, k.len, fun i a o h1 h2 => ?_, fun p hp => ?_⟩
  · rw [upd_ne (ne_of_none h n)]
    exact k.sub a o h
  · have ha : a ≠ l := fun z => na (z ▸ List.mem_of_getElem? h1)
    have q := k.obs i a o h1 h2
    cases o with
    | lst ds => obtain ⟨xs, h3, h4⟩ := q; exact ⟨xs, by rw [upd_ne ha]; exact h3, h4⟩
    | ins c fs => obtain ⟨dx, xs, h3, h4⟩ := q; exact ⟨dx, xs, by rw [upd_ne ha]; exact h3, h4⟩
  · obtain ⟨ps, h1, h2, h3⟩ := k.tab p hp
    refine ⟨ps, by rw [upd_ne (ne h1 (fun xs z => by cases z))]; exact h1, h2, fun pos cv hc => ?_⟩
    obtain ⟨c, e1, e2⟩ := h3 pos cv hc
    exact ⟨c, e1, by rw [upd_ne (ne e2 (fun xs => codeO_lst xs))]; exact e2⟩
/-- .. one of the changing objects -/
theorem WOk.put (k : WOk K G W S H) {l : Addr} {i : Nat} {vs ws : List V} {ds : List D} (hi : W.ad[i]? = some l) (e : H l = some (.lst vs)) (q : IstL K W ws ds) : WOk K G W (S.set i (.lst ds)) (upd H l (.lst ws)) := by
  have na : l ∈ W.ad := List.mem_of_getElem? hi
  have n : W.h l = none := k.adn l na
  have ne : ∀ {b : Addr} {o : HO}, H b = some o → (∀ xs, o ≠ .lst xs) → b ≠ l := fun {b o} h z q => by
    subst q
    rw [e] at h
    exact z vs (Option.some.inj h).symm
  refine ⟨fun a o h => ?_, k.ntb, k.adn, k.nd, by rw [List.length_set]; exact k.len, fun j a o h1 h2 => ?_, fun p hp => ?_⟩
  · rw [upd_ne (ne_of_none h n)]
    exact k.sub a o h
  · by_cases hj : i = j
    · subst hj
      rw [hi] at h1
      cases h1
      have hl : i < S.length := by
        rw [← k.len]
        exact (List.getElem?_eq_some_iff.mp hi).1
      rw [List.getElem?_set_self hl] at h2
      cases h2
      exact ⟨ws, upd_same, q⟩
    · rw [List.getElem?_set_ne hj] at h2
      have ha : a ≠ l := fun z => by
        subst z
        obtain ⟨x1, y1⟩ := List.getElem?_eq_some_iff.mp hi
        obtain ⟨x2, y2⟩ := List.getElem?_eq_some_iff.mp h1
        exact hj ((List.getElem_inj k.nd).mp (y1.trans y2.symm))
      have q := k.obs j a o h1 h2
      cases o with
      | lst ds => obtain ⟨xs, h3, h4⟩ := q; exact ⟨xs, by rw [upd_ne ha]; exact h3, h4⟩
      | ins c fs => obtain ⟨dx, xs, h3, h4⟩ := q; exact ⟨dx, xs, by rw [upd_ne ha]; exact h3, h4⟩
  · obtain ⟨ps, h1, h2, h3⟩ := k.tab p hp
    refine ⟨ps, by rw [upd_ne (ne h1 (fun xs z => by cases z))]; exact h1, h2, fun pos cv hc => ?_⟩
    obtain ⟨c, e1, e2⟩ := h3 pos cv hc
    exact ⟨c, e1, by rw [upd_ne (ne e2 (fun xs => codeO_lst xs))]; exact e2⟩
theorem Step.own (s : Step W0 H0 W H) {l : Addr} {o : HO} (n : H0 l = none ∨ l ∈ W0.ad) : Step W0 H0 W (upd H l o) :=
  ⟨s.ex, s.new, s.ad, fun a u h1 h2 h3 => by
    have ne : a ≠ l := fun z => by
      subst z
      rcases n with n | n
      · rw [n] at h1; cases h1
      · exact h2 n
    rw [upd_ne ne]
    exact s.pres a u h1 h2 h3, fun a h => by
    by_cases e : a = l
    · subst e; rw [upd_same]; simp
    · rw [upd_ne e]; exact s.keep a h⟩
theorem Step.inad (s : Step W0 H0 W H) {l : Addr} (h : l ∈ W.ad) : H0 l = none ∨ l ∈ W0.ad := by
  obtain ⟨m, e, f⟩ := s.ad
  rw [e] at h
  rcases List.mem_append.mp h with h | h
  · exact .inr h
  · exact .inl (f l h)
/-- a new list becomes a changing object -/
theorem WOk.alloc (k : WOk K G W S H) {l : Addr} {vs : List V} {ds : List D} (e : H l = some (.lst vs)) (q : IstL K W vs ds) (n : W.h l = none) (na : l ∉ W.ad) : WOk K G ⟨W.h, W.ad ++ [l]⟩ (S ++ [.lst ds]) H := by
  have up : ∀ {vs : List V} {ds : List D}, IstL K W vs ds → IstL K ⟨W.h, W.ad ++ [l]⟩ vs ds := fun q => IsL.ex (fun _ _ h => h) ⟨[l], rfl⟩ q
  have upF : ∀ {vs : List (Str × V)} {ds : List (Str × D)}, IsF K W vs ds → IsF K ⟨W.h, W.ad ++ [l]⟩ vs ds := by
    intro vs ds q
    induction q with
    | nil => exact .nil
    | cons a _ ih => exact .cons (Is.ex (fun _ _ h => h) ⟨[l], rfl⟩ a) ih
  refine ⟨k.sub, k.ntb, fun a ha => ?_, ?_, by simp [k.len], fun i a o h1 h2 => ?_, k.tab⟩
  · rcases List.mem_append.mp ha with ha | ha
    · exact k.adn a ha
    · have : a = l := by simpa using ha
      subst this
      exact n
  · rw [List.nodup_append]
    exact ⟨k.nd, by simp, fun a ha b hb => by
      have : b = l := by simpa using hb
      subst this
      exact fun z => na (z ▸ ha)⟩
  · by_cases hi : i < W.ad.length
    · rw [List.getElem?_append_left hi] at h1
      rw [List.getElem?_append_left (by rw [← k.len]; exact hi)] at h2
      have z := k.obs i a o h1 h2
      cases o with
      | lst ds => obtain ⟨xs, h3, h4⟩ := z; exact ⟨xs, h3, up h4⟩
      | ins c fs => obtain ⟨dx, xs, h3, h4⟩ := z; exact ⟨dx, xs, h3, upF h4⟩
    · have hl := (List.getElem?_eq_some_iff.mp h1).1
      rw [List.length_append, List.length_singleton] at hl
      have e1 : i = W.ad.length := by omega
      subst e1
      rw [List.getElem?_append_right (Nat.le_refl _), Nat.sub_self] at h1
      rw [List.getElem?_append_right (by rw [k.len]; exact Nat.le_refl _), k.len, Nat.sub_self] at h2
      cases h1
      cases h2
      exact ⟨vs, e, up q⟩
theorem Step.alloc (s : Step W0 H0 W H) {l : Addr} (n : H0 l = none) : Step W0 H0 ⟨W.h, W.ad ++ [l]⟩ H := by
  obtain ⟨m, e, f⟩ := s.ad
  refine ⟨s.ex, s.new, ⟨m ++ [l], by show W.ad ++ [l] = _; rw [e, List.append_assoc], fun a ha => ?_⟩, s.pres, s.keep⟩
  rcases List.mem_append.mp ha with ha | ha
  · exact f a ha
  · have : a = l := by simpa using ha
    subst this
    exact n
end
section
variable {G : Gm} {E : XK} {X : Cx} {e : Expr} {f : Sem} {pos pos' : Pos} {k : Rk} {st : Stmt} {rest sts : List Stmt} {g g1 g2 : SemS}
/-! ### assignments -/
theorem snd_asg {i : Nat} {te : TE} {K : PySem.W.Frag} (s : SndE K G E .i te f) : SndS K G E k (tAsg te (gName i)) (asg i f) := by
  intro Wb W0 H0 ρ σ S W H Dn r post
  exact s.goS r post fun d S1 v W1 H1 st r1 rr post => post _ W1 H1 (r1.set rr)
theorem s_asg {i : Nat} {x : Str} (hN : X.N.Nodup) (hi : X.N[i]? = some x) (hx : Loc X.env.scope x) (he : SE G E .i X e f) (hs : swapsWith e (some (.Name x pos')) pos.line X.env = pure false := by rfl) (hf : X.fn x = true ∨ X.env.scope.names.lookup x = some .local := by first | exact .inl rfl | exact .inr rfl | assumption) :
    SS G E k X (.Assign [.Name x pos'] e pos) (asg i f) := by
  obtain ⟨t, p, s⟩ := he
  exact ⟨_, ps_set hN hi hx p hs hf, snd_asg s⟩
theorem snd_asgO {i : Nat} {te : TE} {K : PySem.W.Frag} (s : SndE K G E .f te f) : SndS K G E k (tAsg te (gName i)) (asgO i f) := by
  intro Wb W0 H0 ρ σ S W H Dn r post
  refine s.goS r post fun d S1 v W1 H1 st r1 rr post => ?_
  obtain ⟨l, vs, ds, rfl, rfl, e1, e2, e3, e4, e5⟩ := rr
  have nl : ∀ (j : Nat) (es : List D), ρ[j]? = some (.own es) → σ[j]? ≠ some (some (.ref l)) := fun j es h1 h2 => by
    obtain ⟨m, ws, f1, f2, _⟩ := r.rep.owns h1
    rw [h2] at f1
    cases f1
    rw [e1] at f2
    cases f2
  refine post _ W1 H1 ⟨r1.rep.setOwn e2 e3 e4 e5 nl, r1.st, fun j es m h1 h2 => ?_, r1.ge⟩
  by_cases hj : i = j
  · subst hj
    have hl : i < σ.length := by
      have := (List.getElem?_eq_some_iff.mp h1).1
      rw [List.length_set, r.rep.len] at this
      exact this
    rw [List.getElem?_set_self hl] at h2
    cases h2
    exact r.st.back e1
  · rw [List.getElem?_set_ne hj] at h1 h2
    exact r1.own j es m h1 h2
theorem s_asgO {i : Nat} {x : Str} (hN : X.N.Nodup) (hi : X.N[i]? = some x) (hx : Loc X.env.scope x) (he : SE G E .f X e f) (hs : swapsWith e (some (.Name x pos')) pos.line X.env = pure false := by rfl) (hf : X.fn x = true ∨ X.env.scope.names.lookup x = some .local := by first | exact .inl rfl | exact .inr rfl | assumption) :
    SS G E k X (.Assign [.Name x pos'] e pos) (asgO i f) := by
  obtain ⟨t, p, s⟩ := he
  exact ⟨_, ps_set hN hi hx p hs hf, snd_asgO s⟩
theorem snd_asgN {i : Nat} {te : TE} {K : PySem.W.Frag} (s : SndE K G E .f te f) : SndS K G E k (tAsg te (gName i)) (asgN i f) := by
  intro Wb W0 H0 ρ σ S W H Dn r post
  refine s.goS r post fun d S1 v W1 H1 st r1 rr post => ?_
  obtain ⟨l, vs, ds, rfl, rfl, e1, e2, e3, e4, e5⟩ := rr
  have n0 : H0 l = none := r.st.back e1
  have ge1 : WGe W1 ⟨W1.h, W1.ad ++ [l]⟩ := ⟨fun _ _ h => h, [l], rfl⟩
  have r2 : RepS K G Wb W0 H0 ρ σ (S1 ++ [.lst ds]) ⟨W1.h, W1.ad ++ [l]⟩ H1 := by
    refine ⟨⟨r1.rep.wok.alloc e2 e3 e4 e5, r1.rep.len, fun j t ej => ?_, r1.rep.own⟩, r1.st.alloc n0, r1.own, r1.ge.trans ge1⟩
    obtain ⟨o, h1, h2⟩ := r1.rep.at_ j t ej
    refine ⟨o, h1, ?_⟩
    cases o with
    | none =>
      cases t with
      | no => trivial
      | dat d => exact h2.elim
      | own as => exact h2.elim
    | some v =>
      cases t with
      | no => trivial
      | dat d => exact Is.ge ge1 h2
      | own as =>
        obtain ⟨m, ws, rfl, f2, f3, f4, f5⟩ := h2
        refine ⟨m, ws, rfl, f2, IsL.ge ge1 f3, f4, fun hm => ?_⟩
        rcases List.mem_append.mp hm with hm | hm
        · exact f5 hm
        · have hm : m = l := by simpa using hm
          subst hm
          obtain ⟨m', ws', g1, g2, _⟩ := r.rep.owns ej
          rw [h1] at g1
          cases g1
          rw [e1] at g2
          cases g2
  refine post _ _ H1 (r2.set (.obj ?_))
  show (W1.ad ++ [l])[S1.length]? = some l
  rw [← r1.rep.wok.len, List.getElem?_append_right (Nat.le_refl _), Nat.sub_self]
  rfl
theorem s_asgN {i : Nat} {x : Str} (hN : X.N.Nodup) (hi : X.N[i]? = some x) (hx : Loc X.env.scope x) (he : SE G E .f X e f) (hs : swapsWith e (some (.Name x pos')) pos.line X.env = pure false := by rfl) (hf : X.fn x = true ∨ X.env.scope.names.lookup x = some .local := by first | exact .inl rfl | exact .inr rfl | assumption) :
    SS G E k X (.Assign [.Name x pos'] e pos) (asgN i f) := by
  obtain ⟨t, p, s⟩ := he
  exact ⟨_, ps_set hN hi hx p hs hf, snd_asgN s⟩
/-- name op= e -/
theorem s_aug {i : Nat} {x : Str} {op : Operator} {r : R2} {gd : D → D → Option D} (hN : X.N.Nodup) (hi : X.N[i]? = some x) (hx : Loc X.env.scope x) (ho : OpR X (inplaceOp op) r) (hg : OpD X.K G .i r gd) (he : SE G E .v X e f) (hf : X.fn x = true ∨ X.env.scope.names.lookup x = some .local := by first | exact .inl rfl | exact .inr rfl | assumption) :
    SS G E k X (.AugAssign (.Name x pos') op e pos) (aug i gd f) := by
  obtain ⟨t, p, s⟩ := he
  refine ⟨_, ps_aug (ti := r) hN hi hx p ho hf, fun Wb W0 H0 ρ σ S W H Dn r post => ?_⟩
  unfold aug at post
  cases q : ρ[i]? with
  | none => rw [q] at post; exact post.elim
  | some sl =>
    rw [q] at post
    cases sl with
    | no => exact post.elim
    | own ds => exact post.elim
    | dat dx =>
      obtain ⟨v, h1, h2⟩ := r.rep.dat q
      refine ⟨v, h1, ?_⟩
      refine s.goS r post fun dy S1 y W1 H1 st r1 rr post => ?_
      cases e3 : gd dx dy with
      | none => simp only [e3] at post; exact post.elim
      | some d =>
        simp only [e3] at post
        exact hg S1 W1 H1 v y dx dy d _ r1.rep.wok (.inl (Is.step st h2)) rr e3 fun v' W2 H2 st2 ok2 rr2 => post _ W2 H2 ((r1.step st2 ok2).set rr2)
theorem s_drp (he : SE G E .i X e f) (hs : swapsWith e none pos.line X.env = pure false := by rfl) : SS G E k X (.Expr e pos) (drp f) := by
  obtain ⟨t, p, s⟩ := he
  refine ⟨_, ps_expr p hs, fun Wb W0 H0 ρ σ S W H Dn r post => ?_⟩
  exact s.goS r post fun d S1 v W1 H1 st r1 rr post => post _ W1 H1 r1
theorem s_ret (he : SE G E k X e f) : SS G E k X (.Return (some e) pos) (ret f) := by
  obtain ⟨t, p, s⟩ := he
  refine ⟨_, ps_ret p, fun Wb W0 H0 ρ σ S W H Dn r post => ?_⟩
  exact s.goS r post fun d S1 v W1 H1 st r1 rr post => post v W1 H1 r1.st r1.rep.wok (rr.pre r.st)
theorem s_retN : SS G E .i X (.Return none pos) retN := ⟨_, ps_retN, fun Wb W0 H0 ρ σ S W H Dn r post => post _ W H r.st r.rep.wok .non⟩
theorem s_pass : SS G E k X (.Pass pos) skip := ⟨_, ps_pass, fun Wb W0 H0 ρ σ S W H Dn r post => post σ W H r⟩
def brk : SemS := fun ρ S => .bk ρ S
def cont : SemS := fun ρ S => .ct ρ S
theorem s_brk : SS G E k X (.Break pos) brk := ⟨_, ps_break, fun Wb W0 H0 ρ σ S W H Dn r post => post σ W H r⟩
theorem s_cont : SS G E k X (.Continue pos) cont := ⟨_, ps_continue, fun Wb W0 H0 ρ σ S W H Dn r post => post σ W H r⟩
theorem s_if {c : Expr} {fc : Sem} {sa sb : List Stmt} (hc : ST G E X c fc) (ha : SSs G E k X sa g1) (hb : SSs G E k X sb g2) : SS G E k X (.If c sa sb pos) (ifs fc g1 g2) := by
  obtain ⟨tc, pc, sc⟩ := hc
  obtain ⟨ta, pa, sa⟩ := ha
  obtain ⟨tb, pb, sb⟩ := hb
  refine ⟨_, ps_if pc pa pb, fun Wb W0 H0 ρ σ S W H Dn r post => ?_⟩
  refine sc.goS r post (fun d S1 q => ?_) fun b S1 W1 H1 st r1 post => ?_
  · cases d <;> first | exact ⟨_, rfl⟩ | exact (show False from q).elim
  · cases b with
    | true => exact iteT (sa Wb W0 H0 ρ σ S1 W1 H1 Dn r1 post)
    | false => exact iteF (sb Wb W0 H0 ρ σ S1 W1 H1 Dn r1 post)
/-- x.append(e), x a list of one's own -/
theorem s_app {i : Nat} {x : Str} {px pa' pc : Pos} (hi : X.N[i]? = some x) (hv : Vis X.env.scope x) (he : SE G E .i X e f) (hd : (x == ("__debug__" : Str)) = false := by decide) (hcd : (x == ("__classdict__" : Str)) = false := by decide)
    (hbase : attributeBase (.Name x px) "append" X.env (eval (.Name x px) X.env) = eval (.Name x px) X.env := by rfl) (hline : (pa'.endLine == pc.line) = true := by rfl) (hst : starEach [e] X.env = [(false, eval e X.env)] := by rfl)
    (hfew : ((backTo pc (starEach [e] X.env)).all (fun x => !x.1) && (backToKw pc (keywordEach [] X.env)).all (fun x => x.1.isSome)
      && decide ([e].length + ([] : List Keyword).length + (if ([] : List Keyword).isEmpty then 0 else 1) < 30)) = true := by rfl)
    (hsw : swapsWith (.Call (.Attribute (.Name x px) "append" pa') [e] [] pc) none pos.line X.env = pure false := by rfl) :
    SS G E k X (.Expr (.Call (.Attribute (.Name x px) "append" pa') [e] [] pc) pos) (app i f) := by
  obtain ⟨t, p, s⟩ := he
  refine ⟨_, ps_expr (pe_bm PySem.F.plainAttrs_list PySem.F.slot_list_append PySem.F.type_list_append mt_append (pe_var hi hv hd hcd) (pa_cons p pa_nil (by rw [hst]; rfl)) hbase hfew hline (by rw [hst]; rfl) (by rfl)) hsw, fun Wb W0 H0 ρ σ S W H Dn r post => ?_⟩
  unfold app at post
  cases q : ρ[i]? with
  | none => rw [q] at post; exact post.elim
  | some sl =>
    rw [q] at post
    cases sl with
    | no => exact post.elim
    | dat d => exact post.elim
    | own ds =>
      obtain ⟨l, vs, e1, e2, e3, e4, e5⟩ := r.rep.owns q
      refine ⟨.ref l, e1, .inl ⟨rfl, _, SqL.of e2⟩, ?_⟩
      refine s.goS r post fun d S1 v W1 H1 st r1 rr post => ?_
      by_cases hz : ds.length < 1000000
      · rw [if_pos hz] at post
        obtain ⟨l', vs', g1, g2, g3, g4, g5⟩ := r1.rep.owns q
        rw [e1] at g1
        cases g1
        refine ⟨l, vs', v, rfl, rfl, g2, by rw [g3.length]; exact Nat.lt_of_lt_of_le hz (by decide), ?_⟩
        have hn0 := r.own i ds l q e1
        refine post σ W1 _ ⟨⟨r1.rep.wok.own g2 g4 g5, by rw [List.length_set]; exact r1.rep.len, fun j sl ej => ?_, fun j m as bs h1 h2 h3 => ?_⟩, r1.st.own (.inl hn0), fun j as m h1 h2 => ?_, r1.ge⟩
        · by_cases hj : i = j
          · subst hj
            rw [List.getElem?_set_self (List.getElem?_eq_some_iff.mp q).1] at ej
            cases ej
            exact ⟨_, e1, l, _, rfl, upd_same, g3.append (.cons rr .nil), g4, g5⟩
          · rw [List.getElem?_set_ne hj] at ej
            obtain ⟨o, h1, h2⟩ := r1.rep.at_ j sl ej
            refine ⟨o, h1, ?_⟩
            cases o with
            | none => cases sl <;> first | trivial | exact h2.elim
            | some v =>
              cases sl with
              | no => trivial
              | dat d => exact h2
              | own as =>
                obtain ⟨m, ws, rfl, f2, f3, f4, f5⟩ := h2
                have hm : m ≠ l := fun z => by
                  subst z
                  exact hj (r1.rep.own i j ds as q ej (e1.trans h1.symm))
                exact ⟨m, ws, rfl, by rw [upd_ne hm]; exact f2, f3, f4, f5⟩
        · have ex : ∀ {j : Nat} {as : List D}, (ρ.set i (.own (ds ++ [d])))[j]? = some (.own as) → ∃ cs, ρ[j]? = some (.own cs) := fun {j as} h => by
            by_cases hj : i = j
            · subst hj; exact ⟨ds, q⟩
            · rw [List.getElem?_set_ne hj] at h; exact ⟨as, h⟩
          obtain ⟨c1, k1⟩ := ex h1
          obtain ⟨c2, k2⟩ := ex h2
          exact r1.rep.own j m c1 c2 k1 k2 h3
        · by_cases hj : i = j
          · subst hj
            rw [e1] at h2
            cases h2
            exact hn0
          · rw [List.getElem?_set_ne hj] at h1
            exact r1.own j as m h1 h2
      · rw [if_neg hz] at post
        exact post.elim
end
end Dl
/-! DlF: targets, loops, comprehensions. -/
namespace Dl
open PySem L2
/-! ### targets -/
abbrev Tg := D → Env → Option Env
/-- what a target's store leaves: the slots but those at js -/
def SG (G : Gm) (js : List Nat) (X : Cx) (tg : Expr) (a : Tg) : Prop := ∃ t : TG, PG X tg t ∧ ∀ (Wb W0 : Wd) (H0 : Hp) (ρ ρ' : Env) (σ : L2.St) (S : Mem) (W : Wd) (H : Hp) (v : V) (d : D) (Q : L2.St → Hp → Prop),
  RepS X.K G Wb W0 H0 ρ σ S W H → Ist X.K W v d → a d ρ = some ρ' → (∀ σ', RepS X.K G Wb W0 H0 ρ' σ' S W H → (∀ j, j ∉ js → σ'[j]? = σ[j]?) → σ'.length = σ.length → Q σ' H) → t v σ H Q
def tgN (i : Nat) : Tg := fun d ρ => some (ρ.set i (.dat d))
def SGs (G : Gm) (js : List Nat) (X : Cx) (es : List Expr) (a : List D → Env → Option Env) : Prop := ∃ t : TGs, PGs X es t ∧ ∀ (Wb W0 : Wd) (H0 : Hp) (ρ ρ' : Env) (σ : L2.St) (S : Mem) (W : Wd) (H : Hp) (vs : List V) (ds : List D) (Q : L2.St → Hp → Prop),
  RepS X.K G Wb W0 H0 ρ σ S W H → IstL X.K W vs ds → a ds ρ = some ρ' → (∀ σ', RepS X.K G Wb W0 H0 ρ' σ' S W H → (∀ j, j ∉ js → σ'[j]? = σ[j]?) → σ'.length = σ.length → Q σ' H) → t vs σ H Q
def tg0 : List D → Env → Option Env
  | [], ρ => some ρ
  | _ :: _, _ => none
def tgc (a : Tg) (b : List D → Env → Option Env) : List D → Env → Option Env
  | [], _ => none
  | d :: ds, ρ => (a d ρ).bind fun ρ1 => b ds ρ1
def tgT (n : Nat) (b : List D → Env → Option Env) : Tg := fun d ρ => match d with
  | .tup ds => if ds.length = n then b ds ρ else none
  | _ => none
section
variable {G : Gm} {E : XK} {X : Cx} {e : Expr} {es : List Expr} {pos : Pos} {k : Rk} {fa fb : Sem}
theorem g_name (i : Nat) {x : Str} (hN : X.N.Nodup) (hi : X.N[i]? = some x) (hx : Loc X.env.scope x) (hf : X.fn x = true ∨ X.env.scope.names.lookup x = some .local := by first | exact .inl rfl | exact .inr rfl | assumption) : SG G [i] X (.Name x pos) (tgN i) := by
  refine ⟨_, pg_name hN hi hx hf, fun Wb W0 H0 ρ ρ' σ S W H v d Q r q ea h => ?_⟩
  cases ea
  refine h _ (r.set q) (fun j hj => ?_) (List.length_set ..)
  rw [List.getElem?_set_ne (fun z => hj (by simp [z]))]
theorem gs_nil : SGs G [] X [] tg0 := by
  refine ⟨_, pgs_nil, fun Wb W0 H0 ρ ρ' σ S W H vs ds Q r q ea h => ?_⟩
  cases ds with
  | cons d ds => cases ea
  | nil =>
    cases q
    cases ea
    exact ⟨rfl, h _ r (fun _ _ => rfl) rfl⟩
theorem gs_cons {a : Tg} {b : List D → Env → Option Env} {js ks : List Nat} (h1 : SG G js X e a) (h2 : SGs G ks X es b) (hs : (assignEach (e :: es) X.env).map (·.2) = assign e X.env :: (assignEach es X.env).map (·.2) := by rfl) : SGs G (js ++ ks) X (e :: es) (tgc a b) := by
  obtain ⟨t1, p1, s1⟩ := h1
  obtain ⟨t2, p2, s2⟩ := h2
  refine ⟨_, pgs_cons p1 p2 hs, fun Wb W0 H0 ρ ρ' σ S W H vs ds Q r q ea h => ?_⟩
  cases q with
  | nil => cases ea
  | @cons v vs d ds q1 q2 =>
    refine ⟨v, vs, rfl, ?_⟩
    have ea : (a d ρ).bind (fun ρ1 => b ds ρ1) = some ρ' := ea
    cases e1 : a d ρ with
    | none => rw [e1] at ea; cases ea
    | some ρ1 =>
      rw [e1] at ea
      refine s1 Wb W0 H0 ρ ρ1 σ S W H v d _ r q1 e1 fun σ1 r1 k1 l1 => ?_
      refine s2 Wb W0 H0 ρ1 ρ' σ1 S W H vs ds _ r1 q2 ea fun σ2 r2 k2 l2 => ?_
      refine h σ2 r2 (fun j hj => ?_) (l2.trans l1)
      rw [List.mem_append, not_or] at hj
      exact (k2 j hj.2).trans (k1 j hj.1)
theorem g_tup {b : List D → Env → Option Env} {js : List Nat} {n m : Nat} (hc : X.calm = true) (h : SGs G js X es b) (hn : (assignEach es X.env).length = n := by rfl) (hst : (assignEach es X.env).findIdx? (·.1) = none := by rfl) : SG G js X (.Tuple es m pos) (tgT n b) := by
  obtain ⟨t, p, s⟩ := h
  refine ⟨_, pg_tup hc p hn hst, fun Wb W0 H0 ρ ρ' σ S W H v d Q r q ea h => ?_⟩
  cases d with
  | tup ds =>
    dsimp only [tgT] at ea
    by_cases hl : ds.length = n
    · rw [if_pos hl] at ea
      obtain ⟨a, vs, rfl, h1, h2⟩ := q.tupv
      exact ⟨a, vs, rfl, SqT.ex r.rep.wok.sub h1, by rw [h2.length]; exact hl, s Wb W0 H0 ρ ρ' σ S W H vs ds _ r h2 ea h⟩
    · rw [if_neg hl] at ea
      cases ea
  | _ => cases ea
/-- target = e -/
def asgT (a : Tg) (f : Sem) : SemS := fun ρ S => (f ρ S).bindF fun d S1 => match a d ρ with
  | some ρ' => .nx ρ' S1
  | none => .no
theorem s_asgT {tg : Expr} {a : Tg} {f : Sem} {js : List Nat} (hg : SG G js X tg a) (he : SE G E .i X e f) (hs : swapsWithSole [tg] e pos.line X.env = pure false := by rfl) (hw : swappedStores [tg] e X.env = pure none := by rfl)
    (h1 : (assignEach [tg] X.env).map (·.2) = [assign tg X.env] := by rfl) : SS G E k X (.Assign [tg] e pos) (asgT a f) := by
  obtain ⟨tt, pt, st⟩ := hg
  obtain ⟨t, p, s⟩ := he
  refine ⟨_, ps_asg p pt hs hw h1, fun Wb W0 H0 ρ σ S W H Dn r post => ?_⟩
  refine s.goS r post fun d S1 v W1 H1 st1 r1 rr post => ?_
  cases e1 : a d ρ with
  | none => simp only [e1] at post; exact post.elim
  | some ρ' =>
    simp only [e1] at post
    exact st Wb W0 H0 ρ ρ' σ S1 W1 H1 v d _ r1 rr e1 fun σ' r' _ _ => post σ' W1 H1 r'
/-- a, b = x, y: plain local names -/
def par (i j : Nat) (f : SemL) : SemS := fun ρ S => (f ρ S).bindF fun ds S1 => match ds with
  | [x, y] => .nx ((ρ.set i (.dat x)).set j (.dat y)) S1
  | _ => .no
theorem s_par {i j : Nat} {x y : Str} {a b : Expr} {f : SemL} {px py pt : Pos} {kt k2 : Nat} {pt2 : Pos} (hc : X.calm = true) (hN : X.N.Nodup) (hi : X.N[i]? = some x) (hj : X.N[j]? = some y) (hij : i ≠ j) (hx : X.env.scope.names.lookup x = some .local) (hy : X.env.scope.names.lookup y = some .local)
    (ha : SA G E false X [a, b] f) (hw : swappedStores [.Tuple [.Name x px, .Name y py] kt pt] (.Tuple [a, b] k2 pt2) X.env = pure (some [x, y]) := by rfl) (hs : swapsWithSole [.Tuple [.Name x px, .Name y py] kt pt] (.Tuple [a, b] k2 pt2) pos.line X.env = pure false := by rfl) :
    SS G E k X (.Assign [.Tuple [.Name x px, .Name y py] kt pt] (.Tuple [a, b] k2 pt2) pos) (par i j f) := by
  obtain ⟨t, p, s⟩ := ha
  refine ⟨_, ps_par hc hN hi hj hij hx hy p hw hs, fun Wb W0 H0 ρ σ S W H Dn r post => ?_⟩
  refine s ρ σ S W H _ r.rep ?_
  unfold par at post
  cases q : f ρ S with
  | no => rw [q] at post; exact post
  | er x S1 => rw [q] at post; exact ErrP.step r.st post
  | ok ds S1 =>
    rw [q] at post
    intro vs W1 H1 st1 ok1 is1
    have is1 : AllR (Ist X.K W1) vs ds := is1
    have r1 := r.step st1 ok1
    match ds, vs, is1, post with
    | [dx, dy], _, .cons (v := v) i1 (.cons (v := w) i2 .nil), post => exact ⟨v, w, rfl, post _ W1 H1 ((r1.set i1).set i2)⟩
    | [], _, _, post => exact post.elim
    | [_], _, _, post => exact post.elim
    | _ :: _ :: _ :: _, _, _, post => exact post.elim
/-! ### what is walked -/
/-- the iterator J gives the data ds, wherever the world is W1 or greater -/
def Walk (K : PySem.W.Frag) (G : Gm) (W1 : Wd) (J : It) (ds : List D) : Prop := ∀ (W' : Wd) (H' : Hp) (S' : Mem), WGe W1 W' → WOk K G W' S' H' → ∀ i : Nat,
  (∀ d, ds[i]? = some d → J.go i H' ∧ ∀ x H'', J.yld i H' x H'' → ∃ W'', Step W' H' W'' H'' ∧ WOk K G W'' S' H'' ∧ Ist K W'' x d) ∧ (i = ds.length → J.stop i H')
abbrev okI (K : PySem.W.Frag) (G : Gm) (W : Wd) (H : Hp) (R : It → Hp → Prop) : List D → Mem → Prop := fun ds S' => ∀ J W' H', Step W H W' H' → WOk K G W' S' H' → Walk K G W' J ds → R J H'
def SndI (K : PySem.W.Frag) (G : Gm) (E : XK) (t : TI) (f : SemL) : Prop := ∀ (ρ : Env) (σ : L2.St) (S : Mem) (W : Wd) (H : Hp) (R : It → Hp → Prop), Rep K G ρ σ S W H → Pg K G E W H (okI K G W H R) (f ρ S) → t σ H R
def SI (G : Gm) (E : XK) (X : Cx) (tg e : Expr) (f : SemL) : Prop := ∃ t, PI X tg e t ∧ SndI X.K G E t f
def itL (f : Sem) : SemL := fun ρ S => (f ρ S).bind fun d S1 => match d with
  | .lst ds => .ok ds S1
  | .frz ds => .ok ds S1
  | _ => .no
def itT (f : Sem) : SemL := fun ρ S => (f ρ S).bind fun d S1 => match d with
  | .tup ds => .ok ds S1
  | _ => .no
def signs (x : Str) : List D := x.cps.toList.map fun c => .str ⟨#[c]⟩
def itS (f : Sem) : SemL := fun ρ S => (f ρ S).bind fun d S1 => match d with
  | .str x => .ok (signs x) S1
  | _ => .no
def rangeD (lo hi : Int) : List D := (List.range (hi - lo).toNat).map fun (i : Nat) => .int (lo + i)
def rngOf : List D → Option (List D)
  | [.int j] => if -(2 ^ 62) ≤ j ∧ j < 2 ^ 62 then some (rangeD 0 j) else none
  | [.int i, .int j] => if -(2 ^ 62) ≤ i ∧ i < 2 ^ 62 ∧ -(2 ^ 62) ≤ j ∧ j < 2 ^ 62 then some (rangeD i j) else none
  | _ => none
def itR (f : SemL) : SemL := fun ρ S => (f ρ S).bind fun ds S1 => Res.opt (rngOf ds) S1
theorem rngOf_1 {d : D} {es : List D} (h : rngOf [d] = some es) : ∃ j, d = .int j ∧ -(2 ^ 62) ≤ j ∧ j < 2 ^ 62 ∧ es = rangeD 0 j := by
  cases d with
  | int j =>
    dsimp only [rngOf] at h
    by_cases hz : -(2 ^ 62) ≤ j ∧ j < 2 ^ 62
    · rw [if_pos hz] at h
      exact ⟨j, rfl, hz.1, hz.2, (Option.some.inj h).symm⟩
    · rw [if_neg hz] at h
      cases h
  | _ => cases h
theorem rngOf_2 {d d' : D} {es : List D} (h : rngOf [d, d'] = some es) : ∃ i j, d = .int i ∧ d' = .int j ∧ (-(2 ^ 62) ≤ i ∧ i < 2 ^ 62 ∧ -(2 ^ 62) ≤ j ∧ j < 2 ^ 62) ∧ es = rangeD i j := by
  cases d with
  | int i =>
    cases d' with
    | int j =>
      dsimp only [rngOf] at h
      by_cases hz : -(2 ^ 62) ≤ i ∧ i < 2 ^ 62 ∧ -(2 ^ 62) ≤ j ∧ j < 2 ^ 62
      · rw [if_pos hz] at h
        exact ⟨i, j, rfl, rfl, hz, (Option.some.inj h).symm⟩
      · rw [if_neg hz] at h
        cases h
    | _ => cases h
  | _ => cases h
theorem rangeD_get {lo hi : Int} {i : Nat} : (rangeD lo hi)[i]? = if i < (hi - lo).toNat then some (.int (lo + i)) else none := by
  unfold rangeD
  rw [List.getElem?_map]
  by_cases h : i < (hi - lo).toNat
  · rw [List.getElem?_range h, if_pos h]
    rfl
  · rw [List.getElem?_eq_none (by rw [List.length_range]; omega), if_neg h]
    rfl
theorem walk_rng {K : PySem.W.Frag} {W1 : Wd} {lo hi : Int} : Walk K G W1 (Itr lo (hi - lo).toNat) (rangeD lo hi) := by
  intro W' H' S' ge ok i
  rw [rangeD_get]
  refine ⟨fun d e => ?_, fun e => ?_⟩
  · by_cases hi' : i < (hi - lo).toNat
    · rw [if_pos hi'] at e
      cases e
      refine ⟨hi', fun x H'' y => ?_⟩
      obtain ⟨rfl, rfl⟩ := y
      exact ⟨W', Step.refl _ _, ok, .int _⟩
    · rw [if_neg hi'] at e
      cases e
  · show (hi - lo).toNat ≤ i
    rw [e]
    unfold rangeD
    rw [List.length_map, List.length_range]
    exact Nat.le_refl _
theorem AllR.len {R : V → D → Prop} : ∀ {vs : List V} {ds : List D}, AllR R vs ds → vs.length = ds.length
  | _, _, .nil => rfl
  | _, _, .cons _ r => by rw [List.length_cons, List.length_cons, AllR.len r]
theorem i_r1 {tg a : Expr} {p : Pos} (hg : Gl X "range") (hm : X.mg "range" = none) (ha : SE G E .v X a fa) (hs : starEach [a] X.env = [(false, eval a X.env)] := by rfl) : SI G E X tg (.Call (.Name "range" p) [a] [] pos) (itR (alc fa al0)) := by
  obtain ⟨t, p, s⟩ := ha
  refine ⟨_, pi_range1 hg hm (pa_cons p pa_nil (by rw [hs]; rfl)) hs, fun ρ σ S W H R rep post => ?_⟩
  have post : Pg X.K G E W H (okI X.K G W H R) ((fa ρ S).bind fun d S1 => Res.opt (rngOf [d]) S1) := by
    unfold itR alc al0 at post
    cases q : fa ρ S with
    | no => rw [q] at post; exact post
    | er x S1 => rw [q] at post; exact post
    | ok d S1 => rw [q] at post; exact post
  refine s.go rep (Step.refl W H) post fun d S1 v W1 H1 st1 s01 rep1 is1 post => ?_
  cases e : rngOf [d] with
  | none => simp only [e] at post; exact post.elim
  | some es =>
    simp only [e] at post
    obtain ⟨j, rfl, h1, h2, rfl⟩ := rngOf_1 e
    have e := View.intv is1
    subst e
    have wk : Walk X.K G W1 (Itr 0 (j - 0).toNat) (rangeD 0 j) := walk_rng
    rw [Int.sub_zero] at wk
    exact ⟨j, rfl, h1, h2, post _ W1 H1 st1 rep1.wok wk⟩
theorem i_r2 {tg a b : Expr} {p : Pos} (hg : Gl X "range") (hm : X.mg "range" = none) (ha : SE G E .v X a fa) (hb : SE G E .v X b fb) (hs : starEach [a, b] X.env = [(false, eval a X.env), (false, eval b X.env)] := by rfl) (hs2 : starEach [b] X.env = [(false, eval b X.env)] := by rfl) : SI G E X tg (.Call (.Name "range" p) [a, b] [] pos) (itR (alc fa (alc fb al0))) := by
  obtain ⟨ta, pa, sa⟩ := ha
  obtain ⟨tb, pb, sb⟩ := hb
  refine ⟨_, pi_range2 hg hm (pa_cons pa (pa_cons pb pa_nil (by rw [hs2]; rfl)) (by rw [hs, hs2])) hs hs2, fun ρ σ S W H R rep post => ?_⟩
  have post : Pg X.K G E W H (okI X.K G W H R) ((fa ρ S).bind fun d S1 => (fb ρ S1).bind fun d' S2 => Res.opt (rngOf [d, d']) S2) := by
    unfold itR alc al0 at post
    cases q : fa ρ S with
    | no => rw [q] at post; exact post
    | er x S1 => rw [q] at post; exact post
    | ok d S1 =>
      rw [q] at post
      dsimp only [Res.bind] at post ⊢
      cases q2 : fb ρ S1 with
      | no => rw [q2] at post; exact post
      | er x S1 => rw [q2] at post; exact post
      | ok d' S2 => rw [q2] at post; exact post
  refine sa.go rep (Step.refl W H) post fun d S1 v W1 H1 st1 s01 rep1 is1 post => ?_
  refine sb.go rep1 s01 post fun d' S2 v' W2 H2 st2 s02 rep2 is2 post => ?_
  cases e : rngOf [d, d'] with
  | none => simp only [e] at post; exact post.elim
  | some es =>
    simp only [e] at post
    obtain ⟨i, j, rfl, rfl, h1, rfl⟩ := rngOf_2 e
    have e := View.intv is1
    subst e
    have e := View.intv is2
    subst e
    exact ⟨i, j, rfl, h1, post _ W2 H2 s02 rep2.wok walk_rng⟩
/-- a list, a tuple, a text -/
theorem i_lst {tg e : Expr} {f : Sem} (h : SE G E .i X e f) : SI G E X tg e (itL f) := by
  obtain ⟨t, p, s⟩ := h
  refine ⟨_, pi_list p, fun ρ σ S W H R rep post => ?_⟩
  refine s.go rep (Step.refl W H) post fun d S1 v W1 H1 st1 s01 rep1 is1 post => ?_
  have is1 : Ist X.K W1 v d := is1
  have main : ∀ (a : Addr) (vs : List V) (ds : List D), v = .ref a → SqL X.K W1.h a vs → IstL X.K W1 vs ds → okI X.K G W H R ds S1 → ∃ a, v = .ref a ∧ (∃ xs, SqL X.K H1 a xs) ∧ R (Itl X.K a) H1 := fun a vs ds ev h1 h2 post => by
    refine ⟨a, ev, ⟨vs, SqL.ex rep1.wok.sub h1⟩, post _ W1 H1 st1 rep1.wok fun W' H' S' ge ok i => ?_⟩
    have hq : SqL X.K H' a vs := SqL.ex (fun b o q => ok.sub b o (ge.ex b o q)) h1
    have h2' := IsL.ge ge h2
    refine ⟨fun d e => ?_, fun e => ?_⟩
    · obtain ⟨x, e1, e2⟩ := h2'.get e
      refine ⟨⟨vs, x, hq, e1⟩, fun y H'' q => ?_⟩
      obtain ⟨rfl, q⟩ := q
      have e3 := q vs hq
      rw [e1] at e3
      cases e3
      exact ⟨W', Step.refl _ _, ok, e2⟩
    · refine ⟨vs, hq, ?_⟩
      rw [h2'.length, e]
      exact Nat.le_refl _
  cases d with
  | lst ds =>
    obtain ⟨a, vs, ev, h1, h2⟩ := is1.lstv
    exact main a vs ds ev (SqL.of h1) h2 post
  | frz ds =>
    obtain ⟨a, vs, ev, h1, h2⟩ := is1.frzv
    exact main a vs ds ev h1 h2 post
  | _ => exact (show False from post).elim
theorem i_tup {tg e : Expr} {f : Sem} (h : SE G E .i X e f) : SI G E X tg e (itT f) := by
  obtain ⟨t, p, s⟩ := h
  refine ⟨_, pi_tup p, fun ρ σ S W H R rep post => ?_⟩
  refine s.go rep (Step.refl W H) post fun d S1 v W1 H1 st1 s01 rep1 is1 post => ?_
  have is1 : Ist X.K W1 v d := is1
  cases d with
  | tup ds =>
    obtain ⟨a, vs, ev, h1, h2⟩ := is1.tupv
    refine ⟨a, ev, ⟨vs, SqT.ex rep1.wok.sub h1⟩, post _ W1 H1 st1 rep1.wok fun W' H' S' ge ok i => ?_⟩
    have hq : SqT X.K H' a vs := SqT.ex (fun b o q => ok.sub b o (ge.ex b o q)) h1
    have h2' := IsL.ge ge h2
    refine ⟨fun d e => ?_, fun e => ?_⟩
    · obtain ⟨x, e1, e2⟩ := h2'.get e
      refine ⟨⟨vs, x, hq, e1⟩, fun y H'' q => ?_⟩
      obtain ⟨rfl, q⟩ := q
      have e3 := q vs hq
      rw [e1] at e3
      cases e3
      exact ⟨W', Step.refl _ _, ok, e2⟩
    · refine ⟨vs, hq, ?_⟩
      rw [h2'.length, e]
      exact Nat.le_refl _
  | _ => exact (show False from post).elim
/-! ### for, while -/
def loop (body : D → SemS) : List D → SemS
  | [], ρ, S => .nx ρ S
  | d :: ds, ρ, S => match body d ρ S with
    | .nx ρ' S' => loop body ds ρ' S'
    | .ct ρ' S' => loop body ds ρ' S'
    | .bk ρ' S' => .nx ρ' S'
    | .rt d S' => .rt d S'
    | .er x S' => .er x S'
    | .no => .no
def tgb (a : Tg) (g : SemS) : D → SemS := fun d ρ S => match a d ρ with
  | some ρ' => g ρ' S
  | none => .no
def fr (f : SemL) (a : Tg) (g : SemS) : SemS := fun ρ S => (f ρ S).bindF fun ds S1 => loop (tgb a g) ds ρ S1
theorem drop_get {α : Type} {ds : List α} {i : Nat} : (ds[i]? = none ∧ ds.drop i = []) ∨ ∃ d, ds[i]? = some d ∧ ds.drop i = d :: ds.drop (i + 1) := by
  by_cases h : i < ds.length
  · exact .inr ⟨ds[i], by simp [h], by rw [List.drop_eq_getElem_cons h]⟩
  · exact .inl ⟨List.getElem?_eq_none (by omega), List.drop_eq_nil_of_le (by omega)⟩
theorem s_for {tg iter : Expr} {body : List Stmt} {f : SemL} {a : Tg} {g : SemS} {js : List Nat} (hp : PassesOwn (model X.prog X.w) X.A X.env X.xe) (hc : X.calm = true) (hi : SI G E X tg iter f) (hg : SG G js X tg a) (hb : SSs G E k X body g)
    (hs : ∀ x, foldedSetIterable iter X.env x = pure x := by intro _; rfl) : SS G E k X (.For tg iter body [] pos) (fr f a g) := by
  obtain ⟨ti, pi, si⟩ := hi
  obtain ⟨tt, pt, st⟩ := hg
  obtain ⟨tb, pb, sb⟩ := hb
  refine ⟨_, ps_for hp hc pi pt pb hs, fun Wb W0 H0 ρ σ S W H Dn r post => ?_⟩
  refine si ρ σ S W H _ r.rep ?_
  unfold fr at post
  cases q : f ρ S with
  | no => rw [q] at post; exact post
  | er x S1 => rw [q] at post; exact ErrP.step r.st post
  | ok ds S1 =>
    rw [q] at post
    intro J W1 H1 st1 ok1 wk
    have r1 := r.step st1 ok1
    refine ⟨fun i m σ' H' => i + m = ds.length ∧ ∃ ρ' S' W', RepS X.K G W1 W0 H0 ρ' σ' S' W' H' ∧ PostS X.K G E k Wb W0 H0 Dn (loop (tgb a g) (ds.drop i) ρ' S'),
      ⟨ds.length, by omega, ρ, S1, W1, r1.base (WGe.refl _), post⟩, ?_⟩
    rintro i m σ' H' ⟨him, ρ', S', W', r', post'⟩
    have up : ∀ {ρ'' σ'' S'' W'' H''}, RepS X.K G W1 W0 H0 ρ'' σ'' S'' W'' H'' → RepS X.K G Wb W0 H0 ρ'' σ'' S'' W'' H'' := fun q => q.base (r1.ge.trans q.ge)
    obtain ⟨w1, w2⟩ := wk W' H' S' r'.ge r'.rep.wok i
    rcases drop_get (ds := ds) (i := i) with ⟨e1, e2⟩ | ⟨d, e1, e2⟩
    · rw [e2] at post'
      exact .inl ⟨w2 (by have := List.getElem?_eq_none_iff.mp e1; omega), post' σ' W' H' (up r')⟩
    · rw [e2] at post'
      obtain ⟨go, yld⟩ := w1 d e1
      have hlt : i < ds.length := (List.getElem?_eq_some_iff.mp e1).1
      refine .inr ⟨go, fun σ2 H2 => ∃ ρ2 S2 W2, RepS X.K G W1 W0 H0 ρ2 σ2 S2 W2 H2 ∧ PostS X.K G E k Wb W0 H0 Dn (loop (tgb a g) (ds.drop (i + 1)) ρ2 S2), fun σ2 H2 ⟨ρ2, S2, W2, r2, p2⟩ => ⟨m - 1, by omega, by omega, ρ2, S2, W2, r2, p2⟩, fun x H2 y => ?_⟩
      obtain ⟨W2, st2, ok2, is2⟩ := yld x H2 y
      have r2 := r'.step st2 ok2
      unfold loop at post'
      unfold tgb at post'
      cases ea : a d ρ' with
      | none => simp only [ea] at post'; exact post'.elim
      | some ρ3 =>
        simp only [ea] at post'
        refine st W1 W0 H0 ρ' ρ3 σ' S' W2 H2 x d _ r2 is2 ea fun σ3 r3 _ _ => ?_
        refine sb W1 W0 H0 ρ3 σ3 S' W2 H2 _ r3 ?_
        cases eg : g ρ3 S' with
        | nx ρ4 S4 => simp only [eg] at post'; exact fun σ4 W4 H4 r4 => ⟨ρ4, S4, W4, r4, post'⟩
        | ct ρ4 S4 => simp only [eg] at post'; exact fun σ4 W4 H4 r4 => ⟨ρ4, S4, W4, r4, post'⟩
        | bk ρ4 S4 => simp only [eg] at post'; exact fun σ4 W4 H4 r4 => post' σ4 W4 H4 (up r4)
        | rt d S4 => simp only [eg] at post'; exact post'
        | er x S4 => simp only [eg] at post'; exact post'
        | no => simp only [eg] at post'; exact post'.elim
def wloop (c : Sem) (g : SemS) : Nat → SemS
  | 0, _, _ => .no
  | n + 1, ρ, S => (c ρ S).bindF fun d S1 => match d with
    | .bl false => .nx ρ S1
    | .bl true => match g ρ S1 with
      | .nx ρ' S' => wloop c g n ρ' S'
      | .ct ρ' S' => wloop c g n ρ' S'
      | .bk ρ' S' => .nx ρ' S'
      | .rt d S' => .rt d S'
      | .er x S' => .er x S'
      | .no => .no
    | _ => .no
theorem s_while {c : Expr} {body : List Stmt} {fc : Sem} {g : SemS} (n : Nat) (hp : PassesOwn (model X.prog X.w) X.A X.env X.xe) (hc : ST G E X c fc) (hb : SSs G E k X body g) : SS G E k X (.While c body [] pos) (wloop fc g n) := by
  obtain ⟨tc, pc, sc⟩ := hc
  obtain ⟨tb, pb, sb⟩ := hb
  refine ⟨_, ps_while hp pc pb, fun Wb W0 H0 ρ σ S W H Dn r post => ?_⟩
  refine ⟨fun m σ' H' => ∃ ρ' S' W', RepS X.K G Wb W0 H0 ρ' σ' S' W' H' ∧ PostS X.K G E k Wb W0 H0 Dn (wloop fc g m ρ' S'), ⟨n, ρ, S, W, r, post⟩, ?_⟩
  rintro m σ' H' ⟨ρ', S', W', r', post'⟩
  cases m with
  | zero => exact post'.elim
  | succ m =>
    unfold wloop at post'
    refine sc.goS r' post' (fun d S1 q => ?_) fun b S1 W1 H1 st1 r1 post1 => ?_
    · cases d <;> first | exact ⟨_, rfl⟩ | exact (show False from q).elim
    · cases b with
      | false => exact iteF (post1 σ' W1 H1 r1)
      | true =>
        refine iteT ⟨fun σ2 H2 => ∃ ρ2 S2 W2, RepS X.K G Wb W0 H0 ρ2 σ2 S2 W2 H2 ∧ PostS X.K G E k Wb W0 H0 Dn (wloop fc g m ρ2 S2), fun σ2 H2 q => ⟨m, Nat.lt_succ_self m, q⟩, ?_⟩
        refine sb Wb W0 H0 ρ' σ' S1 W1 H1 _ r1 ?_
        cases eg : g ρ' S1 with
        | nx ρ4 S4 => simp only [eg] at post1; exact fun σ4 W4 H4 r4 => ⟨ρ4, S4, W4, r4, post1⟩
        | ct ρ4 S4 => simp only [eg] at post1; exact fun σ4 W4 H4 r4 => ⟨ρ4, S4, W4, r4, post1⟩
        | bk ρ4 S4 => simp only [eg] at post1; exact fun σ4 W4 H4 r4 => post1 σ4 W4 H4 r4
        | rt d S4 => simp only [eg] at post1; exact post1
        | er x S4 => simp only [eg] at post1; exact post1
        | no => simp only [eg] at post1; exact post1.elim
end
end Dl
/-! DlG: comprehensions, defs and their calls, objects that change. -/
namespace Dl
open PySem L2
/-! ### comprehensions -/
def wipeS (ρ : Env) : List Nat → Env
  | [] => ρ
  | v :: vs => (wipeS ρ vs).set v .no
def noer {α : Type} : Res α → Res α
  | .ok a S => .ok a S
  | _ => .no
def compL (step : D → Mem → Res (Option D)) : List D → List D → Mem → Res (List D)
  | [], acc, S => .ok acc S
  | d :: ds, acc, S => (step d S).bind fun o S1 => match o with
    | some y => if acc.length < 1000000 then compL step ds (acc ++ [y]) S1 else .no
    | none => compL step ds acc S1
def lcStep (ρ : Env) (a : Tg) (vs : List Nat) (tt te : Sem) : D → Mem → Res (Option D) := fun d S => match a d (wipeS ρ vs) with
  | none => .no
  | some ρ1 => noer ((tt ρ1 S).bind fun b S' => match b with
    | .bl true => (te ρ1 S').bind fun y S'' => .ok (some y) S''
    | .bl false => .ok none S'
    | _ => .no)
def lc (f : SemL) (a : Tg) (vs : List Nat) (tt te : Sem) : Sem := fun ρ S => (f ρ S).bind fun ds S1 => (compL (lcStep ρ a vs tt te) ds [] S1).bind fun ys S2 => .ok (.lst ys) S2
def W00 : Wd := ⟨fun _ => none, []⟩
def H00 : Hp := fun _ => none
theorem Step.empty {W : Wd} {H : Hp} : Step W00 H00 W H :=
  ⟨fun a o h => (by cases h), fun a vs h => (by cases h), ⟨W.ad, (by simp [W00]), fun _ _ => rfl⟩, fun a o h => (by cases h), fun a h => absurd rfl h⟩
section
variable {K : PySem.W.Frag} {G : Gm} {W W' : Wd} {H H' : Hp} {ρ : Env} {σ : L2.St} {S : Mem}
theorem Rep.setNo (r : Rep K G ρ σ S W H) (i : Nat) : Rep K G (ρ.set i .no) (σ.set i none) S W H := by
  have ne : ∀ {j : Nat} {ds : List D}, (ρ.set i .no)[j]? = some (.own ds) → i ≠ j := fun {j ds} e z => by
    subst z
    have hl : i < ρ.length := by
      have := (List.getElem?_eq_some_iff.mp e).1
      rwa [List.length_set] at this
    rw [List.getElem?_set_self hl] at e
    cases e
  refine ⟨r.wok, by rw [List.length_set, List.length_set]; exact r.len, fun j s e => ?_, fun j k ds es h1 h2 h3 => ?_⟩
  · by_cases hj : i = j
    · subst hj
      have hl : i < ρ.length := by
        have := (List.getElem?_eq_some_iff.mp e).1
        rwa [List.length_set] at this
      rw [List.getElem?_set_self hl] at e
      cases e
      exact ⟨none, by rw [List.getElem?_set_self (r.len ▸ hl)], trivial⟩
    · rw [List.getElem?_set_ne hj] at e
      rw [List.getElem?_set_ne hj]
      exact r.at_ j s e
  · have nj := ne h1
    have nk := ne h2
    rw [List.getElem?_set_ne nj] at h1 h3
    rw [List.getElem?_set_ne nk] at h2 h3
    exact r.own j k ds es h1 h2 h3
theorem Rep.wipe (r : Rep K G ρ σ S W H) : ∀ vs : List Nat, Rep K G (wipeS ρ vs) (L2.wipe σ vs) S W H
  | [] => r
  | v :: vs => (Rep.wipe r vs).setNo v
theorem wipe_get {σ : L2.St} {i : Nat} : ∀ {vs : List Nat}, i ∈ vs → (L2.wipe σ vs)[i]? = if i < σ.length then some none else none
  | [], h => by simp at h
  | v :: vs, h => by
    unfold L2.wipe
    by_cases e : v = i
    · subst e
      by_cases hl : v < σ.length
      · rw [List.getElem?_set_self (by rw [wipe_length]; exact hl), if_pos hl]
      · rw [List.getElem?_eq_none (by rw [List.length_set, wipe_length]; omega), if_neg hl]
    · rw [List.getElem?_set_ne e]
      exact wipe_get (by
        rcases List.mem_cons.mp h with h | h
        · exact absurd h.symm e
        · exact h)
theorem wipe_same {σ τ : L2.St} {vs js : List Nat} (hs : ∀ j ∈ js, j ∈ vs) (h : ∀ j, j ∉ js → τ[j]? = (L2.wipe σ vs)[j]?) (hl : τ.length = (L2.wipe σ vs).length) : L2.wipe τ vs = L2.wipe σ vs := by
  rw [wipe_length] at hl
  refine List.ext_getElem? fun i => ?_
  by_cases hi : i ∈ vs
  · rw [wipe_get hi, wipe_get hi, hl]
  · rw [wipe_out hi, h i (fun z => hi (hs i z))]
end
section
variable {G : Gm} {E : XK} {X : Cx} {e : Expr} {es : List Expr} {pos : Pos} {k : Rk} {fa fb : Sem}
abbrev EN : XK := fun _ _ _ => False
/-- the tests of a comprehension -/
def STs (G : Gm) (X : Cx) (ifs : List Expr) (f : Sem) : Prop := ∃ t, PTs X ifs t ∧ SndT X.K G EN t f
theorem ts_nil : STs G X [] (cc (.bl true)) := ⟨_, pts_nil, fun ρ σ S W H Q rep post => by
  obtain ⟨b, e, post⟩ := post
  cases e
  exact post W H (Step.refl W H) rep.wok⟩
theorem ts_one {c : Expr} {f : Sem} (h : ST G EN X c f) : STs G X [c] f := let ⟨t, p, s⟩ := h; ⟨t, pts_one p, s⟩
def canE (K : PySem.W.Frag) (G : Gm) (E : XK) (k : Rk) (f : Sem) : TE := fun σ H Q => ∃ ρ S W, Rep K G ρ σ S W H ∧ Pg K G E W H (okE K G k W H Q) (f ρ S)
def canT (K : PySem.W.Frag) (G : Gm) (E : XK) (f : Sem) : TT := fun σ H Q => ∃ ρ S W, Rep K G ρ σ S W H ∧ Pg K G E W H (okT K G W H Q) (f ρ S)
def canG (K : PySem.W.Frag) (G : Gm) (js : List Nat) (a : Tg) : TG := fun v σ H Q => ∃ Wb W0 H0 ρ ρ' S W d, RepS K G Wb W0 H0 ρ σ S W H ∧ Ist K W v d ∧ a d ρ = some ρ' ∧ (∀ σ', RepS K G Wb W0 H0 ρ' σ' S W H → (∀ j : Nat, j ∉ js → σ'[j]? = σ[j]?) → σ'.length = σ.length → Q σ' H)
theorem SE.can {f : Sem} (h : SE G E k X e f) : PE X e (canE X.K G E k f) := by
  obtain ⟨t, p, s⟩ := h
  exact ⟨fun pins s' σ H Q I ⟨ρ, S, W, r, post⟩ => p.run pins s' σ H Q I (s ρ σ S W H Q r post)⟩
theorem STs.can {ifs : List Expr} {f : Sem} (h : STs G X ifs f) : PTs X ifs (canT X.K G EN f) := by
  obtain ⟨t, p, s⟩ := h
  exact ⟨fun pins s' σ H Q I ⟨ρ, S, W, r, post⟩ => p.run pins s' σ H Q I (s ρ σ S W H Q r post)⟩
theorem SG.can {js : List Nat} {a : Tg} (h : SG G js X e a) : PG X e (canG X.K G js a) := by
  obtain ⟨t, p, s⟩ := h
  exact ⟨fun pins s' σ H v u Q I r ⟨Wb, W0, H0, ρ, ρ', S, W, d, h1, h2, h3, h4⟩ => p.run pins s' σ H v u Q I r (s Wb W0 H0 ρ ρ' σ S W H v d Q h1 h2 h3 h4)⟩
theorem snd_lc {K : PySem.W.Frag} {wi : TI} {f : SemL} {a : Tg} {vs js : List Nat} {tt te : Sem} (si : SndI K G E wi f) (hjs : ∀ j ∈ js, j ∈ vs) : SndE K G E .f (tLc wi (canG K G js a) (canT K G EN tt) (canE K G EN .i te) vs) (lc f a vs tt te) := by
  intro ρ σ S W H Q rep post
  refine si ρ σ S W H _ rep ?_
  unfold lc at post
  cases q : f ρ S with
  | no => rw [q] at post; exact post
  | er x S1 => rw [q] at post; exact post
  | ok ds S1 =>
    rw [q] at post
    intro J W1 H1 st1 ok1 wk DD hD
    refine ⟨fun i m H' => i + m = ds.length ∧ ∃ acc us S' W', Step W H W' H' ∧ WOk K G W' S' H' ∧ WGe W1 W' ∧ H' DD = some (.lst us) ∧ IstL K W' us acc ∧ W'.h DD = none ∧ DD ∉ W'.ad ∧
      Pg K G E W H (okE K G .f W H Q) ((compL (lcStep ρ a vs tt te) (ds.drop i) acc S').bind fun ys S2 => .ok (.lst ys) S2), ⟨ds.length, by omega, [], [], S1, W1, st1.trans (Step.up (up_new hD)), ok1.up (up_new hD), WGe.refl _, upd_same, .nil, ok1.none_of hD, ok1.nad hD, post⟩, ?_⟩
    rintro i m H' ⟨him, acc, us, S', W', st', ok', ge', hL, hus, nL, nA, post'⟩
    obtain ⟨w1, w2⟩ := wk W' H' S' ge' ok' i
    have n0 : H DD = none := st1.back hD
    rcases drop_get (ds := ds) (i := i) with ⟨e1, e2⟩ | ⟨d, e1, e2⟩
    · rw [e2] at post'
      exact .inl ⟨w2 (by have := List.getElem?_eq_none_iff.mp e1; omega), post' _ W' H' st' ok' ⟨DD, us, acc, rfl, rfl, n0, hL, hus, nL, nA⟩⟩
    · rw [e2] at post'
      obtain ⟨go, yld⟩ := w1 d e1
      have hlt : i < ds.length := (List.getElem?_eq_some_iff.mp e1).1
      refine .inr ⟨go, fun H2 => ∃ acc us S2 W2, Step W H W2 H2 ∧ WOk K G W2 S2 H2 ∧ WGe W1 W2 ∧ H2 DD = some (.lst us) ∧ IstL K W2 us acc ∧ W2.h DD = none ∧ DD ∉ W2.ad ∧
        Pg K G E W H (okE K G .f W H Q) ((compL (lcStep ρ a vs tt te) (ds.drop (i + 1)) acc S2).bind fun ys S2 => .ok (.lst ys) S2), fun H2 q => ⟨m - 1, by omega, by omega, q⟩, fun x H2 y => ?_⟩
      obtain ⟨W2, st2, ok2, is2⟩ := yld x H2 y
      have r2 := (rep.step (st'.trans st2) ok2).wipe vs
      unfold compL lcStep at post'
      cases ea : a d (wipeS ρ vs) with
      | none => simp only [ea] at post'; exact post'.elim
      | some ρ3 =>
        simp only [ea] at post'
        refine ⟨W2, W00, H00, wipeS ρ vs, ρ3, S', W2, d, ⟨r2, Step.empty, fun _ _ _ _ _ => rfl, WGe.refl _⟩, is2, ea, fun σ3 r3 k3 l3 => ⟨wipe_same hjs k3 l3, ?_⟩⟩
        -- the list stays as the steps go
        have keep : ∀ {W4 : Wd} {H4 : Hp} {S4 : Mem}, Step W2 H2 W4 H4 → WOk K G W4 S4 H4 → Step W H W4 H4 ∧ WGe W1 W4 ∧ H4 DD = some (.lst us) ∧ IstL K W4 us acc ∧ W4.h DD = none ∧ DD ∉ W4.ad := fun {W4 H4 S4} s4 o4 => by
          have s5 := st2.trans s4
          exact ⟨st'.trans s5, ge'.trans s5.ge, s5.pres DD _ hL nA (fun ps z => by cases z), IsL.step s5 hus, s5.new DD _ hL nA nL, s5.notad (by rw [hL]; simp) nA⟩
        refine ⟨ρ3, S', W2, r3.rep, ?_⟩
        cases et : tt ρ3 S' with
        | no => simp only [et, Res.bind, noer] at post'; exact post'.elim
        | er x S4 => simp only [et, Res.bind, noer] at post'; exact post'.elim
        | ok b S4 =>
          simp only [et, Res.bind] at post'
          cases b with
          | bl b =>
            refine ⟨b, rfl, fun W4 H4 st4 ok4 => ?_⟩
            cases b with
            | false =>
              refine iteF ?_
              obtain ⟨k1, k2, k3, k4, k5, k6⟩ := keep st4 ok4
              exact ⟨acc, us, S4, W4, k1, ok4, k2, k3, k4, k5, k6, post'⟩
            | true =>
              refine iteT ⟨ρ3, S4, W4, r3.rep.step st4 ok4, ?_⟩
              dsimp only at post'
              cases ee : te ρ3 S4 with
              | no => simp only [ee, noer] at post'; exact post'.elim
              | er x S5 => simp only [ee, noer] at post'; exact post'.elim
              | ok y S5 =>
                simp only [ee, noer] at post'
                intro v W5 H5 st5 ok5 is5
                obtain ⟨k1, k2, k3, k4, k5, k6⟩ := keep (st4.trans st5) ok5
                by_cases hz : acc.length < 1000000
                · rw [if_pos hz] at post'
                  refine ⟨us, k3, by rw [k4.length]; exact Nat.lt_of_lt_of_le hz (by decide), acc ++ [y], us ++ [v], S5, W5, k1.own (.inl n0), ok5.own k3 k5 k6, k2, upd_same, k4.append (.cons is5 .nil), k5, k6, post'⟩
                · rw [if_neg hz] at post'
                  exact post'.elim
          | _ => exact (show False from post').elim
theorem e_lc {elt tg iter : Expr} {ifs : List Expr} {scope : Scope} {own : List (Str × Nat)} {f : SemL} {a : Tg} {js : List Nat} {tt te : Sem} (hc : X.calm = true) (hN : X.N.Nodup) (hi : SI G E X tg iter f) (ok : BlkOk X.N X.env.scope scope own) (hjs : ∀ j ∈ js, j ∈ own.map (·.2))
    (hg : ∀ (s : Shared) (H : Hp) (C : Addr) (cl : List (Str × Addr)) (fp : List Addr), SG G js (X.blk s H scope (compEnvC scope cl C X.env) fp) tg a) (ht : ∀ (s : Shared) (H : Hp) (C : Addr) (cl : List (Str × Addr)) (fp : List Addr), STs G (X.blk s H scope (compEnvC scope cl C X.env) fp) ifs tt)
    (he : ∀ (s : Shared) (H : Hp) (C : Addr) (cl : List (Str × Addr)) (fp : List Addr), SE G EN .i (X.blk s H scope (compEnvC scope cl C X.env) fp) elt te) (hs : ∀ x, foldedSetIterable iter X.env x = pure x := by intro _; rfl) :
    SE G E .f X (.ListComp elt [⟨tg, iter, ifs, 0⟩] scope pos) (lc f a (own.map (·.2)) tt te) := by
  obtain ⟨wi, pi, si⟩ := hi
  exact ⟨_, pe_lc (g := canG X.K G js a) (tt := canT X.K G EN tt) (te := canE X.K G EN .i te) hc hN pi ok (fun s H C cl fp => (hg s H C cl fp).can) (fun s H C cl fp => (ht s H C cl fp).can) (fun s H C cl fp => (he s H C cl fp).can) hs, snd_lc si hjs⟩
theorem s_lc {i : Nat} {y : Str} {py spos : Pos} {elt tg iter : Expr} {ifs : List Expr} {scope : Scope} {own : List (Str × Nat)} {f : SemL} {a : Tg} {js : List Nat} {tt te : Sem} (hc : X.calm = true) (hN : X.N.Nodup) (hy : X.N[i]? = some y) (hyl : X.env.scope.names.lookup y = some .local)
    (hsw : swapsWith (.ListComp elt [⟨tg, iter, ifs, 0⟩] scope pos) (some (.Name y py)) spos.line X.env = pure true) (hi : SI G E X tg iter f) (ok : BlkOk X.N X.env.scope scope own) (hjs : ∀ j ∈ js, j ∈ own.map (·.2))
    (hg : ∀ (s : Shared) (H : Hp) (C : Addr) (cl : List (Str × Addr)) (fp : List Addr), SG G js (X.blk s H scope (compEnvC scope cl C X.env) fp) tg a) (ht : ∀ (s : Shared) (H : Hp) (C : Addr) (cl : List (Str × Addr)) (fp : List Addr), STs G (X.blk s H scope (compEnvC scope cl C X.env) fp) ifs tt)
    (he : ∀ (s : Shared) (H : Hp) (C : Addr) (cl : List (Str × Addr)) (fp : List Addr), SE G EN .i (X.blk s H scope (compEnvC scope cl C X.env) fp) elt te) (hs : ∀ x, foldedSetIterable iter X.env x = pure x := by intro _; rfl) :
    SS G E k X (.Assign [.Name y py] (.ListComp elt [⟨tg, iter, ifs, 0⟩] scope pos) spos) (asgO i (lc f a (own.map (·.2)) tt te)) := by
  obtain ⟨wi, pi, si⟩ := hi
  exact ⟨_, ps_setLc (g := canG X.K G js a) (tt := canT X.K G EN tt) (te := canE X.K G EN .i te) hc hN hy hyl hsw pi ok (fun s H C cl fp => (hg s H C cl fp).can) (fun s H C cl fp => (ht s H C cl fp).can) (fun s H C cl fp => (he s H C cl fp).can) hs, snd_asgO (snd_lc si hjs)⟩
/-- .. kept as a plain value -/
theorem s_lci {i : Nat} {y : Str} {py spos : Pos} {elt tg iter : Expr} {ifs : List Expr} {scope : Scope} {own : List (Str × Nat)} {f : SemL} {a : Tg} {js : List Nat} {tt te : Sem} (hc : X.calm = true) (hN : X.N.Nodup) (hy : X.N[i]? = some y) (hyl : X.env.scope.names.lookup y = some .local)
    (hsw : swapsWith (.ListComp elt [⟨tg, iter, ifs, 0⟩] scope pos) (some (.Name y py)) spos.line X.env = pure true) (hi : SI G E X tg iter f) (ok : BlkOk X.N X.env.scope scope own) (hjs : ∀ j ∈ js, j ∈ own.map (·.2))
    (hg : ∀ (s : Shared) (H : Hp) (C : Addr) (cl : List (Str × Addr)) (fp : List Addr), SG G js (X.blk s H scope (compEnvC scope cl C X.env) fp) tg a) (ht : ∀ (s : Shared) (H : Hp) (C : Addr) (cl : List (Str × Addr)) (fp : List Addr), STs G (X.blk s H scope (compEnvC scope cl C X.env) fp) ifs tt)
    (he : ∀ (s : Shared) (H : Hp) (C : Addr) (cl : List (Str × Addr)) (fp : List Addr), SE G EN .i (X.blk s H scope (compEnvC scope cl C X.env) fp) elt te) (hs : ∀ x, foldedSetIterable iter X.env x = pure x := by intro _; rfl) :
    SS G E k X (.Assign [.Name y py] (.ListComp elt [⟨tg, iter, ifs, 0⟩] scope pos) spos) (asg i (lc f a (own.map (·.2)) tt te)) := by
  obtain ⟨wi, pi, si⟩ := hi
  refine ⟨_, ps_setLc (g := canG X.K G js a) (tt := canT X.K G EN tt) (te := canE X.K G EN .i te) hc hN hy hyl hsw pi ok (fun s H C cl fp => (hg s H C cl fp).can) (fun s H C cl fp => (ht s H C cl fp).can) (fun s H C cl fp => (he s H C cl fp).can) hs, snd_asg ?_⟩
  exact snd_fi (snd_lc si hjs)
end
end Dl
/-! DlH: defs, their calls; what is built in; objects that change. -/
namespace Dl
open PySem L2
/-! ### defs -/
abbrev Fn := List D → Mem → Res D
def spF (K : PySem.W.Frag) (G : Gm) (n : Nat) (k : Rk) (F : Fn) : Sp := fun vs H Q E => vs.length = n ∧ ∃ (S : Mem) (W : Wd) (ds : List D), WOk K G W S H ∧ IstL K W vs ds ∧ Pg K G E W H (okE K G k W H Q) (F ds S)
structure Fo (P : Program) (w : World) (K : PySem.W.Frag) (mg : Str → Option Value) (base : Heap) (G : Gm) (kk : Nat) (x : Str) (n : Nat) (k : Rk) (F : Fn) : Prop where
  ex : ∃ (f : Addr) (fd : FuncData) (ps : List Str), FnOk P w K mg base (L2.CX P w) kk f fd ps (spF K G n k F) ∧ mg x = some (.ref f) ∧ PySem.W.keepIn K (.ref f) = true ∧ Binds K fd ps []
/-- less is told -/
def Le (F' F : Fn) : Prop := ∀ ds S, F' ds S = .no ∨ F' ds S = F ds S
theorem Fo.le {P : Program} {w : World} {K : PySem.W.Frag} {mg : Str → Option Value} {base : Heap} {G : Gm} {kk : Nat} {x : Str} {n : Nat} {k : Rk} {F F' : Fn} (h : Fo P w K mg base G kk x n k F) (l : Le F' F) : Fo P w K mg base G kk x n k F' := by
  obtain ⟨f, fd, ps, h1, h2, h3, h4⟩ := h.ex
  refine ⟨f, fd, ps, h1.imp fun vs H Q E ⟨hn, S, W, ds, k1, k2, k3⟩ => ⟨hn, S, W, ds, k1, k2, ?_⟩, h2, h3, h4⟩
  rcases l ds S with e | e
  · rw [e] at k3
    exact k3.elim
  · rw [e] at k3
    exact k3
theorem Fo.mono {P : Program} {w : World} {K : PySem.W.Frag} {mg : Str → Option Value} {base : Heap} {G : Gm} {kk kk' : Nat} {x : Str} {n : Nat} {k : Rk} {F : Fn} (h : Fo P w K mg base G kk x n k F) (l : kk ≤ kk') : Fo P w K mg base G kk' x n k F := by
  obtain ⟨f, fd, ps, h1, h2, h3, h4⟩ := h.ex
  exact ⟨f, fd, ps, h1.mono l, h2, h3, h4⟩
def callF (n : Nat) (F : Fn) (fs : SemL) : Sem := fun ρ S => (fs ρ S).bind fun ds S1 => if ds.length = n then F ds S1 else .no
section
variable {G : Gm} {E : XK} {X : Cx} {e : Expr} {es : List Expr} {pos : Pos} {k : Rk} {fa fb f : Sem}
theorem snd_call {K : PySem.W.Frag} {t : TA} {fs : SemL} {n : Nat} {F : Fn} (s : SndA K G E false t fs) : SndE K G E k (tCall (spF K G n k F) [] E t) (callF n F fs) := by
  intro ρ σ S W H Q rep post
  refine s.go rep (Step.refl W H) post fun ds S1 vs W1 H1 st1 s01 rep1 is1 post => ?_
  have is1 : AllR (Ist K W1) vs ds := is1
  by_cases hn : ds.length = n
  · rw [if_pos hn] at post
    refine ⟨by rw [List.append_nil, is1.len, hn], S1, W1, ds, rep1.wok, by rw [List.append_nil]; exact is1.is, pg_okE_step s01 post⟩
  · rw [if_neg hn] at post
    exact post.elim
theorem e_call {kk kr n : Nat} {x : Str} {F : Fn} {fs : SemL} {p : Pos} (h : Fo X.prog X.w X.K X.mg X.base G kk x n k F) (hr : Room kr X.A) (hk : kk ≤ kr) (hg : Gl X x) (hx : Passes (L2.CX X.prog X.w) X E) (ha : SA G E false X (e :: es) fs)
    (hdb : (x == ("__debug__" : Str)) = false := by decide) (he : starEach (e :: es) X.env = (false, eval e X.env) :: starEach es X.env := by rfl) (hpl : (backTo pos (starEach es X.env)).any (·.1) = false := by rfl) :
    SE G E k X (.Call (.Name x p) (e :: es) [] pos) (callF n F fs) := by
  obtain ⟨f, fd, ps, h1, h2, h3, h4⟩ := h.ex
  obtain ⟨t, pa, s⟩ := ha
  exact ⟨_, pe_call h1 (hr.mono hk) hg h2 h3 h4 .nil hx pa hdb he hpl, snd_call s⟩
end
/-- a def's body -/
def st0 (n : Nat) (ds : List D) : Env := ds.map Sl.dat ++ List.replicate (n - ds.length) .no
def bodyI (n : Nat) (g : SemS) : Fn := fun ds S => match g (st0 n ds) S with
  | .rt d S' => .ok d S'
  | .nx _ S' => .ok .non S'
  | .er x S' => .er x S'
  | _ => .no
def bodyF (n : Nat) (g : SemS) : Fn := fun ds S => match g (st0 n ds) S with
  | .rt d S' => .ok d S'
  | .er x S' => .er x S'
  | _ => .no
section
variable {K : PySem.W.Frag} {G : Gm} {W : Wd} {H : Hp} {S : Mem}
theorem rep_start {N : List Str} {vs : List V} {ds : List D} (k : WOk K G W S H) (q : IstL K W vs ds) (hl : vs.length ≤ N.length) : Rep K G (st0 N.length ds) (L2.start N vs) S W H := by
  have no : ∀ {i : Nat} {es : List D}, (st0 N.length ds)[i]? ≠ some (.own es) := fun {i es} e => by
    have := List.mem_of_getElem? e
    unfold st0 at this
    rcases List.mem_append.mp this with h | h
    · obtain ⟨d, _, h⟩ := List.mem_map.mp h
      cases h
    · have := List.eq_of_mem_replicate h
      cases this
  have eq := q.length
  refine ⟨k, ?_, fun i s e => ?_, fun i j ds es h => absurd h no⟩
  · unfold st0 L2.start
    simp [eq]
  · unfold st0 at e
    unfold L2.start
    by_cases hi : i < ds.length
    · rw [List.getElem?_append_left (by rw [List.length_map]; exact hi), List.getElem?_map] at e
      rw [List.getElem?_append_left (by rw [List.length_map, eq]; exact hi), List.getElem?_map]
      cases e1 : ds[i]? with
      | none => rw [e1] at e; cases e
      | some d =>
        rw [e1] at e
        cases e
        obtain ⟨v, h1, h2⟩ := q.get e1
        rw [h1]
        exact ⟨some v, rfl, h2⟩
    · rw [List.getElem?_append_right (by rw [List.length_map]; omega)] at e
      have e' := List.eq_of_mem_replicate (List.mem_of_getElem? e)
      subst e'
      have hn : i - ds.length < N.length - ds.length := by
        have := (List.getElem?_eq_some_iff.mp e).1
        rw [List.length_map, List.length_replicate] at this
        exact this
      rw [List.getElem?_append_right (by rw [List.length_map, eq]; omega)]
      refine ⟨none, ?_, trivial⟩
      rw [List.getElem?_replicate, List.length_map, eq, if_pos hn]
theorem pass_cx {P : Program} {w : World} {mg : Str → Option Value} {base : Heap} {N : List Str} {qual : Str} {sc : Scope} {f : Addr} {cd : Value} {A : Around} {outer : List PySem.Env} {s : Shared} {E : XK} : Passes (L2.CX P w) (cxOf (L2.CX P w) P w K mg base N qual sc f cd A outer s H E) E :=
  passes_call (takes_of rfl rfl rfl rfl) fun _ _ _ _ h => h
theorem pass_en {X : Cx} : Passes (L2.CX X.prog X.w) X EN := passL
theorem own_cx {P : Program} {w : World} {mg : Str → Option Value} {base : Heap} {N : List Str} {qual : Str} {sc : Scope} {f : Addr} {cd : Value} {A : Around} {outer : List PySem.Env} {s : Shared} {E : XK} : PassesOwn (model P w) (cxOf (L2.CX P w) P w K mg base N qual sc f cd A outer s H E).A (cxOf (L2.CX P w) P w K mg base N qual sc f cd A outer s H E).env (cxOf (L2.CX P w) P w K mg base N qual sc f cd A outer s H E).xe :=
  passes_of rfl
end
section
variable {P : Program} {w : World} {K : PySem.W.Frag} {mg : Str → Option Value} {base : Heap} {G : Gm}
theorem fn_okI {x qual : Str} {st : Stmt} {f : Addr} {fd : FuncData} {N ps : List Str} {kk : Nat} {g : SemS} (F : Fun K x qual st f fd) (S : FnScope N ps (defScope st))
    (hb : ∀ (cdv : Value) (A : Around) (outer : List PySem.Env) (s : Shared) (H : Hp) (E : XK), Room kk (A.deeper (PyProof.Rows.envOfC qual (defScope st) s.heap.objs.size f cdv)) → SSs G E .i (cxOf (L2.CX P w) P w K mg base N qual (defScope st) f cdv A outer s H E) (defBody st) g) :
    FnOk P w K mg base (L2.CX P w) (kk + 1) f fd ps (spF K G ps.length .i (bodyI N.length g)) := by
  refine F.okX S (fun vs H Q E h => h.1) (fun cdv A outer s H vs Q E hr h => ?_)
  obtain ⟨t, p, snd⟩ := hb cdv A outer s H E hr
  refine ⟨t, p, ?_⟩
  obtain ⟨hn, M, W, ds, h1, h2, h3⟩ := h
  have hl : vs.length ≤ N.length := by
    rw [hn]
    have := congrArg List.length S.pre
    rw [List.length_take] at this
    omega
  have r0 := rep_start (N := N) h1 h2 hl
  refine snd W W H _ _ M W H _ ⟨r0, Step.refl W H, fun i es l e => ?_, WGe.refl W⟩ ?_
  · exact absurd e (by
      intro e
      have := List.mem_of_getElem? e
      unfold st0 at this
      rcases List.mem_append.mp this with h | h
      · obtain ⟨d, _, h⟩ := List.mem_map.mp h
        cases h
      · have := List.eq_of_mem_replicate h
        cases this)
  · unfold bodyI at h3
    cases e : g (st0 N.length ds) M with
    | rt d S' => rw [e] at h3; exact h3
    | er x S' => rw [e] at h3; exact h3
    | nx ρ S' => rw [e] at h3; exact fun σ W' H' r => h3 .non W' H' r.st r.rep.wok .non
    | bk ρ S' => rw [e] at h3; exact h3.elim
    | ct ρ S' => rw [e] at h3; exact h3.elim
    | no => rw [e] at h3; exact h3.elim
theorem fn_okF {x qual : Str} {st : Stmt} {f : Addr} {fd : FuncData} {N ps : List Str} {kk : Nat} {g : SemS} {k : Rk} (F : Fun K x qual st f fd) (S : FnScope N ps (defScope st))
    (hb : ∀ (cdv : Value) (A : Around) (outer : List PySem.Env) (s : Shared) (H : Hp) (E : XK), Room kk (A.deeper (PyProof.Rows.envOfC qual (defScope st) s.heap.objs.size f cdv)) → SSs G E k (cxOf (L2.CX P w) P w K mg base N qual (defScope st) f cdv A outer s H E) (defBody st) (sq g nev)) :
    FnOk P w K mg base (L2.CX P w) (kk + 1) f fd ps (spF K G ps.length k (bodyF N.length g)) := by
  refine F.okX S (fun vs H Q E h => h.1) (fun cdv A outer s H vs Q E hr h => ?_)
  obtain ⟨t, p, snd⟩ := hb cdv A outer s H E hr
  refine ⟨t, p, ?_⟩
  obtain ⟨hn, M, W, ds, h1, h2, h3⟩ := h
  have hl : vs.length ≤ N.length := by
    rw [hn]
    have := congrArg List.length S.pre
    rw [List.length_take] at this
    omega
  have r0 := rep_start (N := N) h1 h2 hl
  refine snd W W H _ _ M W H _ ⟨r0, Step.refl W H, fun i es l e => ?_, WGe.refl W⟩ ?_
  · exact absurd e (by
      intro e
      have := List.mem_of_getElem? e
      unfold st0 at this
      rcases List.mem_append.mp this with h | h
      · obtain ⟨d, _, h⟩ := List.mem_map.mp h
        cases h
      · have := List.eq_of_mem_replicate h
        cases this)
  · unfold bodyF at h3
    unfold sq
    cases e : g (st0 N.length ds) M with
    | rt d S' => rw [e] at h3; exact h3
    | er x S' => rw [e] at h3; exact h3
    | nx ρ S' => rw [e] at h3; exact h3.elim
    | bk ρ S' => rw [e] at h3; exact h3.elim
    | ct ρ S' => rw [e] at h3; exact h3.elim
    | no => rw [e] at h3; exact h3.elim
/-- a statement list whose end is not reached -/
theorem SSs.end {G : Gm} {E : XK} {k : Rk} {X : Cx} {sts : List Stmt} {g : SemS} (h : SSs G E k X sts g) : SSs G E k X sts (sq g nev) := by
  obtain ⟨t, p, s⟩ := h
  refine ⟨t, p, fun Wb W0 H0 ρ σ S W H Dn r post => s Wb W0 H0 ρ σ S W H Dn r ?_⟩
  unfold sq at post
  cases e : g ρ S with
  | nx ρ S' => rw [e] at post; exact post.elim
  | rt d S' => rw [e] at post; exact post
  | er x S' => rw [e] at post; exact post
  | bk ρ S' => rw [e] at post; exact post
  | ct ρ S' => rw [e] at post; exact post
  | no => rw [e] at post; exact post
end
/-! ### what is built in -/
def lenD : List D → Option D
  | [.str s] => if s.length ≤ 1000000 then some (.int s.length) else none
  | [.lst ds] => some (.int ds.length)
  | [.tup ds] => some (.int ds.length)
  | [.frz ds] => some (.int ds.length)
  | _ => none
def absD : List D → Option D
  | [.int i] => some (.int (if i < 0 then -i else i))
  | _ => none
def max2D : List D → Option D
  | [.int i, .int j] => some (.int (if j > i then j else i))
  | _ => none
def min2D : List D → Option D
  | [.int i, .int j] => some (.int (if j < i then j else i))
  | _ => none
def intD : List D → Option D
  | [.int i] => some (.int i)
  | [.bl b] => some (.int (if b then 1 else 0))
  | [.str s] => if s.length ≤ 640 then (PySem.intText? s).map fun n => .int n else none
  | _ => none
def strD : List D → Option D
  | [.int i] => if i.natAbs.log2 < 1920 then some (.str (Str.ofString (toString i))) else none
  | _ => none
def intsOf : List D → Option (List Int)
  | [] => some []
  | .int i :: ds => (intsOf ds).map fun is => i :: is
  | _ :: _ => none
def sumD : List D → Option D
  | [.lst ds] => (intsOf ds).map fun is => .int is.sum
  | _ => none
def maxL : List Int → Option Int
  | [] => none
  | i :: is => some (is.foldl (fun a b => if b > a then b else a) i)
def minL : List Int → Option Int
  | [] => none
  | i :: is => some (is.foldl (fun a b => if b < a then b else a) i)
def maxD : List D → Option D
  | [.lst ds] => ((intsOf ds).bind maxL).map fun m => .int m
  | _ => none
def minD : List D → Option D
  | [.lst ds] => ((intsOf ds).bind minL).map fun m => .int m
  | _ => none
def listD : List D → Option D
  | [.lst ds] => some (.lst ds)
  | [.tup ds] => some (.lst ds)
  | _ => none
def tupD : List D → Option D
  | [.lst ds] => some (.tup ds)
  | _ => none
theorem AllR.one {R : V → D → Prop} {vs : List V} {d : D} (h : AllR R vs [d]) : ∃ v, vs = [v] ∧ R v d := by
  cases h with
  | cons a b => cases b; exact ⟨_, rfl, a⟩
theorem AllR.two {R : V → D → Prop} {vs : List V} {d e : D} (h : AllR R vs [d, e]) : ∃ v u, vs = [v, u] ∧ R v d ∧ R u e := by
  cases h with
  | cons a b =>
    obtain ⟨u, rfl, c⟩ := b.one
    exact ⟨_, u, rfl, a, c⟩
theorem ints_of {K : PySem.W.Frag} {ad : List Addr} {h : Hp} : ∀ {vs : List V} {ds : List D} {is : List Int}, IsL K ad h vs ds → intsOf ds = some is → vs = is.map V.int
  | _, _, _, .nil, e => by
    cases e
    rfl
  | _, _, _, .cons (d := d) q r, e => by
    cases d with
    | int i =>
      dsimp only [intsOf] at e
      cases q
      obtain ⟨js, h1, rfl⟩ := Option.map_eq_some_iff.mp e
      rw [ints_of r h1]
      rfl
    | _ => cases e
section
variable {G : Gm} {E : XK} {X : Cx}
theorem len_ok : CallD X.K G .i (fun xs H Q => ∃ x n, xs = [x] ∧ LenV X.K x H n ∧ Q (.int n) H) lenD := by
  intro S W H vs ds d Q wok is e q
  match ds, is, e with
  | [.str s], is, e =>
    obtain ⟨v, rfl, i1⟩ := is.one
    have ev := View.strv i1
    subst ev
    dsimp only [lenD] at e
    by_cases hz : s.length ≤ 1000000
    · rw [if_pos hz] at e
      cases e
      exact ⟨_, s.length, rfl, ⟨sz6 hz, rfl⟩, q.here wok (.int _)⟩
    · rw [if_neg hz] at e
      cases e
  | [.lst ds], is, e =>
    obtain ⟨v, rfl, i1⟩ := is.one
    obtain ⟨a, xs, rfl, h1, h2⟩ := View.lstv wok i1
    cases e
    exact ⟨_, ds.length, rfl, .inl ⟨xs, SqL.of h1, h2.length.symm⟩, q.here wok (.int _)⟩
  | [.tup ds], is, e =>
    obtain ⟨v, rfl, i1⟩ := is.one
    obtain ⟨a, xs, rfl, h1, h2⟩ := View.tupv wok i1
    cases e
    exact ⟨_, ds.length, rfl, .inr ⟨xs, h1, h2.length.symm⟩, q.here wok (.int _)⟩
  | [.frz ds], is, e =>
    obtain ⟨v, rfl, i1⟩ := is.one
    obtain ⟨a, xs, rfl, h1, h2⟩ := View.frzv wok i1
    cases e
    exact ⟨_, ds.length, rfl, .inl ⟨xs, h1, h2.length.symm⟩, q.here wok (.int _)⟩
  | [], _, e => cases e
  | [.non], _, e => cases e
  | [.bl _], _, e => cases e
  | [.int _], _, e => cases e
  | [.obj _], _, e => cases e
  | [.exc _ _ _], _, e => cases e
  | [.clo _ _ _ _], _, e => cases e
  | x :: _ :: _, _, e => cases x <;> cases e
theorem one_int {g : List D → Option D} {h : Int → Int} (hg : ∀ ds d, g ds = some d → ∃ i, ds = [.int i] ∧ d = .int (h i)) : CallD X.K G .i (fun xs H Q => ∃ i, xs = [.int i] ∧ Q (.int (h i)) H) g := by
  intro S W H vs ds d Q wok is e q
  obtain ⟨i, rfl, rfl⟩ := hg ds d e
  obtain ⟨v, rfl, i1⟩ := is.one
  have ev := View.intv i1
  subst ev
  exact ⟨i, rfl, q.here wok (.int _)⟩
theorem two_int {g : List D → Option D} {h : Int → Int → Int} (hg : ∀ ds d, g ds = some d → ∃ i j, ds = [.int i, .int j] ∧ d = .int (h i j)) : CallD X.K G .i (fun xs H Q => ∃ i j, xs = [.int i, .int j] ∧ Q (.int (h i j)) H) g := by
  intro S W H vs ds d Q wok is e q
  obtain ⟨i, j, rfl, rfl⟩ := hg ds d e
  obtain ⟨v, u, rfl, i1, i2⟩ := is.two
  have ev := View.intv i1
  subst ev
  have ev := View.intv i2
  subst ev
  exact ⟨i, j, rfl, q.here wok (.int _)⟩
theorem abs_ok : CallD X.K G .i (fun xs H Q => ∃ i, xs = [.int i] ∧ Q (.int (if i < 0 then -i else i)) H) absD := one_int (h := fun i => if i < 0 then -i else i) fun ds d e => by
  unfold absD at e
  split at e
  · cases e; exact ⟨_, rfl, rfl⟩
  · cases e
theorem max2_ok : CallD X.K G .i (fun xs H Q => ∃ i j, xs = [.int i, .int j] ∧ Q (.int (if j > i then j else i)) H) max2D := two_int (h := fun i j => if j > i then j else i) fun ds d e => by
  unfold max2D at e
  split at e
  · cases e; exact ⟨_, _, rfl, rfl⟩
  · cases e
theorem min2_ok : CallD X.K G .i (fun xs H Q => ∃ i j, xs = [.int i, .int j] ∧ Q (.int (if j < i then j else i)) H) min2D := two_int (h := fun i j => if j < i then j else i) fun ds d e => by
  unfold min2D at e
  split at e
  · cases e; exact ⟨_, _, rfl, rfl⟩
  · cases e
def rIntA : List V → Hp → VK → Prop := fun xs H Q => ((∃ i, xs = [.int i] ∧ Q (.int i) H) ∨ ∃ k, xs = [.bl k] ∧ Q (.int (if k then 1 else 0)) H) ∨ ∃ a n, xs = [.str a] ∧ PySem.intText? a = some n ∧ a.length ≤ 640 ∧ Q (.int n) H
theorem call_intA : CallR X (.type "int") rIntA := CallR.or call_int1 call_int_str
theorem int_ok : CallD X.K G .i rIntA intD := by
  intro S W H vs ds d Q wok is e q
  unfold intD at e
  split at e
  · obtain ⟨v, rfl, i1⟩ := is.one
    have ev := View.intv i1
    subst ev
    cases e
    exact .inl (.inl ⟨_, rfl, q.here wok (.int _)⟩)
  · obtain ⟨v, rfl, i1⟩ := is.one
    have ev := View.blv i1
    subst ev
    cases e
    exact .inl (.inr ⟨_, rfl, q.here wok (.int _)⟩)
  · rename_i s
    obtain ⟨v, rfl, i1⟩ := is.one
    have ev := View.strv i1
    subst ev
    by_cases hz : s.length ≤ 640
    · rw [if_pos hz] at e
      obtain ⟨n, h1, rfl⟩ := Option.map_eq_some_iff.mp e
      exact .inr ⟨s, n, rfl, h1, hz, q.here wok (.int _)⟩
    · rw [if_neg hz] at e
      cases e
  · cases e
theorem str_ok : CallD X.K G .i (fun xs H Q => ∃ i, xs = [.int i] ∧ i.natAbs.log2 < 1920 ∧ Q (.str (toString i)) H) strD := by
  intro S W H vs ds d Q wok is e q
  unfold strD at e
  split at e
  · rename_i i
    obtain ⟨v, rfl, i1⟩ := is.one
    have ev := View.intv i1
    subst ev
    by_cases hz : i.natAbs.log2 < 1920
    · rw [if_pos hz] at e
      cases e
      exact ⟨i, rfl, hz, q.here wok (.str _)⟩
    · rw [if_neg hz] at e
      cases e
  · cases e
theorem sum_ok : CallD X.K G .i (rSum X.K) sumD := by
  intro S W H vs ds d Q wok is e q
  unfold sumD at e
  split at e
  · obtain ⟨v, rfl, i1⟩ := is.one
    obtain ⟨a, xs, rfl, h1, h2⟩ := View.lstv wok i1
    obtain ⟨js, h3, rfl⟩ := Option.map_eq_some_iff.mp e
    refine ⟨a, js, rfl, SqL.of ?_, q.here wok (.int _)⟩
    rw [← ints_of h2 h3]
    exact h1
  · cases e
theorem foldl_max : ∀ (is : List Int) (i : Int), (is.foldl (fun a b => if b > a then b else a) i) ∈ i :: is ∧ ∀ y ∈ i :: is, y ≤ is.foldl (fun a b => if b > a then b else a) i
  | [], i => ⟨by simp, fun y h => by
    have h' : y = i := by simpa using h
    rw [h']
    exact Int.le_refl _⟩
  | j :: is, i => by
    obtain ⟨h1, h2⟩ := foldl_max is (if j > i then j else i)
    rw [List.foldl_cons]
    refine ⟨?_, fun y hy => ?_⟩
    · rcases List.mem_cons.mp h1 with e | e
      · rw [e]
        split <;> simp
      · simp [e]
    · have h0 := h2 (if j > i then j else i) (by simp)
      rcases List.mem_cons.mp hy with e | hy
      · subst e
        refine Int.le_trans ?_ h0
        split <;> omega
      · rcases List.mem_cons.mp hy with e | hy
        · subst e
          refine Int.le_trans ?_ h0
          split <;> omega
        · exact h2 y (by simp [hy])
theorem foldl_min : ∀ (is : List Int) (i : Int), (is.foldl (fun a b => if b < a then b else a) i) ∈ i :: is ∧ ∀ y ∈ i :: is, is.foldl (fun a b => if b < a then b else a) i ≤ y
  | [], i => ⟨by simp, fun y h => by
    have h' : y = i := by simpa using h
    rw [h']
    exact Int.le_refl _⟩
  | j :: is, i => by
    obtain ⟨h1, h2⟩ := foldl_min is (if j < i then j else i)
    rw [List.foldl_cons]
    refine ⟨?_, fun y hy => ?_⟩
    · rcases List.mem_cons.mp h1 with e | e
      · rw [e]
        split <;> simp
      · simp [e]
    · have h0 := h2 (if j < i then j else i) (by simp)
      rcases List.mem_cons.mp hy with e | hy
      · subst e
        refine Int.le_trans h0 ?_
        split <;> omega
      · rcases List.mem_cons.mp hy with e | hy
        · subst e
          refine Int.le_trans h0 ?_
          split <;> omega
        · exact h2 y (by simp [hy])
theorem max_ok : CallD X.K G .i (rMax X.K) maxD := by
  intro S W H vs ds d Q wok is e q
  unfold maxD at e
  split at e
  · obtain ⟨v, rfl, i1⟩ := is.one
    obtain ⟨a, xs, rfl, h1, h2⟩ := View.lstv wok i1
    obtain ⟨m, h3, rfl⟩ := Option.map_eq_some_iff.mp e
    obtain ⟨js, h4, h5⟩ := Option.bind_eq_some_iff.mp h3
    refine ⟨a, js, rfl, SqL.of (by rw [← ints_of h2 h4]; exact h1), ?_, fun m' k1 k2 => ?_⟩
    · cases js with
      | nil => cases h5
      | cons => simp
    · cases js with
      | nil => cases h5
      | cons j js =>
        cases h5
        obtain ⟨f1, f2⟩ := foldl_max js j
        have e1 := k2 _ f1
        have e2 := f2 _ k1
        have : m' = js.foldl (fun a b => if b > a then b else a) j := by omega
        rw [this]
        exact q.here wok (.int _)
  · cases e
theorem min_ok : CallD X.K G .i (rMin X.K) minD := by
  intro S W H vs ds d Q wok is e q
  unfold minD at e
  split at e
  · obtain ⟨v, rfl, i1⟩ := is.one
    obtain ⟨a, xs, rfl, h1, h2⟩ := View.lstv wok i1
    obtain ⟨m, h3, rfl⟩ := Option.map_eq_some_iff.mp e
    obtain ⟨js, h4, h5⟩ := Option.bind_eq_some_iff.mp h3
    refine ⟨a, js, rfl, SqL.of (by rw [← ints_of h2 h4]; exact h1), ?_, fun m' k1 k2 => ?_⟩
    · cases js with
      | nil => cases h5
      | cons => simp
    · cases js with
      | nil => cases h5
      | cons j js =>
        cases h5
        obtain ⟨f1, f2⟩ := foldl_min js j
        have e1 := k2 _ f1
        have e2 := f2 _ k1
        have : m' = js.foldl (fun a b => if b < a then b else a) j := by omega
        rw [this]
        exact q.here wok (.int _)
  · cases e
theorem list_ok : CallD X.K G .f (fun xs H Q => ∃ p ys, xs = [.ref p] ∧ (SqL X.K H p ys ∨ SqT X.K H p ys) ∧ ∀ l, H l = none → Q (.ref l) (upd H l (.lst ys))) listD := by
  intro S W H vs ds d Q wok is e q
  unfold listD at e
  split at e
  · obtain ⟨v, rfl, i1⟩ := is.one
    obtain ⟨a, xs, rfl, h1, h2⟩ := View.lstv wok i1
    cases e
    exact ⟨a, xs, rfl, .inl (SqL.of h1), fun l hl => q.newL wok h2 hl⟩
  · obtain ⟨v, rfl, i1⟩ := is.one
    obtain ⟨a, xs, rfl, h1, h2⟩ := View.tupv wok i1
    cases e
    exact ⟨a, xs, rfl, .inr h1, fun l hl => q.newL wok h2 hl⟩
  · cases e
theorem tup_ok : CallD X.K G .i (fun xs H Q => ∃ p ys, xs = [.ref p] ∧ ((SqL X.K H p ys ∧ ∀ l, H l = none → Q (.ref l) (upd H l (.tup ys))) ∨ (SqT X.K H p ys ∧ Q (.ref p) H))) tupD := by
  intro S W H vs ds d Q wok is e q
  unfold tupD at e
  split at e
  · obtain ⟨v, rfl, i1⟩ := is.one
    obtain ⟨a, xs, rfl, h1, h2⟩ := View.lstv wok i1
    cases e
    exact ⟨a, xs, rfl, .inl ⟨SqL.of h1, fun l hl => q.newT wok h2 hl⟩⟩
  · cases e
/-- isinstance -/
def tyB : D → Option String
  | .non => some "NoneType"
  | .bl _ => some "bool"
  | .int _ => some "int"
  | .str _ => some "str"
  | .tup _ => some "tuple"
  | .lst _ => some "list"
  | .frz _ => none
  | .obj _ => none
  | .exc _ _ _ => none
  | .clo _ _ _ _ => none
def isiD (T : String) : D → Option D := fun d => match tyB d with
  | some t => (kitB t T).map fun b => .bl b
  | none => none
theorem View.ty {K : PySem.W.Frag} {S : Mem} {W : Wd} {H : Hp} {x : V} {dx : D} {t : String} (wok : WOk K G W S H) (ix : View K W H x dx) (e : tyB dx = some t) : TyX K H x (.type t) := by
  cases dx with
  | non => cases e; rw [ix.nonv]; exact .base .non
  | bl b => cases e; rw [ix.blv]; exact .base (.bl b)
  | int i => cases e; rw [ix.intv]; exact .base (.int i)
  | str s => cases e; rw [ix.strv]; exact .base (.str s)
  | tup ds =>
    cases e
    obtain ⟨a, xs, rfl, h1, h2⟩ := ix.tupv wok
    rcases h1 with (h1 | ⟨o, h1⟩) | ⟨o, its, n, h1, h2, _⟩
    · exact .base (.tup h1)
    · exact .fTuple h1
    · exact .kTuple h1 h2
  | lst ds =>
    cases e
    obtain ⟨a, xs, rfl, h1, h2⟩ := ix.lstv wok
    exact .base (.lst h1)
  | frz ds => cases e
  | obj k => cases e
  | exc a o y => cases e
  | clo f vs ms ds => cases e
theorem e_isi {T : String} {e : Expr} {f : Sem} {xT : Str} {p p2 pos : Pos} (hg : Gl X "isinstance") (hm : X.mg "isinstance" = none) (hT : Gl X xT) (hmT : X.mg xT = none) (hv : bootBuiltins xT = some (.type T)) (h : SE G E .v X e f) (hn : xT ≠ "__name__" := by decide) (hd : (xT == ("__debug__" : Str)) = false := by decide)
    (hs : starEach [e, .Name xT p2] X.env = (false, eval e X.env) :: starEach [.Name xT p2] X.env := by rfl) : SE G E .i X (.Call (.Name "isinstance" p) [e, .Name xT p2] [] pos) (un (isiD T) f) := by
  obtain ⟨t, pt, s⟩ := h
  refine ⟨_, pe_callB call_isi hg hm PyProof.Rows.boot_isinstance (pa_cons pt (pa_cons (pe_bltn (v := .ty T) hT hmT hv rfl hn hd) pa_nil) hs) (by decide) (by decide) hs, fun ρ σ S W H Q rep post => ?_⟩
  refine s.go rep (Step.refl W H) post fun dx S1 x W1 H1 st1 s01 rep1 is1 post => ?_
  cases e3 : isiD T dx with
  | none => rw [e3] at post; exact post.elim
  | some d =>
    rw [e3] at post
    unfold isiD at e3
    cases e4 : tyB dx with
    | none => rw [e4] at e3; cases e3
    | some ty =>
      rw [e4] at e3
      obtain ⟨b, h5, rfl⟩ := Option.map_eq_some_iff.mp e3
      exact ⟨x, .ty T, .type ty, .type T, b, rfl, .ty T, View.ty rep1.wok is1 e4, kit_ty h5, post _ W1 H1 s01 rep1.wok (.bl b)⟩
end
end Dl
/-! DlI: texts walked, enumerate, list(range), in range, objects that change, text methods. -/
namespace L2
open PySem PySem.Spec PyProof.Rows
/-- the signs of x, each in a new pair -/
def Ites (x : Str) : It :=
  ⟨fun i _ => i < x.cps.size, fun i H v H' => ∃ T c, v = .ref T ∧ H T = none ∧ H' = upd H T (.tup [.int (i : Nat), .str ⟨#[c]⟩]) ∧ x.cps[i]? = some c, fun i _ => i = x.cps.size⟩
theorem turn_enumS {P : Program} {w : World} {K : PySem.W.Frag} {elts : List Expr} {kk : Nat} {tpos : Pos} (x : Str) (t : Tok) (e it : Addr) :
    Turn P w K (.Tuple elts kk tpos) (Ites x) [e, it] e (fun i h => (∃ old, IsEnum h e it ((i : Nat) : Int) old) ∧ h.IsStrIter it (strIterType x) x t i ∧ e ≠ it) where
  mem := by simp
  obj := fun i h st b hb => by
    obtain ⟨⟨old, he⟩, hi, _⟩ := st
    have e' : b = e ∨ b = it := by simpa using hb
    rcases e' with z | z
    · rw [z]; exact ⟨_, he, fun v q => nomatch q⟩
    · rw [z]
      obtain ⟨o, ho, hc, hd⟩ := hi
      exact ⟨o, ho, fun v q => by rw [hd] at q; cases q⟩
  keep := fun i h h' st k => let ⟨⟨old, he⟩, hi, hne⟩ := st; ⟨⟨old, k e (by simp) _ he⟩, let ⟨o, ho, r⟩ := hi; ⟨o, k it (by simp) o ho, r⟩, hne⟩
  item := by
    intro X hP hw hK hc i pins s σ H E I hf st hg
    subst hP hw hK
    obtain ⟨⟨old, he⟩, hit, hne⟩ := st
    have hel : e < s.heap.objs.size := Heap.lt_size he
    have hil : it < s.heap.objs.size := by obtain ⟨_, q, _⟩ := hit; exact Heap.lt_size q
    refine wpAny_pyNext_enum_itemC (Draws.text (A := X.A.in1) (I.ok.hd hc) it x t) he hit hg hne (by simpa using hne) fun u h' tk hu ho hit' hT hsz hk => ?_
    obtain ⟨c, tu, hcc, rfl⟩ := hu
    refine ⟨_, rfl, wpAny_letOwnedTupleGo_enum (s := { s with heap := h', toks := tk + 1 }) ho fun h'' he' sb => ?_⟩
    have hT2 : h''.get? s.heap.objs.size = some { cls := .type "tuple", data := .seq #[.int i tk, .str ⟨#[c]⟩ tu] } := (sb.2 _ (Nat.ne_of_gt hel)).trans hT
    have new : ObjOk X.prog X.w (upd H s.heap.objs.size (.tup [.int (i : Nat), .str ⟨#[c]⟩])) h'' s.heap.objs.size (.tup [.int (i : Nat), .str ⟨#[c]⟩]) :=
      ⟨by show 2 ≤ sizeLine; decide, [.int i tk, .str ⟨#[c]⟩ tu], .cons ⟨_, rfl⟩ (.cons ⟨_, rfl⟩ .nil), ⟨_, hT2, rfl, _, rfl⟩⟩
    have I1 : Inv X pins σ (upd H s.heap.objs.size (.tup [.int (i : Nat), .str ⟨#[c]⟩])) { s with heap := h'', toks := tk + 1 } :=
      I.turnedNew (ch := [e, it]) (fun b ob hb q => (sb.2 b (fun z => hb (by simp [z]))).trans (hk b ob (fun z => hb (by simp [z])) (fun z => hb (by simp [z])) q)) hf (Nat.le_refl _) new
    refine ⟨.ref s.heap.objs.size, _, I1, rfl, ⟨_, c, rfl, I.hok.fresh (Nat.le_refl _), rfl, hcc⟩, ⟨⟨.str ⟨#[c]⟩ tu, ?_⟩, ?_, hne⟩, fun b hb => ?_⟩
    · have e1 : ((i + 1 : Nat) : Int) = (i : Int) + 1 := by omega
      rw [e1]; exact he'
    · obtain ⟨o, ho, r⟩ := hit'
      exact ⟨o, (sb.2 it (Ne.symm hne)).trans ho, r⟩
    · have hb' : b < s.heap.objs.size := by
        have e' : b = e ∨ b = it := by simpa using hb
        rcases e' with z | z
        · rw [z]; exact hel
        · rw [z]; exact hil
      rw [upd_ne (Nat.ne_of_lt hb')]
      exact (hf b hb).1
  done := by
    intro X hP hw hK hc i pins s σ H E I hf st hg
    subst hP hw hK
    obtain ⟨⟨old, he⟩, hit, hne⟩ := st
    obtain ⟨f0, f1, f2, f3, f4, f5⟩ := hf it (by simp)
    obtain rfl : i = x.cps.size := hg
    exact wpAny_pyNext_enum_endD (Draws.text (A := X.A.in1) (I.ok.hd hc) it x t) he hit fun h' eb => ⟨rfl, I.turned (t' := s.toks) (fun b o hb q => eb b o hb q) f0 f1 f3 f4 f5⟩
  self := fun A i s Q E st h => let ⟨⟨_, he⟩, _⟩ := st; wpAny_pyIter_enum he h
def iEnumS (ta : TA) : TI := fun σ H R => ta σ H fun vs H1 => ∃ x, vs = [.str x] ∧ R (Ites x) H1
theorem pi_enumS {X : Cx} {e : Expr} {ta : TA} {p pos tpos : Pos} {elts : List Expr} {kk : Nat} (hg : Gl X "enumerate") (hm : X.mg "enumerate" = none) (ha : PA X [e] ta) (hs : starEach [e] X.env = [(false, eval e X.env)] := by rfl) :
    PI X (.Tuple elts kk tpos) (.Call (.Name "enumerate" p) [e] [] pos) (iEnumS ta) := by
  refine ⟨fun pins s σ H R I h => ?_⟩
  refine Call_ (ld_blt I hg hm boot_enumerate (PyProof.Rows.callWith_type1 (thn (ha.run pos pins s σ H _ I h) fun us s1 ⟨vs, H1, I1, r1, q1⟩ => ?_) hs rfl))
  obtain ⟨x, ex, q⟩ := q1
  subst ex
  cases r1 with
  | cons r rr =>
    cases rr
    obtain ⟨t, rfl⟩ := r
    refine call_enumerate_str fun h' he hit hsz hk => wpAny_pyIter_enum he ?_
    have I2 : Inv X pins σ H1 { s1 with heap := h' } := I1.kept (t' := s1.toks) hk
    refine ⟨s1.heap.objs.size + 1, [s1.heap.objs.size + 1, s1.heap.objs.size], _, _, H1, rfl, I2, turn_enumS x t (s1.heap.objs.size + 1) s1.heap.objs.size, ⟨⟨.none, he⟩, hit, Nat.succ_ne_self _⟩, fun b hb => ?_, q⟩
    have e' : b = s1.heap.objs.size + 1 ∨ b = s1.heap.objs.size := by simpa using hb
    have hle : s1.heap.objs.size ≤ b := by
      rcases e' with z | z
      · rw [z]; exact Nat.le_add_right _ _
      · rw [z]; exact Nat.le_refl _
    exact I1.fpOk hle (I1.hok.fresh hle)
end L2
namespace Dl
open PySem L2
section
variable {G : Gm} {E : XK} {X : Cx} {e a b : Expr} {es : List Expr} {pos : Pos} {k : Rk} {fa fb f : Sem}
/-! ### texts walked -/
theorem signs_get {x : Str} {i : Nat} : (signs x)[i]? = (x.cps[i]?).map fun c => .str ⟨#[c]⟩ := by
  unfold signs
  rw [List.getElem?_map, Array.getElem?_toList]
theorem i_str {tg : Expr} (h : SE G E .i X e f) : SI G E X tg e (itS f) := by
  obtain ⟨t, p, s⟩ := h
  refine ⟨_, pi_str p, fun ρ σ S W H R rep post => ?_⟩
  refine s.go rep (Step.refl W H) post fun d S1 v W1 H1 st1 s01 rep1 is1 post => ?_
  have is1 : Ist X.K W1 v d := is1
  cases d with
  | str x =>
    refine ⟨x, is1.strv, post _ W1 H1 st1 rep1.wok fun W' H' S' ge ok i => ?_⟩
    rw [signs_get]
    refine ⟨fun d e => ?_, fun e => ?_⟩
    · obtain ⟨c, e1, rfl⟩ := Option.map_eq_some_iff.mp e
      refine ⟨(Array.getElem?_eq_some_iff.mp e1).1, fun y H'' q => ?_⟩
      obtain ⟨rfl, c', e2, rfl⟩ := q
      rw [e1] at e2
      cases e2
      exact ⟨W', Step.refl _ _, ok, .str _⟩
    · show x.cps.size ≤ i
      rw [e]
      simp [signs]
  | _ => exact (show False from post).elim
def enumS (x : Str) : List D := x.cps.toList.zipIdx.map fun p => .tup [.int (p.2 : Nat), .str ⟨#[p.1]⟩]
def itES (f : Sem) : SemL := fun ρ S => (f ρ S).bind fun d S1 => match d with
  | .str x => .ok (enumS x) S1
  | _ => .no
theorem enumS_get {x : Str} {i : Nat} : (enumS x)[i]? = (x.cps[i]?).map fun c => .tup [.int (i : Nat), .str ⟨#[c]⟩] := by
  unfold enumS
  rw [List.getElem?_map, List.getElem?_zipIdx, Array.getElem?_toList]
  cases x.cps[i]? with
  | none => rfl
  | some c => simp
theorem i_enumS {elts : List Expr} {kk : Nat} {p tpos : Pos} (hg : Gl X "enumerate") (hm : X.mg "enumerate" = none) (h : SE G E .i X e f) (hs : starEach [e] X.env = [(false, eval e X.env)] := by rfl) : SI G E X (.Tuple elts kk tpos) (.Call (.Name "enumerate" p) [e] [] pos) (itES f) := by
  obtain ⟨t, pt, s⟩ := h
  refine ⟨_, pi_enumS hg hm (pa_cons pt pa_nil (by rw [hs]; rfl)) hs, fun ρ σ S W H R rep post => ?_⟩
  refine s.go rep (Step.refl W H) post fun d S1 v W1 H1 st1 s01 rep1 is1 post => ?_
  have is1 : Ist X.K W1 v d := is1
  cases d with
  | str x =>
    refine ⟨x, by rw [is1.strv], post _ W1 H1 st1 rep1.wok fun W' H' S' ge ok i => ?_⟩
    rw [enumS_get]
    refine ⟨fun d e => ?_, fun e => ?_⟩
    · obtain ⟨c, e1, rfl⟩ := Option.map_eq_some_iff.mp e
      refine ⟨(Array.getElem?_eq_some_iff.mp e1).1, fun y H'' q => ?_⟩
      obtain ⟨T, c', rfl, hT, rfl, e2⟩ := q
      rw [e1] at e2
      cases e2
      have nW := ok.none_of hT
      refine ⟨W'.add T (.tup [.int (i : Nat), .str ⟨#[c]⟩]), (Step.up (up_new hT)).add hT nW, (ok.up (up_new hT)).add upd_same nW (ok.nad hT) (fun ps z => by cases z), ?_⟩
      exact .tup (SqT.of (show upd W'.h T _ T = _ from upd_same)) (.cons (.int _) (.cons (.str _) .nil))
    · show i = x.cps.size
      rw [e]
      simp [enumS]
  | _ => exact (show False from post).elim
end
end Dl
/-! DlJ: objects that change, list(range), in range, sorted, text methods, lists of one's own changed. -/
namespace Dl
open PySem L2
section
variable {G : Gm} {E : XK} {X : Cx} {e a b : Expr} {es : List Expr} {pos : Pos} {k : Rk} {fa fb f : Sem}
/-! ### an item, of an object that changes too -/
def ixM : Mem → D → D → Option D
  | S, .obj k, .int i => match S[k]? with
    | some (.lst ds) => atI ds i
    | _ => none
  | _, x, y => idxD x y
def ixm (fa fb : Sem) : Sem := fun ρ S => (fa ρ S).bind fun x S1 => (fb ρ S1).bind fun y S2 => Res.opt (ixM S2 x y) S2
theorem ixM_ok {S : Mem} {W : Wd} {H : Hp} {x y : V} {dx dy d : D} {Q : VK} (wok : WOk X.K G W S H) (ix : View X.K W H x dx) (iy : View X.K W H y dy) (e : ixM S dx dy = some d) (q : okE X.K G .i W H Q d S) : rIx X.K x y H Q := by
  cases dx with
  | obj k =>
    cases dy with
    | int i =>
      dsimp only [ixM] at e
      rcases ix with ix | ⟨_, _, _, _, e0, _⟩
      · obtain ⟨a, rfl, ha⟩ := ix.objv
        cases e1 : S[k]? with
        | none => rw [e1] at e; cases e
        | some o =>
          rw [e1] at e
          cases o with
          | ins c fs => cases e
          | lst ds =>
            obtain ⟨vs, h1, h2⟩ := wok.obs k a _ ha e1
            obtain ⟨v, e3, e4⟩ := h2.at e
            exact .inl ⟨a, vs, i, v, rfl, iy.intv, SqL.of h1, e3, q.here wok e4⟩
      · cases e0
    | _ => cases e
  | exc a o y => exact ix_ok S W H x _ _ dy d Q wok ix iy e q
  | clo f vs ms ds => exact ix_ok S W H x y _ dy d Q wok ix iy e q
  | non => exact ix_ok S W H x y _ dy d Q wok ix iy e q
  | bl b => exact ix_ok S W H x y _ dy d Q wok ix iy e q
  | int i => exact ix_ok S W H x y _ dy d Q wok ix iy e q
  | str i => exact ix_ok S W H x y _ dy d Q wok ix iy e q
  | tup i => exact ix_ok S W H x y _ dy d Q wok ix iy e q
  | lst i => exact ix_ok S W H x y _ dy d Q wok ix iy e q
  | frz i => exact ix_ok S W H x y _ dy d Q wok ix iy e q
theorem e_ixm (ha : SE G E .v X a fa) (hb : SE G E .v X b fb) (hs : PlainIx b := by exact fun _ _ => rfl) : SE G E .i X (.Subscript a b pos) (ixm fa fb) := by
  obtain ⟨ta, pa, sa⟩ := ha
  obtain ⟨tb, pb, sb⟩ := hb
  refine ⟨_, pe_ix ix_seq pa pb hs, fun ρ σ S W H Q rep post => ?_⟩
  refine sa.go rep (Step.refl W H) post fun dx S1 x W1 H1 st1 s01 rep1 is1 post => ?_
  refine sb.go rep1 s01 post fun dy S2 y W2 H2 st2 s02 rep2 is2 post => ?_
  cases e3 : ixM S2 dx dy with
  | none => rw [e3] at post; exact post.elim
  | some d =>
    rw [e3] at post
    exact ixM_ok rep2.wok (View.step st2 is1) is2 e3 fun v W' H' st3 ok3 rr => post v W' H' (s02.trans st3) ok3 (rr.pre (k := .i) s02)
/-- o[i] = e, o one of the objects that change -/
def putM (fe fo fi : Sem) : SemS := fun ρ S => (fe ρ S).bindF fun d S1 => (fo ρ S1).bindF fun o S2 => (fi ρ S2).bindF fun i S3 => match o, i with
  | .obj k, .int i => match S3[k]? with
    | some (.lst ds) => match ixN ds.length i with
      | some j => .nx ρ (S3.set k (.lst (ds.set j d)))
      | none => .no
    | _ => .no
  | _, _ => .no
theorem s_put {o i : Expr} {fo fi : Sem} {tp : Pos} (he : SE G E .i X e f) (ho : SE G E .i X o fo) (hi : SE G E .i X i fi) (ha : ∀ v, assign (.Subscript o i tp) X.env v = (do
      let ov ← holding [v] (eval o X.env)
      let iv ← holding [v, ov] (eval i X.env)
      standAt tp
      holding [v, ov, iv] (setItem ov iv v)
      release [v, ov, iv] []) := by intro _; rfl) (hs : swapsWithSole [.Subscript o i tp] e pos.line X.env = pure false := by rfl) (hw : swappedStores [.Subscript o i tp] e X.env = pure none := by rfl)
    (h1 : (assignEach [.Subscript o i tp] X.env).map (·.2) = [assign (.Subscript o i tp) X.env] := by rfl) : SS G E k X (.Assign [.Subscript o i tp] e pos) (putM f fo fi) := by
  obtain ⟨te, pe, se⟩ := he
  obtain ⟨to, po, so⟩ := ho
  obtain ⟨ti, pi, si⟩ := hi
  refine ⟨_, ps_asg pe (pg_sub po pi set_list ha) hs hw h1, fun Wb W0 H0 ρ σ S W H Dn r post => ?_⟩
  refine se.goS r post fun d S1 v W1 H1 st1 r1 rr1 post => ?_
  refine so.goS r1 post fun dO S2 ov W2 H2 st2 r2 rr2 post => ?_
  refine si.goS r2 post fun dI S3 iv W3 H3 st3 r3 rr3 post => ?_
  have rr1 : Ist X.K W1 v d := rr1
  have rr2 : Ist X.K W2 ov dO := rr2
  have rr3 : Ist X.K W3 iv dI := rr3
  cases dO with
  | obj k =>
    cases dI with
    | int z =>
      dsimp only at post
      obtain ⟨a, rfl, ha2⟩ := (Is.step st3 rr2).objv
      cases e1 : S3[k]? with
      | none => simp only [e1] at post; exact post.elim
      | some ob =>
        simp only [e1] at post
        cases ob with
        | ins c fs => exact post.elim
        | lst ds =>
          dsimp only at post
          obtain ⟨vs, h5, h6⟩ := r3.rep.wok.obs k a _ ha2 e1
          cases e2 : ixN ds.length z with
          | none => simp only [e2] at post; exact post.elim
          | some j =>
            simp only [e2] at post
            have hmem : a ∈ W3.ad := List.mem_of_getElem? ha2
            refine ⟨a, vs, z, j, rfl, rr3.intv, h5, by rw [h6.length]; exact e2, ?_⟩
            have hput := r3.rep.wok.put (ds := ds.set j d) (ws := vs.set j v) ha2 h5 (h6.set (Is.step st3 (Is.step st2 rr1)) j)
            refine post σ W3 _ ⟨⟨hput, r3.rep.len, fun q sl eq => ?_, r3.rep.own⟩, r3.st.own (r3.st.inad hmem), r3.own, r3.ge⟩
            obtain ⟨u, g1, g2⟩ := r3.rep.at_ q sl eq
            refine ⟨u, g1, ?_⟩
            cases u with
            | none => cases sl <;> first | trivial | exact g2.elim
            | some u =>
              cases sl with
              | no => trivial
              | dat d => exact g2
              | own as =>
                obtain ⟨l, ws, rfl, f2, f3, f4, f5⟩ := g2
                have hl : l ≠ a := fun z => f5 (z ▸ hmem)
                exact ⟨l, ws, rfl, by rw [upd_ne hl]; exact f2, f3, f4, f5⟩
    | _ => exact post.elim
  | _ => exact post.elim
/-- x[i] = e, x a list of one's own -/
def putO (n : Nat) (fe fi : Sem) : SemS := fun ρ S => (fe ρ S).bindF fun d S1 => match ρ[n]? with
  | some (.own ds) => (fi ρ S1).bindF fun i S2 => match i with
    | .int i => match ixN ds.length i with
      | some j => .nx (ρ.set n (.own (ds.set j d))) S2
      | none => .no
    | _ => .no
  | _ => .no
/-- a list of one's own is written -/
theorem RepS.wrO {K : PySem.W.Frag} {Wb W0 W : Wd} {H0 H : Hp} {ρ : Env} {σ : L2.St} {S : Mem} {n : Nat} {ds es : List D} {l : Addr} {ws vs : List V} (r : RepS K G Wb W0 H0 ρ σ S W H) (q : ρ[n]? = some (.own ds)) (e1 : σ[n]? = some (some (.ref l))) (e2 : H l = some (.lst vs)) (e4 : W.h l = none) (e5 : l ∉ W.ad)
    (i : IstL K W ws es) : RepS K G Wb W0 H0 (ρ.set n (.own es)) σ S W (upd H l (.lst ws)) := by
  have hn0 := r.own n ds l q e1
  refine ⟨⟨r.rep.wok.own e2 e4 e5, by rw [List.length_set]; exact r.rep.len, fun j sl ej => ?_, fun j m as bs h1 h2 h3 => ?_⟩, r.st.own (.inl hn0), fun j as m h1 h2 => ?_, r.ge⟩
  · by_cases hj : n = j
    · subst hj
      rw [List.getElem?_set_self (List.getElem?_eq_some_iff.mp q).1] at ej
      cases ej
      exact ⟨_, e1, l, _, rfl, upd_same, i, e4, e5⟩
    · rw [List.getElem?_set_ne hj] at ej
      obtain ⟨o, h1, h2⟩ := r.rep.at_ j sl ej
      refine ⟨o, h1, ?_⟩
      cases o with
      | none => cases sl <;> first | trivial | exact h2.elim
      | some v =>
        cases sl with
        | no => trivial
        | dat d => exact h2
        | own as =>
          obtain ⟨m, us, rfl, f2, f3, f4, f5⟩ := h2
          have hm : m ≠ l := fun z => by
            subst z
            exact hj (r.rep.own n j ds as q ej (e1.trans h1.symm))
          exact ⟨m, us, rfl, by rw [upd_ne hm]; exact f2, f3, f4, f5⟩
  · have ex : ∀ {j : Nat} {as : List D}, (ρ.set n (.own es))[j]? = some (.own as) → ∃ cs, ρ[j]? = some (.own cs) := fun {j as} h => by
      by_cases hj : n = j
      · subst hj; exact ⟨ds, q⟩
      · rw [List.getElem?_set_ne hj] at h; exact ⟨as, h⟩
    obtain ⟨c1, k1⟩ := ex h1
    obtain ⟨c2, k2⟩ := ex h2
    exact r.rep.own j m c1 c2 k1 k2 h3
  · by_cases hj : n = j
    · subst hj
      rw [e1] at h2
      cases h2
      exact hn0
    · rw [List.getElem?_set_ne hj] at h1
      exact r.own j as m h1 h2
theorem s_putO {n : Nat} {x : Str} {i : Expr} {fi : Sem} {tp px : Pos} (he : SE G E .i X e f) (hN : X.N[n]? = some x) (hv : Vis X.env.scope x) (hi : SE G E .i X i fi) (hd : (x == ("__debug__" : Str)) = false := by decide) (hcd : (x == ("__classdict__" : Str)) = false := by decide) (ha : ∀ v, assign (.Subscript (.Name x px) i tp) X.env v = (do
      let ov ← holding [v] (eval (.Name x px) X.env)
      let iv ← holding [v, ov] (eval i X.env)
      standAt tp
      holding [v, ov, iv] (setItem ov iv v)
      release [v, ov, iv] []) := by intro _; rfl) (hs : swapsWithSole [.Subscript (.Name x px) i tp] e pos.line X.env = pure false := by rfl) (hw : swappedStores [.Subscript (.Name x px) i tp] e X.env = pure none := by rfl)
    (h1 : (assignEach [.Subscript (.Name x px) i tp] X.env).map (·.2) = [assign (.Subscript (.Name x px) i tp) X.env] := by rfl) : SS G E k X (.Assign [.Subscript (.Name x px) i tp] e pos) (putO n f fi) := by
  obtain ⟨te, pe, se⟩ := he
  obtain ⟨ti, pi, si⟩ := hi
  refine ⟨_, ps_asg pe (pg_sub (pe_var hN hv hd hcd) pi set_list ha) hs hw h1, fun Wb W0 H0 ρ σ S W H Dn r post => ?_⟩
  refine se.goS r post fun d S1 v W1 H1 st1 r1 rr1 post => ?_
  have rr1 : Ist X.K W1 v d := rr1
  cases q : ρ[n]? with
  | none => simp only [q] at post; exact post.elim
  | some sl =>
    simp only [q] at post
    cases sl with
    | no => exact post.elim
    | dat d => exact post.elim
    | own ds =>
      obtain ⟨l, vs, e1, e2, e3, e4, e5⟩ := r1.rep.owns q
      refine ⟨.ref l, e1, ?_⟩
      refine si.goS r1 post fun dI S2 iv W2 H2 st2 r2 rr2 post => ?_
      have rr2 : Ist X.K W2 iv dI := rr2
      cases dI with
      | int z =>
        dsimp only at post
        cases ej : ixN ds.length z with
        | none => simp only [ej] at post; exact post.elim
        | some j =>
          simp only [ej] at post
          obtain ⟨l', vs', g1, g2, g3, g4, g5⟩ := r2.rep.owns q
          rw [e1] at g1
          cases g1
          exact ⟨l, vs', z, j, rfl, rr2.intv, g2, by rw [g3.length]; exact ej, post σ W2 _ (r2.wrO q e1 g2 g4 g5 (g3.set (Is.step st2 rr1) j))⟩
      | _ => exact post.elim
/-! ### list(range(..)), x in range(..) -/
def rngL (fs : SemL) : Sem := fun ρ S => (fs ρ S).bind fun ds S1 => match rngOf ds with
  | some es => if es.length ≤ 1000000 then .ok (.lst es) S1 else .no
  | none => .no
theorem rgV_is {K : PySem.W.Frag} {W : Wd} {i j : Int} : IstL K W (rgV i j) (rangeD i j) := by
  unfold rgV rangeD
  generalize (j - i).toNat = n
  have : ∀ l : List Nat, IstL K W (l.map fun (q : Nat) => V.int (i + q)) (l.map fun (q : Nat) => D.int (i + q)) := by
    intro l
    induction l with
    | nil => exact .nil
    | cons q l ih => exact .cons (.int _) ih
  exact this _
theorem e_lr2 {p p' pos' : Pos} (hc : X.calm = true) (hl : Gl X "list") (hml : X.mg "list" = none) (hg : Gl X "range") (hm : X.mg "range" = none) (ha : SE G E .v X a fa) (hb : SE G E .v X b fb) (hs : starEach [a, b] X.env = (false, eval a X.env) :: starEach [b] X.env := by rfl) (hs2 : starEach [b] X.env = (false, eval b X.env) :: starEach [] X.env := by rfl) (hp : (backTo pos' (starEach [b] X.env)).any (·.1) = false := by rfl)
    (hs3 : starEach [Expr.Call (.Name "range" p') [a, b] [] pos'] X.env = (false, eval (.Call (.Name "range" p') [a, b] [] pos') X.env) :: starEach [] X.env := by rfl) :
    SE G E .f X (.Call (.Name "list" p) [.Call (.Name "range" p') [a, b] [] pos'] [] pos) (rngL (alc fa (alc fb al0))) := by
  obtain ⟨ta, pa, sa⟩ := ha
  obtain ⟨tb, pb, sb⟩ := hb
  refine ⟨_, pe_listRg hc hl hml (prg_2 hg hm pa pb hs hs2 hp) hs3, fun ρ σ S W H Q rep post => ?_⟩
  have post : Pg X.K G E W H (okE X.K G .f W H Q) ((fa ρ S).bind fun d S1 => (fb ρ S1).bind fun d' S2 => match rngOf [d, d'] with
      | some es => if es.length ≤ 1000000 then .ok (.lst es) S2 else .no
      | none => .no) := by
    unfold rngL alc al0 at post
    cases q : fa ρ S with
    | no => rw [q] at post; exact post
    | er x S1 => rw [q] at post; exact post
    | ok d S1 =>
      rw [q] at post
      dsimp only [Res.bind] at post ⊢
      cases q2 : fb ρ S1 with
      | no => rw [q2] at post; exact post
      | er x S1 => rw [q2] at post; exact post
      | ok d' S2 => rw [q2] at post; exact post
  refine sa.go rep (Step.refl W H) post fun d S1 v W1 H1 st1 s01 rep1 is1 post => ?_
  refine sb.go rep1 s01 post fun d' S2 v' W2 H2 st2 s02 rep2 is2 post => ?_
  cases e : rngOf [d, d'] with
  | none => simp only [e] at post; exact post.elim
  | some es =>
    simp only [e] at post
    obtain ⟨i, j, rfl, rfl, h1, rfl⟩ := rngOf_2 e
    by_cases hz : (rangeD i j).length ≤ 1000000
    · rw [if_pos hz] at post
      have hn : (j - i).toNat ≤ 1000000 := by
        unfold rangeD at hz
        rw [List.length_map, List.length_range] at hz
        exact hz
      refine ⟨i, j, View.intv is1, View.intv is2, ⟨h1.1, h1.2.1, h1.2.2.1, h1.2.2.2, Nat.le_trans hn (by decide)⟩, fun p hp => ?_⟩
      exact okE.newL (fun v' W' H' st3 ok3 rr => post v' W' H' (s02.trans st3) ok3 (rr.pre (k := .f) s02)) rep2.wok rgV_is hp
    · rw [if_neg hz] at post
      exact post.elim
/-- x in range(n), x not in range(n): any n -/
def inR (neg : Bool) (fa fb : Sem) : Sem := fun ρ S => (fa ρ S).bind fun x S1 => (fb ρ S1).bind fun y S2 => match x, y with
  | .int i, .int n => .ok (.bl (if neg then !decide (0 ≤ i ∧ i < n) else decide (0 ≤ i ∧ i < n))) S2
  | _, _ => .no
theorem cr_range1 : CallR X (.type "range") (fun vs H Q => ∃ j, vs = [V.int j] ∧ ∀ p, H p = none → Q (.ref p) (upd H p (.rng 0 j))) := by
  intro pins s σ H vs us Q I r h
  obtain ⟨j, rfl, q⟩ := h
  obtain ⟨u1, rfl, rj⟩ := vals1 r
  obtain ⟨t, rfl⟩ := rj
  refine PySem.call_range_1 ⟨.ref s.heap.objs.size, upd H s.heap.objs.size (.rng 0 j), I.laid (t' := s.toks + 2) (fun b o e => Heap.get?_push_of_some _ e) (Nat.le_refl _) ?_, rfl, q _ (I.hok.fresh (Nat.le_refl _))⟩
  exact ⟨_, _, _, Heap.get?_push_size _ rfl⟩
theorem op_notIn_rng : OpR X (compareOp .NotIn) (fun x y H Q => ∃ i a lo hi, x = V.int i ∧ y = V.ref a ∧ H a = some (.rng lo hi) ∧ Q (.bl (!decide (lo ≤ i ∧ i < hi))) H) := by
  intro pins s σ H x y v u Q I rx ry h
  obtain ⟨i, a, lo, hi, rfl, rfl, ha, q⟩ := h
  obtain ⟨k, rfl⟩ := rx
  obtain rfl : u = Value.ref a := ry
  obtain ⟨t1, t2, t3, ho⟩ := I.hok a _ ha
  show wpAny _ _ (do return Value.bool (!(← contains (Value.ref a) (Value.int i k)))) _ _ s
  refine wpAny_bind (wpAny_contains_slot (T := "range") ⟨_, ho, rfl⟩ PySem.F.slot_range_contains (call_meets PySem.F.slot_range_contains ⟨_, ho, rfl⟩ PySem.F.entry_range_contains (PySem.F.args_range_contains_2 _ _) (q_contains a lo hi i t1 t2 t3 k)
    ⟨ho, wpAny_truthy_bool (wpAny_pure ⟨.bl _, H, I, rfl, ?_⟩)⟩))
  rw [place1]
  exact q
theorem snd_inR {neg : Bool} {K : PySem.W.Frag} {ta tb : TE} (sa : SndE K G E .v ta fa) (sb : SndE K G E .v tb fb) :
    SndE K G E .i (tOp (fun x y H Q => ∃ i a lo hi, x = V.int i ∧ y = V.ref a ∧ H a = some (.rng lo hi) ∧ Q (.bl (if neg then !decide (lo ≤ i ∧ i < hi) else decide (lo ≤ i ∧ i < hi))) H) ta (tCB (fun vs H Q => ∃ j, vs = [V.int j] ∧ ∀ p, H p = none → Q (.ref p) (upd H p (.rng 0 j))) (tCons tb tNil))) (inR neg fa fb) := by
  intro ρ σ S W H Q rep post
  refine sa.go rep (Step.refl W H) post fun dx S1 x W1 H1 st1 s01 rep1 is1 post => ?_
  refine sb.go rep1 s01 post fun dy S2 y W2 H2 st2 s02 rep2 is2 post => ?_
  cases dx with
  | int i =>
    cases dy with
    | int n =>
      refine ⟨n, by rw [View.intv is2], fun p hp => ?_⟩
      exact ⟨i, p, 0, n, View.intv is1, rfl, upd_same, post _ W2 _ (s02.trans (Step.up (up_new hp))) (rep2.wok.up (up_new hp)) (.bl _)⟩
    | _ => exact (show False from post).elim
  | _ => exact (show False from post).elim
theorem e_inR {p pc : Pos} (hg : Gl X "range") (hm : X.mg "range" = none) (ha : SE G E .v X a fa) (hb : SE G E .v X b fb) (hs : starEach [b] X.env = (false, eval b X.env) :: starEach [] X.env := by rfl) : SE G E .i X (.Compare a [.In] [.Call (.Name "range" p) [b] [] pc] pos) (inR false fa fb) := by
  obtain ⟨ta, pa, sa⟩ := ha
  obtain ⟨tb, pb, sb⟩ := hb
  exact ⟨_, pe_cmpR op_in_rng pa (pe_callTy cr_range1 hg hm PyProof.Rows.boot_range (pa_cons pb pa_nil hs) (by decide) (by decide) hs (by rfl)) (by rfl), snd_inR sa sb⟩
theorem e_notInR {p pc : Pos} (hg : Gl X "range") (hm : X.mg "range" = none) (ha : SE G E .v X a fa) (hb : SE G E .v X b fb) (hs : starEach [b] X.env = (false, eval b X.env) :: starEach [] X.env := by rfl) : SE G E .i X (.Compare a [.NotIn] [.Call (.Name "range" p) [b] [] pc] pos) (inR true fa fb) := by
  obtain ⟨ta, pa, sa⟩ := ha
  obtain ⟨tb, pb, sb⟩ := hb
  exact ⟨_, pe_cmpR op_notIn_rng pa (pe_callTy cr_range1 hg hm PyProof.Rows.boot_range (pa_cons pb pa_nil hs) (by decide) (by decide) hs (by rfl)) (by rfl), snd_inR sa sb⟩
theorem t_inR {p pc : Pos} (hg : Gl X "range") (hm : X.mg "range" = none) (ha : SE G E .v X a fa) (hb : SE G E .v X b fb) (hs : starEach [b] X.env = (false, eval b X.env) :: starEach [] X.env := by rfl) : ST G E X (.Compare a [.In] [.Call (.Name "range" p) [b] [] pc] pos) (inR false fa fb) := by
  obtain ⟨ta, pa, sa⟩ := ha
  obtain ⟨tb, pb, sb⟩ := hb
  exact ⟨_, pt_cmpR op_in_rng pa (pe_callTy cr_range1 hg hm PyProof.Rows.boot_range (pa_cons pb pa_nil hs) (by decide) (by decide) hs (by rfl)) (by rfl), snd_test (snd_iv (snd_inR sa sb))⟩
theorem t_notInR {p pc : Pos} (hg : Gl X "range") (hm : X.mg "range" = none) (ha : SE G E .v X a fa) (hb : SE G E .v X b fb) (hs : starEach [b] X.env = (false, eval b X.env) :: starEach [] X.env := by rfl) : ST G E X (.Compare a [.NotIn] [.Call (.Name "range" p) [b] [] pc] pos) (inR true fa fb) := by
  obtain ⟨ta, pa, sa⟩ := ha
  obtain ⟨tb, pb, sb⟩ := hb
  exact ⟨_, pt_cmpR op_notIn_rng pa (pe_callTy cr_range1 hg hm PyProof.Rows.boot_range (pa_cons pb pa_nil hs) (by decide) (by decide) hs (by rfl)) (by rfl), snd_test (snd_iv (snd_inR sa sb))⟩
/-! ### sorted, of ints -/
def sortedD : List D → Option D
  | [.lst ds] => (intsOf ds).map fun is => .lst ((is.mergeSort (fun a b => decide (a ≤ b))).map .int)
  | _ => none
theorem ints_is {K : PySem.W.Frag} {W : Wd} : ∀ {is : List Int}, IstL K W (is.map V.int) (is.map D.int)
  | [] => .nil
  | _ :: _ => .cons (.int _) ints_is
theorem sorted_ok : CallD X.K G .f (rSortedI X.K) sortedD := by
  intro S W H vs ds d Q wok is e q
  unfold sortedD at e
  split at e
  · obtain ⟨v, rfl, i1⟩ := is.one
    obtain ⟨a, xs, rfl, h1, h2⟩ := View.lstv wok i1
    obtain ⟨js, h3, rfl⟩ := Option.map_eq_some_iff.mp e
    refine ⟨a, js, rfl, SqL.of (by rw [← ints_of h2 h3]; exact h1), fun ns' p k1 k2 hp => ?_⟩
    have e1 : ns' = js.mergeSort (fun a b => decide (a ≤ b)) := by
      refine PySem.W.ksm_same (k1.trans (List.mergeSort_perm _ _).symm) k2 ?_
      have := List.pairwise_mergeSort (le := fun (a b : Int) => decide (a ≤ b)) (fun a b c h1 h2 => by simp at *; omega) (fun a b => by simp; omega) js
      exact this.imp fun h => by simpa using h
    rw [e1]
    exact q.newL wok ints_is hp
  · cases e
end
end Dl
/-! DlK: text times int, methods of texts, is of bools, constants of the module, what is turned round. -/
namespace Dl
open PySem L2
/-! ### text * int -/
def repS (x : Str) (n : Int) : Str := ⟨(List.replicate n.toNat x.cps).foldl (· ++ ·) #[]⟩
def mulA : D → D → Option D
  | .int i, .int j => if i.natAbs < big ∧ j.natAbs < big then some (.int (i * j)) else none
  | .str x, .int n => if -(2 ^ 62) ≤ n ∧ n ≤ 1000000 ∧ x.length * n.toNat ≤ 1000000 then some (.str (repS x n)) else none
  | _, _ => none
theorem repS_small {x : Str} {n : Int} (h : n < 1) : repS x n = Str.empty := by
  unfold repS
  have e : n.toNat = 0 := by omega
  rw [e]
  rfl
theorem foldl_empty : ∀ k : Nat, (List.replicate k (#[] : Array Nat)).foldl (· ++ ·) #[] = #[]
  | 0 => rfl
  | k + 1 => by
    rw [List.replicate_succ, List.foldl_cons, Array.empty_append]
    exact foldl_empty k
theorem repS_same {x : Str} {n : Int} (h0 : ¬ n < 1) (h : (n == 1 || x.length == 0) = true) : repS x n = x := by
  unfold repS
  obtain ⟨cps⟩ := x
  rcases Bool.or_eq_true_iff.mp h with h | h
  · have e : n = 1 := by simpa using h
    subst e
    show Str.mk ((List.replicate 1 cps).foldl (· ++ ·) #[]) = _
    rw [List.replicate_succ, List.foldl_cons, Array.empty_append]
    rfl
  · have e : cps = #[] := by
      have : cps.size = 0 := by simpa [Str.length] using h
      exact Array.eq_empty_of_size_eq_zero this
    subst e
    show Str.mk ((List.replicate n.toNat (#[] : Array Nat)).foldl (· ++ ·) #[]) = _
    rw [foldl_empty]
theorem foldl_size : ∀ (k : Nat) (c a : Array Nat), ((List.replicate k c).foldl (· ++ ·) a).size = a.size + k * c.size
  | 0, c, a => by simp
  | k + 1, c, a => by
    rw [List.replicate_succ, List.foldl_cons, foldl_size k, Array.size_append, Nat.add_mul]
    omega
def rMulS : R2 := fun x y H Q => ∃ (z : Str) (n : Int), x = .str z ∧ y = .int n ∧ -(2 ^ 62) ≤ n ∧ n ≤ 1000000 ∧ z.length * n.toNat ≤ 1000000 ∧ Q (.str (repS z n)) H
section
variable {G : Gm} {E : XK} {X : Cx} {e a b c : Expr} {es : List Expr} {pos : Pos} {k : Rk} {fa fb fc f : Sem}
theorem op_mulS : OpR X (binaryOp .Mult) rMulS := by
  intro pins s σ H x y v u Q I rx ry h
  obtain ⟨z, n, rfl, rfl, h1, h2, h3, q⟩ := h
  obtain ⟨t, rfl⟩ := rx
  obtain ⟨t2, rfl⟩ := ry
  have hz : z.length * n.toNat ≤ sizeLine := Nat.le_trans h3 (by decide)
  refine PySem.P.mul_str ?_ (fun p1 p2 => ?_) (fun p1 p2 => ?_) ?_
  · have a1 : ¬ n < -(2 ^ 63 : Int) := by omega
    have a2 : ¬ n ≥ 2 ^ 63 := by omega
    rw [decide_eq_false a1, decide_eq_false a2]
    rfl
  · have hn : (n.toNat : Int) = n := by omega
    intro hc
    have q2 : (z.length : Int) * n ≤ 1000000 := by
      have h4 : ((z.length * n.toNat : Nat) : Int) ≤ ((1000000 : Nat) : Int) := Int.ofNat_le.mpr h3
      rw [Int.natCast_mul, hn] at h4
      exact h4
    have q3 : (z.length : Int) ≤ 1000000 := by
      have : z.length * 1 ≤ z.length * n.toNat := Nat.mul_le_mul_left _ (by omega)
      omega
    have q4 : (1000000 : Int) ≤ (2 ^ 63 - 1) / n := by
      rw [Int.le_ediv_iff_mul_le (by omega)]
      omega
    omega
  · show decide (z.length * n.toNat > sizeLine) = false
    exact decide_eq_false (by omega)
  · by_cases p1 : n < 1
    · rw [if_pos p1]
      rw [repS_small p1] at q
      exact ⟨by decide, .str _, H, I.tok _, ⟨_, rfl⟩, q⟩
    · rw [if_neg p1]
      by_cases p2 : (n == 1 || z.length == 0) = true
      · rw [if_pos p2]
        rw [repS_same p1 p2] at q
        exact ⟨.str _, H, I, ⟨_, rfl⟩, q⟩
      · rw [if_neg p2]
        refine ⟨?_, .str _, H, I.tok _, ⟨_, rfl⟩, q⟩
        show ((List.replicate n.toNat z.cps).foldl (· ++ ·) #[]).size ≤ sizeLine
        rw [foldl_size]
        show 0 + n.toNat * z.length ≤ sizeLine
        rw [Nat.mul_comm]
        omega
def rMulA : R2 := fun x y H Q => rI CMulW (fun i j => .int (i * j)) x y H Q ∨ rMulS x y H Q
theorem op_mulA : OpR X (binaryOp .Mult) rMulA := OpR.or op_mulW op_mulS
theorem mulA_ok : OpD X.K G .i rMulA mulA := by
  intro S W H x y dx dy d Q wok ix iy e q
  cases dx with
  | int i =>
    cases dy with
    | int j => exact .inl (mul_ok S W H x y (.int i) (.int j) d Q wok ix iy e q)
    | _ => cases e
  | str z =>
    cases dy with
    | int n =>
      by_cases hz : -(2 ^ 62) ≤ n ∧ n ≤ 1000000 ∧ z.length * n.toNat ≤ 1000000
      · dsimp only [mulA] at e
        rw [if_pos hz] at e
        cases e
        exact .inr ⟨z, n, ix.strv, iy.intv, hz.1, hz.2.1, hz.2.2, q.here wok (.str _)⟩
      · dsimp only [mulA] at e
        rw [if_neg hz] at e
        cases e
    | _ => cases e
  | _ => cases e
/-! ### name op= e -/
def imulD : D → D → Option D
  | .int i, .int j => if -(2 ^ 64) < j ∧ j < 2 ^ 64 then some (.int (i * j)) else none
  | _, _ => none
theorem imul_ok : OpD X.K G .i (rI CMul fun i j => .int (i * j)) imulD := int2_ok fun dx dy d e => by
  cases dx with
  | int i =>
    cases dy with
    | int j =>
      by_cases hz : -(2 ^ 64) < j ∧ j < 2 ^ 64
      · dsimp only [imulD] at e
        rw [if_pos hz] at e
        cases e
        exact ⟨i, j, rfl, rfl, .inr hz, rfl⟩
      · dsimp only [imulD] at e
        rw [if_neg hz] at e
        cases e
    | _ => cases e
  | _ => cases e
def idivD : D → D → Option D
  | .int i, .int j => if 0 < j ∧ j < 1073741824 then some (.int (i / j)) else none
  | _, _ => none
theorem idiv_ok : OpD X.K G .i (rI CDiv fun i j => .int (i / j)) idivD := int2_ok fun dx dy d e => by
  cases dx with
  | int i =>
    cases dy with
    | int j =>
      by_cases hz : 0 < j ∧ j < 1073741824
      · dsimp only [idivD] at e
        rw [if_pos hz] at e
        cases e
        exact ⟨i, j, rfl, rfl, hz, rfl⟩
      · dsimp only [idivD] at e
        rw [if_neg hz] at e
        cases e
    | _ => cases e
  | _ => cases e
def rIaddA : R2 := fun x y H Q => (rI0 fun i j => .int (i + j)) x y H Q ∨ (∃ i j, x = .str i ∧ y = .str j ∧ i.length + j.length ≤ sizeLine ∧ Q (.str (i ++ j)) H)
theorem iop_addA : OpR X (inplaceOp .Add) rIaddA := OpR.or iop_add iop_add_str
def iaddD : D → D → Option D
  | .int i, .int j => some (.int (i + j))
  | .str x, .str y => if x.length + y.length ≤ 1000000 then some (.str (x ++ y)) else none
  | _, _ => none
theorem iadd_ok : OpD X.K G .i rIaddA iaddD := by
  intro S W H x y dx dy d Q wok ix iy e q
  cases dx with
  | int i =>
    cases dy with
    | int j =>
      cases e
      exact .inl ⟨i, j, ix.intv, iy.intv, q.here wok (.int _)⟩
    | _ => cases e
  | str i =>
    cases dy with
    | str j =>
      by_cases hz : i.length + j.length ≤ 1000000
      · dsimp only [iaddD] at e
        rw [if_pos hz] at e
        cases e
        exact .inr ⟨i, j, ix.strv, iy.strv, sz6 hz, q.here wok (.str _)⟩
      · dsimp only [iaddD] at e
        rw [if_neg hz] at e
        cases e
    | _ => cases e
  | _ => cases e
theorem isub_ok : OpD X.K G .i (rI0 fun i j => .int (i - j)) subD := sub_ok
/-! ### is of bools -/
def isBlD : D → D → Option D
  | .bl i, .bl j => some (.bl (decide (i = j)))
  | _, _ => none
def notBlD : D → D → Option D
  | .bl i, .bl j => some (.bl (!decide (i = j)))
  | _, _ => none
theorem isBl_ok : OpD X.K G .i rIsB isBlD := by
  intro S W H x y dx dy d Q wok ix iy e q
  cases dx with
  | bl i =>
    cases dy with
    | bl j => cases e; exact ⟨i, j, ix.blv, iy.blv, q.here wok (.bl _)⟩
    | _ => cases e
  | _ => cases e
theorem notBl_ok : OpD X.K G .i rNotB notBlD := by
  intro S W H x y dx dy d Q wok ix iy e q
  cases dx with
  | bl i =>
    cases dy with
    | bl j => cases e; exact ⟨i, j, ix.blv, iy.blv, q.here wok (.bl _)⟩
    | _ => cases e
  | _ => cases e
/-! ### a weaker kind -/
theorem OpD.iv {K : PySem.W.Frag} {r : R2} {g : D → D → Option D} (h : OpD K G .i r g) : OpD K G .v r g :=
  fun S W H x y dx dy d Q wok ix iy e q => h S W H x y dx dy d Q wok ix iy e fun v W' H' st ok rr => q v W' H' st ok (.inl rr)
/-- a < b < c, as a value -/
theorem e_chn {op op' : CmpOp} {r r' : R2} {g g' : D → D → Option D} (ho : OpR X (compareOp op) r) (hg : OpD X.K G .v r g) (ho' : OpR X (compareOp op') r') (hg' : OpD X.K G .i r' g')
    (ha : SE G E .v X a fa) (hb : SE G E .v X b fb) (hc : SE G E .v X c fc) (h1 : lastMarks [op, op'] [b, c] = false := by rfl) : SE G E .i X (.Compare a [op, op'] [b, c] pos) (chn g g' fa fb fc) := by
  obtain ⟨ta, pa, sa⟩ := ha
  obtain ⟨tb, pb, sb⟩ := hb
  obtain ⟨tc, pc, sc⟩ := hc
  refine ⟨_, pe_chain ho ho' pa pb pc h1, fun ρ σ S W H Q rep post => ?_⟩
  refine sa.go rep (Step.refl W H) post fun dx S1 x W1 H1 st1 s01 rep1 is1 post => ?_
  refine sb.go rep1 s01 post fun dy S2 y W2 H2 st2 s02 rep2 is2 post => ?_
  cases e3 : g dx dy with
  | none => rw [e3] at post; exact post.elim
  | some d =>
    rw [e3] at post
    refine hg S2 W2 H2 x y dx dy d _ rep2.wok (View.step st2 is1) is2 e3 fun v W3 H3 st3 ok3 rr => ?_
    cases d with
    | bl q =>
      refine ⟨q, View.blv rr, ?_⟩
      have rep3 := rep2.step st3 ok3
      have s03 := s02.trans st3
      cases q with
      | true =>
        refine iteT ?_
        refine sc.go rep3 s03 post fun dz S4 z W4 H4 st4 s04 rep4 is4 post => ?_
        cases e5 : g' dy dz with
        | none => rw [e5] at post; exact post.elim
        | some d' =>
          rw [e5] at post
          exact hg' S4 W4 H4 y z dy dz _ _ rep4.wok (View.step st4 (View.step st3 is2)) is4 e5 fun v' W5 H5 st5 ok5 rr5 => post v' W5 H5 (s04.trans st5) ok5 rr5
      | false => exact iteF (post _ W3 H3 s03 ok3 (.bl _))
    | _ => exact (show False from post).elim
/-! ### a, b, c = x, y, z -/
def par3 (i j l : Nat) (f : SemL) : SemS := fun ρ S => (f ρ S).bindF fun ds S1 => match ds with
  | [x, y, z] => .nx (((ρ.set i (.dat x)).set j (.dat y)).set l (.dat z)) S1
  | _ => .no
theorem s_par3 {i j l : Nat} {x y z : Str} {f : SemL} {px py pz pt : Pos} {kt k2 : Nat} {pt2 : Pos} (hc : X.calm = true) (hN : X.N.Nodup) (hi : X.N[i]? = some x) (hj : X.N[j]? = some y) (hl : X.N[l]? = some z) (hij : i ≠ j) (hil : i ≠ l) (hjl : j ≠ l)
    (hx : X.env.scope.names.lookup x = some .local) (hy : X.env.scope.names.lookup y = some .local) (hz : X.env.scope.names.lookup z = some .local)
    (ha : SA G E false X [a, b, c] f) (hw : swappedStores [.Tuple [.Name x px, .Name y py, .Name z pz] kt pt] (.Tuple [a, b, c] k2 pt2) X.env = pure (some [x, y, z]) := by rfl) (hs : swapsWithSole [.Tuple [.Name x px, .Name y py, .Name z pz] kt pt] (.Tuple [a, b, c] k2 pt2) pos.line X.env = pure false := by rfl) :
    SS G E k X (.Assign [.Tuple [.Name x px, .Name y py, .Name z pz] kt pt] (.Tuple [a, b, c] k2 pt2) pos) (par3 i j l f) := by
  obtain ⟨t, p, s⟩ := ha
  refine ⟨_, ps_par3 hc hN hi hj hl hij hil hjl hx hy hz p hw hs, fun Wb W0 H0 ρ σ S W H Dn r post => ?_⟩
  refine s ρ σ S W H _ r.rep ?_
  unfold par3 at post
  cases q : f ρ S with
  | no => rw [q] at post; exact post
  | er x S1 => rw [q] at post; exact ErrP.step r.st post
  | ok ds S1 =>
    rw [q] at post
    intro vs W1 H1 st1 ok1 is1
    have is1 : AllR (Ist X.K W1) vs ds := is1
    have r1 := r.step st1 ok1
    match ds, vs, is1, post with
    | [dx, dy, dz], _, .cons (v := v) i1 (.cons (v := w) i2 (.cons (v := u) i3 .nil)), post => exact ⟨v, w, u, rfl, post _ W1 H1 (((r1.set i1).set i2).set i3)⟩
    | [], _, _, post => exact post.elim
    | [_], _, _, post => exact post.elim
    | [_, _], _, _, post => exact post.elim
    | _ :: _ :: _ :: _ :: _, _, _, post => exact post.elim
/-! ### constants of the module -/
theorem e_glbI {x : Str} {i : Int} (hg : Gl X x) (hm : ∃ t, X.mg x = some (.int i t)) (hd : (x == ("__debug__" : Str)) = false := by decide) : SE G E .i X (.Name x pos) (cc (.int i)) := by
  obtain ⟨t, hm⟩ := hm
  exact e_glb (v := .int i) hg hm ⟨t, rfl⟩ (fun _ _ => .int i) hd
theorem e_glbS {x : Str} {i : Str} (hg : Gl X x) (hm : ∃ t, X.mg x = some (.str i t)) (hd : (x == ("__debug__" : Str)) = false := by decide) : SE G E .i X (.Name x pos) (cc (.str i)) := by
  obtain ⟨t, hm⟩ := hm
  exact e_glb (v := .str i) hg hm ⟨t, rfl⟩ (fun _ _ => .str i) hd
/-- a tuple that the written part holds -/
def TupK (K : PySem.W.Frag) (a : Addr) (d : D) : Prop := ∀ (ad : List Addr) (h : Hp), Is K ad h (.ref a) d
theorem e_glbT {x : Str} {d : D} (hg : Gl X x) (hm : ∃ a, X.mg x = some (.ref a) ∧ TupK X.K a d) (hd : (x == ("__debug__" : Str)) = false := by decide) : SE G E .i X (.Name x pos) (cc d) := by
  obtain ⟨a, hm, ht⟩ := hm
  exact e_glb (v := .ref a) hg hm rfl (fun ad h => ht ad h) hd
/-! ### methods of texts -/
def sm1 (g : Str → D → Option D) (fa fb : Sem) : Sem := fun ρ S => (fa ρ S).bind fun x S1 => match x with
  | .str s => (fb ρ S1).bind fun y S2 => Res.opt (g s y) S2
  | _ => .no
theorem e_sm1 {name : Str} {id : String} {r : V → List V → Hp → VK → Prop} {g : Str → D → Option D} {apos cpos : Pos} (slot : Slot "str" name id) (hty : typeOf (.builtin id) = pure (.type "method_descriptor")) (hm : MtR X id r)
    (hg : ∀ (S : Mem) (W : Wd) (H : Hp) (s : Str) (y : V) (dy d : D) (Q : VK), WOk X.K G W S H → View X.K W H y dy → g s dy = some d → okE X.K G k W H Q d S → r (.str s) [y] H Q)
    (ha : SE G E .v X a fa) (hb : SE G E .v X b fb) (hbase : attributeBase a name X.env (eval a X.env) = eval a X.env := by rfl)
    (hfew : ((backTo cpos (starEach [b] X.env)).all (fun x => !x.1) && (backToKw cpos (keywordEach [] X.env)).all (fun x => x.1.isSome)
      && decide ([b].length + ([] : List Keyword).length + (if ([] : List Keyword).isEmpty then 0 else 1) < 30)) = true := by rfl)
    (hline : (apos.endLine == cpos.line) = true := by rfl) (hst : starEach [b] X.env = (false, eval b X.env) :: starEach [] X.env := by rfl) (hplain : (backTo cpos (starEach [] X.env)).any (·.1) = false := by rfl) :
    SE G E k X (.Call (.Attribute a name apos) [b] [] cpos) (sm1 g fa fb) := by
  obtain ⟨ta, pa, sa⟩ := ha
  obtain ⟨tb, pb, sb⟩ := hb
  refine ⟨_, pe_bm PySem.F.plainAttrs_str slot hty hm pa (pa_cons pb pa_nil hst) hbase hfew hline hst hplain, fun ρ σ S W H Q rep post => ?_⟩
  refine sa.go rep (Step.refl W H) post fun dx S1 x W1 H1 st1 s01 rep1 is1 post => ?_
  cases dx with
  | str s =>
    have ex := View.strv is1
    subst ex
    refine ⟨rfl, ?_⟩
    refine sb.go rep1 s01 post fun dy S2 y W2 H2 st2 s02 rep2 is2 post => ?_
    cases e3 : g s dy with
    | none => rw [e3] at post; exact post.elim
    | some d =>
      rw [e3] at post
      exact hg S2 W2 H2 s y dy d Q rep2.wok is2 e3 fun v W' H' st3 ok3 rr => post v W' H' (s02.trans st3) ok3 (rr.pre s02)
  | _ => exact (show False from post).elim
/-- texts of data -/
def strsOf : List D → Option (List Str)
  | [] => some []
  | .str i :: ds => (strsOf ds).map fun is => i :: is
  | _ :: _ => none
theorem strs_of {K : PySem.W.Frag} {ad : List Addr} {h : Hp} : ∀ {vs : List V} {ds : List D} {is : List Str}, IsL K ad h vs ds → strsOf ds = some is → vs = is.map V.str
  | _, _, _, .nil, e => by
    cases e
    rfl
  | _, _, _, .cons (d := d) q r, e => by
    cases d with
    | str i =>
      dsimp only [strsOf] at e
      cases q
      obtain ⟨js, h1, rfl⟩ := Option.map_eq_some_iff.mp e
      rw [strs_of r h1]
      rfl
    | _ => cases e
def joinD (s : Str) : D → Option D
  | .lst ds => (strsOf ds).bind fun ys => if (ys.map (·.length)).sum + ys.length * s.length ≤ 10000000 then some (.str (PySem.Txt.join s ys)) else none
  | _ => none
def countD (s : Str) : D → Option D
  | .str z => some (.int (PySem.Txt.count s z))
  | _ => none
def splitD (s : Str) : D → Option D
  | .str z => if (z.length == 0) = false ∧ s.length ≤ 1000000 then some (.lst ((PySem.Txt.split s z).map .str)) else none
  | _ => none
theorem strs_is {K : PySem.W.Frag} {W : Wd} : ∀ {is : List Str}, IstL K W (is.map V.str) (is.map D.str)
  | [] => .nil
  | _ :: _ => .cons (.str _) strs_is
theorem e_join {apos cpos : Pos} (ha : SE G E .v X a fa) (hb : SE G E .v X b fb) (hbase : attributeBase a "join" X.env (eval a X.env) = eval a X.env := by rfl)
    (hfew : ((backTo cpos (starEach [b] X.env)).all (fun x => !x.1) && (backToKw cpos (keywordEach [] X.env)).all (fun x => x.1.isSome)
      && decide ([b].length + ([] : List Keyword).length + (if ([] : List Keyword).isEmpty then 0 else 1) < 30)) = true := by rfl)
    (hline : (apos.endLine == cpos.line) = true := by rfl) (hst : starEach [b] X.env = (false, eval b X.env) :: starEach [] X.env := by rfl) (hplain : (backTo cpos (starEach [] X.env)).any (·.1) = false := by rfl) :
    SE G E .i X (.Call (.Attribute a "join" apos) [b] [] cpos) (sm1 joinD fa fb) := by
  refine e_sm1 PySem.F.slot_str_join PySem.F.type_str_join mt_join (fun S W H s y dy d Q wok iy e q => ?_) ha hb hbase hfew hline hst hplain
  cases dy with
  | lst ds =>
    obtain ⟨p, vs, rfl, h1, h2⟩ := iy.lstv wok
    obtain ⟨ys, h3, h4⟩ := Option.bind_eq_some_iff.mp e
    by_cases hz : (ys.map (·.length)).sum + ys.length * s.length ≤ 10000000
    · rw [if_pos hz] at h4
      cases h4
      refine ⟨s, p, ys, rfl, rfl, .inl (SqL.of ?_), Nat.le_trans hz (by decide), q.here wok (.str _)⟩
      rw [← strs_of h2 h3]
      exact h1
    · rw [if_neg hz] at h4
      cases h4
  | _ => cases e
theorem e_count {apos cpos : Pos} (ha : SE G E .v X a fa) (hb : SE G E .v X b fb) (hbase : attributeBase a "count" X.env (eval a X.env) = eval a X.env := by rfl)
    (hfew : ((backTo cpos (starEach [b] X.env)).all (fun x => !x.1) && (backToKw cpos (keywordEach [] X.env)).all (fun x => x.1.isSome)
      && decide ([b].length + ([] : List Keyword).length + (if ([] : List Keyword).isEmpty then 0 else 1) < 30)) = true := by rfl)
    (hline : (apos.endLine == cpos.line) = true := by rfl) (hst : starEach [b] X.env = (false, eval b X.env) :: starEach [] X.env := by rfl) (hplain : (backTo cpos (starEach [] X.env)).any (·.1) = false := by rfl) :
    SE G E .i X (.Call (.Attribute a "count" apos) [b] [] cpos) (sm1 countD fa fb) := by
  refine e_sm1 PySem.F.slot_str_count PySem.F.type_str_count mt_count (fun S W H s y dy d Q wok iy e q => ?_) ha hb hbase hfew hline hst hplain
  cases dy with
  | str z =>
    cases e
    exact ⟨s, z, rfl, by rw [iy.strv], q.here wok (.int _)⟩
  | _ => cases e
theorem e_split {apos cpos : Pos} (ha : SE G E .v X a fa) (hb : SE G E .v X b fb) (hbase : attributeBase a "split" X.env (eval a X.env) = eval a X.env := by rfl)
    (hfew : ((backTo cpos (starEach [b] X.env)).all (fun x => !x.1) && (backToKw cpos (keywordEach [] X.env)).all (fun x => x.1.isSome)
      && decide ([b].length + ([] : List Keyword).length + (if ([] : List Keyword).isEmpty then 0 else 1) < 30)) = true := by rfl)
    (hline : (apos.endLine == cpos.line) = true := by rfl) (hst : starEach [b] X.env = (false, eval b X.env) :: starEach [] X.env := by rfl) (hplain : (backTo cpos (starEach [] X.env)).any (·.1) = false := by rfl) :
    SE G E .f X (.Call (.Attribute a "split" apos) [b] [] cpos) (sm1 splitD fa fb) := by
  refine e_sm1 PySem.F.slot_str_split PySem.F.type_str_split mt_split (fun S W H s y dy d Q wok iy e q => ?_) ha hb hbase hfew hline hst hplain
  cases dy with
  | str z =>
    dsimp only [splitD] at e
    by_cases hz : (z.length == 0) = false ∧ s.length ≤ 1000000
    · rw [if_pos hz] at e
      cases e
      exact ⟨s, z, rfl, by rw [iy.strv], hz.1, Nat.le_trans (Nat.add_le_add_right hz.2 2) (by decide), fun p hp => q.newL wok strs_is hp⟩
    · rw [if_neg hz] at e
      cases e
  | _ => cases e
/-- xs[::-1] -/
def revD : D → Option D
  | .lst ds => some (.lst ds.reverse)
  | _ => none
theorem e_revL {kk : Nat} {p1 p2 p3 : Pos} (ha : SE G E .v X a fa) : SE G E .f X (.Subscript a (.Slice none none (some (.UnaryOp .USub (.Constant (.int 1) kk p1) p2)) p3) pos) (un revD fa) := by
  obtain ⟨ta, pa, sa⟩ := ha
  refine ⟨_, pe_revL pa, fun ρ σ S W H Q rep post => ?_⟩
  refine sa.go rep (Step.refl W H) post fun dx S1 x W1 H1 st1 s01 rep1 is1 post => ?_
  cases dx with
  | lst ds =>
    obtain ⟨p, vs, rfl, h1, h2⟩ := View.lstv rep1.wok is1
    refine ⟨p, vs, rfl, SqL.of h1, fun l hl => ?_⟩
    exact okE.newL (fun v' W' H' st3 ok3 rr => post v' W' H' (s01.trans st3) ok3 (rr.pre (k := .f) s01)) rep1.wok h2.reverse hl
  | _ => exact (show False from post).elim
end
end Dl
/-! DlL: a def of one parameter and one keyword-only parameter with a default. -/
namespace Dl
open PySem L2
structure FoK (P : Program) (w : World) (K : PySem.W.Frag) (mg : Str → Option Value) (base : Heap) (G : Gm) (kk : Nat) (x key : Str) (k : Rk) (dv : V) (F : Fn) : Prop where
  ex : ∃ (f : Addr) (fd : FuncData) (ps : List Str), FnOk P w K mg base (L2.CX P w) kk f fd ps (spF K G 2 k F) ∧ mg x = some (.ref f) ∧ PySem.W.keepIn K (.ref f) = true ∧
    (∃ g : List Value → List Value → List Value, KBn K fd ps 1 [key] g fun vs zs => vs ++ zs) ∧ ∃ ds, Vals [dv] ds ∧ Binds K fd ps ds
section
variable {G : Gm} {E : XK} {X : Cx} {e e2 : Expr} {pos : Pos} {k : Rk} {fa fb f : Sem}
theorem e_callKw {kk kr : Nat} {x key : Str} {dv : V} {F : Fn} {p kp : Pos} (h : FoK X.prog X.w X.K X.mg X.base G kk x key k dv F) (hr : Room kr X.A) (hk : kk ≤ kr) (hg : Gl X x) (hx : Passes (L2.CX X.prog X.w) X E) (ha : SE G E .i X e fa) (hb : SE G E .i X e2 fb)
    (hall : (backToKw pos (keywordEach [⟨some key, e2, kp⟩] X.env)).all (·.1.isSome) = true := by rfl) (hks : (backToKw pos (keywordEach [⟨some key, e2, kp⟩] X.env)).filterMap (·.1) = [key] := by rfl)
    (hdb : (x == ("__debug__" : Str)) = false := by decide) (he : starEach [e] X.env = (false, eval e X.env) :: starEach [] X.env := by rfl)
    (hpl : ((backTo pos (starEach [e] X.env)).any (·.1) || (backToKw pos (keywordEach [⟨some key, e2, kp⟩] X.env)).any (·.1.isNone)) = false := by rfl) :
    SE G E k X (.Call (.Name x p) [e] [⟨some key, e2, kp⟩] pos) (callF 2 F (alc fa (alc fb al0))) := by
  obtain ⟨f, fd, ps, h1, h2, h3, ⟨g, h4⟩, _⟩ := h.ex
  obtain ⟨ta, pa, sa⟩ := ha
  obtain ⟨tb, pb, sb⟩ := hb
  refine ⟨_, pe_callN h1 (hr.mono hk) hg h2 h3 h4 hx (pa_cons pa pa_nil he) (pk_cons pb pk_nil) hall hks hdb he hpl, fun ρ σ S W H Q rep post => ?_⟩
  have post : Pg X.K G E W H (okE X.K G k W H Q) ((fa ρ S).bind fun d S1 => (fb ρ S1).bind fun d' S2 => F [d, d'] S2) := by
    unfold callF alc al0 at post
    cases q : fa ρ S with
    | no => rw [q] at post; exact post
    | er x S1 => rw [q] at post; exact post
    | ok d S1 =>
      rw [q] at post
      dsimp only [Res.bind] at post ⊢
      cases q2 : fb ρ S1 with
      | no => rw [q2] at post; exact post
      | er x S1 => rw [q2] at post; exact post
      | ok d' S2 => rw [q2] at post; exact post
  refine sa.go rep (Step.refl W H) post fun d S1 v W1 H1 st1 s01 rep1 is1 post => ?_
  refine sb.go rep1 s01 post fun d' S2 v' W2 H2 st2 s02 rep2 is2 post => ?_
  exact ⟨rfl, rfl, rfl, S2, W2, [d, d'], rep2.wok, .cons (Is.step st2 is1) (.cons is2 .nil), pg_okE_step s02 post⟩
theorem e_callDf {kk kr : Nat} {x key : Str} {dv : V} {dd : D} {F : Fn} {p : Pos} (h : FoK X.prog X.w X.K X.mg X.base G kk x key k dv F) (hr : Room kr X.A) (hk : kk ≤ kr) (hg : Gl X x) (hx : Passes (L2.CX X.prog X.w) X E) (ha : SE G E .i X e fa) (hd : ∀ ad h, Is X.K ad h dv dd)
    (hdb : (x == ("__debug__" : Str)) = false := by decide) (he : starEach [e] X.env = (false, eval e X.env) :: starEach [] X.env := by rfl) (hpl : (backTo pos (starEach [] X.env)).any (·.1) = false := by rfl) :
    SE G E k X (.Call (.Name x p) [e] [] pos) (callF 2 F (alc fa (alc (cc dd) al0))) := by
  obtain ⟨f, fd, ps, h1, h2, h3, _, ds, h4, h5⟩ := h.ex
  obtain ⟨ta, pa, sa⟩ := ha
  refine ⟨_, pe_call h1 (hr.mono hk) hg h2 h3 h5 h4 hx (pa_cons pa pa_nil he) hdb he hpl, fun ρ σ S W H Q rep post => ?_⟩
  have post : Pg X.K G E W H (okE X.K G k W H Q) ((fa ρ S).bind fun d S1 => F [d, dd] S1) := by
    unfold callF alc al0 at post
    cases q : fa ρ S with
    | no => rw [q] at post; exact post
    | er x S1 => rw [q] at post; exact post
    | ok d S1 => rw [q] at post; exact post
  refine sa.go rep (Step.refl W H) post fun d S1 v W1 H1 st1 s01 rep1 is1 post => ?_
  exact ⟨rfl, S1, W1, [d, dd], rep1.wok, .cons is1 (.cons (hd _ _) .nil), pg_okE_step s01 post⟩
theorem fok_mk {P : Program} {w : World} {K : PySem.W.Frag} {mg : Str → Option Value} {base : Heap} {kk : Nat} {x key qual : Str} {params : Arguments} {body : List Stmt} {scope : Scope} {dv : V} {f : Addr} {fd : FuncData} {ps : List Str} {F : Fn}
    (D : FunD K x qual params body scope [] [(key, dv)] f fd) (hf : FnOk P w K mg base (L2.CX P w) kk f fd ps (spF K G 2 k F)) (gl : mg x = some (.ref f)) (hl : ps.length = 2)
    (h1 : ∀ (D : Addr) (doc pm : Value) (an : Option Addr) (cdv ct u w : Value), KwChain D [] (bindArgs (PySem.W.fnOf x qual params body scope .none (.ref D) doc pm an cdv ct) ⟨[u], [(key, w)]⟩) (ps.zip [u, w]))
    (h2 : ∀ (D : Addr) (doc pm : Value) (an : Option Addr) (cdv ct u k : Value), KwChain D [(key, k)] (bindArgs (PySem.W.fnOf x qual params body scope .none (.ref D) doc pm an cdv ct) ⟨[u], []⟩) (ps.zip [u, k])) :
    FoK P w K mg base G kk x key k dv F := by
  refine ⟨f, fd, ps, hf, gl, D.kp, ?_, ?_⟩
  · obtain ⟨mv, h⟩ := D.kbinds0 (ps := ps) 1 [key] [] (fun us _ ws => us ++ ws) (by simp) (fun q hq => nomatch hq) (fun r1 _ r3 => r1.append r3) (fun D doc pm an cdv ct us mv ws l1 l2 l3 => by
      match us, mv, ws, l1, l2, l3 with
      | [u], [], [w], _, _, _ => exact h1 D doc pm an cdv ct u w)
    exact ⟨_, h⟩
  · exact D.binds0 (ps := ps) 1 (by simp) (by simp [hl]) (fun D doc pm an cdv ct us ks l1 l2 => by
      match us, ks, l1, l2 with
      | [u], [k], _, _ => exact h2 D doc pm an cdv ct u k)
/-! ### a, b, .. = a list -/
def tgU (n : Nat) (b : List D → Env → Option Env) : Tg := fun d ρ => match d with
  | .lst ds => if ds.length = n then b ds ρ else none
  | _ => none
theorem g_unl {es : List Expr} {b : List D → Env → Option Env} {js : List Nat} {n m : Nat} (hc : X.calm = true) (h : SGs G js X es b) (hn : (assignEach es X.env).length = n := by rfl) (hst : (assignEach es X.env).findIdx? (·.1) = none := by rfl) : SG G js X (.Tuple es m pos) (tgU n b) := by
  obtain ⟨t, p, s⟩ := h
  refine ⟨_, pg_unl hc p hn hst, fun Wb W0 H0 ρ ρ' σ S W H v d Q r q ea h => ?_⟩
  cases d with
  | lst ds =>
    dsimp only [tgU] at ea
    by_cases hl : ds.length = n
    · rw [if_pos hl] at ea
      obtain ⟨a, vs, rfl, h1, h2⟩ := q.lstv
      exact ⟨a, vs, rfl, SqL.ex r.rep.wok.sub (SqL.of h1), by rw [h2.length]; exact hl, s Wb W0 H0 ρ ρ' σ S W H vs ds _ r h2 ea h⟩
    · rw [if_neg hl] at ea
      cases ea
  | _ => cases ea
end
end Dl
/-! DlM: list(..) of a text too. -/
namespace Dl
open PySem L2 PySem.Spec PyProof.Rows
def charsV (z : Str) : List V := z.cps.toList.map fun c => V.str ⟨#[c]⟩
def rListS : List V → Hp → VK → Prop := fun xs H Q => ∃ z, xs = [.str z] ∧ z.cps.size ≤ 2 ^ 24 ∧ ∀ l, H l = none → Q (.ref l) (upd H l (.lst (charsV z)))
theorem call_list_txt {X : Cx} (hc : X.calm = true) : CallR X (.type "list") rListS := by
  intro pins s σ H xs us Q I r h
  obtain ⟨z, rfl, hz, q⟩ := h
  obtain ⟨u, rfl, rx⟩ := vals1 r
  obtain ⟨t, rfl⟩ := rx
  have hz' : z.cps.size ≤ sizeLine := by rw [sizeLine_eq]; omega
  refine call_list_str (I.ok.hd hc) z t (fun h' tk acc' c' hkeep hS hacc => ?_) hz'
  refine ⟨.ref s.heap.objs.size, upd H s.heap.objs.size (.lst (charsV z)), I.laid hkeep (Nat.le_refl _) (show ObjOk X.prog X.w _ _ _ (.lst (charsV z)) from ⟨?_, acc'.toList, c', ?_, ?_⟩), rfl, q _ (I.hok.fresh (Nat.le_refl _))⟩
  · unfold charsV
    rw [List.length_map, Array.length_toList]
    exact hz'
  · refine vals_of_at (by unfold charsV; rw [List.length_map, Array.length_toList, Array.length_toList]; exact hacc.1.symm) fun j x u hx hj => ?_
    obtain ⟨c, t', hcc, rfl⟩ := hacc.2 j u (by rw [← Array.getElem?_toList]; exact hj)
    unfold charsV at hx
    rw [List.getElem?_map, Array.getElem?_toList, hcc] at hx
    cases hx
    exact ⟨_, rfl⟩
  · rw [Array.toArray_toList]
    exact hS
def list2D : List D → Option D
  | [.str z] => if z.cps.size ≤ 2 ^ 24 then some (.lst (signs z)) else none
  | ds => listD ds
theorem chars_is {K : PySem.W.Frag} {W : Wd} (z : Str) : IstL K W (charsV z) (signs z) := by
  unfold charsV signs
  have : ∀ l : List Nat, IstL K W (l.map fun c => V.str ⟨#[c]⟩) (l.map fun c => D.str ⟨#[c]⟩) := by
    intro l
    induction l with
    | nil => exact .nil
    | cons q l ih => exact .cons (.str _) ih
  exact this _
theorem list2_ok {X : Cx} {G : Gm} : CallD X.K G .f (fun xs H Q => (∃ p ys, xs = [.ref p] ∧ (SqL X.K H p ys ∨ SqT X.K H p ys) ∧ ∀ l, H l = none → Q (.ref l) (upd H l (.lst ys))) ∨ rListS xs H Q) list2D := by
  intro S W H vs ds d Q wok is e q
  unfold list2D at e
  split at e
  · rename_i z
    obtain ⟨v, rfl, i1⟩ := is.one
    have hv := View.strv i1
    subst hv
    split at e
    · rename_i hz
      cases e
      exact .inr ⟨z, rfl, hz, fun l hl => q.newL wok (chars_is z) hl⟩
    · cases e
  · exact .inl (list_ok S W H vs _ d Q wok is e q)
end Dl
/-! DlN: list(range(a, b)), however far a and b lie. -/
namespace Dl
open PySem PySem.Spec
open Sem (wp)
section
variable {prog : Program} {w : World} {A : Around} {E : Value → Shared → Prop} {s : Shared}
theorem extend_far {R : Result → Shared → Prop} {r : Addr} {a b c : Int} {t u v : Tok} {n : Nat} (hh : A.handled = none) (hr : IsRange s.heap r a b c t u v) (hbig : Builtin.Range.small a b c = false)
    (hn : Builtin.Range.rangeSize a b c = n) (hlen : n ≤ 2 ^ 24) (S : Addr) (res : Value) (c₀ : Nat) (hS : s.heap.get? S = some { cls := .type "list", data := .seq #[] c₀ })
    (hR : ∀ h' tk acc' c', (∀ b o, b ≠ S → s.heap.get? b = some o → h'.get? b = some o) → h'.get? S = some { cls := .type "list", dict := none, data := .seq acc' c', slots := #[] } →
      ItemsOf (fun i v => ∃ t, v = .int (a + i * c) t) acc' n → R (.ok (.ret res)) { s with heap := h', toks := tk }) :
    wpAny (model prog w) A.in1 (Builtin.List.listExtendWith (.ref S) (.ref r) res)
      (fun fin s' => match fin with | .done f => R (.ok f) s' | .again c' => c'.quiet = true ∧ codeAny (model prog w) A c' R s') (fun e s' => R (.error e) s') s := by
  have sr : S ≠ r := fun e => by rw [e, hr] at hS; simp at hS
  have lt : S < s.heap.objs.size := Heap.lt_size hS
  have si : S ≠ s.heap.objs.size := Nat.ne_of_lt lt
  have W := (Walks.longrange (prog := prog) (w := w) (A := A.in1) hh s.heap.objs.size a c n).toS
  have key : ∀ (h : Heap) (c₁ tk : Nat), IsLongIter h s.heap.objs.size (a + ((0 : Nat) : Int) * c) ((n : Int) - ((0 : Nat) : Int)) c → (∀ b o, b ≠ S → s.heap.get? b = some o → h.get? b = some o) →
      h.get? S = some { cls := .type "list", data := .seq #[] c₁ } → codeAny (model prog w) A (.builtin "list.extend.loop" ⟨[.ref S, .ref s.heap.objs.size, res], []⟩) R { s with heap := h, toks := tk } := by
    intro h c₁ tk hit hk hS₁
    refine codeAny_extend_loopS W (by rw [sizeLine_eq]; omega) S (fun hm => si (List.mem_singleton.mp hm)) res n 0 _ #[] c₁ rfl (Nat.zero_le _) hit hS₁ (ItemsOf.nil _) fun s' acc' c' hm hS' hacc => ?_
    rw [Moved.eq_with hm]
    refine hR s'.heap s'.toks acc' c' (fun b o hb e => hm.heap b o (fun hmem => ?_) (hk b o hb e)) hS' hacc
    rcases List.mem_cons.mp hmem with e' | hmem
    · exact hb e'
    · exact absurd (Heap.lt_size e) (by rw [List.mem_singleton.mp hmem]; exact Nat.lt_irrefl _)
  unfold Builtin.List.listExtendWith
  refine wpAny_bind (wpAny_typeOf (T := "range") ⟨_, hr, rfl⟩ ?_)
  have h1 : Builtin.List.listSameRef (.ref S) (.ref r) = false := by simp [Builtin.List.listSameRef, sr]
  have h2 : (Value.type "range" == Value.type "list") = false := by decide
  have h3 : (Value.type "range" == Value.type "tuple") = false := by decide
  simp only [h1, h2, h3, Bool.or_false, Bool.false_eq_true, if_false]
  refine wpAny_bind (wpAny_pyIter_longrange hr hbig ?_)
  refine wpAny_bind (wpAny_holding (wpAny_hint_range (n := n) (Heap.get?_push_of_some _ hr) hn hlen ?_))
  have hit : IsLongIter (s.heap.push { cls := .type "longrange_iterator", data := .fields #[rawInt a, rawInt (Builtin.Range.rangeSize a b c), rawInt c] }) s.heap.objs.size (a + ((0 : Nat) : Int) * c) ((n : Int) - ((0 : Nat) : Int)) c := by
    show IsLongIter _ _ _ _ _; rw [hn]; simpa using Heap.get?_push_size _ rfl
  have hS₁ := Heap.get?_push_of_some { cls := .type "longrange_iterator", data := .fields #[rawInt a, rawInt (Builtin.Range.rangeSize a b c), rawInt c] } hS
  refine wpAny_ite_split (fun _ => ?_) (fun _ => wpAny_pure ⟨plainId_quiet F.plain_extend_loop _, key _ c₀ _ hit (fun b o _ e => Heap.get?_push_of_some _ e) hS₁⟩)
  refine wpAny_bind (wpAny_rule ?_)
  refine wpAny_bind ?_
  show wpAny _ _ (updateSeq S (·.push .none) >>= fun _ => updateSeq S (·.pop)) _ _ _
  refine wpAny_bind (wpAny_updateSeq hS₁ rfl ?_)
  have hS₂ := Heap.get?_update_self (Obj.mapSeq (·.push Value.none)) hS₁ rfl
  refine wpAny_updateSeq (hz := by seq_fits) hS₂ rfl ?_
  have hS₃ := Heap.get?_update_self (Obj.mapSeq (·.pop)) hS₂ rfl
  refine wpAny_pure ⟨plainId_quiet F.plain_extend_loop _, key _ _ _ ?_ (fun b o hb e => ?_) hS₃⟩
  · exact (Heap.get?_update_other _ _ si).trans ((Heap.get?_update_other _ _ si).trans hit)
  · exact (Heap.get?_update_other _ _ (Ne.symm hb)).trans ((Heap.get?_update_other _ _ (Ne.symm hb)).trans (Heap.get?_push_of_some _ e))
theorem init_far {R : Result → Shared → Prop} {r : Addr} {a b c : Int} {t u v : Tok} {n : Nat} (hh : A.handled = none) (hr : IsRange s.heap r a b c t u v) (hbig : Builtin.Range.small a b c = false)
    (hn : Builtin.Range.rangeSize a b c = n) (hlen : n ≤ 2 ^ 24) (S : Addr) (hS : s.heap.get? S = some { cls := .type "list", data := .seq #[] })
    (hR : ∀ h' tk acc' c', (∀ b o, b ≠ S → s.heap.get? b = some o → h'.get? b = some o) → h'.get? S = some { cls := .type "list", dict := none, data := .seq acc' c', slots := #[] } →
      ItemsOf (fun i v => ∃ t, v = .int (a + i * c) t) acc' n → R (.ok (.ret .none)) { s with heap := h', toks := tk }) :
    wpAny (model prog w) A.in1 (Builtin.«list.__init__» ⟨[.ref S, .ref r], []⟩)
      (fun fin s' => match fin with | .done f => R (.ok f) s' | .again c' => c'.quiet = true ∧ codeAny (model prog w) A c' R s') (fun e s' => R (.error e) s') s := by
  have sr : S ≠ r := fun e => by rw [e, hr] at hS; simp at hS
  show wpAny _ _ (do let old ← Builtin.List.listItems (.ref S); Builtin.List.listUpdate (.ref S) (fun _ => #[]); letGo old.toList.reverse; Builtin.List.listExtendWith (.ref S) (.ref r) .none) _ _ s
  refine wpAny_bind ?_
  unfold Builtin.List.listItems
  refine wpAny_bind (wpAny_seqItems hS rfl (wpAny_pure ?_))
  show wpAny _ _ (updateSeq S (fun _ => #[]) >>= fun _ => letGo (#[] : Array Value).toList.reverse >>= fun _ => Builtin.List.listExtendWith (.ref S) (.ref r) .none) _ _ s
  refine wpAny_bind (wpAny_updateSeq hS rfl ?_)
  have hS₂ := Heap.get?_update_self (Obj.mapSeq (fun _ => (#[] : Array Value))) hS rfl
  have oth : ∀ b o, b ≠ S → s.heap.get? b = some o → (s.heap.update S (Obj.mapSeq (fun _ => (#[] : Array Value)))).get? b = some o :=
    fun b o hb e => (Heap.get?_update_other _ _ (Ne.symm hb)).trans e
  refine wpAny_bind (wpAny_letGo ?_)
  refine extend_far hh (oth r _ (Ne.symm sr) hr) hbig hn hlen S .none _ hS₂ fun h' tk acc' c' hk hS' hacc => ?_
  exact hR h' tk acc' c' (fun b o hb e => hk b o hb (oth b o hb e)) hS' hacc
theorem call_list_far {Q : Value → Shared → Prop} {r : Addr} {a b c : Int} {t u v : Tok} {n : Nat} (hh : A.handled = none) (hr : IsRange s.heap r a b c t u v) (hbig : Builtin.Range.small a b c = false)
    (hn : Builtin.Range.rangeSize a b c = n) (hlen : n ≤ 2 ^ 24)
    (hQ : ∀ h' tk acc' c', (∀ b o, s.heap.get? b = some o → h'.get? b = some o) →
      h'.get? s.heap.objs.size = some { cls := .type "list", dict := none, data := .seq acc' c', slots := #[] } → ItemsOf (fun i v => ∃ t, v = .int (a + i * c) t) acc' n → Q (.ref s.heap.objs.size) { s with heap := h', toks := tk }) :
    wpAny (model prog w) A (call (.type "list") [.ref r]) Q E s := by
  refine callType_codes (Q₁ := fun obj s₁ => obj = .ref s.heap.objs.size ∧ s₁ = { s with heap := s.heap.push { cls := .type "list", data := .seq #[] } }) F.called_list (F.typeCall_list_1 _) F.entry_list_init
    (code_list_new _ ⟨rfl, rfl⟩) fun obj s₁ h₁ => ?_
  obtain ⟨rfl, rfl⟩ := h₁
  have hS : (s.heap.push { cls := .type "list", data := .seq #[] }).get? s.heap.objs.size = some { cls := .type "list", data := .seq #[] } := Heap.get?_push_size _ rfl
  refine ⟨⟨_, hS, rfl⟩, F.args_list_init_2 _ _, init_far (A := A.in1) hh (Heap.get?_push_of_some _ hr) hbig hn hlen _ hS fun h' tk acc' c' hk hS' hacc => ?_⟩
  exact ⟨rfl, hQ h' tk acc' c' (fun b o e => hk b o (Nat.ne_of_lt (Heap.lt_size e)) (Heap.get?_push_of_some _ e)) hS' hacc⟩
end
open PyProof.Rows L2
def tLstFar (te : L2.St → Hp → (Int → Int → Hp → Prop) → Prop) : TE := fun σ H Q => te σ H fun a b H1 => (b - a).toNat ≤ 2 ^ 24 ∧ ∀ q, H1 q = none → Q (.ref q) (upd H1 q (.lst (rgV a b)))
theorem pe_listFar {X : Cx} {e : Expr} {te : L2.St → Hp → (Int → Int → Hp → Prop) → Prop} {p pos : Pos} (hc : X.calm = true) (hg : Gl X "list") (hm : X.mg "list" = none) (he : PRg X e te) (na : starEach [e] X.env = (false, eval e X.env) :: starEach [] X.env := by rfl) : PE X (.Call (.Name "list" p) [e] [] pos) (tLstFar te) := by
  refine ⟨fun pins s σ H Q I h => ?_⟩
  refine Call_ (ld_blt I hg hm boot_list (PyProof.Rows.callWith_type1 (args_cons (thn (he pins s σ H _ I h) fun x s1 ⟨r, a, b, t, u, v, H1, ex, hr, I1, b5, q⟩ => args_nil ?_) na) na))
  subst ex
  have fin : ∀ h' tk acc c', (∀ b o, s1.heap.get? b = some o → h'.get? b = some o) → h'.get? s1.heap.objs.size = some { cls := .type "list", dict := none, data := .seq acc c', slots := #[] } → ItemsOf (fun i v => ∃ t, v = .int (a + i * 1) t) acc (b - a).toNat → EP X pins σ Q (.ref s1.heap.objs.size) { s1 with heap := h', toks := tk } := by
    intro h' tk acc c' hk e' hi
    refine ⟨.ref s1.heap.objs.size, upd H1 s1.heap.objs.size (.lst (rgV a b)), I1.laid hk (Nat.le_refl _) (show ObjOk X.prog X.w _ _ _ (.lst (rgV a b)) from ⟨?_, acc.toList, c', vals_rg hi, ?_⟩), rfl, q _ (I1.hok.fresh (Nat.le_refl _))⟩
    · rw [rgV_length, sizeLine_eq]; omega
    · rw [Array.toArray_toList]; exact e'
  cases hs : Builtin.Range.small a b 1 with
  | true => exact call_list_range (n := (b - a).toNat) (I1.ok.hd hc) hr hs (rangeSize_nat a b) b5 fin
  | false => exact call_list_far (n := (b - a).toNat) (I1.ok.hd hc) hr hs (rangeSize_nat a b) b5 fin
def rngF (fs : SemL) : Sem := fun ρ S => (fs ρ S).bind fun ds S1 => match ds with
  | [.int i, .int j] => if (j - i).toNat ≤ 1000000 then .ok (.lst (rangeD i j)) S1 else .no
  | _ => .no
section
variable {X : Cx} {G : Gm} {E : L2.XK} {a b : Expr} {fa fb : Sem} {pos : Pos}
theorem e_lrF {p p' pos' : Pos} (hc : X.calm = true) (hl : Gl X "list") (hml : X.mg "list" = none) (hg : Gl X "range") (hm : X.mg "range" = none) (ha : SE G E .v X a fa) (hb : SE G E .v X b fb) (hs : starEach [a, b] X.env = (false, eval a X.env) :: starEach [b] X.env := by rfl) (hs2 : starEach [b] X.env = (false, eval b X.env) :: starEach [] X.env := by rfl) (hp : (backTo pos' (starEach [b] X.env)).any (·.1) = false := by rfl)
    (hs3 : starEach [Expr.Call (.Name "range" p') [a, b] [] pos'] X.env = (false, eval (.Call (.Name "range" p') [a, b] [] pos') X.env) :: starEach [] X.env := by rfl) :
    SE G E .f X (.Call (.Name "list" p) [.Call (.Name "range" p') [a, b] [] pos'] [] pos) (rngF (alc fa (alc fb al0))) := by
  obtain ⟨ta, pa, sa⟩ := ha
  obtain ⟨tb, pb, sb⟩ := hb
  refine ⟨_, pe_listFar hc hl hml (prg_2 hg hm pa pb hs hs2 hp) hs3, fun ρ σ S W H Q rep post => ?_⟩
  have post : Pg X.K G E W H (okE X.K G .f W H Q) ((fa ρ S).bind fun d S1 => (fb ρ S1).bind fun d' S2 => match [d, d'] with
      | [.int i, .int j] => if (j - i).toNat ≤ 1000000 then .ok (.lst (rangeD i j)) S2 else .no
      | _ => .no) := by
    unfold rngF alc al0 at post
    cases q : fa ρ S with
    | no => rw [q] at post; exact post
    | er x S1 => rw [q] at post; exact post
    | ok d S1 =>
      rw [q] at post
      dsimp only [Res.bind] at post ⊢
      cases q2 : fb ρ S1 with
      | no => rw [q2] at post; exact post
      | er x S1 => rw [q2] at post; exact post
      | ok d' S2 => rw [q2] at post; exact post
  refine sa.go rep (Step.refl W H) post fun d S1 v W1 H1 st1 s01 rep1 is1 post => ?_
  refine sb.go rep1 s01 post fun d' S2 v' W2 H2 st2 s02 rep2 is2 post => ?_
  cases d with
  | int i =>
    cases d' with
    | int j =>
      dsimp only at post
      by_cases hz : (j - i).toNat ≤ 1000000
      · rw [if_pos hz] at post
        refine ⟨i, j, View.intv is1, View.intv is2, Nat.le_trans hz (by decide), fun p hp => ?_⟩
        exact okE.newL (fun v' W' H' st3 ok3 rr => post v' W' H' (s02.trans st3) ok3 (rr.pre (k := .f) s02)) rep2.wok rgV_is hp
      · rw [if_neg hz] at post
        exact post.elim
    | _ => exact post.elim
  | _ => exact post.elim
end
end Dl
/-! DlO: a new list becomes one of the objects that change where it is made; tuple(..) of such an object. -/
namespace Dl
open PySem L2 PySem.Spec PyProof.Rows
def newM (f : Sem) : Sem := fun ρ S => (f ρ S).bind fun d S1 => match d with
  | .lst ds => .ok (.obj S1.length) (S1 ++ [.lst ds])
  | _ => .no
section
variable {G : Gm} {E : XK} {X : Cx} {e : Expr} {f : Sem}
theorem snd_newM {te : TE} {K : PySem.W.Frag} (s : SndE K G E .f te f) : SndE K G E .i te (newM f) := by
  intro ρ σ S W H Q rep post
  refine s ρ σ S W H Q rep ?_
  unfold newM at post
  cases q : f ρ S with
  | no => rw [q] at post; exact post
  | er x S1 => rw [q] at post; exact post
  | ok d S1 =>
    rw [q] at post
    intro v W1 H1 st1 ok1 rr
    obtain ⟨l, vs, ds, rfl, rfl, e1, e2, e3, e4, e5⟩ := rr
    refine post (.ref l) ⟨W1.h, W1.ad ++ [l]⟩ H1 (st1.alloc e1) (ok1.alloc e2 e3 e4 e5) (.obj ?_)
    show (W1.ad ++ [l])[S1.length]? = some l
    rw [← ok1.len, List.getElem?_append_right (Nat.le_refl _), Nat.sub_self]
    rfl
theorem e_newM (h : SE G E .f X e f) : SE G E .i X e (newM f) := by
  obtain ⟨t, p, s⟩ := h
  exact ⟨t, p, snd_newM s⟩
def CallM (K : PySem.W.Frag) (G : Gm) (k : Rk) (r : List V → Hp → VK → Prop) (g : Mem → List D → Option D) : Prop := ∀ (S : Mem) (W : Wd) (H : Hp) (vs : List V) (ds : List D) (d : D) (Q : VK), WOk K G W S H → AllR (View K W H) vs ds → g S ds = some d → okE K G k W H Q d S → r vs H Q
def calM (g : Mem → List D → Option D) (fs : SemL) : Sem := fun ρ S => (fs ρ S).bind fun xs S1 => Res.opt (g S1 xs) S1
theorem snd_calM {t : TA} {r : List V → Hp → VK → Prop} {g : Mem → List D → Option D} {fs : SemL} {k : Rk} {K : PySem.W.Frag} (s : SndA K G E true t fs) (hg : CallM K G k r g) : SndE K G E k (tCB r t) (calM g fs) := by
  intro ρ σ S W H Q rep post
  refine s.go rep (Step.refl W H) post fun ds S1 vs W1 H1 st1 s01 rep1 is1 post => ?_
  cases e3 : g S1 ds with
  | none => rw [e3] at post; exact post.elim
  | some d =>
    rw [e3] at post
    exact hg S1 W1 H1 vs ds d Q rep1.wok is1 e3 fun v W' H' st3 ok3 rr => post v W' H' (s01.trans st3) ok3 (rr.pre s01)
theorem e_ctyM {T : String} {r : List V → Hp → VK → Prop} {g : Mem → List D → Option D} {fs : SemL} {k : Rk} {x : Str} {p pos : Pos} {es : List Expr} (hc : CallR X (.type T) r) (hg : CallM X.K G k r g) (hgl : Gl X x) (hm : X.mg x = none) (hv : bootBuiltins x = some (.type T))
    (ha : SA G E true X (e :: es) fs) (hn : x ≠ "__name__" := by decide) (hdb : (x == ("__debug__" : Str)) = false := by decide) (hst : starEach (e :: es) X.env = (false, eval e X.env) :: starEach es X.env := by rfl) (hpl : (backTo pos (starEach es X.env)).any (·.1) = false := by rfl) : SE G E k X (.Call (.Name x p) (e :: es) [] pos) (calM g fs) := by
  obtain ⟨t, p, s⟩ := ha
  exact ⟨_, pe_callTy hc hgl hm hv p hn hdb hst hpl, snd_calM s hg⟩
def tupM : Mem → List D → Option D
  | S, [.obj k] => match S[k]? with
    | some (.lst ds) => some (.tup ds)
    | _ => none
  | _, ds => tupD ds
theorem tupM_ok : CallM X.K G .i (fun xs H Q => ∃ p ys, xs = [.ref p] ∧ ((SqL X.K H p ys ∧ ∀ l, H l = none → Q (.ref l) (upd H l (.tup ys))) ∨ (SqT X.K H p ys ∧ Q (.ref p) H))) tupM := by
  intro S W H vs ds d Q wok is e q
  unfold tupM at e
  split at e
  · rename_i k
    obtain ⟨v, rfl, ix⟩ := is.one
    rcases ix with ix | ⟨_, _, _, _, e0, _⟩
    · obtain ⟨a, rfl, ha⟩ := ix.objv
      split at e
      · rename_i ds e1
        cases e
        obtain ⟨vs, h1, h2⟩ := wok.obs k a _ ha e1
        exact ⟨a, vs, rfl, .inl ⟨SqL.of h1, fun l hl => q.newT wok h2 hl⟩⟩
      · cases e
    · cases e0
  · exact tup_ok S W H vs _ d Q wok is e q
end
end Dl
/-! DlP: what is raised, what is caught. -/
namespace Dl
open PySem L2
/-! ### a class over the refusals, by K -/
/-- a class without a maker of its own: it is raised with a text -/
structure ExP (K : PySem.W.Frag) (C : Addr) : Prop where
  ex : PySem.W.excIn K C He.veBase "ValueError.__new__" = true
  kp : PySem.W.keepIn K (.ref C) = true
  be : PySem.W.subIn K (.ref C) (.type "BaseException") = some true
  ty : PySem.W.typeIn K (.ref C) = some (.type "type")
theorem exp_of {K : PySem.W.Frag} {x : Str} (c : (He.Fa.exc x).ok K = true) : ExP K (He.ga K x) :=
  let ⟨a, b, d, e⟩ := He.exc_ok c
  ⟨a, b, d, e⟩
/-- a class with a maker of its own that stores one field -/
def oexB (K : PySem.W.Frag) (C : Addr) : Bool := match K.lookup C with
  | some ⟨.type "type", _, .cls cd, sl⟩ => (match cd.mro, sl.toList with
    | .ref C' :: bm, [_, _, _, _, some (.builtin n), _] => decide (C' = C) && (decide (n = "ValueError.__new__") && (cd.hasDict && (!cd.hasDel && HandSPX.refsVE bm)))
    | _, _ => false)
  | _ => false
theorem oexB_ok {K : PySem.W.Frag} {C : Addr} (h : oexB K C = true) : ∃ nm q N bs bm sn sub ab col dd k0 k1 k2 k3 k5, K.lookup C = some (excClassObj nm q C N bs bm true sn sub ab col dd k0 k1 k2 k3 k5 "ValueError.__new__") ∧ HandSPX.refsVE bm = true := by
  unfold oexB at h
  split at h
  · rename_i dd cd sl lk
    split at h
    · rename_i C' bm k0 k1 k2 k3 n k5 em es
      simp only [Bool.and_eq_true, decide_eq_true_eq, Bool.not_eq_true'] at h
      obtain ⟨rfl, rfl, hd, hl, hr⟩ := h
      obtain ⟨nm, bs, mro, ns, qn, hdc, sn, sub, ab, col, del⟩ := cd
      dsimp only at em hd hl
      subst em hd hl
      have e6 : sl = #[k0, k1, k2, k3, some (.builtin "ValueError.__new__"), k5] := by
        rcases sl with ⟨ls⟩
        dsimp only at es
        rw [es]
      subst e6
      exact ⟨_, _, _, _, _, _, _, _, _, _, _, _, _, _, _, lk, hr⟩
    · cases h
  · cases h
def oxB (K : PySem.W.Frag) (C : Addr) (f : Str) : Bool := oexB K C && (decide (PySem.W.findIn K (.ref C) "__setattr__" = some (some (.builtin "object.__setattr__"))) && (decide (PySem.W.subIn K (.ref C) (.type "BaseException") = some true) &&
  (decide (PySem.W.typeIn K (.ref C) = some (.type "type")) && (PySem.W.keepIn K (.ref C) && decide (PySem.W.findIn K (.ref C) f = some none)))))
structure OxP (K : PySem.W.Frag) (C : Addr) (f : Str) : Prop where
  c : OexC K C
  no : PySem.W.findIn K (.ref C) f = some none
theorem oxB_ok {K : PySem.W.Frag} {C : Addr} {f : Str} (h : oxB K C f = true) : OxP K C f := by
  obtain ⟨h1, h⟩ := Bool.and_eq_true_iff.mp h
  obtain ⟨h2, h⟩ := Bool.and_eq_true_iff.mp h
  obtain ⟨h3, h⟩ := Bool.and_eq_true_iff.mp h
  obtain ⟨h4, h⟩ := Bool.and_eq_true_iff.mp h
  obtain ⟨h5, h6⟩ := Bool.and_eq_true_iff.mp h
  exact ⟨⟨oexB_ok h1, of_decide_eq_true h2, of_decide_eq_true h3, of_decide_eq_true h4, h5⟩, of_decide_eq_true h6⟩
/-! ### raise C('..') -/
def rse (c : Nat) : SemS := fun _ S => .er ⟨c, none⟩ S
def rsi (c : Nat) (f : Str) (fe : Sem) : SemS := fun ρ S => (fe ρ S).bindF fun d S1 => .er ⟨c, some (f, d)⟩ S1
section
variable {G : Gm} {E : XK} {X : Cx} {e : Expr} {fe : Sem} {k : Rk}
theorem s_rse {c j : Nat} {x m : Str} {p p2 pos pos' : Pos} (hc : X.calm = true) (tk : Takes X (fun cls d _ H => E cls d H)) (hg : Gl X x) (hm : X.mg x = some (.ref (G.cl c)) ∧ ExP X.K (G.cl c)) (hd : (x == ("__debug__" : Str)) = false := by decide) :
    SS G E k X (.Raise (some (.Call (.Name x p) [.Constant (.str m) j p2] [] pos)) none pos') (rse c) :=
  ⟨_, ps_raise hc tk (pmk_own PySem.F.excBase_ValueError hm.2.ex hm.1 hm.2.kp (raises_own hm.2.be hm.2.ty) hg hd),
    fun _ _ _ _ _ _ W H _ r post => post _ none W H r.st r.rep.wok ⟨rfl, rfl⟩⟩
/-- what a maker that stores one field promises -/
def spIni (K : PySem.W.Frag) (f : Str) : Sp := fun vs H Q _ => ∃ (a C : Addr) (v : V), vs = [.ref a, v] ∧ OxP K C f ∧ H a = some (exo a C none) ∧
  ∀ dx, H dx = none → dx ≠ a → Q .non (upd (upd H dx (exd dx [(f, v)])) a (exo a C (some dx)))
theorem ini_len {K : PySem.W.Frag} {f : Str} {vs : List V} {H : Hp} {Q : VK} {E : XK} {ps : List Str} (hp : ps.length = 2) (h : spIni K f vs H Q E) : vs.length = ps.length := by
  obtain ⟨a, C, v, rfl, _⟩ := h
  exact hp.symm
/-- HalfError.__init__(self, '..') -/
theorem pe_hinit {pl : PySem.Sem Bool} {x : Str} {CH : Addr} {es : List Expr} {ta : TA} {p1 p2 pos : Pos} (hg : Gl X x) (hm : X.mg x = some (.ref CH)) (rd : ClX.CRead X.K CH (.type "type")) (fd : PySem.W.findCls X.K (.ref CH) (.type "type") "__init__" = some (.val (.builtin "ValueError.__init__"))) (ha : PA X (e :: es) ta)
    (hc : eval (.Call (.Attribute (.Name x p1) "__init__" p2) (e :: es) [] pos) X.env = (do
      let ov ← eval (.Name x p1) X.env
      standAt p2.atName
      let (f, first) ← holding [ov] (getMethod ov "__init__" pl)
      callWith pos f first (backTo pos (starEach (e :: es) X.env)) (backToKw pos (keywordEach [] X.env))) := by rfl)
    (he : starEach (e :: es) X.env = (false, eval e X.env) :: starEach es X.env := by rfl) (hpl : (backTo pos (starEach es X.env)).any (·.1) = false := by rfl) (hd : (x == ("__debug__" : Str)) = false := by decide) :
    PE X (.Call (.Attribute (.Name x p1) "__init__" p2) (e :: es) [] pos) (tVeI X.K ta) := by
  refine ⟨fun pins s σ H Q I h => ?_⟩
  refine PySem.W.methodCall_KW (ld_glob I hg hm ?_ hd) hc
  refine PySem.W.method_cls I.kIn rd.ga (PySem.W.cls_value I.kIn rd.rd fd (by decide +kernel) ?_)
  show wpAny _ _ (callWith pos (Value.builtin "ValueError.__init__") [] (backTo pos (starEach (e :: es) X.env)) []) _ _ _
  refine PyProof.Rows.callWith_method1 (thn (ha.run pos pins _ σ H _ (I.tok _) h) fun us s1 hh => ?_) he hpl
  obtain ⟨vs, H1, I1, r1, a, C, ws, ev, hl, T, ea, q⟩ := hh
  subst ev
  cases r1 with
  | @cons _ u0 _ ur ra rr =>
    obtain rfl : u0 = Value.ref a := ra
    have small : ur.length ≤ sizeLine := by
      rw [← Paired.length rr, sizeLine_eq]
      exact Nat.le_trans hl (by decide)
    exact oinit_ok T I1 ea small fun s2 J => ⟨V.non, H1, J, rfl, q⟩
theorem ini_reads {K : PySem.W.Frag} {f m : Str} {vs : List V} {H : Hp} {Q : VK} {N : List Str} (hN : N.length = 2) (h : spIni K f vs H Q E) :
    tSeq (tDrop (tVeI K (tCons (tVar 0) (tCons (tC (.str m)) tNil)))) (tOst K f (tVar 0) (tVar 1)) { nx := fun _ H' => Q .non H', rt := Q } (L2.start N vs) H := by
  obtain ⟨a, C, v, rfl, ox, ea, q⟩ := h
  have e0 : (L2.start N [.ref a, v])[0]? = some (some (V.ref a)) := rfl
  have e1 : (L2.start N [.ref a, v])[1]? = some (some v) := rfl
  exact ⟨.ref a, e0, a, C, [.str m], rfl, by simp, ox.c, ea, v, e1, .ref a, e0, a, C, rfl, ox.c, ox.no, .inl ⟨ea, q⟩⟩
theorem del_mk {H1 : Hp} {a d C : Addr} {fs : List (Str × V)} (na : H1 a = none) (ne : d ≠ a) : upd (del (upd (upd (upd H1 a (exo a C none)) d (exd d fs)) a (exo a C (some d))) a) d (.xd fs) = upd H1 d (.xd fs) := by
  funext b
  by_cases h1 : b = d
  · subst h1
    rw [upd_same, upd_same]
  · rw [upd_ne h1, upd_ne h1]
    by_cases h2 : b = a
    · subst h2
      rw [del_same, na]
    · rw [del_ne h2, upd_ne h2, upd_ne h1, upd_ne h2]
/-- raise C(e), C's maker stores it under f -/
theorem s_rsi {c : Nat} {x f : Str} {fI : Addr} {fd : FuncData} {ps : List Str} {p pos pos' : Pos} (hc : X.calm = true) (tk : Takes X (fun cls d _ H => E cls d H)) (hg : Gl X x) (hm : X.mg x = some (.ref (G.cl c)) ∧ OxP X.K (G.cl c) f)
    (hi : PySem.W.findIn X.K (.ref (G.cl c)) "__init__" = some (some (.ref fI)) ∧ PySem.W.typeIn X.K (.ref fI) = some (.type "function")) (F : FnOk X.prog X.w X.K X.mg X.base (L2.CX X.prog X.w) 1 fI fd ps (spIni X.K f)) (hb : Binds X.K fd ps []) (hr : Room 2 X.A) (hx : Passes (L2.CX X.prog X.w) X EN)
    (he : SE G E .i X e fe) (hd : (x == ("__debug__" : Str)) = false := by decide) (hst : starEach [e] X.env = (false, eval e X.env) :: starEach [] X.env := by rfl) (hpl : (backTo pos (starEach [] X.env)).any (·.1) = false := by rfl) :
    SS G E k X (.Raise (some (.Call (.Name x p) [e] [] pos)) none pos') (rsi c f fe) := by
  obtain ⟨t, pe, s⟩ := he
  refine ⟨_, ps_raise hc tk (pmk_oex hm.2.c hi.1 hi.2 F hr hb .nil hx hg hm.1 (pa_cons pe pa_nil hst) hd hst hpl), fun Wb W0 H0 ρ σ S W H Dn r post => ?_⟩
  refine s.goS r post fun d S1 v W1 H1 st r1 rr post => ?_
  refine ⟨by simp, fun a na => ⟨a, G.cl c, v, by simp, hm.2, upd_same, fun dx nd ne => ⟨rfl, dx, [(f, v)], upd_same, ?_, ?_, ?_⟩⟩⟩
  · rw [upd_ne ne, upd_same]
  · rw [upd_ne ne] at nd
    exact nd
  · rw [upd_ne ne] at nd
    rw [del_mk na ne]
    exact post _ _ W1 _ (r1.st.trans (Step.up (up_new nd))) (r1.rep.wok.up (up_new nd)) ⟨rfl, dx, [(f, v)], v, rfl, upd_same, by simp [List.lookup], rr⟩
end
end Dl
/-! DlQ: lists asked for a place, for how often; what a caught exception tells; try. -/
namespace Dl
open PySem L2
/-! ### xs.index(y), xs.count(y): flat things -/
def plcD (y : D) : List D → Option Nat
  | [] => none
  | d :: ds => if eqV (toV d) (toV y) then some 0 else (plcD y ds).map (· + 1)
def idxLD (ds : List D) (y : D) : Option D := if flatD y && ds.all flatD then (plcD y ds).map fun (j : Nat) => D.int (j : Int) else none
def cntLD (ds : List D) (y : D) : Option D := if flatD y && ds.all flatD then some (.int ((ds.map toV).countP fun z => eqV z (toV y) : Nat)) else none
theorem plcD_some {y : D} : ∀ {ds : List D} {j : Nat}, plcD y ds = some j → ∃ z, (ds.map toV)[j]? = some z ∧ eqV z (toV y) = true ∧ ∀ (m : Nat) (z' : V), m < j → (ds.map toV)[m]? = some z' → eqV z' (toV y) = false
  | [], j, e => by cases e
  | d :: ds, j, e => by
    unfold plcD at e
    by_cases c : eqV (toV d) (toV y) = true
    · rw [if_pos c] at e
      cases e
      exact ⟨toV d, rfl, c, fun m z' hm => absurd hm (Nat.not_lt_zero m)⟩
    · rw [if_neg c] at e
      obtain ⟨i, e1, rfl⟩ := Option.map_eq_some_iff.mp e
      obtain ⟨z, h1, h2, h3⟩ := plcD_some e1
      refine ⟨z, h1, h2, fun m z' hm hz => ?_⟩
      cases m with
      | zero =>
        cases (Option.some.inj (show some (toV d) = some z' from hz))
        exact Bool.eq_false_iff.mpr c
      | succ m => exact h3 m z' (by omega) hz
def rCntF (K : PySem.W.Frag) : V → List V → Hp → VK → Prop := fun x xs H Q => ∃ (p : Addr) (ys : List V) (y : V), x = .ref p ∧ xs = [y] ∧ SqL K H p ys ∧ flatV y = true ∧ ys.all flatV = true ∧ Q (.int (ys.countP fun z => eqV z y : Nat)) H
theorem countU {x : V} : ∀ {xs : List V} {us : List Value}, Vals xs us → xs.all flatV = true → us.countP (eqU x) = xs.countP fun z => eqV z x
  | _, _, .nil, _ => rfl
  | y :: xs, u :: us, .cons r t, f => by
    have f2 := Bool.and_eq_true_iff.mp (show (flatV y && xs.all flatV) = true from f)
    rw [List.countP_cons, List.countP_cons, countU t f2.2, eqU_of r f2.1]
section
variable {G : Gm} {E : XK} {X : Cx} {e a b : Expr} {fa fb f : Sem} {k : Rk}
theorem mt_lcountF : MtR X "list.count" (rCntF X.K) := by
  intro pins s σ H x xs v us Q I rx rxs h
  obtain ⟨p, ys, y, rfl, rfl, hs, fy, fys, q⟩ := h
  cases rx
  obtain ⟨u, rfl, ru⟩ := rxs.one
  obtain ⟨its, rv, ⟨⟨c0, d0, dt0, sl⟩, n, ho, hc, hn, hd⟩, hz⟩ := I.list hs
  dsimp only at hc hd
  subst hc hd
  have ec : (its.toArray.toList.countP (eqU y)) = ys.countP fun z => eqV z y := countU rv fys
  refine call_meets PySem.F.slot_list_count ⟨_, ho, rfl⟩ PySem.F.entry_list_count (PySem.F.args_list_count_2 _ _)
    (SeqAt.list_countAt p its.toArray n d0 sl u (eqU y)) ⟨ho, fun u' hu => mem_eqAt ru fy rv fys u' (by simpa using hu), ?_⟩
  refine ⟨.int (ys.countP fun z => eqV z y : Nat), H, I.tok _, ⟨s.toks, ?_⟩, q⟩
  rw [ec]
/-- a list's method with one argument -/
def lm1 (g : List D → D → Option D) (fa fb : Sem) : Sem := fun ρ S => (fa ρ S).bind fun x S1 => match x with
  | .lst ds => (fb ρ S1).bind fun y S2 => Res.opt (g ds y) S2
  | _ => .no
theorem e_lm1 {name : Str} {id : String} {r : V → List V → Hp → VK → Prop} {g : List D → D → Option D} {apos cpos : Pos} (slot : Slot "list" name id) (hty : typeOf (.builtin id) = pure (.type "method_descriptor")) (hm : MtR X id r)
    (hg : ∀ (S : Mem) (W : Wd) (H : Hp) (p : Addr) (vs : List V) (ds : List D) (y : V) (dy d : D) (Q : VK), WOk X.K G W S H → SqL X.K H p vs → IstL X.K W vs ds → View X.K W H y dy → g ds dy = some d → okE X.K G k W H Q d S → r (.ref p) [y] H Q)
    (ha : SE G E .i X a fa) (hb : SE G E .v X b fb) (hbase : attributeBase a name X.env (eval a X.env) = eval a X.env := by rfl)
    (hfew : ((backTo cpos (starEach [b] X.env)).all (fun x => !x.1) && (backToKw cpos (keywordEach [] X.env)).all (fun x => x.1.isSome)
      && decide ([b].length + ([] : List Keyword).length + (if ([] : List Keyword).isEmpty then 0 else 1) < 30)) = true := by rfl)
    (hline : (apos.endLine == cpos.line) = true := by rfl) (hst : starEach [b] X.env = (false, eval b X.env) :: starEach [] X.env := by rfl) (hplain : (backTo cpos (starEach [] X.env)).any (·.1) = false := by rfl) :
    SE G E k X (.Call (.Attribute a name apos) [b] [] cpos) (lm1 g fa fb) := by
  obtain ⟨ta, pa, sa⟩ := ha
  obtain ⟨tb, pb, sb⟩ := hb
  refine ⟨_, pe_bm PySem.F.plainAttrs_list slot hty hm pa (pa_cons pb pa_nil hst) hbase hfew hline hst hplain, fun ρ σ S W H Q rep post => ?_⟩
  refine sa.go rep (Step.refl W H) post fun dx S1 x W1 H1 st1 s01 rep1 is1 post => ?_
  have is1 : Ist X.K W1 x dx := is1
  cases dx with
  | lst ds =>
    obtain ⟨p, vs, rfl, h1, h2⟩ := is1.lstv
    refine ⟨.inl ⟨rfl, vs, SqL.of (rep1.wok.sub _ _ h1)⟩, ?_⟩
    refine sb.go rep1 s01 post fun dy S2 y W2 H2 st2 s02 rep2 is2 post => ?_
    cases e3 : g ds dy with
    | none => rw [e3] at post; exact post.elim
    | some d =>
      rw [e3] at post
      exact hg S2 W2 H2 p vs ds y dy d Q rep2.wok (SqL.of (rep2.wok.sub _ _ (st2.ex _ _ h1))) (IsL.step st2 h2) is2 e3 fun v W' H' st3 ok3 rr => post v W' H' (s02.trans st3) ok3 (rr.pre s02)
  | _ => exact (show False from post).elim
theorem e_lidx {apos cpos : Pos} (ha : SE G E .i X a fa) (hb : SE G E .v X b fb) (hbase : attributeBase a "index" X.env (eval a X.env) = eval a X.env := by rfl)
    (hfew : ((backTo cpos (starEach [b] X.env)).all (fun x => !x.1) && (backToKw cpos (keywordEach [] X.env)).all (fun x => x.1.isSome)
      && decide ([b].length + ([] : List Keyword).length + (if ([] : List Keyword).isEmpty then 0 else 1) < 30)) = true := by rfl)
    (hline : (apos.endLine == cpos.line) = true := by rfl) (hst : starEach [b] X.env = (false, eval b X.env) :: starEach [] X.env := by rfl) (hplain : (backTo cpos (starEach [] X.env)).any (·.1) = false := by rfl) :
    SE G E .i X (.Call (.Attribute a "index" apos) [b] [] cpos) (lm1 idxLD fa fb) := by
  refine e_lm1 PySem.F.slot_list_index PySem.F.type_list_index mt_index (fun S W H p vs ds y dy d Q wok h1 h2 iy e q => ?_) ha hb hbase hfew hline hst hplain
  unfold idxLD at e
  by_cases hz : (flatD dy && ds.all flatD) = true
  · rw [if_pos hz] at e
    obtain ⟨j, e1, rfl⟩ := Option.map_eq_some_iff.mp e
    obtain ⟨hz1, hz2⟩ := Bool.and_eq_true_iff.mp hz
    obtain ⟨rfl, f1⟩ := iy.flat hz1
    obtain ⟨rfl, f2⟩ := toVs_of h2 hz2
    obtain ⟨z, g1, g2, g3⟩ := plcD_some e1
    exact ⟨p, _, _, j, z, rfl, rfl, h1, f1, f2, g1, g2, g3, q.here wok (.int _)⟩
  · rw [if_neg hz] at e
    cases e
theorem e_lcnt {apos cpos : Pos} (ha : SE G E .i X a fa) (hb : SE G E .v X b fb) (hbase : attributeBase a "count" X.env (eval a X.env) = eval a X.env := by rfl)
    (hfew : ((backTo cpos (starEach [b] X.env)).all (fun x => !x.1) && (backToKw cpos (keywordEach [] X.env)).all (fun x => x.1.isSome)
      && decide ([b].length + ([] : List Keyword).length + (if ([] : List Keyword).isEmpty then 0 else 1) < 30)) = true := by rfl)
    (hline : (apos.endLine == cpos.line) = true := by rfl) (hst : starEach [b] X.env = (false, eval b X.env) :: starEach [] X.env := by rfl) (hplain : (backTo cpos (starEach [] X.env)).any (·.1) = false := by rfl) :
    SE G E .i X (.Call (.Attribute a "count" apos) [b] [] cpos) (lm1 cntLD fa fb) := by
  refine e_lm1 PySem.F.slot_list_count PySem.F.type_list_count mt_lcountF (fun S W H p vs ds y dy d Q wok h1 h2 iy e q => ?_) ha hb hbase hfew hline hst hplain
  unfold cntLD at e
  by_cases hz : (flatD dy && ds.all flatD) = true
  · rw [if_pos hz] at e
    cases e
    obtain ⟨hz1, hz2⟩ := Bool.and_eq_true_iff.mp hz
    obtain ⟨rfl, f1⟩ := iy.flat hz1
    obtain ⟨rfl, f2⟩ := toVs_of h2 hz2
    exact ⟨p, _, _, rfl, rfl, h1, f1, f2, q.here wok (.int _)⟩
  · rw [if_neg hz] at e
    cases e
/-! ### the caught exception -/
/-- what K says of its class -/
structure CxP (K : PySem.W.Frag) (C : Addr) : Prop where
  is : ExcC K C
  xf : XfC K C
def cxB (K : PySem.W.Frag) (C : Addr) : Bool := xfB K C && (decide (PySem.W.findIn K (.ref C) "__class__" = some (some (.builtin "object.__class__"))) &&
  (decide (PySem.W.specialIn K (.builtin "object.__class__") "__get__" = some (some (.builtin "getset_descriptor.__get__"))) && (decide (PySem.W.takesIn K (.builtin "object.__class__") = some true) && decide (PySem.W.mroIn K C (.type "object") = some true))))
theorem cxB_ok {K : PySem.W.Frag} {C : Addr} (h : cxB K C = true) : CxP K C := by
  obtain ⟨h1, h⟩ := Bool.and_eq_true_iff.mp h
  obtain ⟨h2, h⟩ := Bool.and_eq_true_iff.mp h
  obtain ⟨h3, h⟩ := Bool.and_eq_true_iff.mp h
  obtain ⟨h4, h5⟩ := Bool.and_eq_true_iff.mp h
  have xf := xfB_ok h1
  exact ⟨⟨xf.ga, xf.gg, xf.exC, xf.hdC, of_decide_eq_true h2, of_decide_eq_true h3, of_decide_eq_true h4, of_decide_eq_true h5⟩, xf⟩
end
/-- isinstance(e, c): e the exception that the suite holds at a -/
def rIsX (K : PySem.W.Frag) (a C : Addr) (d : Option Addr) : List V → Hp → VK → Prop := fun xs H Q => ∃ (c : V) (cv : Value) (b : Bool), xs = [.ref a, c] ∧ (∀ u, RelV c u → u = cv) ∧ PySem.W.kitOne K (.ref C) cv = some b ∧
  (d = none ∨ ∃ dd fs, d = some dd ∧ H dd = some (.xd fs)) ∧ Q (.bl b) H
section
variable {G : Gm} {E : XK} {X : Cx} {e a b : Expr} {fa fb f : Sem} {k : Rk}
theorem call_isX {a C : Addr} {d : Option Addr} {oe : Obj} {pn : List (Addr × Obj)} (cp : ExcC X.K C) (hz : Zc (.ref C) d oe) (hf : ∃ vs, oe.data = .fields vs) : CallR (X.suite a ((a, oe) :: pn)) (.builtin "isinstance") (rIsX X.K a C d) := by
  intro pins s σ H xs us Q I r h
  obtain ⟨c, cv, b, rfl, hcv, e, hd, q⟩ := h
  obtain ⟨u1, u2, rfl, r1, r2⟩ := vals2 r
  obtain rfl : u1 = Value.ref a := r1
  have e2 := hcv _ r2
  subst e2
  obtain ⟨hget, _⟩ := I.pin (a, oe) (List.mem_append.mpr (.inl List.mem_cons_self))
  obtain ⟨vs, hv⟩ := hf
  have J : ∃ od, PySem.W.InstAt s.heap a oe C od := by
    have no : PySem.W.notCls oe = true := by unfold PySem.W.notCls; rw [hv]
    rcases hd with rfl | ⟨dd, fs, rfl, hx⟩
    · exact ⟨none, hget, hz.1, no, by rw [hz.2]; trivial⟩
    · obtain ⟨mA, ⟨od, es, ep, eo, _⟩, _⟩ := (show ∃ mA, s.heap.Ns1 dd mA ∧ ∀ f, RelO (fs.lookup f) (mA f) from I.hok dd _ hx)
      exact ⟨some od, hget, hz.1, no, by rw [hz.2]; exact eo⟩
  obtain ⟨od, J⟩ := J
  have hcl : (PySem.W.clsIn X.K C).isSome = true := by
    obtain ⟨cd, hc, _⟩ := PySem.W.any_some cp.hd
    rw [hc]
    rfl
  exact PySem.W.kia_one (PySem.W.kitx_exc hcl cp.hg cp.hk cp.hs cp.ha cp.hn cp.ht cp.hm) I.kIn J e (fun z => nomatch z) fun tk => ⟨.bl b, H, I.kept (t' := tk) fun _ _ z => z, rfl, q⟩
/-- a test of the class of what is caught (slot i) -/
def isE (a : Addr) (d : Option Addr) (i : Nat) (b : Bool) : Sem := fun ρ S => match ρ[i]? with
  | some (.dat (.exc a' o _)) => if a' = a ∧ o.map (·.1) = d then .ok (.bl b) S else .no
  | _ => .no
/-- a field of what is caught; c: its class, c0: the class that has the field -/
def exf (a : Addr) (d : Option Addr) (c c0 : Nat) (i : Nat) (f : Str) : Sem := fun ρ S => match ρ[i]? with
  | some (.dat (.exc a' (some (dd, g)) y)) => if a' = a ∧ some dd = d ∧ c = c0 ∧ g = f then .ok y S else .no
  | _ => .no
theorem e_isE {a C : Addr} {d : Option Addr} {oe : Obj} {pn : List (Addr × Obj)} (i : Nat) {x y : Str} {c : V} {cv : Value} {bb : Bool} {p p1 p2 pos : Pos} (cp : ExcC X.K C) (hz : Zc (.ref C) d oe) (hf : ∃ vs, oe.data = .fields vs) (hk : PySem.W.kitOne X.K (.ref C) cv = some bb) (hcv : ∀ u, RelV c u → u = cv)
    (hg : Gl X "isinstance") (hm : X.mg "isinstance" = none) (hy : PE (X.suite a ((a, oe) :: pn)) (.Name y p2) (tC c)) (hN : X.N[i]? = some x := by rfl) (hv : Vis X.env.scope x := by first | exact Or.inl rfl | exact Or.inr (Or.inl rfl) | exact Or.inr (Or.inr rfl)) (hd : (x == ("__debug__" : Str)) = false := by decide) (hcd : (x == ("__classdict__" : Str)) = false := by decide) :
    SE G E .i (X.suite a ((a, oe) :: pn)) (.Call (.Name "isinstance" p) [.Name x p1, .Name y p2] [] pos) (isE a d i bb) := by
  refine ⟨_, pe_callB (X := X.suite a ((a, oe) :: pn)) (call_isX cp hz hf) hg hm PyProof.Rows.boot_isinstance (pa_cons (pe_var (i := i) hN hv hd hcd) (pa_cons hy pa_nil rfl) rfl) (by decide) (by decide) rfl, fun ρ σ S W H Q r post => ?_⟩
  unfold isE at post
  split at post
  · rename_i a' o y' q
    split at post
    · rename_i hh
      obtain ⟨rfl, ho⟩ := hh
      obtain ⟨v, h1, h2⟩ := r.dat q
      cases h2 with
      | exc0 => exact ⟨_, h1, _, cv, bb, rfl, hcv, hk, .inl ho.symm, post _ W H (Step.refl W H) r.wok (.bl _)⟩
      | exc1 g1 g2 g3 => exact ⟨_, h1, _, cv, bb, rfl, hcv, hk, .inr ⟨_, _, ho.symm, r.wok.sub _ _ g1⟩, post _ W H (Step.refl W H) r.wok (.bl _)⟩
    · exact post.elim
  · exact post.elim
theorem pe_none {X : Cx} {e : Expr} : PE X e (fun _ _ _ => False) := ⟨fun _ _ _ _ _ _ h => h.elim⟩
theorem e_exf {a C : Addr} {d : Option Addr} {oe : Obj} {pn : List (Addr × Obj)} (i : Nat) {c c0 : Nat} {x f : Str} {p1 pos : Pos} (cp : c = c0 → XfC X.K C ∧ PySem.W.findIn X.K (.ref C) f = some none) (hz : Zc (.ref C) d oe) (hf : ∃ vs, oe.data = .fields vs)
    (hb : attributeBase (.Name x p1) f X.env (eval (.Name x p1) X.env) = eval (.Name x p1) X.env := by rfl) (hN : X.N[i]? = some x := by rfl) (hv : Vis X.env.scope x := by first | exact Or.inl rfl | exact Or.inr (Or.inl rfl) | exact Or.inr (Or.inr rfl)) (hd : (x == ("__debug__" : Str)) = false := by decide) (hcd : (x == ("__classdict__" : Str)) = false := by decide) :
    SE G E .i (X.suite a ((a, oe) :: pn)) (.Attribute (.Name x p1) f pos) (exf a d c c0 i f) := by
  by_cases hc : c = c0
  · refine ⟨_, pe_xf (cp hc).1 (cp hc).2 hz hf (pe_var (X := X.suite a ((a, oe) :: pn)) (i := i) hN hv hd hcd) hb, fun ρ σ S W H Q r post => ?_⟩
    unfold exf at post
    split at post
    · rename_i a' dd g y q
      split at post
      · rename_i hh
        obtain ⟨rfl, hdd, _, rfl⟩ := hh
        obtain ⟨v, h1, h2⟩ := r.dat q
        cases h2 with
        | exc1 g1 g2 g3 => exact ⟨_, h1, rfl, rfl, dd, _, _, hdd.symm, r.wok.sub _ _ g1, g2, post _ W H (Step.refl W H) r.wok g3⟩
      · exact post.elim
    · exact post.elim
  · refine ⟨_, pe_none, fun ρ σ S W H Q r post => ?_⟩
    unfold exf at post
    split at post
    · split at post
      · rename_i hh
        exact absurd hh.2.2.1 hc
      · exact post.elim
    · exact post.elim
end
/-! ### try: return e / except C as n: suite -/
def exD (x : Err) (a : Addr) (b : Option Addr) : D := match x.v, b with
  | some (f, d), some bb => .exc a (some (bb, f)) d
  | _, _ => .exc a none .non
theorem know_exc {K : PySem.W.Frag} {G : Gm} {x : Err} {cls : Value} {dd : Option Addr} {W0 W : Wd} {H0 H : Hp} {S : Mem} (wok : WOk K G W S H) (st : Step W0 H0 W H) (er : ErrIs K G W H cls dd x) (a : Addr) :
    ∃ W', WOk K G W' S H ∧ Step W0 H0 W' H ∧ Step W H W' H ∧ Ist K W' (.ref a) (exD x a dd) ∧ dd.isSome = x.v.isSome := by
  obtain ⟨c, v⟩ := x
  obtain ⟨_, er⟩ := er
  cases v with
  | none =>
    have er : dd = none := er
    subst er
    exact ⟨W, wok, st, Step.refl W H, .exc0, rfl⟩
  | some p =>
    obtain ⟨f, d⟩ := p
    obtain ⟨b, fs, u, rfl, h1, h2, h3⟩ := er
    have nad : b ∉ W.ad := fun hm => by
      obtain ⟨k, hk⟩ := List.getElem?_of_mem hm
      have hl : k < S.length := by rw [← wok.len]; exact (List.getElem?_eq_some_iff.mp hk).1
      have ob := wok.obs k b S[k] hk (by simp [hl])
      cases eo : S[k] with
      | lst ds => rw [eo] at ob; obtain ⟨vs, g1, _⟩ := ob; rw [h1] at g1; cases g1
      | ins c fs => rw [eo] at ob; obtain ⟨dx, vs, g1, _⟩ := ob; rw [h1] at g1; cases g1
    cases q : W.h b with
    | some o =>
      have q2 := wok.sub b o q
      rw [h1] at q2
      cases q2
      exact ⟨W, wok, st, Step.refl W H, .exc1 q h2 h3, rfl⟩
    | none =>
      refine ⟨W.add b (.xd fs), wok.add h1 q nad (fun ps z => by cases z), st.addX h1 (fun vs z => by cases z) q, (Step.refl W H).addX h1 (fun vs z => by cases z) q, .exc1 (show upd W.h b (.xd fs) b = _ from upd_same) h2 (Is.add q h3), rfl⟩
/-- an expression whose exceptions are told of the very slots -/
def SEW (G : Gm) (X : Cx) (e : Expr) (f : Sem) : Prop := ∃ t : XK → TE, (∀ (W : WX) (pn : List (Addr × Obj)) (xe : Value → Shared → Prop), Takes (X.tr pn xe) W → PE (X.tr pn xe) e (fun σ H Q => t (WE W σ) σ H Q)) ∧ ∀ E, SndE X.K G E .i (t E) f
def canS (K : PySem.W.Frag) (G : Gm) (E : XK) (k : Rk) (g : SemS) : TS := fun Dn σ H => ∃ Wb W0 H0 ρ S W, RepS K G Wb W0 H0 ρ σ S W H ∧ PostS K G E k Wb W0 H0 Dn (g ρ S)
theorem SSs.can {G : Gm} {E : XK} {k : Rk} {X : Cx} {sts : List Stmt} {g : SemS} (h : SSs G E k X sts g) : PSs X sts (canS X.K G E k g) := by
  obtain ⟨t, p, s⟩ := h
  exact ⟨fun pins s' σ H Dn I ⟨Wb, W0, H0, ρ, S, W, r, post⟩ => p.run pins s' σ H Dn I (s Wb W0 H0 ρ σ S W H Dn r post)⟩
def tryR (n : Nat) (fe : Sem) (tv : Err → Option D) : SemS := fun ρ S => match fe ρ S with
  | .ok d S1 => .rt d S1
  | .er x S1 => (match tv x with
    | some d => if ρ.length = n then .rt d S1 else .no
    | none => .no)
  | .no => .no
section
variable {G : Gm} {E : XK} {X : Cx} {e : Expr} {fe : Sem}
theorem s_tryret {i m : Nat} {x n : Str} {CH : Addr} {b₀ : Stmt} {suite : List Stmt} {np rp pos pos' : Pos} {tv : Err → Option D} {gs : Err → Addr → Option Addr → SemS} (hs : X.stack = X.env :: X.outer) (hf : X.env.frame = some X.env.locals) (hN : X.N.Nodup) (hi : X.N[i]? = some n) (hln : X.env.kindOf n = some .local)
    (hc : Names X x (.ref CH)) (he : SEW G X e fe) (hm : ∀ z, (tv z).isSome = true → PySem.W.exmOne X.K (.ref (G.cl z.c)) (.ref CH) = some true)
    (hsu : ∀ z, (tv z).isSome = true → ∀ (a : Addr) (oe : Obj) (d : Option Addr) (pn : List (Addr × Obj)), Zc (.ref (G.cl z.c)) d oe → (∃ vs, oe.data = .fields vs) → SSs G EN .i (X.suite a ((a, oe) :: pn)) (b₀ :: suite) (gs z a d))
    (hv : ∀ z d, tv z = some d → ∀ (a : Addr) (dd : Option Addr) (ρ : Env) (S : Mem), dd.isSome = z.v.isSome → ρ.length = m → gs z a dd (ρ.set i (.dat (exD z a dd))) S = .rt d S) :
    SS G E .i X (.Try [.Return (some e) rp] [.ExceptHandler (some (.Name x np)) (some n) (b₀ :: suite) pos'] [] [] pos) (tryR m fe tv) := by
  obtain ⟨t, pt, st⟩ := he
  let ts : Addr → Value → Option Addr → TS := fun a cls d Dn σ H => ∃ z, cls = .ref (G.cl z.c) ∧ (tv z).isSome = true ∧ canS X.K G EN .i (gs z a d) Dn σ H
  refine ⟨_, ps_try_as (ts := ts) (tb := fun W Dn σ H => t (WE W σ) σ H Dn.rt) hs hf hN hi hln hc LamX.takes0 (fun W pn xe tk _ => pss_one (ps_ret (pt W pn xe tk))) (fun a oe cls d pn hz hfl => ?_), fun Wb W0 H0 ρ σ S W H Dn r post => ?_⟩
  · refine ⟨fun pins s σ H Dn I h => ?_⟩
    obtain ⟨z, e1, h2, h3⟩ := h
    subst e1
    exact (hsu z h2 a oe d pn hz hfl).can.run pins s σ H Dn I h3
  · refine st _ ρ σ S W H _ r.rep ?_
    unfold tryR at post
    cases q : fe ρ S with
    | no => rw [q] at post; exact post
    | ok d S1 =>
      rw [q] at post
      exact fun v W1 H1 s1 ok1 rr => post v W1 H1 (r.st.trans s1) ok1 rr
    | er z S1 =>
      rw [q] at post
      dsimp only at post
      cases q2 : tv z with
      | none => rw [q2] at post; exact post.elim
      | some d =>
        rw [q2] at post
        dsimp only at post
        by_cases hl : ρ.length = m
        case neg => rw [if_neg hl] at post; exact post.elim
        rw [if_pos hl] at post
        intro cls dd W1 H1 s1 ok1 er
        have hz : (tv z).isSome = true := by rw [q2]; rfl
        have ec := er.1
        subst ec
        refine ⟨true, hm z hz, fun _ a na => ?_, fun y => Bool.noConfusion y⟩
        obtain ⟨W2, ok2, _, s2, is2, hdd⟩ := know_exc ok1 (r.st.trans s1) er a
        refine ⟨z, rfl, hz, Wb, W0, H0, ρ.set i (.dat (exD z a dd)), S1, W2, (r.step (s1.trans s2) ok2).set is2, ?_⟩
        rw [hv z d q2 a dd ρ S1 hdd hl]
        exact post
end
end Dl
/-! DlR: a lambda with at most one parameter, given or with a default; its making, its call in the def that got it. -/
namespace Dl
open PySem PySem.Spec PyProof.Rows L2
theorem among_more {p : Pos} {c : Value} (l m : List Value) (h : TriplesOk l) (hc : codeAmong p l = some c) : codeAmong p (l ++ m) = some c := by
  fun_induction TriplesOk l with
  | case1 => simp [codeAmong] at hc
  | case2 a t b u x rest ih =>
    simp only [List.cons_append, codeAmong] at hc ⊢
    split at hc
    · rename_i q
      rw [if_pos q]
      exact hc
    · rename_i q
      rw [if_neg q]
      exact ih h hc
  | case3 l h1 h2 => exact h.elim
/-- the names of a lambda: ps its parameters -/
structure LamQ (sc scope : Scope) (ps : List Str) : Prop where
  kind : scope.kind = .function
  co : scope.isCoroutine = false
  gen : scope.isGenerator = false
  nc : ∀ y ∈ scope.names, y.2 ≠ .cell
  loc : ∀ y ∈ scope.names, y.2 = .local → y.1 ∈ ps
  par : ∀ y ∈ ps, scope.names.lookup y = some .local
  free : ∀ y ∈ scope.names, y.2 = .free → sc.names.lookup y.1 = some .cell ∨ sc.names.lookup y.1 = some .free
def lamQB (sc scope : Scope) (ps : List Str) : Bool :=
  decide (scope.kind = .function) && (!scope.isCoroutine && (!scope.isGenerator && ((scope.names.all fun y => !decide (y.2 = .cell) && ((!decide (y.2 = .local) || decide (y.1 ∈ ps)) && (!decide (y.2 = .free) || (decide (sc.names.lookup y.1 = some .cell) || decide (sc.names.lookup y.1 = some .free)))))
    && ps.all fun y => decide (scope.names.lookup y = some .local))))
theorem lamQ_by {sc scope : Scope} {ps : List Str} (h : lamQB sc scope ps = true) : LamQ sc scope ps := by
  unfold lamQB at h
  simp only [Bool.and_eq_true, Bool.or_eq_true, Bool.not_eq_true', decide_eq_true_eq, decide_eq_false_iff_not, List.all_eq_true] at h
  obtain ⟨a, b, c, d, e⟩ := h
  refine ⟨a, b, c, fun y hy => (d y hy).1, fun y hy z => ?_, e, fun y hy z => ?_⟩
  · rcases (d y hy).2.1 with q | q
    · exact absurd z q
    · exact q
  · rcases (d y hy).2.2 with q | q
    · exact absurd z q
    · exact q
theorem LamQ.has {X : Cx} {scope : Scope} {ps : List Str} (L : LamQ X.env.scope scope ps) (ok : X.Ok) : ∀ y ∈ scope.names, y.2 = .free → ∃ c, X.env.cells.lookup y.1 = some c := fun y hy z =>
  (L.free y hy z).elim (fun k => ok.has _ (.inl k)) fun k => ok.has _ (.inr k)
/-- a lambda's text -/
structure LamT where
  params : Arguments
  body : Expr
  scope : Scope
  pos : Pos
abbrev lamN (X : Cx) : Str := X.env.qual ++ "<lambda>"
/-- the lambda made by X stands at f: its code object is told by the table at P, its defaults' values are dvs -/
structure LamAt (X : Cx) (L : LamT) (P : Addr) (dvs : List V) (H : Hp) (h : Heap) (f : Addr) : Prop where
  ex : ∃ (c' : Addr) (dV doc pm ctv : Value) (us : List Value) (qs : Array Value), h.get? f = some (PySem.W.kdv_obj "<lambda>" (lamN X) L.params (.expr L.body) L.scope (cloFrom X.env.cells L.scope.names []) dV doc pm c' ctv) ∧
    H P = some (.tbl qs) ∧ TriplesOk qs.toList ∧ codeAmong L.pos qs.toList = some (.ref c') ∧ Vals dvs us ∧
    ((us = [] ∧ dV = .none) ∨ (us ≠ [] ∧ ∃ T0, dV = .ref T0 ∧ h.get? T0 = some (PySem.W.kdv_tup us) ∧ H T0 = none ∧ T0 ∉ frs X.stack))
  nf : H f = none
  fr : f ∉ frs X.stack
section
variable {X : Cx} {pins : List (Addr × Obj)} {σ : L2.St} {H : Hp} {s : Shared}
theorem nofr_of (I : Inv X pins σ H s) {f : Addr} (hf : s.heap.objs.size ≤ f) : f ∉ frs X.stack := fun z => by
  rcases List.mem_cons.mp (I.stkSub _ z) with e | e
  · have h1 := I.lt
    rw [← e] at h1
    exact absurd (Nat.lt_of_lt_of_le h1 hf) (Nat.lt_irrefl _)
  · exact I.nofs hf e
theorem lam_tail {T : List (Addr × Str)} {c P : Addr} {L : LamT} {dV : Value} {E : Value → Shared → Prop} {Q : Value → Shared → Prop} (I : Inv X pins σ H s) (TB : LamX.TabB X.base X.mg c P) (hcode : X.env.code = .ref c)
    (hm : (P, lamN X) ∈ T) (hu : ∀ p ∈ T, p.1 = P → p.2 = lamN X) (hT : LamX.Tabs T H) (hfree : ∀ y ∈ L.scope.names, y.2 = .free → ∃ c, X.env.cells.lookup y.1 = some c)
    (h : ∀ (f c' : Addr) (doc pm ctv : Value) (qs : Array Value) (H1 : Hp) (s' : Shared), Inv X pins σ H1 s' → LamX.ExtN H H1 → (∀ b, H b ≠ none → H1 b ≠ none) → (∀ b, b < s.heap.objs.size → H b = none → H1 b = none) → LamX.Tabs T H1 → (∀ b o, b ≠ P → s.heap.get? b = some o → s'.heap.get? b = some o) →
      s'.heap.get? f = some (PySem.W.kdv_obj "<lambda>" (lamN X) L.params (.expr L.body) L.scope (cloFrom X.env.cells L.scope.names []) dV doc pm c' ctv) → H1 P = some (.tbl qs) → TriplesOk qs.toList → codeAmong L.pos qs.toList = some (.ref c') →
      H1 f = none → s.heap.objs.size ≤ f → Q (.ref f) s') :
    wpAny (model X.prog X.w) X.A (makeTail "<lambda>" (lamN X) L.params (.expr L.body) L.scope X.env dV .none none L.pos L.pos.line) Q E s := by
  obtain ⟨qs, hP, ht, ha⟩ := hT _ hm
  have hb : s.heap.BuiltinsAt X.mg P := TB.bm.keeps I.bk
  have hPh : s.heap.get? P = some { cls := .none, data := .fields qs } := I.hok P _ hP
  cases hc : codeAmong L.pos qs.toList with
  | some cv =>
    obtain ⟨c', e, hco⟩ := ha _ cv hc
    subst e
    refine PySem.W.kdv_makeTailHit (mg := X.mg) (c := c) (P := P) (ps := qs) (closure_ok hfree) I.ok.glob (I.mod.glob.keeps I.bk) hcode (TB.code.keeps I.bk) hPh ht hc hb fun ctv doc h' tk hx hsz => ?_
    have kk : ∀ b o, s.heap.get? b = some o → (h'.push (PySem.W.kdv_obj "<lambda>" (lamN X) L.params (.expr L.body) L.scope (cloFrom X.env.cells L.scope.names []) dV doc ((X.mg "__name__").getD .none) c' ctv)).get? b = some o := fun b o e => Heap.get?_push_of_some _ (hx b o e)
    exact h h'.objs.size c' doc ((X.mg "__name__").getD .none) ctv qs H _ (I.kept (t' := tk) kk) (LamX.ExtN.refl H) (fun _ z => z) (fun _ _ z => z) hT (fun b o _ e => kk b o e) (Heap.get?_push_size _ rfl) hP ht hc (I.hok.fresh hsz) hsz
  | none =>
    refine PySem.W.kdv_makeTail (mg := X.mg) (c := c) (P := P) (ps := qs) (closure_ok hfree) I.ok.glob (I.mod.glob.keeps I.bk) hcode (TB.code.keeps I.bk) hPh ht hc TB.gP hb fun c' ctv doc h' tk hx hge hlt hrec htb => ?_
    obtain ⟨c2, oc, vs, t, e2, hoc, hd, hv⟩ := hrec
    cases e2
    have nC : H c' = none := I.hok.fresh hge
    have big : s.heap.objs.size ≤ h'.objs.size := Nat.le_of_lt (Nat.lt_of_le_of_lt hge hlt)
    have I1 := LamX.inv_table (t' := tk) (q := lamN X) (more := #[rawInt L.pos.line, rawInt L.pos.col, .ref c']) (h' := h'.push (PySem.W.kdv_obj "<lambda>" (lamN X) L.params (.expr L.body) L.scope (cloFrom X.env.cells L.scope.names []) dV doc ((X.mg "__name__").getD .none) c' ctv)) I hP
      (fun b o hb e => Heap.get?_push_of_some _ (hx b o hb e)) (Heap.get?_push_of_some _ htb) hge ⟨oc, vs, t, Heap.get?_push_of_some _ hoc, hd, hv⟩
    have nPc : P ≠ c' := ne_of_none hP nC
    have atP : upd (upd H P (.tbl (qs ++ #[rawInt L.pos.line, rawInt L.pos.col, .ref c']))) c' (LamX.CodeO c' (lamN X)) P = some (.tbl (qs ++ #[rawInt L.pos.line, rawInt L.pos.col, .ref c'])) := by rw [upd_ne nPc, upd_same]
    have off : ∀ b, b ≠ P → b ≠ c' → upd (upd H P (.tbl (qs ++ #[rawInt L.pos.line, rawInt L.pos.col, .ref c']))) c' (LamX.CodeO c' (lamN X)) b = H b := fun b h1 h2 => by rw [upd_ne h2, upd_ne h1]
    have ext : LamX.ExtN H (upd (upd H P (.tbl (qs ++ #[rawInt L.pos.line, rawInt L.pos.col, .ref c']))) c' (LamX.CodeO c' (lamN X))) := fun b o e n => by
      rw [off b (fun z => by subst z; rw [hP] at e; exact n _ (Option.some.inj e).symm) (ne_of_none e nC)]
      exact e
    have hL : (qs ++ #[rawInt L.pos.line, rawInt L.pos.col, .ref c']).toList = qs.toList ++ [rawInt L.pos.line, rawInt L.pos.col, .ref c'] := by simp
    have tri : TriplesOk (qs ++ #[rawInt L.pos.line, rawInt L.pos.col, .ref c']).toList := by rw [hL]; exact PySem.TriplesOk_snoc _ _ _ _ ht
    refine h h'.objs.size c' doc ((X.mg "__name__").getD .none) ctv _ _ _ I1 ext (fun b hb => ?_) (fun b hb n => ?_) (fun p hp => ?_) (fun b o hb e => Heap.get?_push_of_some _ (hx b o hb e)) (Heap.get?_push_size _ rfl) atP tri ?_ ?_ big
    · by_cases h1 : b = P
      · rw [h1, atP]; simp
      · by_cases h2 : b = c'
        · rw [h2, upd_same]; simp
        · rw [off b h1 h2]; exact hb
    · rw [off b (fun z => by rw [z, hP] at n; cases n) (Nat.ne_of_lt (Nat.lt_of_lt_of_le hb hge))]
      exact n
    · by_cases h1 : p.1 = P
      · rw [hu p hp h1, h1]
        refine ⟨_, atP, tri, fun p' cv hcv => ?_⟩
        rw [hL] at hcv
        rcases LamX.among_app _ ht hcv with z | z
        · obtain ⟨c0, e1, e2⟩ := ha p' cv z
          exact ⟨c0, e1, ext _ _ e2 LamX.codeO_ne⟩
        · exact ⟨c', z, upd_same⟩
      · obtain ⟨rs, a1, a2, a3⟩ := hT p hp
        refine ⟨rs, by rw [off p.1 h1 (ne_of_none a1 nC)]; exact a1, a2, fun p' cv hcv => ?_⟩
        obtain ⟨c0, e1, e2⟩ := a3 p' cv hcv
        exact ⟨c0, e1, ext _ _ e2 LamX.codeO_ne⟩
    · rw [hL]
      exact PySem.codeAmong_snoc _ ht hc
    · rw [off _ (Nat.ne_of_gt (Nat.lt_of_lt_of_le (Heap.lt_size hPh) big)) (Nat.ne_of_gt hlt)]
      exact I.hok.fresh big
/-- the lambda is made -/
def LamD (L : LamT) (dvs : List V) : Prop := L.params.kw_defaults = [] ∧ ((L.params.defaults = [] ∧ dvs = []) ∨ ∃ (z : Int) (j : Nat) (p : Pos), L.params.defaults = [.Constant (.int z) j p] ∧ dvs = [.int z])
theorem lam_made {T : List (Addr × Str)} {c P : Addr} {L : LamT} {dvs : List V} {E : Value → Shared → Prop} {Q : Value → Shared → Prop} (I : Inv X pins σ H s) (TB : LamX.TabB X.base X.mg c P) (hcode : X.env.code = .ref c)
    (hm : (P, lamN X) ∈ T) (hu : ∀ p ∈ T, p.1 = P → p.2 = lamN X) (hT : LamX.Tabs T H) (hfree : ∀ y ∈ L.scope.names, y.2 = .free → ∃ c, X.env.cells.lookup y.1 = some c) (hd : LamD L dvs)
    (h : ∀ (f : Addr) (H1 : Hp) (s' : Shared), Inv X pins σ H1 s' → LamX.ExtN H H1 → (∀ b, H b ≠ none → H1 b ≠ none) → LamX.Tabs T H1 → LamAt X L P dvs H1 s'.heap f → Q (.ref f) s') :
    wpAny (model X.prog X.w) X.A (eval (.Lambda L.params L.body L.scope L.pos) X.env) Q E s := by
  obtain ⟨hk, hd | ⟨z, j, p, hd, ev⟩⟩ := hd
  · obtain ⟨hd, ev⟩ := hd
    subst ev
    refine PySem.W.kla_eval ?_ ?_
    · rw [defaultsOf_eq, hd, hk]
      rfl
    · rw [makeFunction_eq]
      simp only [List.zip_nil_right, List.filterMap_nil, List.isEmpty_nil, if_true, pure_bind]
      refine lam_tail I TB hcode hm hu hT hfree fun f c' doc pm ctv qs H1 s' I1 e1 e2 _ e3 _ g1 g2 g3 g4 g5 g6 => ?_
      exact h f H1 s' I1 e1 e2 e3 ⟨⟨c', _, doc, pm, ctv, [], qs, g1, g2, g3, g4, .nil, .inl ⟨rfl, rfl⟩⟩, g5, nofr_of I g6⟩
  · subst ev
    refine PySem.W.kdv_lam (by rw [hd]; rfl) hk ?_
    rw [hd]
    refine PySem.W.kdv_all1 (wpAny_Constant_int (PySem.W.kdv_all0 ?_))
    rw [makeFunction_eq]
    simp only [List.zip_nil_right, List.filterMap_nil, List.isEmpty_nil, List.isEmpty_cons, if_true, pure_bind, Bool.false_eq_true, if_false]
    refine wpAny_bind (wpAny_newTextTuple ?_)
    have k0 : ∀ b o, s.heap.get? b = some o → (s.heap.push (PySem.W.kdv_tup [Value.int z s.toks])).get? b = some o := fun b o e => Heap.get?_push_of_some _ e
    have I0 : Inv X pins σ H { s with heap := s.heap.push (PySem.W.kdv_tup [Value.int z s.toks]), toks := s.toks + 1 } := I.kept (t' := s.toks + 1) k0
    refine lam_tail (s := { s with heap := s.heap.push (PySem.W.kdv_tup [Value.int z s.toks]), toks := s.toks + 1 }) I0 TB hcode hm hu hT hfree fun f c' doc pm ctv qs H1 s' I1 e1 e2 e4 e3 e5 g1 g2 g3 g4 g5 g6 => ?_
    have nT : H s.heap.objs.size = none := I.hok.fresh (Nat.le_refl _)
    obtain ⟨qs0, hP0, _⟩ := hT _ hm
    have nP : s.heap.objs.size ≠ P := fun z => by rw [z, hP0] at nT; cases nT
    refine h f H1 s' I1 e1 e2 e3 ⟨⟨c', _, doc, pm, ctv, [Value.int z s.toks], qs, g1, g2, g3, g4, .cons ⟨_, rfl⟩ .nil, .inr ⟨by simp, s.heap.objs.size, rfl, ?_, ?_, nofr_of I (Nat.le_refl _)⟩⟩, g5, nofr_of I0 g6⟩
    · exact e5 _ _ nP (Heap.get?_push_size _ rfl)
    · refine e4 _ ?_ nT
      show s.heap.objs.size < (s.heap.push (PySem.W.kdv_tup [Value.int z s.toks])).objs.size
      rw [Heap.size_push]
      exact Nat.lt_succ_self _
end
end Dl
/-! DlS: a lambda called in the def that got it. -/
namespace Dl
open PySem PySem.Spec PyProof.Rows L2
/-- the context of a lambda's body: its maker's names, then its own -/
def lamC (X : Cx) (ps : List Str) (A : Around) (outer : List PySem.Env) (s : Shared) (H : Hp) (E : XK) (L : LamT) (f c' : Addr) : Cx := { LamX.lamCx X A outer s H E L.scope f c' with N := X.N ++ ps }
/-- how a lambda's arguments bind: n given ones, the defaults behind them -/
structure LamB (L : LamT) (ps : List Str) (n : Nat) (dvs : List V) : Prop where
  none : dvs = [] → ∀ (q : Str) (cl : List (Str × Addr)) (doc pm cv ct : Value) (us : List Value), us.length = n → bindArgs (PySem.W.kdv_fn "<lambda>" q L.params (.expr L.body) L.scope cl .none doc pm cv ct) ⟨us, []⟩ = pure (ps.zip us)
  some : dvs ≠ [] → ∀ (q : Str) (cl : List (Str × Addr)) (T0 : Addr) (doc pm cv ct : Value) (us ds : List Value), us.length = n → ds.length = dvs.length →
    ∃ k, bindArgs (PySem.W.kdv_fn "<lambda>" q L.params (.expr L.body) L.scope cl (.ref T0) doc pm cv ct) ⟨us, []⟩ = seqItems? (.ref T0) >>= k ∧ k (some ds.toArray) = pure (ps.zip (us ++ ds))
section
variable {X : Cx} {pins : List (Addr × Obj)} {σ : L2.St} {H HZ : Hp} {s s1 : Shared} {L : LamT} {ps : List Str}
theorem zip_one {y : Str} {us : List Value} (h : us.length = 1) : ∃ u, us = [u] ∧ [y].zip us = [(y, u)] := by
  match us, h with
  | [u], _ => exact ⟨u, rfl, rfl⟩
theorem lam_par {sc scope : Scope} {i : Nat} {y : Str} {v : V} {bs : List V} {us : List Value} (hp : ps.length ≤ 1) (e1 : ps[i]? = some y) (e2 : (bs.map some)[i]? = some (some v)) (rb : Vals bs us) (hl : us.length = ps.length) (Lq : LamQ sc scope ps) :
    ∃ u, RelV v u ∧ ((scope.names.lookup y = some .local ∧ ((ps.zip us).reverse.lookup y) = some u) ∨ ((scope.names.lookup y = some .cell ∨ scope.names.lookup y = some .free) ∧ ∃ c : Addr, False)) := by
  cases ps with
  | nil => simp at e1
  | cons y0 ys =>
    cases ys with
    | cons _ _ => simp at hp
    | nil =>
      cases i with
      | succ i => simp at e1
      | zero =>
        have ey : y0 = y := by simpa using e1
        subst ey
        obtain ⟨u, rfl, ez⟩ := zip_one (y := y0) hl
        cases rb with
        | cons ru rn =>
          rename_i v0 vr
          have ev : v0 = v := by simpa using e2
          subst ev
          exact ⟨u, ru, .inl ⟨Lq.par _ (by simp), by rw [ez]; simp [List.lookup]⟩⟩
theorem lam_begin {A : Around} {outer : List PySem.Env} {E : XK} {f c' : Addr} {h₁ : Heap} {tk : Nat} {bs : List V} {us : List Value} (I : Inv X pins σ H s) (Lq : LamQ X.env.scope L.scope ps) (hp : ps.length ≤ 1) (hdis : ∀ y ∈ ps, y ∉ X.N) (e0 : Env0 X.prog X.w X.K X.mg X.base A outer s1 HZ) (hd : A.handled = none)
    (un : Un (frs X.stack) [] H HZ s.heap s1.heap) (hns : h₁.Ns s1.heap.objs.size fun y => (ps.zip us).reverse.lookup y) (kp : ∀ b o, s1.heap.get? b = some o → h₁.get? b = some o) (rb : Vals bs us) (hl : us.length = ps.length) :
    Inv (lamC X ps A outer s1 HZ E L f c') [] (σ ++ bs.map some) HZ { s1 with heap := h₁, toks := tk } := by
  have free := Lq.has I.ok
  have cells : ∀ {y c}, (cloFrom X.env.cells L.scope.names []).lookup y = some c → X.env.cells.lookup y = some c := fun {y c} e => by
    rcases cloFrom_mem (PySem.mem_of_lookup e) with hm | ⟨g1, g2⟩
    · cases hm
    · obtain ⟨c1, hc⟩ := free _ g1 rfl
      have hc : X.env.cells.lookup y = some c1 := hc
      have e2 : c = c1 := by
        rw [g2, hc]
        rfl
      rw [e2, hc]
  have seen : ∀ {y}, L.scope.names.lookup y = some .free → ∃ c, (cloFrom X.env.cells L.scope.names []).lookup y = some c := fun {y} z => mem_lookup (cloFrom_has (cells := X.env.cells) (acc := []) (PySem.mem_of_lookup z))
  have cellK : ∀ {c : Addr} {v : Option Value}, H c = none → s.heap.IsCell c v → h₁.IsCell c v := fun {c v} n ⟨o, ho, hd⟩ => by
    obtain ⟨sl, q⟩ := un.any ho n (by simp)
    exact ⟨_, kp _ _ q, hd⟩
  have none_ : ∀ b : Addr, b ∉ (lamC X ps A outer s1 HZ E L f c').ex := fun b z => nomatch (show b ∈ ([] : List Addr) from z)
  refine ⟨⟨e0.mod, Lq.kind, rfl, rfl, Nat.le_refl _, fun y z c e1 e2 => I.ok.inj y z c (cells e1) (cells e2), fun y hy => ?_, fun y c z _ => ?_, fun _ => hd, Around.frames_deeper e0.frames, .inr ⟨rfl, rfl⟩, fun b z => absurd z (none_ b), e0.bs, e0.bsz, fun b _ _ => none_ b,
      fun b z => absurd z (none_ b), e0.funs, e0.frf⟩,
    rfl, e0.bare, Un.kept kp, ⟨_, hns, fun i y v e1 e2 e3 => ?_⟩, fun y c e => ?_, e0.hok.fresh (Nat.le_refl _), fun y c e => ?_, (fun q hq => nomatch (show q ∈ ([] : List (Addr × Obj)) ++ [] from hq)), e0.hok.kept kp, ?_⟩
  · have hy : L.scope.names.lookup y = some .cell ∨ L.scope.names.lookup y = some .free := hy
    rcases hy with hy | hy
    · exact absurd rfl (Lq.nc _ (PySem.mem_of_lookup hy))
    · exact seen hy
  · have z : false = true := z
    cases z
  · have e1 : (X.N ++ ps)[i]? = some y := e1
    have e3 : Vis L.scope y := e3
    have hlen := I.len
    by_cases hi : i < X.N.length
    · rw [List.getElem?_append_left hi] at e1
      rw [List.getElem?_append_left (by rw [hlen]; exact hi)] at e2
      have yN : y ∈ X.N := List.mem_of_getElem? e1
      rcases e3 with k | k | k
      · exact absurd yN (hdis y (Lq.loc _ (PySem.mem_of_lookup k) rfl))
      · exact absurd rfl (Lq.nc _ (PySem.mem_of_lookup k))
      · obtain ⟨m, hn, hlk⟩ := I.loc
        have fk := Lq.free _ (PySem.mem_of_lookup k) rfl
        obtain ⟨w', r, q⟩ := hlk i y v e1 e2 (fk.elim (fun z => .inr (.inl z)) fun z => .inr (.inr z))
        obtain ⟨c2, g2⟩ := seen k
        refine ⟨w', r, .inr ⟨.inr k, c2, g2, ?_⟩⟩
        have c1 := cells g2
        rcases q with ⟨k', _⟩ | ⟨_, c3, e', z⟩
        · have k' : X.env.scope.names.lookup y = some .local := k'
          rcases fk with k2 | k2 <;> rw [show X.env.scope.names.lookup y = _ from k2] at k' <;> cases k'
        · rw [c1] at e'
          cases e'
          exact cellK (I.freeC y _ c1) z
    · rw [List.getElem?_append_right (by omega)] at e1
      rw [List.getElem?_append_right (by rw [hlen]; omega), hlen] at e2
      obtain ⟨u, g1, g2⟩ := lam_par hp e1 e2 rb hl Lq
      refine ⟨u, g1, ?_⟩
      rcases g2 with ⟨g2, g3⟩ | ⟨_, _, g3⟩
      · exact .inl ⟨g2, g3⟩
      · exact g3.elim
  · obtain ⟨w', z⟩ := I.cell y c (cells e)
    exact ⟨w', cellK (I.freeC y c (cells e)) z⟩
  · obtain ⟨v, o, ho, hd⟩ := I.cell y c (cells e)
    exact un.free c o ho (I.freeC y c (cells e)) (by simp)
  · show (σ ++ bs.map some).length = (X.N ++ ps).length
    have z : bs.length = us.length := rb.length
    simp [I.len, z, hl]
/-- the call itself -/
theorem lam_run {CXg : CXT} {Eg : XK} {Ng : List Str} {qg : Str} {sg : Scope} {g f P : Addr} {cdg : Value} {k n : Nat} {pn : List (Addr × Obj)} {xe : Value → Shared → Prop} {W : WX} {T : List (Addr × Str)} {dvs : List V} {tb : XK → TE} {pinsZ : List (Addr × Obj)} {σZ : L2.St} {Q : VK} {vs : List V} {us : List Value}
    (I : Inv X pins σ H s) (Lq : LamQ X.env.scope L.scope ps) (hp : ps.length ≤ 1) (hdis : ∀ y ∈ ps, y ∉ X.N) (at_ : LamAt X L P dvs H s.heap f) (hm : (P, lamN X) ∈ T) (lb : LamB L ps n dvs) (hr : Room (k + 1) (X.A.deeper (envOfC qg sg s.heap.objs.size g cdg)))
    (tk : Takes ((cxOf CXg X.prog X.w X.K X.mg X.base Ng qg sg g cdg X.A X.stack s H Eg).tr pn xe) W)
    (hbody : ∀ (A : Around) (outer : List PySem.Env) (s : Shared) (H : Hp) (E : XK) (f c' : Addr), Room k (A.deeper (LamX.lamEnv X L.scope s.heap.objs.size f c')) → PE (lamC X ps A outer s H E L f c') L.body (tb E))
    (IZ : Inv ((cxOf CXg X.prog X.w X.K X.mg X.base Ng qg sg g cdg X.A X.stack s H Eg).tr pn xe) pinsZ σZ HZ s1) (rv : Vals vs us) (hn : vs.length = n) (hps : n + dvs.length = ps.length) (hT : LamX.Tabs T HZ) (ht : tb (WE W σZ) (σ ++ (vs ++ dvs).map some) HZ Q) :
    wpAny (model X.prog X.w) (X.A.deeper (envOfC qg sg s.heap.objs.size g cdg)) (call (.ref f) us) (EP ((cxOf CXg X.prog X.w X.K X.mg X.base Ng qg sg g cdg X.A X.stack s H Eg).tr pn xe) pinsZ σZ Q) xe s1 := by
  obtain ⟨c', dV, doc, pm, ctv, ws, qs, hf, hP, tri, hc, rd, hdv⟩ := at_.ex
  have un : Un (frs X.stack) [] H HZ s.heap s1.heap := IZ.base
  have of1 := un.keep f _ hf at_.nf at_.fr (by simp)
  have hlu : us.length = n := rv.length.symm.trans hn
  have hlw : ws.length = dvs.length := rd.length.symm
  have rcd : s1.heap.CodeRec (.ref c') (lamN X) := by
    obtain ⟨more, h1⟩ := un.tbls P qs hP
    obtain ⟨qs2, h2, _, h4⟩ := hT _ hm
    rw [h1] at h2
    cases h2
    obtain ⟨c0, e0, hco⟩ := h4 L.pos (.ref c') (by rw [Array.toList_append]; exact among_more _ _ tri hc)
    cases e0
    obtain ⟨⟨oc, vs', t, g1, g2, g3⟩, _, _⟩ := IZ.hok c' _ hco
    exact ⟨c', oc, vs', t, rfl, g1, g2, g3⟩
  have hbn : BindsTo s1 (PySem.W.kdv_fn "<lambda>" (lamN X) L.params (.expr L.body) L.scope (cloFrom X.env.cells L.scope.names []) dV doc pm (.ref c') ctv) ⟨us, []⟩ (ps.zip (us ++ ws)) := by
    rcases hdv with ⟨rfl, rfl⟩ | ⟨hw, T0, rfl, g1, g2, g3⟩
    · rw [List.append_nil]
      cases rd
      exact .of_eq (lb.none rfl _ _ _ _ _ _ us hlu)
    · have nd : dvs ≠ [] := fun z => by subst z; cases rd; exact hw rfl
      obtain ⟨kk, e1, e2⟩ := lb.some nd (lamN X) (cloFrom X.env.cells L.scope.names []) T0 doc pm (.ref c') ctv us ws hlu hlw
      exact BindsTo.of_defaults rfl (un.keep T0 _ g1 g2 g3 (by simp)) rfl e1 e2
  have hlp : (us ++ ws).length = ps.length := by rw [List.length_append, hlu, hlw, hps]
  have body : codeAny (model X.prog X.w) (X.A.deeper (envOfC qg sg s.heap.objs.size g cdg)) (.call (.ref f) ⟨us, []⟩) (CR (L2.CX X.prog X.w) (envOfC qg sg s.heap.objs.size g cdg :: X.stack) X.prog X.w HZ s1 Q (WE W σZ)) s1 := by
    refine PySem.W.kla_callFunE hr.depth of1 rfl Lq.co Lq.gen rfl rcd (hbn _ _ _ _ ?_)
    refine wpAny_newFunctionEnv Lq.nc (fun y hy => Lq.par _ (List.of_mem_zip hy).1) (fun h₁ hns hsb => ⟨IZ.nolimit.fresh _ hsb, ?_⟩) Lq.kind
    show codeAny _ _ (.expr L.body (LamX.lamEnv X L.scope s1.heap.objs.size f c')) _ _
    have kp : ∀ b o, s1.heap.get? b = some o → h₁.get? b = some o := fun b o e => hsb.extBut b o (Nat.ne_of_lt (Heap.lt_size e)) (Heap.get?_push_of_some _ e)
    have J : Inv (lamC X ps (X.A.deeper (envOfC qg sg s.heap.objs.size g cdg)) (envOfC qg sg s.heap.objs.size g cdg :: X.stack) s1 HZ (WE W σZ) L f c') [] (σ ++ (vs ++ dvs).map some) HZ { s1 with heap := h₁, toks := s1.toks + (ps.zip (us ++ ws)).length } :=
      lam_begin I Lq hp hdis IZ.env0 hr.hd un hns kp (rv.append rd) hlp
    refine PySem.W.kla_codeExpr (wpAny_mono ((hbody _ _ s1 HZ _ f c' (hr.deeper _)).run [] _ _ HZ Q J ht) (fun v s' hq => ?_) fun e s' hq => hq)
    obtain ⟨w', H', J', rw', q⟩ := hq
    exact ⟨w', H', J'.os, J'.bare, J'.base, J'.hok, rw', q⟩
  have hx := passAt (X := (cxOf CXg X.prog X.w X.K X.mg X.base Ng qg sg g cdg X.A X.stack s H Eg).tr pn xe) tk σZ
  refine wpAny_call (codeAny_mono body fun r s' hq => ?_)
  cases r with
  | error e => exact hx pinsZ HZ s1 e s' IZ hq
  | ok fl =>
    cases fl with
    | ret u => exact IZ.after hq
    | next => exact (show False from hq).elim
    | brk => exact (show False from hq).elim
    | cont => exact (show False from hq).elim
end
end Dl
/-! DlT: what a lambda given to a def denotes. -/
namespace Dl
open PySem PySem.Spec PyProof.Rows L2
def cloEnv : List Bool → List D → Env
  | m :: ms, d :: ds => (if m then .dat d else .no) :: cloEnv ms ds
  | _, _ => []
def slB : Sl → Bool
  | .dat _ => true
  | _ => false
def slD : Sl → D
  | .dat d => d
  | _ => .non
def msOf (ρ : Env) : List Bool := ρ.map slB
def dsOf (ρ : Env) : List D := ρ.map slD
def vsOf : Env → L2.St → List V
  | .dat _ :: ρ, some v :: σ => v :: vsOf ρ σ
  | _ :: ρ, _ :: σ => .non :: vsOf ρ σ
  | _, _ => []
/-- what a lambda sees of its maker's slots: lists in the making are left out -/
def seeO (ρ : Env) : Env := cloEnv (msOf ρ) (dsOf ρ)
structure MkRel (σ : L2.St) (vs : List V) (ms : List Bool) : Prop where
  lv : vs.length = σ.length
  lm : ms.length = σ.length
  at_ : ∀ j : Nat, ms[j]? = some true → ∃ v, vs[j]? = some v ∧ σ[j]? = some (some v)
section
variable {K : PySem.W.Frag} {G : Gm} {W : Wd} {H : Hp} {S : Mem}
theorem mk_of {ρ : Env} {σ : L2.St} (hl : ρ.length = σ.length) (h : ∀ (i : Nat) (s : Sl), ρ[i]? = some s → ∃ o, σ[i]? = some o ∧ SlotAt K W H o s) : MkRel σ (vsOf ρ σ) (msOf ρ) ∧ IstL K W (vsOf ρ σ) (dsOf ρ) := by
  induction ρ generalizing σ with
  | nil =>
    cases σ with
    | nil => exact ⟨⟨rfl, rfl, fun j e => by simp [msOf] at e⟩, .nil⟩
    | cons => simp at hl
  | cons sl ρ ih =>
    cases σ with
    | nil => simp at hl
    | cons o σ =>
      obtain ⟨⟨l1, l2, l3⟩, is⟩ := ih (σ := σ) (by simpa using hl) (fun i s e => by simpa using h (i + 1) s (by simpa using e))
      obtain ⟨o', e1, e2⟩ := h 0 sl rfl
      have e1 : o = o' := by simpa using e1
      subst e1
      have tail : ∀ {v : V} {b : Bool}, (b = true → o = some v) → MkRel (o :: σ) (v :: vsOf ρ σ) (b :: msOf ρ) := fun {v b} hb => by
        refine ⟨by simp [l1], by simp [l2], fun j e => ?_⟩
        cases j with
        | zero =>
          have e : b = true := by simpa using e
          exact ⟨v, rfl, by simp [hb e]⟩
        | succ j => simpa using l3 j (by simpa using e)
      cases sl with
      | no =>
        have ev : vsOf (.no :: ρ) (o :: σ) = .non :: vsOf ρ σ := by cases o <;> rfl
        rw [ev]
        exact ⟨tail (b := false) (by simp), .cons .non is⟩
      | own ds =>
        have ev : vsOf (.own ds :: ρ) (o :: σ) = .non :: vsOf ρ σ := by cases o <;> rfl
        rw [ev]
        exact ⟨tail (b := false) (by simp), .cons .non is⟩
      | dat d =>
        cases o with
        | none => exact e2.elim
        | some v => exact ⟨tail (v := v) (b := true) (fun _ => rfl), .cons e2 is⟩
theorem clo_get : ∀ {ms : List Bool} {ds : List D} {i : Nat} {s : Sl}, (cloEnv ms ds)[i]? = some s → s = .no ∨ ∃ d, s = .dat d ∧ ms[i]? = some true ∧ ds[i]? = some d
  | [], ds, i, s, e => by simp [cloEnv] at e
  | _ :: _, [], i, s, e => by simp [cloEnv] at e
  | m :: ms, d :: ds, 0, s, e => by
    have e : (if m then Sl.dat d else .no) = s := by simpa [cloEnv] using e
    cases m with
    | true => exact .inr ⟨d, e.symm, rfl, rfl⟩
    | false => exact .inl e.symm
  | m :: ms, d :: ds, i + 1, s, e => by
    rcases clo_get (ms := ms) (ds := ds) (i := i) (s := s) (by simpa [cloEnv] using e) with h | ⟨d', h1, h2, h3⟩
    · exact .inl h
    · exact .inr ⟨d', h1, by simpa using h2, by simpa using h3⟩
theorem clo_len : ∀ {ms : List Bool} {ds : List D}, ms.length = ds.length → (cloEnv ms ds).length = ms.length
  | [], ds, _ => by simp [cloEnv]
  | m :: ms, [], h => by simp at h
  | m :: ms, d :: ds, h => by simp [cloEnv, clo_len (ms := ms) (ds := ds) (by simpa using h)]
/-- the maker's slots, as a lambda sees them, with what was given -/
theorem rep_clo {σ : L2.St} {vs ws : List V} {ms : List Bool} {ds es : List D} (ok : WOk K G W S H) (is : IstL K W vs ds) (r : MkRel σ vs ms) (ie : IstL K W ws es) : Rep K G (cloEnv ms ds ++ es.map .dat) (σ ++ ws.map some) S W H := by
  have hl : (cloEnv ms ds).length = σ.length := by rw [clo_len (by rw [r.lm, ← is.length, r.lv]), r.lm]
  have noown : ∀ {i : Nat} {as : List D}, (cloEnv ms ds ++ es.map Sl.dat)[i]? ≠ some (.own as) := fun {i as} e => by
    rcases List.mem_append.mp (List.mem_of_getElem? e) with h | h
    · obtain ⟨j, hj⟩ := List.getElem?_of_mem h
      rcases clo_get hj with z | ⟨d, z, _⟩ <;> cases z
    · obtain ⟨d, _, z⟩ := List.mem_map.mp h
      cases z
  refine ⟨ok, by rw [List.length_append, List.length_append, hl, List.length_map, List.length_map, ie.length], fun i s e => ?_, fun i j as bs h => absurd h noown⟩
  by_cases hi : i < σ.length
  · rw [List.getElem?_append_left (by rw [hl]; exact hi)] at e
    rw [List.getElem?_append_left hi]
    rcases clo_get e with z | ⟨d, z, h2, h3⟩
    · subst z
      refine ⟨σ[i], by simp [hi], ?_⟩
      cases σ[i] <;> trivial
    · subst z
      obtain ⟨v, g1, g2⟩ := r.at_ i h2
      obtain ⟨d', g3, g4⟩ := is.get' g1
      rw [h3] at g3
      cases g3
      exact ⟨some v, g2, g4⟩
  · rw [List.getElem?_append_right (by rw [hl]; omega), hl, List.getElem?_map] at e
    rw [List.getElem?_append_right (by omega), List.getElem?_map]
    obtain ⟨d, h1, h2⟩ := Option.map_eq_some_iff.mp e
    subst h2
    obtain ⟨v, g1, g2⟩ := ie.get h1
    exact ⟨some v, by rw [g1]; rfl, g2⟩
theorem wok_ext {H1 : Hp} (ok : WOk K G W S H) (e : LamX.ExtN H H1) (t : LamX.Tabs G.T H1) : WOk K G W S H1 := by
  refine ⟨fun a o h => e a o (ok.sub a o h) (fun ps z => ok.ntb a ps (by rw [h, z])), ok.ntb, ok.adn, ok.nd, ok.len, fun i a o h1 h2 => ?_, t⟩
  have q := ok.obs i a o h1 h2
  cases o with
  | lst ds => obtain ⟨vs, h3, h4⟩ := q; exact ⟨vs, e _ _ h3 (fun ps z => by cases z), h4⟩
  | ins c fs => obtain ⟨dx, vs, h3, h4⟩ := q; exact ⟨dx, vs, e _ _ h3 (fun ps z => by cases z), h4⟩
theorem step_ext {H1 : Hp} (e : LamX.ExtN H H1) (k : ∀ b, H b ≠ none → H1 b ≠ none) : Step W H W H1 := ⟨fun _ _ h => h, fun _ _ _ _ h => h, ⟨[], by simp, fun a h => by simp at h⟩, fun a o h _ n => e a o h n, k⟩
end
/-- the call of a lambda that slot i holds: f, vs, ms: where it stands, what its maker's slots held -/
def cloS (f : Addr) (vs : List V) (ms : List Bool) (dds : List D) (fe : Sem) (i : Nat) (fas : SemL) : Sem := fun ρ S => match ρ[i]? with
  | some (.dat (.clo f' vs' ms' ds)) => if f' = f ∧ vs' = vs ∧ ms' = ms then (fas ρ S).bind fun as S1 => fe (cloEnv ms ds ++ (as ++ dds).map .dat) S1 else .no
  | _ => .no
/-- a lambda in the hands of the def that got it: X its maker, at the call's state -/
structure CloH (G : Gm) (X : Cx) (σ : L2.St) (H : Hp) (s : Shared) (L : LamT) (ps : List Str) (P : Addr) (n : Nat) (dvs : List V) (dds : List D) (f : Addr) (vs : List V) (ms : List Bool) (fe : Sem) (k : Nat) : Prop where
  inv : ∃ pins, Inv X pins σ H s
  lq : LamQ X.env.scope L.scope ps
  hp : ps.length ≤ 1
  dis : ∀ y ∈ ps, y ∉ X.N
  at_ : LamAt X L P dvs H s.heap f
  hm : (P, lamN X) ∈ G.T
  lb : LamB L ps n dvs
  hps : n + dvs.length = ps.length
  rel : MkRel σ vs ms
  dd : ∀ (ad : List Addr) (h : Hp), IsL X.K ad h dvs dds
  body : ∀ (A : Around) (outer : List PySem.Env) (s : Shared) (H : Hp) (E : XK) (f c' : Addr), Room k (A.deeper (LamX.lamEnv X L.scope s.heap.objs.size f c')) → SE G E .i (lamC X ps A outer s H E L f c') L.body fe
section
variable {G : Gm} {X : Cx} {σ : L2.St} {H : Hp} {s : Shared} {L : LamT} {ps : List Str} {P : Addr} {n : Nat} {dvs : List V} {dds : List D} {f : Addr} {vs : List V} {ms : List Bool} {fe : Sem} {k : Nat}
variable {CXg : CXT} {Eg : XK} {Ng : List Str} {qg : Str} {sg : Scope} {g : Addr} {cdg : Value} {i : Nat} {a : Str} {p1 p2 : Pos}
/-- a(), within a try -/
theorem sew_clo (C : CloH G X σ H s L ps P n dvs dds f vs ms fe k) (hn : n = 0) (hr : Room (k + 1) (X.A.deeper (envOfC qg sg s.heap.objs.size g cdg))) (hN : Ng[i]? = some a := by rfl) (hv : Vis sg a := by first | exact .inl rfl | exact .inr (.inl rfl)) (hd : (a == ("__debug__" : Str)) = false := by decide) (hcd : (a == ("__classdict__" : Str)) = false := by decide) :
    SEW G (cxOf CXg X.prog X.w X.K X.mg X.base Ng qg sg g cdg X.A X.stack s H Eg) (.Call (.Name a p1) [] [] p2) (cloS f vs ms dds fe i al0) := by
  obtain ⟨pins, I⟩ := C.inv
  subst hn
  refine ⟨fun E σZ HZ Q => σZ[i]? = some (some (.ref f)) ∧ LamX.Tabs G.T HZ ∧ canE X.K G E .i fe (σ ++ dvs.map some) HZ Q, fun W pn xe tk => ?_, fun E ρ σZ S W HZ Q r post => ?_⟩
  · refine ⟨fun pinsZ sZ σZ HZ Q IZ h => ?_⟩
    obtain ⟨h1, h2, h3⟩ := h
    refine wpAny_Call_Name_kw (thn ((pe_var (pos := p1) (i := i) hN hv hd hcd).run pinsZ sZ σZ HZ (fun v H1 => v = .ref f ∧ H1 = HZ) IZ ⟨.ref f, h1, rfl, rfl⟩) fun u s1 ⟨v, H1, I1, r1, q1⟩ => ?_)
    obtain ⟨ev, eH⟩ := q1
    subst ev
    rw [eH] at I1
    obtain rfl : u = Value.ref f := r1
    obtain ⟨c', dV, doc, pm, ctv, ws, qs, hf, _⟩ := C.at_.ex
    refine PySem.W.callWith_F0 ⟨_, _, _, _, I1.base.keep f _ hf C.at_.nf C.at_.fr (fun z => nomatch (show f ∈ ([] : List Addr) from z))⟩ ?_
    exact lam_run (us := []) (vs := []) (tb := fun E => canE X.K G E .i fe) I C.lq C.hp C.dis C.at_ C.hm C.lb hr tk (fun A outer s H E f c' hr2 => (C.body A outer s H E f c' hr2).can) I1 .nil rfl C.hps h2 h3
  · unfold cloS at post
    split at post
    · rename_i f' vs' ms' ds q
      split at post
      · rename_i hh
        obtain ⟨rfl, rfl, rfl⟩ := hh
        obtain ⟨v, g1, g2⟩ := r.dat q
        cases g2 with
        | clo is => exact ⟨g1, r.wok.tab, _, S, W, rep_clo r.wok is C.rel (C.dd _ _), post⟩
      · exact post.elim
    · exact post.elim
/-- a(e), where nothing is to be caught -/
theorem e_clo1 {e : Expr} {fa : Sem} (C : CloH G X σ H s L ps P n dvs dds f vs ms fe k) (hn : n = 1) (hr : Room (k + 1) (X.A.deeper (envOfC qg sg s.heap.objs.size g cdg))) (ha : SE G EN .i (cxOf CXg X.prog X.w X.K X.mg X.base Ng qg sg g cdg X.A X.stack s H Eg) e fa)
    (hN : Ng[i]? = some a := by rfl) (hv : Vis sg a := by first | exact .inl rfl | exact .inr (.inl rfl)) (hd : (a == ("__debug__" : Str)) = false := by decide) (hcd : (a == ("__classdict__" : Str)) = false := by decide)
    (he : starEach [e] (cxOf CXg X.prog X.w X.K X.mg X.base Ng qg sg g cdg X.A X.stack s H Eg).env = (false, eval e (cxOf CXg X.prog X.w X.K X.mg X.base Ng qg sg g cdg X.A X.stack s H Eg).env) :: starEach [] (cxOf CXg X.prog X.w X.K X.mg X.base Ng qg sg g cdg X.A X.stack s H Eg).env := by rfl) :
    SE G EN .i (cxOf CXg X.prog X.w X.K X.mg X.base Ng qg sg g cdg X.A X.stack s H Eg) (.Call (.Name a p1) [e] [] p2) (cloS f vs ms dds fe i (alc fa al0)) := by
  obtain ⟨pins, I⟩ := C.inv
  subst hn
  obtain ⟨ta, pa, sa⟩ := ha
  refine ⟨fun σZ HZ Q => σZ[i]? = some (some (.ref f)) ∧ tCons ta tNil σZ HZ fun ws H1 => ∃ v, ws = [v] ∧ LamX.Tabs G.T H1 ∧ canE X.K G EN .i fe (σ ++ (v :: dvs).map some) H1 Q, ⟨fun pinsZ sZ σZ HZ Q IZ h => ?_⟩, fun ρ σZ S W HZ Q r post => ?_⟩
  · obtain ⟨h1, h2⟩ := h
    refine wpAny_Call_Name_kw (thn ((pe_var (pos := p1) (i := i) hN hv hd hcd).run pinsZ sZ σZ HZ (fun v H1 => v = .ref f ∧ H1 = HZ) IZ ⟨.ref f, h1, rfl, rfl⟩) fun u s1 ⟨v, H1, I1, r1, q1⟩ => ?_)
    obtain ⟨ev, eH⟩ := q1
    subst ev
    rw [eH] at I1
    obtain rfl : u = Value.ref f := r1
    obtain ⟨c', dV, doc, pm, ctv, ws, qs, hf, _⟩ := C.at_.ex
    have fn : ∀ {s2 : Shared} {H2 : Hp}, Inv (cxOf CXg X.prog X.w X.K X.mg X.base Ng qg sg g cdg X.A X.stack s H Eg) pinsZ σZ H2 s2 → PySem.W.FnAt f s2.heap := fun {s2 H2} I2 => ⟨_, _, _, _, I2.base.keep f _ hf C.at_.nf C.at_.fr (fun z => nomatch (show f ∈ ([] : List Addr) from z))⟩
    refine PySem.W.callWith_F (first := []) (fn I1) (thn ((pa_cons pa pa_nil he).run p2 pinsZ s1 σZ HZ _ I1 h2) fun us s2 ⟨vs2, H2, I2, rv, v, ev, q1, q2⟩ => ⟨fn I2, ?_⟩) he (by rfl)
    · subst ev
      exact lam_run (CXg := CXg) (Eg := Eg) (tb := fun E => canE X.K G E .i fe) (W := fun _ _ _ _ => False) (T := G.T) I C.lq C.hp C.dis C.at_ C.hm C.lb hr LamX.takes0 (fun A outer s H E f c' hr2 => (C.body A outer s H E f c' hr2).can) I2 rv rfl C.hps q1 q2
  · unfold cloS at post
    split at post
    · rename_i f' vs' ms' ds q
      split at post
      · rename_i hh
        obtain ⟨rfl, rfl, rfl⟩ := hh
        obtain ⟨v, g1, g2⟩ := r.dat q
        cases g2 with
        | clo is =>
          refine ⟨g1, ?_⟩
          have post : Pg X.K G EN W HZ (okE X.K G .i W HZ Q) ((fa ρ S).bind fun d S1 => fe (cloEnv ms' ds ++ ([d] ++ dds).map .dat) S1) := by
            unfold alc al0 at post
            cases q2 : fa ρ S with
            | no => rw [q2] at post; exact post
            | er x S1 => rw [q2] at post; exact post
            | ok d S1 => rw [q2] at post; exact post
          refine sa.go r (Step.refl W HZ) post fun d S1 v1 W1 H1 st1 s01 r1 is1 post => ?_
          refine ⟨v1, rfl, r1.wok.tab, _, S1, W1, rep_clo (ws := v1 :: dvs) (es := d :: dds) r1.wok (IsL.step st1 is) C.rel (.cons is1 (C.dd _ _)), pg_okE_step s01 post⟩
      · exact post.elim
    · exact post.elim
end
/-! ### x(.., lambda: ..) -/
def lamS (F : (List D → Mem → Res D) → List D → Mem → Res D) (fe : Sem) (dds : List D) (m : Nat) (fs : SemL) : Sem := fun ρ S => (fs ρ S).bind fun ds S1 => if ds.length = m then noer (F (fun as S => fe (seeO ρ ++ (as ++ dds).map .dat) S) ds S1) else .no
section
variable {G : Gm} {E : XK} {X : Cx} {fe : Sem} {L : LamT} {ps : List Str} {c P : Addr} {n : Nat} {dvs : List V} {dds : List D}
variable {x : Str} {Ng psg : List Str} {sg : Scope} {bg : List Stmt} {m kg k : Nat} {F : (List D → Mem → Res D) → List D → Mem → Res D} {gg : Addr → List V → List Bool → SemS}
/-- what is asked of a lambda's text where it is made -/
structure LamOk (G : Gm) (X : Cx) (L : LamT) (ps : List Str) (c P : Addr) (n : Nat) (dvs : List V) (dds : List D) (fe : Sem) (k : Nat) : Prop where
  tb : LamX.TabB X.base X.mg c P
  code : X.env.code = .ref c
  hm : (P, lamN X) ∈ G.T
  hu : ∀ p ∈ G.T, p.1 = P → p.2 = lamN X
  lq : LamQ X.env.scope L.scope ps
  hp : ps.length ≤ 1
  dis : ∀ y ∈ ps, y ∉ X.N
  df : LamD L dvs
  lb : LamB L ps n dvs
  hps : n + dvs.length = ps.length
  dd : ∀ (ad : List Addr) (h : Hp), IsL X.K ad h dvs dds
  body : ∀ (A : Around) (outer : List PySem.Env) (s : Shared) (H : Hp) (E : XK) (f c' : Addr), Room k (A.deeper (LamX.lamEnv X L.scope s.heap.objs.size f c')) → SE G E .i (lamC X ps A outer s H E L f c') L.body fe
theorem lam_arg {pins : List (Addr × Obj)} {σ : L2.St} {s : Shared} {H H0 : Hp} {W W0 : Wd} {S : Mem} {ρ : Env} {Q : VK} {vs : List V} {us : List Value} {ds : List D} {g : Addr} {pg : Arguments} {dV kV doc pm cdv ct oc : Value} {an od : Option Addr} {osl : Array (Option Value)}
    (O : LamOk G X L ps c P n dvs dds fe k) (lk : X.K.lookup g = some ⟨oc, od, .func (PySem.W.fnOf x x pg bg sg dV kV doc pm an cdv ct), osl⟩) (hcg : PySem.W.codeIn X.K cdv x = true) (hb : L2.Binds X.K (PySem.W.fnOf x x pg bg sg dV kV doc pm an cdv ct) psg []) (Sg : FnScope Ng psg sg) (hpm : psg.length = m + 1) (hr : Room (kg + 1) X.A)
    (hG : ∀ (cdv : Value) (σ : L2.St) (s : Shared) (H : Hp) (f : Addr) (vs : List V) (ms : List Bool), CloH G X σ H s L ps P n dvs dds f vs ms fe k → Room kg (X.A.deeper (envOfC x sg s.heap.objs.size g cdv)) → SSs G EN .i (cxOf (L2.CX X.prog X.w) X.prog X.w X.K X.mg X.base Ng x sg g cdv X.A X.stack s H EN) bg (gg f vs ms))
    (hF : ∀ (f : Addr) (vs : List V) (ms : List Bool) (cds ds : List D) (S : Mem), ds.length = m → (∃ d S1, F (fun as S => fe (cloEnv ms cds ++ (as ++ dds).map .dat) S) ds S = .ok d S1) → bodyI Ng.length (gg f vs ms) (ds ++ [.clo f vs ms cds]) S = F (fun as S => fe (cloEnv ms cds ++ (as ++ dds).map .dat) S) ds S)
    (I : Inv X pins σ H s) (rep : Rep X.K G ρ σ S W H) (st : Step W0 H0 W H) (rv : Vals vs us) (is : IstL X.K W vs ds) (hl : ds.length = m) (post : Pg X.K G E W0 H0 (okE X.K G .i W0 H0 Q) (noer (F (fun as S => fe (seeO ρ ++ (as ++ dds).map .dat) S) ds S))) :
    wpAny (model X.prog X.w) X.A (eval (.Lambda L.params L.body L.scope L.pos) X.env) (fun u s2 => X.K.In s2.heap ∧ wpAny (model X.prog X.w) X.A (call (.ref g) (us ++ [u])) (EP X pins σ Q) X.xe s2) X.xe s := by
  refine lam_made I O.tb O.code O.hm O.hu rep.wok.tab (O.lq.has I.ok) O.df fun f H1 s1 I1 ext keep tabs at_ => ⟨I1.kIn, ?_⟩
  have ok1 := wok_ext rep.wok ext tabs
  have st1 := step_ext (W := W) ext keep
  have rep1 := rep.step st1 ok1
  obtain ⟨rel, isx⟩ := mk_of rep1.len rep1.at_
  have C : CloH G X σ H1 s1 L ps P n dvs dds f (vsOf ρ σ) (msOf ρ) fe k := ⟨⟨pins, I1⟩, O.lq, O.hp, O.dis, at_, O.hm, O.lb, O.hps, rel, O.dd, O.body⟩
  have is1 : IstL X.K W (vs ++ [.ref f]) (ds ++ [.clo f (vsOf ρ σ) (msOf ρ) (dsOf ρ)]) := IsL.append is (.cons (.clo isx) .nil)
  have hlv : (vs ++ [V.ref f]).length = psg.length := by rw [List.length_append, is.length, hl, hpm]; rfl
  have r1 : Vals (vs ++ [V.ref f]) (us ++ [Value.ref f]) := rv.append (.cons rfl .nil)
  have hln : psg.length ≤ Ng.length := by
    have := congrArg List.length Sg.pre
    rw [List.length_take] at this
    omega
  have rc : codeAny (model X.prog X.w) X.A (.call (.ref g) ⟨us ++ [.ref f], []⟩) (CR (L2.CX X.prog X.w) X.stack X.prog X.w H1 s1 Q EN) s1 := by
    have hbs := hb s1 (us ++ [.ref f]) I1.kIn (by rw [List.append_nil, ← r1.length, hlv])
    rw [List.append_nil] at hbs
    refine LamX.run_ofS (N := Ng) (ps := psg) (us := us ++ [.ref f]) (vs := vs ++ [.ref f]) lk hcg Sg hr I1.env0 hbs r1 hlv fun hr2 => ?_
    obtain ⟨t, pt, snd⟩ := hG cdv σ s1 H1 f (vsOf ρ σ) (msOf ρ) C hr2
    refine ⟨t, pt, ?_⟩
    have r0 := rep_start (N := Ng) ok1 is1 (by rw [hlv]; exact hln)
    refine snd W W H1 _ _ S W H1 _ ⟨r0, Step.refl W H1, fun i es l e => ?_, WGe.refl W⟩ ?_
    · exact absurd e (by
        intro e
        have := List.mem_of_getElem? e
        unfold st0 at this
        rcases List.mem_append.mp this with h | h
        · obtain ⟨d, _, h⟩ := List.mem_map.mp h
          cases h
        · have := List.eq_of_mem_replicate h
          cases this)
    · have hok : ∃ d S1, F (fun as S => fe (seeO ρ ++ (as ++ dds).map .dat) S) ds S = .ok d S1 := by
        cases e : F (fun as S => fe (seeO ρ ++ (as ++ dds).map .dat) S) ds S with
        | ok d S1 => exact ⟨d, S1, rfl⟩
        | no => rw [e] at post; exact post.elim
        | er => rw [e] at post; exact post.elim
      have hf := hF f (vsOf ρ σ) (msOf ρ) (dsOf ρ) ds S hl hok
      rw [show (fun as S => fe (seeO ρ ++ (as ++ dds).map Sl.dat) S) = fun as S => fe (cloEnv (msOf ρ) (dsOf ρ) ++ (as ++ dds).map Sl.dat) S from rfl, ← hf] at post
      unfold bodyI at post
      cases e : gg f (vsOf ρ σ) (msOf ρ) (st0 Ng.length (ds ++ [.clo f (vsOf ρ σ) (msOf ρ) (dsOf ρ)])) S with
      | rt d S' => rw [e] at post; exact fun v W' H' s' ok' rr => post v W' H' (st.trans (st1.trans s')) ok' rr
      | nx ρ' S' => rw [e] at post; exact fun σ' W' H' r' => post .non W' H' (st.trans (st1.trans r'.st)) r'.rep.wok .non
      | er y S' => rw [e] at post; exact post.elim
      | bk ρ' S' => rw [e] at post; exact post.elim
      | ct ρ' S' => rw [e] at post; exact post.elim
      | no => rw [e] at post; exact post.elim
  refine wpAny_call (codeAny_mono rc fun r s2 hq => ?_)
  cases r with
  | error e =>
    obtain ⟨_, _, _, _, _, _, _, _, _, _, _, _, z⟩ := (show L2.CX X.prog X.w X.stack H1 s1 EN e s2 from hq)
    exact z.elim
  | ok fl =>
    cases fl with
    | ret u => exact I1.after hq
    | next => exact (show False from hq).elim
    | brk => exact (show False from hq).elim
    | cont => exact (show False from hq).elim
end
end Dl
/-! DlU: the calls x(lambda: ..), x(a, b, lambda y: ..); the told. -/
namespace Dl
open PySem PySem.Spec PyProof.Rows L2
section
variable {G : Gm} {E : XK} {X : Cx} {fe : Sem} {L : LamT} {ps : List Str} {c P : Addr} {n : Nat} {dvs : List V} {dds : List D}
variable {x : Str} {Ng psg : List Str} {sg : Scope} {bg : List Stmt} {m kg k : Nat} {F : (List D → Mem → Res D) → List D → Mem → Res D} {gg : Addr → List V → List Bool → SemS}
/-- the def that gets a lambda: its text in K -/
structure GotT (X : Cx) (x : Str) (psg : List Str) (sg : Scope) (bg : List Stmt) (g : Addr) : Prop where
  mg : X.mg x = some (.ref g)
  kp : PySem.W.keepIn X.K (.ref g) = true
  ex : ∃ (pg : Arguments) (dV kV doc pm cdv ct oc : Value) (an od : Option Addr) (osl : Array (Option Value)), X.K.lookup g = some ⟨oc, od, .func (PySem.W.fnOf x x pg bg sg dV kV doc pm an cdv ct), osl⟩ ∧
    PySem.W.codeIn X.K cdv x = true ∧ L2.Binds X.K (PySem.W.fnOf x x pg bg sg dV kV doc pm an cdv ct) psg []
theorem got_of {K : PySem.W.Frag} {mgr : Str → Option Value} {pg : Arguments} {g : Addr} {fd : FuncData} (hX : X.K = K ∧ X.mg = mgr) (hm : mgr x = some (.ref g)) (Fd : FunD K x x pg bg sg [] [] g fd) (hb : Binds K fd psg []) : GotT X x psg sg bg g := by
  obtain ⟨rfl, rfl⟩ := hX
  obtain ⟨oc, od, dV, kV, doc, pm, an, cdv, ct, osl, rfl, lk, hc, _, _⟩ := Fd.ex
  exact ⟨hm, Fd.kp, pg, dV, kV, doc, pm, cdv, ct, oc, an, od, osl, lk, hc, hb⟩
/-- what the def that gets a lambda is shown to make -/
structure GotF (G : Gm) (X : Cx) (x : Str) (Ng : List Str) (sg : Scope) (bg : List Stmt) (m kg : Nat) (L : LamT) (ps : List Str) (P : Addr) (n : Nat) (dvs : List V) (dds : List D) (fe : Sem) (k : Nat) (F : (List D → Mem → Res D) → List D → Mem → Res D) (g : Addr) : Prop where
  ex : ∃ gg : Addr → List V → List Bool → SemS, (∀ (cdv : Value) (σ : L2.St) (s : Shared) (H : Hp) (f : Addr) (vs : List V) (ms : List Bool), CloH G X σ H s L ps P n dvs dds f vs ms fe k → Room kg (X.A.deeper (envOfC x sg s.heap.objs.size g cdv)) → SSs G EN .i (cxOf (L2.CX X.prog X.w) X.prog X.w X.K X.mg X.base Ng x sg g cdv X.A X.stack s H EN) bg (gg f vs ms)) ∧
    ∀ (f : Addr) (vs : List V) (ms : List Bool) (cds ds : List D) (S : Mem), ds.length = m → (∃ d S1, F (fun as S => fe (cloEnv ms cds ++ (as ++ dds).map .dat) S) ds S = .ok d S1) → bodyI Ng.length (gg f vs ms) (ds ++ [.clo f vs ms cds]) S = F (fun as S => fe (cloEnv ms cds ++ (as ++ dds).map .dat) S) ds S
theorem e_lam0 {g : Addr} {p pos : Pos} (hg : Gl X x) (T : GotT X x psg sg bg g) (Sg : FnScope Ng psg sg) (hpm : psg.length = 1) (O : LamOk G X L ps c P n dvs dds fe k) (GF : GotF G X x Ng sg bg 0 kg L ps P n dvs dds fe k F g) (hr : Room (kg + 1) X.A) (hdb : (x == ("__debug__" : Str)) = false := by decide) :
    SE G E .i X (.Call (.Name x p) [.Lambda L.params L.body L.scope L.pos] [] pos) (lamS F fe dds 0 al0) := by
  obtain ⟨pg, dV, kV, doc, pm, cdv, ct, oc, an, od, osl, lk, hcg, hb⟩ := T.ex
  obtain ⟨gg, hG, hF⟩ := GF.ex
  refine ⟨canE X.K G E .i (lamS F fe dds 0 al0), ⟨fun pins s σ H Q I h => ?_⟩, fun ρ σ S W H Q r post => ⟨ρ, S, W, r, post⟩⟩
  obtain ⟨ρ, S, W, rep, post⟩ := h
  have post : Pg X.K G E W H (okE X.K G .i W H Q) (noer (F (fun as S => fe (seeO ρ ++ (as ++ dds).map .dat) S) [] S)) := post
  refine wpAny_Call_Name_kw (ld_glob I hg T.mg ?_ hdb)
  refine PySem.W.callWith_K (h₀ := X.base) I.ok.mod.kin T.kp ?_ (by rfl) (by rfl)
  show wpAny _ _ (spliced ((false, eval (.Lambda L.params L.body L.scope L.pos) X.env) :: backTo pos (starEach [] X.env))) _ _ s
  refine Calls.spliced_cons (thn (lam_arg (us := []) (vs := []) O lk hcg hb Sg hpm hr hG hF I rep (Step.refl W H) .nil .nil rfl post) fun u s2 h2 => ?_)
  exact Calls.spliced_nil h2
theorem pg_first {f : Sem} {ok : D → Mem → Prop} {Fc : D → Mem → Res D} {ρ : Env} {S : Mem} {W W0 : Wd} {H H0 : Hp} (st : Step W0 H0 W H) (post : Pg X.K G E W0 H0 ok ((f ρ S).bind Fc)) :
    Pg X.K G E W H (okE X.K G .i W H fun v H1 => ∃ d S1 W1, Pg X.K G E W0 H0 ok (Fc d S1) ∧ Step W H W1 H1 ∧ WOk X.K G W1 S1 H1 ∧ Ist X.K W1 v d) (f ρ S) := by
  cases q : f ρ S with
  | no => rw [q] at post; exact post
  | er x S1 => rw [q] at post; exact ErrP.step st post
  | ok d S1 =>
    rw [q] at post
    exact fun v W1 H1 s1 ok1 rr => ⟨d, S1, W1, post, s1, ok1, rr⟩
theorem e_lam2 {g : Addr} {a b : Expr} {fa fb : Sem} {p pos : Pos} (hg : Gl X x) (T : GotT X x psg sg bg g) (Sg : FnScope Ng psg sg) (hpm : psg.length = 3) (O : LamOk G X L ps c P n dvs dds fe k) (GF : GotF G X x Ng sg bg 2 kg L ps P n dvs dds fe k F g) (hr : Room (kg + 1) X.A) (ha : SE G E .i X a fa) (hb : SE G E .i X b fb) (hdb : (x == ("__debug__" : Str)) = false := by decide)
    (h1 : starEach [a, b, .Lambda L.params L.body L.scope L.pos] X.env = (false, eval a X.env) :: (false, eval b X.env) :: (false, eval (.Lambda L.params L.body L.scope L.pos) X.env) :: starEach [] X.env := by rfl) (h2 : starEach [a, b, .Lambda L.params L.body L.scope L.pos] X.env = (false, eval a X.env) :: starEach [b, .Lambda L.params L.body L.scope L.pos] X.env := by rfl)
    (hpl : (backTo pos (starEach [b, .Lambda L.params L.body L.scope L.pos] X.env)).any (·.1) = false := by rfl) :
    SE G E .i X (.Call (.Name x p) [a, b, .Lambda L.params L.body L.scope L.pos] [] pos) (lamS F fe dds 2 (alc fa (alc fb al0))) := by
  obtain ⟨pg, dV, kV, doc, pm, cdv, ct, oc, an, od, osl, lk, hcg, hbn⟩ := T.ex
  obtain ⟨gg, hG, hF⟩ := GF.ex
  refine ⟨canE X.K G E .i (lamS F fe dds 2 (alc fa (alc fb al0))), ⟨fun pins s σ H Q I h => ?_⟩, fun ρ σ S W H Q r post => ⟨ρ, S, W, r, post⟩⟩
  obtain ⟨ρ, S, W, rep, post⟩ := h
  have post : Pg X.K G E W H (okE X.K G .i W H Q) ((fa ρ S).bind fun d S1 => (fb ρ S1).bind fun d' S2 => noer (F (fun as S => fe (seeO ρ ++ (as ++ dds).map .dat) S) [d, d'] S2)) := by
    unfold lamS alc al0 at post
    cases q : fa ρ S with
    | no => rw [q] at post; exact post
    | er x S1 => rw [q] at post; exact post
    | ok d S1 =>
      rw [q] at post
      dsimp only [Res.bind] at post ⊢
      cases q2 : fb ρ S1 with
      | no => rw [q2] at post; exact post
      | er x S1 => rw [q2] at post; exact post
      | ok d' S2 => rw [q2] at post; exact post
  refine wpAny_Call_Name_kw (ld_glob I hg T.mg ?_ hdb)
  refine PySem.W.callWith_K (h₀ := X.base) I.ok.mod.kin T.kp ?_ h2 hpl
  rw [h1]
  show wpAny _ _ (spliced ((false, eval a X.env) :: (false, eval b X.env) :: (false, eval (.Lambda L.params L.body L.scope L.pos) X.env) :: backTo pos (starEach [] X.env))) _ _ s
  refine Calls.spliced_cons (thn (ha.can.run pins s σ H _ I ⟨ρ, S, W, rep, pg_first (Step.refl W H) post⟩) fun u1 s1 ⟨v1, H1, I1, rv1, d1, S1, W1, post1, st1, ok1, is1⟩ => ?_)
  refine Calls.spliced_cons (thn (hb.can.run pins s1 σ H1 _ I1 ⟨ρ, S1, W1, rep.step st1 ok1, pg_first st1 post1⟩) fun u2 s2 ⟨v2, H2, I2, rv2, d2, S2, W2, post2, st2, ok2, is2⟩ => ?_)
  refine Calls.spliced_cons (thn (lam_arg (us := [u1, u2]) (vs := [v1, v2]) O lk hcg hbn Sg hpm hr hG hF I2 (rep.step (st1.trans st2) ok2) (st1.trans st2) (.cons rv1 (.cons rv2 .nil)) (.cons (Is.step st2 is1) (.cons is2 .nil)) rfl post2) fun u s2 h2 => ?_)
  exact Calls.spliced_nil h2
end
end Dl
/-! DlZ: defs by the head's facts, the law's end. -/
namespace Dl
open PySem L2
section
variable {P : Program} {w : World} {K : PySem.W.Frag} {mg : Str → Option Value} {base : Heap} {G : Gm}
variable {x qual : Str} {params : Arguments} {body : List Stmt} {scope : Scope} {dvs : List V} {kws : List (Str × V)} {f : Addr} {fd : FuncData}
theorem fn_dI {N ps : List Str} {kk : Nat} {g : SemS} (F : FunD K x qual params body scope dvs kws f fd) (S : FnScope N ps scope)
    (hb : ∀ (cdv : Value) (A : Around) (outer : List PySem.Env) (s : Shared) (H : Hp) (E : XK), Room kk (A.deeper (PyProof.Rows.envOfC qual scope s.heap.objs.size f cdv)) → SSs G E .i (cxOf (L2.CX P w) P w K mg base N qual scope f cdv A outer s H E) body g) :
    FnOk P w K mg base (L2.CX P w) (kk + 1) f fd ps (spF K G ps.length .i (bodyI N.length g)) := by
  refine F.ok (CX := L2.CX P w) S (fun vs H Q E h => h.1) (fun cdv A outer s H vs Q E hr h => ?_)
  obtain ⟨t, p, snd⟩ := hb cdv A outer s H E hr
  refine ⟨t, p, ?_⟩
  obtain ⟨hn, M, W, ds, h1, h2, h3⟩ := h
  have hl : vs.length ≤ N.length := by
    rw [hn]
    have := congrArg List.length S.pre
    rw [List.length_take] at this
    omega
  have r0 := rep_start (N := N) h1 h2 hl
  refine snd W W H _ _ M W H _ ⟨r0, Step.refl W H, fun i es l e => ?_, WGe.refl W⟩ ?_
  · exact absurd e (by
      intro e
      have := List.mem_of_getElem? e
      unfold st0 at this
      rcases List.mem_append.mp this with h | h
      · obtain ⟨d, _, h⟩ := List.mem_map.mp h
        cases h
      · have := List.eq_of_mem_replicate h
        cases this)
  · unfold bodyI at h3
    cases e : g (st0 N.length ds) M with
    | rt d S' => rw [e] at h3; exact h3
    | er x S' => rw [e] at h3; exact h3
    | nx ρ S' => rw [e] at h3; exact fun σ W' H' r => h3 .non W' H' r.st r.rep.wok .non
    | bk ρ S' => rw [e] at h3; exact h3.elim
    | ct ρ S' => rw [e] at h3; exact h3.elim
    | no => rw [e] at h3; exact h3.elim
theorem fn_dF {N ps : List Str} {kk : Nat} {g : SemS} {k : Rk} (F : FunD K x qual params body scope dvs kws f fd) (S : FnScope N ps scope)
    (hb : ∀ (cdv : Value) (A : Around) (outer : List PySem.Env) (s : Shared) (H : Hp) (E : XK), Room kk (A.deeper (PyProof.Rows.envOfC qual scope s.heap.objs.size f cdv)) → SSs G E k (cxOf (L2.CX P w) P w K mg base N qual scope f cdv A outer s H E) body g) :
    FnOk P w K mg base (L2.CX P w) (kk + 1) f fd ps (spF K G ps.length k (bodyF N.length g)) := by
  refine F.ok (CX := L2.CX P w) S (fun vs H Q E h => h.1) (fun cdv A outer s H vs Q E hr h => ?_)
  obtain ⟨t, p, snd⟩ := (hb cdv A outer s H E hr).end
  refine ⟨t, p, ?_⟩
  obtain ⟨hn, M, W, ds, h1, h2, h3⟩ := h
  have hl : vs.length ≤ N.length := by
    rw [hn]
    have := congrArg List.length S.pre
    rw [List.length_take] at this
    omega
  have r0 := rep_start (N := N) h1 h2 hl
  refine snd W W H _ _ M W H _ ⟨r0, Step.refl W H, fun i es l e => ?_, WGe.refl W⟩ ?_
  · exact absurd e (by
      intro e
      have := List.mem_of_getElem? e
      unfold st0 at this
      rcases List.mem_append.mp this with h | h
      · obtain ⟨d, _, h⟩ := List.mem_map.mp h
        cases h
      · have := List.eq_of_mem_replicate h
        cases this)
  · unfold bodyF at h3
    unfold sq
    cases e : g (st0 N.length ds) M with
    | rt d S' => rw [e] at h3; exact h3
    | er x S' => rw [e] at h3; exact h3
    | nx ρ S' => rw [e] at h3; exact h3.elim
    | bk ρ S' => rw [e] at h3; exact h3.elim
    | ct ρ S' => rw [e] at h3; exact h3.elim
    | no => rw [e] at h3; exact h3.elim
end
theorem blk_of {N ps : List Str} {sc scope : Scope} {own : List (Str × Nat)} (_ : FnScope N ps sc) (h : blkC N sc scope own = true) : BlkOk N sc scope own := blkOk_by h
open Classical in
/-- a row's end: what the law's def computes of every script -/
theorem law_says {l : PySem.W.OpenLaw} {w : World} {K : PySem.W.Frag} {k : Nat} {x : Str} {mg : Str → Option Value} {fa : Addr} {h : Heap} {fd : FuncData} {cs : List (Addr × Addr)} {T : List (Addr × Str)} {cl : Nat → Addr} {F : Fn}
    (hT : ∀ p ∈ cs, h.get? p.2 = some { cls := .none, data := .fields #[] }) (hK : ∀ p ∈ cs, K.lookup p.2 = none) (hC : ∀ p ∈ cs, PySem.W.CodeHd h p.1 p.2) (hTc : ∀ p ∈ T, ∃ c, (c, p.1) ∈ cs)
    (hb : ∀ (s : Shared) (u : Value), BindsTo s fd ⟨[u], []⟩ [(x, u)])
    (hF : ∀ base : Heap, K.In base → base.Ns PySem.mainGlobals mg → (∀ p ∈ cs, LamX.TabB base mg p.1 p.2) → FnOk l.prog w K mg base (L2.CX l.prog w) k fa fd [x] (spF K ⟨T, cl⟩ 1 .i F))
    (hM : ∀ ns : List Int, ns.length ≤ 63 → (∀ z ∈ ns, Builtin.Int.intBits z ≤ 1048576) → ∃ S', F [.frz (ns.map .int)] [] = .ok (.bl true) S') : LamX.LawAtS l w K (L2.CX l.prog w) k 63 x mg fa h := by
  refine ⟨fd, cs, _, hT, hK, hC, hb, fun H a ns hn hz ht hq => ?_, hF⟩
  refine ⟨rfl, [], ⟨fun b => if b = a ∧ (∀ ps, H b ≠ some (.tbl ps)) then H b else none, []⟩, [.frz (ns.map .int)], ⟨fun b o e => ?_, fun b ps e => ?_, fun b hb => by simp at hb, by simp, rfl, fun i b o e => by simp at e, fun p hp => ?_⟩, .cons (.frz (xs := ns.map V.int) ?_ ?_) .nil, ?_⟩
  · dsimp only at e
    split at e
    · exact e
    · cases e
  · dsimp only at e
    split at e
    · rename_i q
      exact q.2 ps e
    · cases e
  · obtain ⟨c, hc⟩ := hTc p hp
    exact LamX.TabS.nil (ht _ hc)
  · rcases hq with (hq | ⟨o, hq⟩) | hq
    · exact .inl (.inl (by
        show (if a = a ∧ _ then H a else none) = _
        rw [if_pos ⟨rfl, fun ps z => by rw [hq] at z; cases z⟩]
        exact hq))
    · exact .inl (.inr ⟨o, by
        show (if a = a ∧ _ then H a else none) = _
        rw [if_pos ⟨rfl, fun ps z => by rw [hq] at z; cases z⟩]
        exact hq⟩)
    · exact .inr hq
  · have : ∀ l : List Int, IsL K [] (fun b => if b = a ∧ (∀ ps, H b ≠ some (.tbl ps)) then H b else none) (l.map V.int) (l.map D.int) := by
      intro l
      induction l with
      | nil => exact .nil
      | cons i l ih => exact .cons (.int i) ih
    exact this ns
  · obtain ⟨S', e⟩ := hM ns hn hz
    rw [e]
    intro v W' H' st ok rr
    exact Is.blv rr
end Dl
/-! DlV: the refusals' classes in K; the told; a def that makes lambdas. -/
namespace Dl
open PySem PySem.Spec PyProof.Rows L2
/-- the refusals, in the laws' order; the last one is above all -/
def exN : List Str := ["BadWork", "BadNumber", "BadCard", "BadCount", "TooMany", "Longer", "BadDeed", "BadText", "HalfError"]
/-- .. and the classes of instances -/
def exA : List Str := ["BadWork", "BadNumber", "BadCard", "BadCount", "TooMany", "Longer", "BadDeed", "BadText", "HalfError", "Maker", "Bench"]
def exCl (K : PySem.W.Frag) (n : Nat) : Addr := He.ga K (exA.getD n "")
def exF : List (Nat × Str) := [(0, "place"), (2, "part"), (6, "at"), (7, "row")]
structure ToldT (K : PySem.W.Frag) (mg : Str → Option Value) (cl : Nat → Addr) : Prop where
  nm : ∀ (i : Nat) (x : Str), exN[i]? = some x → mg x = some (.ref (cl i))
  cx : ∀ i : Nat, i < 8 → CxP K (cl i)
  ki : ∀ i j : Nat, i < 8 → j < 8 → PySem.W.kitOne K (.ref (cl i)) (.ref (cl j)) = some (decide (i = j))
  kv : ∀ i : Nat, i < 8 → PySem.W.kitOne K (.ref (cl i)) (.type "ValueError") = some true
  em : ∀ i : Nat, i < 8 → PySem.W.exmOne K (.ref (cl i)) (.ref (cl 8)) = some true
  no : ∀ p ∈ exF, PySem.W.findIn K (.ref (cl p.1)) p.2 = some none
def toldB (K : PySem.W.Frag) : Bool := ((List.range 8).all fun i => cxB K (exCl K i) && ((List.range 8).all (fun j => decide (PySem.W.kitOne K (.ref (exCl K i)) (.ref (exCl K j)) = some (decide (i = j)))) &&
  (decide (PySem.W.kitOne K (.ref (exCl K i)) (.type "ValueError") = some true) && decide (PySem.W.exmOne K (.ref (exCl K i)) (.ref (exCl K 8)) = some true)))) && exF.all fun p => decide (PySem.W.findIn K (.ref (exCl K p.1)) p.2 = some none)
theorem toldT_of {K : PySem.W.Frag} {mg : Str → Option Value} (h : toldB K = true) (hn : ∀ (i : Nat) (x : Str), exN[i]? = some x → mg x = some (.ref (exCl K i))) : ToldT K mg (exCl K) := by
  obtain ⟨h1, h2⟩ := Bool.and_eq_true_iff.mp h
  have row : ∀ i : Nat, i < 8 → _ := fun i hi => List.all_eq_true.mp h1 i (List.mem_range.mpr hi)
  refine ⟨hn, fun i hi => ?_, fun i j hi hj => ?_, fun i hi => ?_, fun i hi => ?_, fun p hp => of_decide_eq_true (List.all_eq_true.mp h2 p hp)⟩
  · exact cxB_ok (Bool.and_eq_true_iff.mp (row i hi)).1
  · exact of_decide_eq_true (List.all_eq_true.mp (Bool.and_eq_true_iff.mp (Bool.and_eq_true_iff.mp (row i hi)).2).1 j (List.mem_range.mpr hj))
  · exact of_decide_eq_true (Bool.and_eq_true_iff.mp (Bool.and_eq_true_iff.mp (Bool.and_eq_true_iff.mp (row i hi)).2).2).1
  · exact of_decide_eq_true (Bool.and_eq_true_iff.mp (Bool.and_eq_true_iff.mp (Bool.and_eq_true_iff.mp (row i hi)).2).2).2
/-- what is told of a refusal -/
def toldV : Err → Option D
  | ⟨0, some (f, d)⟩ => if f = "place" then some (.tup [.str "refused", .str "BadWork", d]) else none
  | ⟨1, none⟩ => some (.tup [.str "refused", .str "BadNumber"])
  | ⟨2, some (f, d)⟩ => if f = "part" then some (.tup [.str "refused", .str "BadCard", d]) else none
  | ⟨3, none⟩ => some (.tup [.str "refused", .str "BadCount"])
  | ⟨4, none⟩ => some (.tup [.str "refused", .str "TooMany"])
  | ⟨5, none⟩ => some (.tup [.str "refused", .str "Longer"])
  | ⟨6, some (f, d)⟩ => if f = "at" then some (.tup [.str "refused", .str "BadDeed", d]) else none
  | ⟨7, some (f, d)⟩ => if f = "row" then some (.tup [.str "refused", .str "BadText", d]) else none
  | _ => none
theorem toldV_lt {z : Err} (h : (toldV z).isSome = true) : z.c < 8 := by
  unfold toldV at h
  split at h <;> first | (cases h; done) | (dsimp only; omega)
def toldF (c : List D → Mem → Res D) (_ : List D) (S : Mem) : Res D := match c [] S with
  | .ok d S1 => .ok d S1
  | .er x S1 => (match toldV x with
    | some d => .ok d S1
    | none => .no)
  | .no => .no
/-- the seek by halves, over a made lambda -/
def bisM (c : List D → Mem → Res D) (least : Int) : Nat → Int → Int → Mem → Res D
  | 0, _, hi, S => .ok (.int hi) S
  | k + 1, lo, hi, S => match c [.int ((lo + hi) / 2)] S with
    | .ok (.int v) S1 => if least < v then bisM c least k lo ((lo + hi) / 2) S1 else bisM c least k ((lo + hi) / 2) hi S1
    | _ => .no
def foundF (c : List D → Mem → Res D) (ds : List D) (S : Mem) : Res D := match ds with
  | [.int i, .int j] => if 0 ≤ j ∧ j ≤ 4000 then (match c [.int 0] S with
    | .ok (.int l) S1 => (match bisM c l (j + 1).toNat 0 (2 ^ j.toNat) S1 with
      | .ok (.int h) S2 => .ok (.tup [.int i, .int j, .int (2 ^ j.toNat - h), .int l]) S2
      | _ => .no)
    | _ => .no) else .no
  | _ => .no
/-- what the class above all must be like, so that its maker is found on it -/
def halfB (K : PySem.W.Frag) (CH : Addr) : Bool := PySem.W.readsIn K CH (.type "type") && (decide (PySem.W.specialIn K (.ref CH) "__getattribute__" = some (some (.builtin "type.__getattribute__"))) && (match PySem.W.findCls K (.ref CH) (.type "type") "__init__" with
  | some (.val (.builtin n)) => decide (n = "ValueError.__init__")
  | _ => false))
theorem halfB_ok {K : PySem.W.Frag} {CH : Addr} (h : halfB K CH = true) : ClX.CRead K CH (.type "type") ∧ PySem.W.findCls K (.ref CH) (.type "type") "__init__" = some (.val (.builtin "ValueError.__init__")) := by
  obtain ⟨h1, h⟩ := Bool.and_eq_true_iff.mp h
  obtain ⟨h2, h3⟩ := Bool.and_eq_true_iff.mp h
  refine ⟨⟨h1, of_decide_eq_true h2⟩, ?_⟩
  split at h3
  · rename_i n e
    rw [e, of_decide_eq_true h3]
  · cases h3
/-! ### raising -/
structure IniO (P : Program) (w : World) (K : PySem.W.Frag) (mg : Str → Option Value) (base : Heap) (C : Addr) (f : Str) : Prop where
  ex : ∃ (fI : Addr) (fd : FuncData) (ps : List Str), (PySem.W.findIn K (.ref C) "__init__" = some (some (.ref fI)) ∧ PySem.W.typeIn K (.ref fI) = some (.type "function")) ∧ FnOk P w K mg base (L2.CX P w) 1 fI fd ps (spIni K f) ∧ Binds K fd ps []
section
variable {G : Gm} {E : XK} {X : Cx} {e : Expr} {fe : Sem} {k : Rk}
theorem s_rsi2 {c : Nat} {x f : Str} {p pos pos' : Pos} (hc : X.calm = true) (tk : Takes X (fun cls d _ H => E cls d H)) (hg : Gl X x) (hm : X.mg x = some (.ref (G.cl c)) ∧ OxP X.K (G.cl c) f)
    (I : IniO X.prog X.w X.K X.mg X.base (G.cl c) f) (hr : Room 2 X.A) (hx : Passes (L2.CX X.prog X.w) X EN)
    (he : SE G E .i X e fe) (hd : (x == ("__debug__" : Str)) = false := by decide) (hst : starEach [e] X.env = (false, eval e X.env) :: starEach [] X.env := by rfl) (hpl : (backTo pos (starEach [] X.env)).any (·.1) = false := by rfl) :
    SS G E k X (.Raise (some (.Call (.Name x p) [e] [] pos)) none pos') (rsi c f fe) := by
  obtain ⟨fI, fd, ps, hi, F, hb⟩ := I.ex
  exact s_rsi hc tk hg hm hi F hb hr hx he hd hst hpl
end
theorem pass_lam {X : Cx} {P : Program} {w : World} {ps : List Str} {A : Around} {outer : List PySem.Env} {s : Shared} {H : Hp} {E : XK} {L : LamT} {f c' : Addr} (hP : X.prog = P := by rfl) (hw : X.w = w := by rfl) : Passes (L2.CX P w) (lamC X ps A outer s H E L f c') E := by
  subst hP hw
  exact passes_call (takes_of (X := lamC X ps A outer s H E L f c') rfl rfl rfl rfl) fun _ _ _ _ h => h
/-! ### the calls, over a written lambda -/
section
variable {G : Gm} {E : XK} {X : Cx} {fe : Sem} {ps : List Str} {c P : Addr} {n : Nat} {dvs : List V} {dds : List D}
variable {x : Str} {Ng psg : List Str} {sg : Scope} {bg : List Stmt} {m kg k : Nat} {F : (List D → Mem → Res D) → List D → Mem → Res D}
theorem e_told {params : Arguments} {body : Expr} {scope : Scope} {lpos : Pos} {g : Addr} {p pos : Pos} (hg : Gl X x) (T : GotT X x psg sg bg g) (Sg : FnScope Ng psg sg) (hpm : psg.length = 1) (O : LamOk G X ⟨params, body, scope, lpos⟩ ps c P n dvs dds fe k) (GF : GotF G X x Ng sg bg 0 kg ⟨params, body, scope, lpos⟩ ps P n dvs dds fe k F g) (hr : Room (kg + 1) X.A) (hdb : (x == ("__debug__" : Str)) = false := by decide) :
    SE G E .i X (.Call (.Name x p) [.Lambda params body scope lpos] [] pos) (lamS F fe dds 0 al0) := e_lam0 (L := ⟨params, body, scope, lpos⟩) hg T Sg hpm O GF hr hdb
theorem e_found {params : Arguments} {body : Expr} {scope : Scope} {lpos : Pos} {g : Addr} {a b : Expr} {fa fb : Sem} {p pos : Pos} (hg : Gl X x) (T : GotT X x psg sg bg g) (Sg : FnScope Ng psg sg) (hpm : psg.length = 3) (O : LamOk G X ⟨params, body, scope, lpos⟩ ps c P n dvs dds fe k) (GF : GotF G X x Ng sg bg 2 kg ⟨params, body, scope, lpos⟩ ps P n dvs dds fe k F g) (hr : Room (kg + 1) X.A) (ha : SE G E .i X a fa) (hb : SE G E .i X b fb) (hdb : (x == ("__debug__" : Str)) = false := by decide)
    (h1 : starEach [a, b, .Lambda params body scope lpos] X.env = (false, eval a X.env) :: (false, eval b X.env) :: (false, eval (.Lambda params body scope lpos) X.env) :: starEach [] X.env := by rfl) (h2 : starEach [a, b, .Lambda params body scope lpos] X.env = (false, eval a X.env) :: starEach [b, .Lambda params body scope lpos] X.env := by rfl)
    (hpl : (backTo pos (starEach [b, .Lambda params body scope lpos] X.env)).any (·.1) = false := by rfl) :
    SE G E .i X (.Call (.Name x p) [a, b, .Lambda params body scope lpos] [] pos) (lamS F fe dds 2 (alc fa (alc fb al0))) := e_lam2 (L := ⟨params, body, scope, lpos⟩) hg T Sg hpm O GF hr ha hb hdb h1 h2 hpl
end
/-! ### a def that makes lambdas: its code object is known -/
section
variable {P : Program} {w : World} {K : PySem.W.Frag} {mg : Str → Option Value} {base : Heap} {G : Gm}
variable {x qual : Str} {params : Arguments} {body : List Stmt} {scope : Scope} {dvs : List V} {kws : List (Str × V)} {fd : FuncData}
theorem fn_dL {p : He.Defn} {N ps : List Str} {kk : Nat} {g : SemS} (F : FunD K x qual params body scope dvs kws (He.fAd K p) fd) (S : FnScope N ps scope)
    (hb : ∀ (A : Around) (outer : List PySem.Env) (s : Shared) (H : Hp) (E : XK), Room kk (A.deeper (PyProof.Rows.envOfC qual scope s.heap.objs.size (He.fAd K p) (.ref (He.codeOf K p)))) → SSs G E .i (cxOf (L2.CX P w) P w K mg base N qual scope (He.fAd K p) (.ref (He.codeOf K p)) A outer s H E) body g) :
    FnOk P w K mg base (L2.CX P w) (kk + 1) (He.fAd K p) fd ps (spF K G ps.length .i (bodyI N.length g)) := by
  obtain ⟨oc, od, dV, kV, doc, pm, an, cdv, ct, osl, rfl, lk, hcd, _, _⟩ := F.ex
  obtain ⟨c0, rfl⟩ := He.codeIn_ref hcd
  have ec := He.codeOf_eq lk rfl
  refine fn_of lk hcd S (fun vs H Q E h => h.1) (fun A outer s H vs Q E hr h => ?_)
  have hr' := hr
  rw [← ec] at hr' ⊢
  obtain ⟨t, pt, snd⟩ := hb A outer s H E hr'
  refine ⟨t, pt, ?_⟩
  obtain ⟨hn, M, W, ds, h1, h2, h3⟩ := h
  have hl : vs.length ≤ N.length := by
    rw [hn]
    have := congrArg List.length S.pre
    rw [List.length_take] at this
    omega
  have r0 := rep_start (N := N) h1 h2 hl
  refine snd W W H _ _ M W H _ ⟨r0, Step.refl W H, fun i es l e => ?_, WGe.refl W⟩ ?_
  · exact absurd e (by
      intro e
      have := List.mem_of_getElem? e
      unfold st0 at this
      rcases List.mem_append.mp this with h | h
      · obtain ⟨d, _, h⟩ := List.mem_map.mp h
        cases h
      · have := List.eq_of_mem_replicate h
        cases this)
  · unfold bodyI at h3
    cases e : g (st0 N.length ds) M with
    | rt d S' => rw [e] at h3; exact h3
    | er x S' => rw [e] at h3; exact h3
    | nx ρ S' => rw [e] at h3; exact fun σ W' H' r => h3 .non W' H' r.st r.rep.wok .non
    | bk ρ S' => rw [e] at h3; exact h3.elim
    | ct ρ S' => rw [e] at h3; exact h3.elim
    | no => rw [e] at h3; exact h3.elim
end
end Dl
/-! what is told of the module, with the interpreter's own table (reading C.__init__ on a class looks there) -/
namespace Dl
open PySem PySem.Spec
def frS (g : Addr → Option Obj) (n : Nat) : PySem.W.Frag := (He.frG g (He.asD g n ++ [cStatics])).filter fun q => !He.emptyTab q.2 || q.1 == cStatics
theorem frS_in {n : Nat} {h : Heap} : (frS h.get? n).In h := fun _ _ e => He.frG_mem (List.mem_filter.mp (He.lookup_mem e)).1
def tabsS (g : Addr → Option Obj) (tf : List He.Defn) (K : PySem.W.Frag) : Bool := He.tabsB g tf K && tf.all fun p => (K.lookup (He.cT K p).2).isNone
def obsS (n : Nat) (fa : List He.Fa) (fn : List He.DefD) (ts : List He.Tab) (tf : List He.Defn) (ex : PySem.W.Frag → Bool) (g : Addr → Option Obj) : He.AlX := (He.obsT fa fn ts (frS g n), ex (frS g n) && tabsS g tf (frS g n))
theorem saysS_of {n : Nat} {fa : List He.Fa} {fn : List He.DefD} {ts : List He.Tab} {tf : List He.Defn} {ex : PySem.W.Frag → Bool} {w : World} {h : Heap} (e : obsS n fa fn ts tf ex h.get? = He.valX fn ts w) : He.SaysX fa fn ts tf ex w h (frS h.get? n) := by
  have e1 : He.obsT fa fn ts (frS h.get? n) = He.valT fn ts w := congrArg (fun z : He.AlX => z.1) e
  have e2 : (ex (frS h.get? n) && tabsS h.get? tf (frS h.get? n)) = true := congrArg (fun z : He.AlX => z.2) e
  generalize frS h.get? n = K at e1 e2
  obtain ⟨h1, h2⟩ := Bool.and_eq_true_iff.mp e2
  obtain ⟨h3, h4⟩ := Bool.and_eq_true_iff.mp h2
  have key : ∀ p ∈ tf, PySem.W.codeHdIn K (He.cT K p).1 (He.cT K p).2 = true ∧ ∃ o, h.get? (He.cT K p).2 = some o ∧ He.emptyTab o = true := fun p hp => by
    obtain ⟨a, b⟩ := Bool.and_eq_true_iff.mp (List.all_eq_true.mp h3 p hp)
    refine ⟨a, ?_⟩
    cases q : h.get? (He.cT K p).2 with
    | none => rw [q] at b; cases b
    | some o => rw [q] at b; exact ⟨o, rfl, b⟩
  exact ⟨e1, h1, fun p hp => (key p hp).1, fun p hp => Option.isNone_iff_eq_none.mp (List.all_eq_true.mp h4 p hp), fun p hp => by
    obtain ⟨_, o, q, z⟩ := key p hp
    rw [q, He.emptyTab_eq z]⟩
def hookS (n : Nat) (fa : List He.Fa) (fn : List He.DefD) (ts : List He.Tab) (tf : List He.Defn) (ex : PySem.W.Frag → Bool) : PySem.W.Hook where
  α := He.AlX
  obs := fun s => obsS n fa fn ts tf ex s.heap.get?
  val := fun w => He.valX fn ts w
  says := fun w h => ∃ K : PySem.W.Frag, K.In h ∧ He.SaysX fa fn ts tf ex w h K
  of := fun _ _ e => ⟨_, frS_in, saysS_of e⟩
  keeps := fun _ _ _ ⟨K, hK, c⟩ k => ⟨K, PySem.W.Frag.In.keeps hK k, ⟨c.t, c.more, c.hd, c.out, fun p hp => k _ _ (c.empty p hp)⟩⟩
theorem obsS_eq {n : Nat} {fa : List He.Fa} {fn : List He.DefD} {ts : List He.Tab} {tf : List He.Defn} {ex : PySem.W.Frag → Bool} {g : Addr → Option Obj} {s : Shared} (h : ∀ a, g a = s.heap.get? a) : obsS n fa fn ts tf ex g = (hookS n fa fn ts tf ex).obs s := by
  have e : g = s.heap.get? := funext h
  rw [e] <;> rfl
end Dl
/-! x[::-1] of a text; a written dict's head -/
namespace Dl
open PySem PySem.Spec PyProof.Rows L2
def revS (z : Str) : Str := ⟨z.cps.toList.reverse.toArray⟩
def tRevS (te : TE) : TE := fun σ H Q => te σ H fun x H1 => ∃ z, x = .str z ∧ z.length ≤ sizeLine ∧ Q (.str (revS z)) H1
theorem rev_picked (z : Str) : (⟨(((List.range z.length).map fun k => z.length - 1 - k).filterMap (z.cps[·]?)).toArray⟩ : Str) = revS z := by
  unfold revS
  congr 2
  rw [filterMap_get]
  · apply List.ext_getElem
    · simp [Str.length]
    · intro i h1 h2
      have hi : i < z.cps.size := by simpa [Str.length] using h1
      simp only [List.getElem_map, List.getElem_range, List.getElem_reverse, Array.getElem_toList]
      have hj : z.length - 1 - i < z.cps.size := by show z.cps.size - 1 - i < z.cps.size; omega
      simp [Array.getD, hj]
      rfl
  · intro i hi
    obtain ⟨k, hk, rfl⟩ := List.mem_map.mp hi
    have hk' : k < z.length := List.mem_range.mp hk
    show z.length - 1 - k < z.length
    omega
section
variable {X : Cx} {G : Gm} {E : XK}
theorem pe_revS {e : Expr} {te : TE} {k : Nat} {p1 p2 p3 pos : Pos} (he : PE X e te) : PE X (.Subscript e (.Slice none none (some (.UnaryOp .USub (.Constant (.int 1) k p1) p2)) p3) pos) (tRevS te) := by
  refine ⟨fun pins s σ H Q I h => ?_⟩
  refine Subscript_ (thn (he.run pins s σ H _ I h) fun v s1 ⟨x, H1, I1, r1, q1⟩ => ?_)
  obtain ⟨z, ex, hz, q⟩ := q1
  subst ex
  obtain ⟨t, rfl⟩ := r1
  have hst : PO X (some (.UnaryOp .USub (.Constant (.int 1) k p1) p2)) (tPart (tUn (rU fun i => .int (-i)) (tC (.int 1)))) := po_some (pe_un un_neg pe_int)
  refine wpAny_Slice (thn (po_none.run pins s1 σ H1 (fun o H2 => o = none ∧ H2 = H1) I1 ⟨rfl, rfl⟩) fun vl s2 ⟨l, H2, I2, pl, el, e2⟩ => ?_)
  subst el e2
  refine thn (po_none.run pins s2 σ H2 (fun o H3 => o = none ∧ H3 = H2) I2 ⟨rfl, rfl⟩) fun vu s3 ⟨u, H3, I3, pu, eu, e3⟩ => ?_
  subst eu e3
  refine thn (hst.run pins s3 σ H3 (fun o H4 => o = some (-1) ∧ H4 = H3) I3 ⟨1, rfl, -1, rfl, rfl, rfl⟩) fun vs s4 ⟨o, H4, I4, ps, eo, e4⟩ => ?_
  subst eo e4
  have I5 : Inv X pins σ H4 { s4 with heap := s4.heap.push { cls := .type "slice", data := .fields #[vl, vu, vs] } } := I4.kept (t' := s4.toks) fun b ob q => Heap.get?_push_of_some _ q
  obtain ⟨l, rfl, hl⟩ := IsPart.raw pl
  obtain ⟨u, rfl, hu⟩ := IsPart.raw pu
  obtain ⟨st, rfl, hs⟩ := IsPart.raw ps
  show wpAny (model X.prog X.w) X.A (subscriptTail e (.Slice none none (some (.UnaryOp .USub (.Constant (.int 1) k p1) p2)) p3) (.str z t) (.ref s4.heap.objs.size)) (EP X pins σ Q) X.xe { s4 with heap := s4.heap.push { cls := .type "slice", data := .fields #[partValue l, partValue u, partValue st] } }
  refine tail_any (ops := [.str z t, .ref s4.heap.objs.size]) (typeIs_str _ _ _) F.slot_str_getitem.lookup ?_ (by with_unfolding_all rfl)
  refine wpAny_getItem_str_slice (l := l) (u := u) (st := st) ⟨_, Heap.get?_push_size _ rfl, rfl, rfl⟩ (by rw [hs]; rfl) ?_
  unfold sliceMade slicePicked
  rw [hl, hu, hs]
  show Made.post (if ((-1 : Int) == 1 && _) = true then _ else Made.str ⟨((Builtin.Str.strSliceIndices none none (-1) z.length).filterMap (z.cps[·]?)).toArray⟩) _ _
  rw [if_neg (by simp), picked_rev, rev_picked]
  refine ⟨?_, .str _, _, I5.tok _, ⟨_, rfl⟩, q⟩
  show (revS z).length ≤ sizeLine
  have : (revS z).length = z.length := by unfold revS Str.length; simp
  rw [this]
  exact hz
def rvsD : D → Option D
  | .str z => if z.length ≤ 1000000 then some (.str (revS z)) else none
  | _ => none
variable {e : Expr} {fe : Sem} {pos : Pos}
theorem e_revS {k : Nat} {p1 p2 p3 : Pos} (he : SE G E .v X e fe) : SE G E .i X (.Subscript e (.Slice none none (some (.UnaryOp .USub (.Constant (.int 1) k p1) p2)) p3) pos) (un rvsD fe) := by
  obtain ⟨t, p, s⟩ := he
  refine ⟨_, pe_revS p, fun ρ σ S W H Q rep post => ?_⟩
  refine s.go rep (Step.refl W H) post fun dx S1 x W1 H1 st1 s01 rep1 is1 post => ?_
  cases dx with
  | str z =>
    have post : Pg X.K G E W H (okE X.K G .i W H Q) (Res.opt (if z.length ≤ 1000000 then some (.str (revS z)) else none) S1) := post
    by_cases hz : z.length ≤ 1000000
    · rw [if_pos hz] at post
      exact ⟨z, is1.strv, sz6 hz, post _ W1 H1 s01 rep1.wok (.str _)⟩
    · rw [if_neg hz] at post
      exact post.elim
  | _ => exact (show False from post).elim
/-! ### {..}[x] -/
def ctrs (kvs : List (Str × Str)) : List (TE × TE) := kvs.map fun p => (tC (.str p.1), tC (.str p.2))
def dkvs (kvs : List (Str × Str)) : List (Key × V) := kvs.map fun p => (.inr p.1, .str p.2)
theorem ctrs_ok {σ : L2.St} : ∀ (kvs : List (Str × Str)) (H : Hp) (Q : List (V × V) → Hp → Prop), Q (kvs.map fun p => (.str p.1, .str p.2)) H → tPairs (ctrs kvs) σ H Q
  | [], H, Q, q => q
  | p :: kvs, H, Q, q => ctrs_ok kvs H (fun ps H3 => Q ((.str p.1, .str p.2) :: ps) H3) q
def dixD (kvs : List (Str × Str)) : D → Option D
  | .str s => (match valV (mergeK [] (dkvs kvs)) (.inr s) with
    | some (.str t) => some (.str t)
    | _ => none)
  | _ => none
theorem e_dix (kvs : List (Str × Str)) {keys : List (Option Expr)} {values : List Expr} {dpos : Pos} (hp : PPs X dpos keys values (ctrs kvs)) (he : SE G E .v X e fe) (hu : X.A.units + 64 < cLine) (hall : keys.all (·.isSome) = true := by rfl) (hl : keys.length = values.length := by rfl) (h0 : keys ≠ [] := by simp) (h15 : keys.length ≤ 15 := by decide) (hk : kvs.length ≤ 15 := by decide) (hs : NoSl e := by exact fun _ _ => rfl) :
    SE G E .i X (.Subscript (.Dict keys values dpos) e pos) (un (dixD kvs) fe) := by
  obtain ⟨t, p, s⟩ := he
  refine ⟨_, pe_dget (Nat.lt_of_le_of_lt (Nat.add_le_add_left (by decide) _) hu) (pe_disp hp hall hl h0 h15) p hs, fun ρ σ S W H Q rep post => ?_⟩
  intro a na
  refine ctrs_ok kvs _ _ ⟨upd_same, dkvs kvs, by unfold dkvs; rw [List.map_map]; rfl, by unfold dkvs; rw [List.length_map]; exact hk, ?_⟩
  generalize hH : upd (upd H a (.dK [])) a (.dK (mergeK [] (dkvs kvs))) = H'
  have ha : H' a = some (.dK (mergeK [] (dkvs kvs))) := by rw [← hH]; exact upd_same
  have up : ∀ b o, H b = some o → H' b = some o := fun b o h => by
    have e : b ≠ a := fun q => by subst q; rw [na] at h; cases h
    rw [← hH, upd_ne e, upd_ne e]
    exact h
  have st : Step W H W H' := Step.up up
  have rep' := rep.step st (rep.wok.up up)
  refine s.go rep' st post fun dx S1 x W1 H1 st1 s01 rep1 is1 post => ?_
  cases dx with
  | str z =>
    have post : Pg X.K G E W H (okE X.K G .i W H Q) (Res.opt (match valV (mergeK [] (dkvs kvs)) (.inr z) with | some (.str t) => some (.str t) | _ => none) S1) := post
    cases q : valV (mergeK [] (dkvs kvs)) (.inr z) with
    | none => rw [q] at post; exact post.elim
    | some v =>
      rw [q] at post
      cases v with
      | str t =>
        have h1 : H1 a = some (.dK (mergeK [] (dkvs kvs))) := st1.pres a _ ha (rep.wok.nad na) (fun ps z => by cases z)
        exact ⟨a, .str t, rfl, .inl ⟨_, .inr z, .inl h1, is1.strv, q.symm⟩, post _ W1 H1 s01 rep1.wok (.str _)⟩
      | _ => exact (show False from post).elim
  | _ => exact (show False from post).elim
end
end Dl
namespace Dl
open PySem PySem.Spec PyProof.Rows L2
section
variable {X : Cx} {G : Gm} {E : XK} {pos : Pos}
/-! ### try .. except .., where nothing is raised -/
def tryN (g : SemS) : SemS := fun ρ S => match g ρ S with
  | .er _ _ => .no
  | x => x
theorem s_try0 {k : Rk} {body : List Stmt} {hs : List ExceptHandler} {h₀ : ExceptHandler} {g : SemS} (hb : SSs G EN k X.nox body g) : SS G E k X (.Try body (h₀ :: hs) [] [] pos) (tryN g) := by
  obtain ⟨t, p, s⟩ := hb
  refine ⟨_, ps_try_thru0 p, fun Wb W0 H0 ρ σ S W H Dn r post => s Wb W0 H0 ρ σ S W H Dn r ?_⟩
  unfold tryN at post
  cases q : g ρ S with
  | er x S1 => rw [q] at post; exact post.elim
  | nx => rw [q] at post; exact post
  | rt => rw [q] at post; exact post
  | bk => rw [q] at post; exact post
  | ct => rw [q] at post; exact post
  | no => rw [q] at post; exact post
/-! ### enumerate(list) -/
def enumL (ds : List D) : List D := ds.zipIdx.map fun p => .tup [.int (p.2 : Nat), p.1]
def itEL (f : Sem) : SemL := fun ρ S => (f ρ S).bind fun d S1 => match d with
  | .lst ds => .ok (enumL ds) S1
  | _ => .no
theorem enumL_get {ds : List D} {i : Nat} : (enumL ds)[i]? = (ds[i]?).map fun d => .tup [.int (i : Nat), d] := by
  unfold enumL
  rw [List.getElem?_map, List.getElem?_zipIdx, Option.map_map]
  cases ds[i]? <;> simp
theorem i_enumL {e : Expr} {f : Sem} {elts : List Expr} {kk : Nat} {p tpos pos : Pos} (hg : Gl X "enumerate") (hm : X.mg "enumerate" = none) (h : SE G E .i X e f) (hs : starEach [e] X.env = [(false, eval e X.env)] := by rfl) : SI G E X (.Tuple elts kk tpos) (.Call (.Name "enumerate" p) [e] [] pos) (itEL f) := by
  obtain ⟨t, pt, s⟩ := h
  refine ⟨_, pi_enum hg hm (pa_cons pt pa_nil (by rw [hs]; rfl)) hs, fun ρ σ S W H R rep post => ?_⟩
  refine s.go rep (Step.refl W H) post fun d S1 v W1 H1 st1 s01 rep1 is1 post => ?_
  have is1 : Ist X.K W1 v d := is1
  cases d with
  | lst ds =>
    obtain ⟨a, vs, ev, h1, h2⟩ := is1.lstv
    have h1 : SqL X.K W1.h a vs := SqL.of h1
    refine ⟨a, vs, by rw [ev], SqL.ex rep1.wok.sub h1, post _ W1 H1 st1 rep1.wok fun W' H' S' ge ok i => ?_⟩
    have hq : SqL X.K H' a vs := SqL.ex (fun b o q => ok.sub b o (ge.ex b o q)) h1
    have h2' := IsL.ge ge h2
    rw [enumL_get]
    refine ⟨fun d e => ?_, fun e => ?_⟩
    · obtain ⟨d0, e0, rfl⟩ := Option.map_eq_some_iff.mp e
      obtain ⟨x, e1, e2⟩ := h2'.get e0
      refine ⟨⟨vs, x, hq, e1⟩, fun y H'' q => ?_⟩
      obtain ⟨T, x', rfl, hT, rfl, e3⟩ := q
      have e3 := e3 vs hq
      rw [e1] at e3
      cases e3
      have nW := ok.none_of hT
      refine ⟨W'.add T (.tup [.int (i : Nat), x]), (Step.up (up_new hT)).add hT nW, (ok.up (up_new hT)).add upd_same nW (ok.nad hT) (fun ps z => by cases z), ?_⟩
      exact .tup (SqT.of (show upd W'.h T _ T = _ from upd_same)) (.cons (.int _) (.cons (Is.add nW e2) .nil))
    · refine ⟨vs, hq, ?_⟩
      rw [h2'.length, e]
      simp [enumL]
  | _ => exact (show False from post).elim
end
end Dl
/-! instances: fields read and stored, methods called, made -/
namespace Dl
open PySem PySem.Spec PyProof.Rows L2
section
variable {K : PySem.W.Frag} {G : Gm} {W W0 : Wd} {S : Mem} {H H0 H' : Hp}
theorem codeO_ins {c : Addr} {q : Str} {C dx : Addr} (xs : List (Str × V)) : LamX.CodeO c q ≠ .ins C dx xs := fun z => by
  have z' : HO.ext _ = HO.ins C dx xs := z
  cases z'
theorem IsF.get {f : Str} : ∀ {vs : List (Str × V)} {ds : List (Str × D)} {d : D}, IsF K W vs ds → ds.lookup f = some d → ∃ v, vs.lookup f = some v ∧ Ist K W v d
  | _, _, _, .nil, h => by cases h
  | _, _, d, .cons (f := g) (d := d0) q r, h => by
    rw [List.lookup_cons] at h
    rw [List.lookup_cons]
    cases e : (f == g) with
    | true =>
      rw [e] at h
      cases h
      exact ⟨_, rfl, q⟩
    | false =>
      rw [e] at h
      exact IsF.get r h
theorem IsF.none {f : Str} : ∀ {vs : List (Str × V)} {ds : List (Str × D)}, IsF K W vs ds → ds.lookup f = none → vs.lookup f = none
  | _, _, .nil, _ => rfl
  | _, _, .cons (f := g) q r, h => by
    rw [List.lookup_cons] at h
    rw [List.lookup_cons]
    cases e : (f == g) with
    | true => rw [e] at h; cases h
    | false =>
      rw [e] at h
      exact IsF.none r h
theorem IsF.len : ∀ {vs : List (Str × V)} {ds : List (Str × D)}, IsF K W vs ds → vs.length = ds.length
  | _, _, .nil => rfl
  | _, _, .cons _ r => by rw [List.length_cons, List.length_cons, IsF.len r]
def putD (f : Str) (v : D) : List (Str × D) → List (Str × D)
  | [] => [(f, v)]
  | (g, x) :: r => if g = f then (g, v) :: r else (g, x) :: putD f v r
theorem IsF.put {f : Str} {v : V} {d : D} (q : Ist K W v d) : ∀ {vs : List (Str × V)} {ds : List (Str × D)}, IsF K W vs ds → IsF K W (putF f v vs) (putD f d ds)
  | _, _, .nil => .cons q .nil
  | _, _, .cons (f := g) a r => by
    unfold putF putD
    by_cases e : g = f
    · rw [if_pos e, if_pos e]
      exact .cons q r
    · rw [if_neg e, if_neg e]
      exact .cons a (IsF.put q r)
theorem WOk.putI (k : WOk K G W S H) {l dx : Addr} {i c : Nat} {vs ws : List (Str × V)} {fs : List (Str × D)} (hi : W.ad[i]? = some l) (e : H l = some (.ins (G.cl c) dx vs)) (q : IsF K W ws fs) : WOk K G W (S.set i (.ins c fs)) (upd H l (.ins (G.cl c) dx ws)) := by
  have na : l ∈ W.ad := List.mem_of_getElem? hi
  have n : W.h l = none := k.adn l na
  have ne : ∀ {b : Addr} {o : HO}, H b = some o → (∀ C dx xs, o ≠ .ins C dx xs) → b ≠ l := fun {b o} h z q => by
    subst q
    rw [e] at h
    exact z _ _ _ (Option.some.inj h).symm
  refine ⟨fun a o h => ?_, k.ntb, k.adn, k.nd, by rw [List.length_set]; exact k.len, fun j a o h1 h2 => ?_, fun p hp => ?_⟩
  · rw [upd_ne (ne_of_none h n)]
    exact k.sub a o h
  · by_cases hj : i = j
    · subst hj
      rw [hi] at h1
      cases h1
      have hl : i < S.length := by
        rw [← k.len]
        exact (List.getElem?_eq_some_iff.mp hi).1
      rw [List.getElem?_set_self hl] at h2
      cases h2
      exact ⟨dx, ws, upd_same, q⟩
    · rw [List.getElem?_set_ne hj] at h2
      have ha : a ≠ l := fun z => by
        subst z
        obtain ⟨x1, y1⟩ := List.getElem?_eq_some_iff.mp hi
        obtain ⟨x2, y2⟩ := List.getElem?_eq_some_iff.mp h1
        exact hj ((List.getElem_inj k.nd).mp (y1.trans y2.symm))
      have q := k.obs j a o h1 h2
      cases o with
      | lst ds => obtain ⟨xs, h3, h4⟩ := q; exact ⟨xs, by rw [upd_ne ha]; exact h3, h4⟩
      | ins c fs => obtain ⟨dx, xs, h3, h4⟩ := q; exact ⟨dx, xs, by rw [upd_ne ha]; exact h3, h4⟩
  · obtain ⟨ps, h1, h2, h3⟩ := k.tab p hp
    refine ⟨ps, by rw [upd_ne (ne h1 (fun C dx xs z => by cases z))]; exact h1, h2, fun pos cv hc => ?_⟩
    obtain ⟨c, e1, e2⟩ := h3 pos cv hc
    exact ⟨c, e1, by rw [upd_ne (ne e2 (fun C dx xs => codeO_ins xs))]; exact e2⟩
theorem WOk.allocI (k : WOk K G W S H) {l dx : Addr} {c : Nat} (e : H l = some (.ins (G.cl c) dx [])) (n : W.h l = none) (na : l ∉ W.ad) : WOk K G ⟨W.h, W.ad ++ [l]⟩ (S ++ [.ins c []]) H := by
  have up : ∀ {vs : List V} {ds : List D}, IstL K W vs ds → IstL K ⟨W.h, W.ad ++ [l]⟩ vs ds := fun q => IsL.ex (fun _ _ h => h) ⟨[l], rfl⟩ q
  have upF : ∀ {vs : List (Str × V)} {ds : List (Str × D)}, IsF K W vs ds → IsF K ⟨W.h, W.ad ++ [l]⟩ vs ds := by
    intro vs ds q
    induction q with
    | nil => exact .nil
    | cons a _ ih => exact .cons (Is.ex (fun _ _ h => h) ⟨[l], rfl⟩ a) ih
  refine ⟨k.sub, k.ntb, fun a ha => ?_, ?_, by simp [k.len], fun i a o h1 h2 => ?_, k.tab⟩
  · rcases List.mem_append.mp ha with ha | ha
    · exact k.adn a ha
    · have : a = l := by simpa using ha
      subst this
      exact n
  · rw [List.nodup_append]
    exact ⟨k.nd, by simp, fun a ha b hb => by
      have : b = l := by simpa using hb
      subst this
      exact fun z => na (z ▸ ha)⟩
  · by_cases hi : i < W.ad.length
    · rw [List.getElem?_append_left hi] at h1
      rw [List.getElem?_append_left (by rw [← k.len]; exact hi)] at h2
      have z := k.obs i a o h1 h2
      cases o with
      | lst ds => obtain ⟨xs, h3, h4⟩ := z; exact ⟨xs, h3, up h4⟩
      | ins c fs => obtain ⟨dx, xs, h3, h4⟩ := z; exact ⟨dx, xs, h3, upF h4⟩
    · have hl := (List.getElem?_eq_some_iff.mp h1).1
      rw [List.length_append, List.length_singleton] at hl
      have e1 : i = W.ad.length := by omega
      subst e1
      rw [List.getElem?_append_right (Nat.le_refl _), Nat.sub_self] at h1
      rw [List.getElem?_append_right (by rw [k.len]; exact Nat.le_refl _), k.len, Nat.sub_self] at h2
      cases h1
      cases h2
      exact ⟨dx, [], e, .nil⟩
end
/-! ### o.f -/
def fldM (c : Nat) (f : Str) (fo : Sem) : Sem := fun ρ S => (fo ρ S).bind fun x S1 => match x with
  | .obj k => (match S1[k]? with
    | some (.ins c' fs) => if c' = c then Res.opt (fs.lookup f) S1 else .no
    | _ => .no)
  | _ => .no
section
variable {G : Gm} {E : XK} {X : Cx} {e o : Expr} {es : List Expr} {fo fe : Sem} {fs : SemL} {pos pos' apos : Pos} {k : Rk}
theorem e_fld {c : Nat} {f : Str} (cl : Cls X.K (G.cl c)) (na : NoAttr X.K (G.cl c) f) (ho : SE G E .i X o fo) (hb : attributeBase o f X.env (eval o X.env) = eval o X.env := by rfl) : SE G E .i X (.Attribute o f pos) (fldM c f fo) := by
  obtain ⟨t, p, s⟩ := ho
  refine ⟨_, pe_fld p hb, fun ρ σ S W H Q rep post => ?_⟩
  refine s.go rep (Step.refl W H) post fun d S1 v W1 H1 st1 s01 rep1 is1 post => ?_
  have is1 : Ist X.K W1 v d := is1
  cases d with
  | obj k =>
    dsimp only at post
    obtain ⟨a, rfl, ha⟩ := is1.objv
    cases e1 : S1[k]? with
    | none => simp only [e1] at post; exact post.elim
    | some ob =>
      simp only [e1] at post
      cases ob with
      | lst ds => exact post.elim
      | ins c' fs =>
        dsimp only at post
        by_cases hc : c' = c
        case neg => rw [if_neg hc] at post; exact post.elim
        subst hc
        rw [if_pos rfl] at post
        cases e2 : fs.lookup f with
        | none => rw [e2] at post; exact post.elim
        | some d =>
          rw [e2] at post
          obtain ⟨dx, vs, h1, h2⟩ := rep1.wok.obs k a _ ha e1
          obtain ⟨u, h3, h4⟩ := h2.get e2
          exact ⟨a, _, dx, vs, u, rfl, h1, cl, na, h3, post _ W1 H1 s01 rep1.wok h4⟩
  | _ => exact (show False from post).elim
/-! ### o.f = e -/
def stM (c : Nat) (f : Str) (fe fo : Sem) : SemS := fun ρ S => (fe ρ S).bindF fun d S1 => (fo ρ S1).bindF fun x S2 => match x with
  | .obj k => (match S2[k]? with
    | some (.ins c' fs) => if c' = c ∧ fs.length < 1000 then .nx ρ (S2.set k (.ins c (putD f d fs))) else .no
    | _ => .no)
  | _ => .no
theorem s_fldst {c : Nat} {f : Str} (cl : Cls X.K (G.cl c)) (na : NoAttr X.K (G.cl c) f) (he : SE G E .i X e fe) (ho : SE G E .i X o fo) (hs : swapsWith e (some (.Attribute o f pos')) pos.line X.env = pure false := by rfl) : SS G E k X (.Assign [.Attribute o f pos'] e pos) (stM c f fe fo) := by
  obtain ⟨te, pe, se⟩ := he
  obtain ⟨to, po, so⟩ := ho
  refine ⟨_, ps_fld po pe hs, fun Wb W0 H0 ρ σ S W H Dn r post => ?_⟩
  refine se.goS r post fun d S1 v W1 H1 st1 r1 rr1 post => ?_
  refine so.goS r1 post fun dO S2 ov W2 H2 st2 r2 rr2 post => ?_
  have rr1 : Ist X.K W1 v d := rr1
  have rr2 : Ist X.K W2 ov dO := rr2
  cases dO with
  | obj k =>
    dsimp only at post
    obtain ⟨a, rfl, ha⟩ := rr2.objv
    cases e1 : S2[k]? with
    | none => simp only [e1] at post; exact post.elim
    | some ob =>
      simp only [e1] at post
      cases ob with
      | lst ds => exact post.elim
      | ins c' fs =>
        dsimp only at post
        by_cases hc : c' = c ∧ fs.length < 1000
        case neg => rw [if_neg hc] at post; exact post.elim
        rw [if_pos hc] at post
        obtain ⟨hc, hlen⟩ := hc
        subst hc
        obtain ⟨dx, vs, h1, h2⟩ := r2.rep.wok.obs k a _ ha e1
        have hmem : a ∈ W2.ad := List.mem_of_getElem? ha
        refine ⟨a, _, dx, vs, rfl, h1, cl, na, by rw [h2.len]; exact hlen, ?_⟩
        have hput := r2.rep.wok.putI ha h1 (h2.put (f := f) (Is.step st2 rr1))
        refine post σ W2 _ ⟨⟨hput, r2.rep.len, fun q sl eq => ?_, r2.rep.own⟩, r2.st.own (r2.st.inad hmem), r2.own, r2.ge⟩
        obtain ⟨u, g1, g2⟩ := r2.rep.at_ q sl eq
        refine ⟨u, g1, ?_⟩
        cases u with
        | none => cases sl <;> first | trivial | exact g2.elim
        | some u =>
          cases sl with
          | no => trivial
          | dat d => exact g2
          | own as =>
            obtain ⟨l, ws, rfl, f2, f3, f4, f5⟩ := g2
            have hl : l ≠ a := fun z => f5 (z ▸ hmem)
            exact ⟨l, ws, rfl, by rw [upd_ne hl]; exact f2, f3, f4, f5⟩
  | _ => exact (show False from post).elim
/-! ### o.m(..) -/
def metM (c n : Nat) (m : Str) (F : Fn) (fo : Sem) (fs : SemL) : Sem := fun ρ S => (fo ρ S).bind fun x S1 => match x with
  | .obj k => (match S1[k]? with
    | some (.ins c' as) => if c' = c ∧ (as.lookup m).isNone = true then (fs ρ S1).bind fun ds S2 => if ds.length + 1 = n then F (.obj k :: ds) S2 else .no else .no
    | _ => .no)
  | _ => .no
structure FoM (P : Program) (w : World) (K : PySem.W.Frag) (mg : Str → Option Value) (base : Heap) (G : Gm) (kk : Nat) (c : Nat) (m : Str) (n : Nat) (k : Rk) (F : Fn) : Prop where
  ex : ∃ (f : Addr) (fd : FuncData) (ps : List Str), FnOk P w K mg base (L2.CX P w) kk f fd ps (spF K G n k F) ∧ Meth K (G.cl c) m f ∧ Binds K fd ps []
theorem e_met {kk kr c n : Nat} {m : Str} {F : Fn} (h : FoM X.prog X.w X.K X.mg X.base G kk c m n k F) (cl : Cls X.K (G.cl c)) (hr : Room kr X.A) (hk : kk ≤ kr) (hx : Passes (L2.CX X.prog X.w) X E) (ho : SE G E .i X o fo) (ha : SA G E false X (e :: es) fs)
    (hst : starEach (e :: es) X.env = (false, eval e X.env) :: starEach es X.env := by rfl) (hpl : (backTo pos (starEach es X.env)).any (·.1) = false := by rfl)
    {pl : PySem.Sem Bool} (ht : eval (.Call (.Attribute o m apos) (e :: es) [] pos) X.env = (do
      let ov ← eval o X.env
      standAt apos.atName
      let (f, first) ← holding [ov] (getMethod ov m pl)
      callWith pos f first (backTo pos (starEach (e :: es) X.env)) (backToKw pos (keywordEach [] X.env))) := by rfl) :
    SE G E k X (.Call (.Attribute o m apos) (e :: es) [] pos) (metM c n m F fo fs) := by
  obtain ⟨f, fd, ps, h1, h2, h3⟩ := h.ex
  obtain ⟨to, po, so⟩ := ho
  obtain ⟨ta, pa, sa⟩ := ha
  refine ⟨_, pe_meth po cl h2 h1 (hr.mono hk) h3 .nil hx pa hst hpl ht, fun ρ σ S W H Q rep post => ?_⟩
  refine so.go rep (Step.refl W H) post fun dO S1 ov W1 H1 st1 s01 rep1 is1 post => ?_
  have is1 : Ist X.K W1 ov dO := is1
  cases dO with
  | obj j =>
    dsimp only at post
    obtain ⟨a, rfl, ha⟩ := is1.objv
    cases e1 : S1[j]? with
    | none => simp only [e1] at post; exact post.elim
    | some ob =>
      simp only [e1] at post
      cases ob with
      | lst ds => exact post.elim
      | ins c' as =>
        dsimp only at post
        by_cases hc : c' = c ∧ (as.lookup m).isNone = true
        case neg => rw [if_neg hc] at post; exact post.elim
        rw [if_pos hc] at post
        have post2 := post
        clear post
        obtain ⟨hc, hn⟩ := hc
        subst hc
        obtain ⟨dx, vs, g1, g2⟩ := rep1.wok.obs j a _ ha e1
        refine ⟨a, dx, vs, rfl, g1, g2.none (Option.isNone_iff_eq_none.mp hn), ?_⟩
        refine sa.go rep1 s01 post2 fun ds S2 us W2 H2 st2 s02 rep2 is2 post => ?_
        have is2 : AllR (Ist X.K W2) us ds := is2
        by_cases hl : ds.length + 1 = n
        · rw [if_pos hl] at post
          exact ⟨by rw [List.append_nil, List.length_cons, is2.len, hl], S2, W2, .obj j :: ds, rep2.wok, by rw [List.append_nil]; exact .cons (Is.step st2 is1) is2.is, pg_okE_step s02 post⟩
        · rw [if_neg hl] at post
          exact post.elim
  | _ => exact (show False from post).elim
theorem e_met0 {kk kr c n : Nat} {m : Str} {F : Fn} (h : FoM X.prog X.w X.K X.mg X.base G kk c m n k F) (cl : Cls X.K (G.cl c)) (hr : Room kr X.A) (hk : kk ≤ kr) (hx : Passes (L2.CX X.prog X.w) X E) (ho : SE G E .i X o fo)
    {pl : PySem.Sem Bool} (ht : eval (.Call (.Attribute o m apos) [] [] pos) X.env = (do
      let ov ← eval o X.env
      standAt apos.atName
      let (f, first) ← holding [ov] (getMethod ov m pl)
      callWith pos f first (backTo pos (starEach [] X.env)) (backToKw pos (keywordEach [] X.env))) := by rfl) :
    SE G E k X (.Call (.Attribute o m apos) [] [] pos) (metM c n m F fo al0) := by
  obtain ⟨f, fd, ps, h1, h2, h3⟩ := h.ex
  obtain ⟨to, po, so⟩ := ho
  refine ⟨_, pe_meth0 po cl h2 h1 (hr.mono hk) h3 .nil hx ht, fun ρ σ S W H Q rep post => ?_⟩
  refine so.go rep (Step.refl W H) post fun dO S1 ov W1 H1 st1 s01 rep1 is1 post => ?_
  have is1 : Ist X.K W1 ov dO := is1
  cases dO with
  | obj j =>
    dsimp only at post
    obtain ⟨a, rfl, ha⟩ := is1.objv
    cases e1 : S1[j]? with
    | none => simp only [e1] at post; exact post.elim
    | some ob =>
      simp only [e1] at post
      cases ob with
      | lst ds => exact post.elim
      | ins c' as =>
        dsimp only at post
        by_cases hc : c' = c ∧ (as.lookup m).isNone = true
        case neg => rw [if_neg hc] at post; exact post.elim
        rw [if_pos hc] at post
        have post2 := post
        clear post
        obtain ⟨hc, hn⟩ := hc
        subst hc
        obtain ⟨dx, vs, g1, g2⟩ := rep1.wok.obs j a _ ha e1
        refine ⟨a, dx, vs, rfl, g1, g2.none (Option.isNone_iff_eq_none.mp hn), ?_⟩
        have post : Pg X.K G E W H (okE X.K G k W H Q) (if ([] : List D).length + 1 = n then F [.obj j] S1 else .no) := post2
        by_cases hl : ([] : List D).length + 1 = n
        · rw [if_pos hl] at post
          exact ⟨by show 0 + 1 = n; exact hl, S1, W1, [.obj j], rep1.wok, .cons is1 .nil, pg_okE_step s01 post⟩
        · rw [if_neg hl] at post
          exact post.elim
  | _ => exact (show False from post).elim
/-! ### C(..) -/
def mkI (c n : Nat) (F : Fn) (fs : SemL) : Sem := fun ρ S => (fs ρ S).bind fun ds S1 => if ds.length + 1 = n then (match F (.obj S1.length :: ds) (S1 ++ [.ins c []]) with
  | .ok .non S2 => .ok (.obj S1.length) S2
  | .ok _ _ => .no
  | .er x S2 => .er x S2
  | .no => .no) else .no
structure FoI (P : Program) (w : World) (K : PySem.W.Frag) (mg : Str → Option Value) (base : Heap) (G : Gm) (kk : Nat) (c n : Nat) (F : Fn) : Prop where
  ex : ∃ (f : Addr) (fd : FuncData) (ps : List Str), FnOk P w K mg base (L2.CX P w) kk f fd ps (spF K G n .i F) ∧ Mk K (G.cl c) f ∧ Binds K fd ps []
theorem e_make {kk kr c n : Nat} {x : Str} {F : Fn} {p : Pos} (h : FoI X.prog X.w X.K X.mg X.base G kk c n F) (hm : X.mg x = some (.ref (G.cl c))) (hr : Room kr X.A) (hk : kk + 1 ≤ kr) (hg : Gl X x) (hx : Passes (L2.CX X.prog X.w) X E) (ha : SA G E false X (e :: es) fs)
    (hdb : (x == ("__debug__" : Str)) = false := by decide) (he : starEach (e :: es) X.env = (false, eval e X.env) :: starEach es X.env := by rfl) (hpl : (backTo pos (starEach es X.env)).any (·.1) = false := by rfl) :
    SE G E .i X (.Call (.Name x p) (e :: es) [] pos) (mkI c n F fs) := by
  obtain ⟨f, fd, ps, h1, h2, h3⟩ := h.ex
  obtain ⟨ta, pa, sa⟩ := ha
  refine ⟨_, pe_make h2 h1 (hr.mono hk) hg hm h3 .nil hx pa hdb he hpl, fun ρ σ S W H Q rep post => ?_⟩
  refine sa.go rep (Step.refl W H) post fun ds S1 us W1 H1 st1 s01 rep1 is1 post => ?_
  have is1 : AllR (Ist X.K W1) us ds := is1
  intro a dx na nd ne
  by_cases hl : ds.length + 1 = n
  case neg => rw [if_neg hl] at post; exact post.elim
  rw [if_pos hl] at post
  generalize hH : upd (upd H1 dx (.own a)) a (.ins (G.cl c) dx []) = H2
  have ea : H2 a = some (.ins (G.cl c) dx []) := by rw [← hH]; exact upd_same
  have up : ∀ b o, H1 b = some o → H2 b = some o := fun b o h => by
    have e1 : b ≠ a := fun q => by subst q; rw [na] at h; cases h
    have e2 : b ≠ dx := fun q => by subst q; rw [nd] at h; cases h
    rw [← hH, upd_ne e1, upd_ne e2]
    exact h
  have nW := rep1.wok.none_of na
  have nad := rep1.wok.nad na
  have ok2 := (rep1.wok.up up).allocI (c := c) ea nW nad
  have st2 : Step W1 H1 ⟨W1.h, W1.ad ++ [a]⟩ H2 := (Step.up up).alloc na
  refine ⟨by rw [List.append_nil, List.length_cons, is1.len, hl], S1 ++ [.ins c []], ⟨W1.h, W1.ad ++ [a]⟩, .obj S1.length :: ds, ok2, by
    rw [List.append_nil]
    refine .cons (.obj ?_) (is1.is.step st2)
    show (W1.ad ++ [a])[S1.length]? = some a
    rw [← rep1.wok.len, List.getElem?_append_right (Nat.le_refl _), Nat.sub_self]
    rfl, ?_⟩
  have iob : Ist X.K ⟨W1.h, W1.ad ++ [a]⟩ (.ref a) (.obj S1.length) := by
    refine .obj ?_
    show (W1.ad ++ [a])[S1.length]? = some a
    rw [← rep1.wok.len, List.getElem?_append_right (Nat.le_refl _), Nat.sub_self]
    rfl
  cases q : F (.obj S1.length :: ds) (S1 ++ [.ins c []]) with
  | no => rw [q] at post; exact post.elim
  | er z S2 =>
    rw [q] at post
    exact ErrP.step (s01.trans st2) post
  | ok d S2 =>
    rw [q] at post
    cases d with
    | non =>
      intro v W' H' st' ok' rr
      have rr : Ist X.K W' v .non := rr
      exact ⟨by cases rr; rfl, post (.ref a) W' H' (s01.trans (st2.trans st')) ok' (Is.step st' iob)⟩
    | _ => exact (show False from post).elim
/-! ### o.append(e), o a changing list -/
def appM (fo fe : Sem) : SemS := fun ρ S => (fo ρ S).bindF fun x S1 => match x with
  | .obj k => (match S1[k]? with
    | some (.lst _) => (fe ρ S1).bindF fun d S2 => (match S2[k]? with
      | some (.lst ds) => if ds.length < 1000000 then .nx ρ (S2.set k (.lst (ds ++ [d]))) else .no
      | _ => .no)
    | _ => .no)
  | _ => .no
theorem s_appM {pa' pc : Pos} (ho : SE G E .i X o fo) (he : SE G E .i X e fe)
    (hbase : attributeBase o "append" X.env (eval o X.env) = eval o X.env := by rfl) (hline : (pa'.endLine == pc.line) = true := by rfl) (hst : starEach [e] X.env = [(false, eval e X.env)] := by rfl)
    (hfew : ((backTo pc (starEach [e] X.env)).all (fun x => !x.1) && (backToKw pc (keywordEach [] X.env)).all (fun x => x.1.isSome)
      && decide ([e].length + ([] : List Keyword).length + (if ([] : List Keyword).isEmpty then 0 else 1) < 30)) = true := by rfl)
    (hsw : swapsWith (.Call (.Attribute o "append" pa') [e] [] pc) none pos.line X.env = pure false := by rfl) :
    SS G E k X (.Expr (.Call (.Attribute o "append" pa') [e] [] pc) pos) (appM fo fe) := by
  obtain ⟨t, p, s⟩ := he
  obtain ⟨to, po, so⟩ := ho
  refine ⟨_, ps_expr (pe_bm PySem.F.plainAttrs_list PySem.F.slot_list_append PySem.F.type_list_append mt_append po (pa_cons p pa_nil (by rw [hst]; rfl)) hbase hfew hline (by rw [hst]; rfl) (by rfl)) hsw, fun Wb W0 H0 ρ σ S W H Dn r post => ?_⟩
  refine so.goS r post fun dO S1 ov W1 H1 st1 r1 rr1 post => ?_
  have rr1 : Ist X.K W1 ov dO := rr1
  cases dO with
  | obj j =>
    dsimp only at post
    obtain ⟨a, rfl, ha⟩ := rr1.objv
    cases e1 : S1[j]? with
    | none => simp only [e1] at post; exact post.elim
    | some ob =>
      simp only [e1] at post
      cases ob with
      | ins c fs => exact post.elim
      | lst ds0 =>
        dsimp only at post
        obtain ⟨vs0, g1, g2⟩ := r1.rep.wok.obs j a _ ha e1
        refine ⟨.inl ⟨rfl, vs0, SqL.of g1⟩, ?_⟩
        refine s.goS r1 post fun d S2 v W2 H2 st2 r2 rr post => ?_
        have rr : Ist X.K W2 v d := rr
        have ha2 : W2.ad[j]? = some a := by
          obtain ⟨m, em⟩ := st2.adp
          rw [em, List.getElem?_append_left (List.getElem?_eq_some_iff.mp ha).1]
          exact ha
        cases e2 : S2[j]? with
        | none => simp only [e2] at post; exact post.elim
        | some ob =>
          simp only [e2] at post
          cases ob with
          | ins c fs => exact post.elim
          | lst ds =>
            dsimp only at post
            by_cases hz : ds.length < 1000000
            case neg => rw [if_neg hz] at post; exact post.elim
            rw [if_pos hz] at post
            obtain ⟨vs, h5, h6⟩ := r2.rep.wok.obs j a _ ha2 e2
            have hmem : a ∈ W2.ad := List.mem_of_getElem? ha2
            refine ⟨a, vs, v, rfl, rfl, h5, by rw [h6.length]; exact Nat.lt_of_lt_of_le hz (by decide), ?_⟩
            have hput := r2.rep.wok.put (ds := ds ++ [d]) (ws := vs ++ [v]) ha2 h5 (h6.append (.cons rr .nil))
            refine post σ W2 _ ⟨⟨hput, r2.rep.len, fun q sl eq => ?_, r2.rep.own⟩, r2.st.own (r2.st.inad hmem), r2.own, r2.ge⟩
            obtain ⟨u, f1, f2⟩ := r2.rep.at_ q sl eq
            refine ⟨u, f1, ?_⟩
            cases u with
            | none => cases sl <;> first | trivial | exact f2.elim
            | some u =>
              cases sl with
              | no => trivial
              | dat d => exact f2
              | own as =>
                obtain ⟨l, ws, rfl, f2, f3, f4, f5⟩ := f2
                have hl : l ≠ a := fun z => f5 (z ▸ hmem)
                exact ⟨l, ws, rfl, by rw [upd_ne hl]; exact f2, f3, f4, f5⟩
  | _ => exact (show False from post).elim
/-! ### o[::-1], o a changing list -/
def revM (fo : Sem) : Sem := fun ρ S => (fo ρ S).bind fun x S1 => match x with
  | .obj k => (match S1[k]? with
    | some (.lst ds) => .ok (.lst ds.reverse) S1
    | _ => .no)
  | _ => .no
theorem e_revM {kk : Nat} {p1 p2 p3 : Pos} (ha : SE G E .i X o fo) : SE G E .f X (.Subscript o (.Slice none none (some (.UnaryOp .USub (.Constant (.int 1) kk p1) p2)) p3) pos) (revM fo) := by
  obtain ⟨ta, pa, sa⟩ := ha
  refine ⟨_, pe_revL pa, fun ρ σ S W H Q rep post => ?_⟩
  refine sa.go rep (Step.refl W H) post fun dx S1 x W1 H1 st1 s01 rep1 is1 post => ?_
  have is1 : Ist X.K W1 x dx := is1
  cases dx with
  | obj j =>
    dsimp only at post
    obtain ⟨a, rfl, ha⟩ := is1.objv
    cases e1 : S1[j]? with
    | none => simp only [e1] at post; exact post.elim
    | some ob =>
      simp only [e1] at post
      cases ob with
      | ins c fs => exact post.elim
      | lst ds =>
        obtain ⟨vs, h1, h2⟩ := rep1.wok.obs j a _ ha e1
        refine ⟨a, vs, rfl, SqL.of h1, fun l hl => ?_⟩
        exact okE.newL (fun v' W' H' st3 ok3 rr => post v' W' H' (s01.trans st3) ok3 (rr.pre (k := .f) s01)) rep1.wok h2.reverse hl
  | _ => exact (show False from post).elim
end
end Dl
/-! a loop and a comprehension over a list that may change -/
namespace Dl
open PySem PySem.Spec PyProof.Rows L2
def loopL (k : Nat) (b : D → SemS) : Nat → Nat → SemS
  | 0, _, _, _ => .no
  | n + 1, i, ρ, S => match S[k]? with
    | some (.lst ds) => (match ds[i]? with
      | some d => (match b d ρ S with
        | .nx ρ' S' => loopL k b n (i + 1) ρ' S'
        | .ct ρ' S' => loopL k b n (i + 1) ρ' S'
        | .bk ρ' S' => .nx ρ' S'
        | .rt d S' => .rt d S'
        | .er x S' => .er x S'
        | .no => .no)
      | none => .nx ρ S)
    | _ => .no
def frM (fo : Sem) (a : Tg) (g : SemS) (n : Nat) : SemS := fun ρ S => (fo ρ S).bindF fun x S1 => match x with
  | .obj k => loopL k (tgb a g) n 0 ρ S1
  | _ => .no
section
variable {G : Gm} {E : XK} {X : Cx} {pos : Pos} {k : Rk}
theorem WGe.at_ {W W' : Wd} (g : WGe W W') {j : Nat} {a : Addr} (h : W.ad[j]? = some a) : W'.ad[j]? = some a := by
  obtain ⟨m, e⟩ := g.ad
  rw [e, List.getElem?_append_left (List.getElem?_eq_some_iff.mp h).1]
  exact h
theorem s_forM {tg iter : Expr} {body : List Stmt} {fo : Sem} {a : Tg} {g : SemS} {js : List Nat} (n : Nat) (hp : PassesOwn (model X.prog X.w) X.A X.env X.xe) (hc : X.calm = true) (hi : SE G E .i X iter fo) (hg : SG G js X tg a) (hb : SSs G E k X body g)
    (hs : ∀ x, foldedSetIterable iter X.env x = pure x := by intro _; rfl) : SS G E k X (.For tg iter body [] pos) (frM fo a g n) := by
  obtain ⟨ti, pi, si⟩ := hi
  obtain ⟨tt, pt, st⟩ := hg
  obtain ⟨tb, pb, sb⟩ := hb
  refine ⟨_, ps_for hp hc (pi_list pi) pt pb hs, fun Wb W0 H0 ρ σ S W H Dn r post => ?_⟩
  refine si.goS r post fun dO S1 ov W1 H1 st1 r1 rr1 post => ?_
  have rr1 : Ist X.K W1 ov dO := rr1
  cases dO with
  | obj j =>
    dsimp only at post
    obtain ⟨ad, rfl, ha⟩ := rr1.objv
    cases n with
    | zero => exact post.elim
    | succ n =>
      obtain ⟨vs0, q0⟩ : ∃ vs0, H1 ad = some (.lst vs0) := by
        unfold loopL at post
        cases e1 : S1[j]? with
        | none => simp only [e1] at post; exact post.elim
        | some ob =>
          cases ob with
          | ins c fs => simp only [e1] at post; exact post.elim
          | lst ds => obtain ⟨vs, h1, _⟩ := r1.rep.wok.obs j ad _ ha e1; exact ⟨vs, h1⟩
      refine ⟨ad, rfl, ⟨vs0, SqL.of q0⟩, ?_⟩
      refine ⟨fun i m σ' H' => ∃ ρ' S' W', RepS X.K G W1 W0 H0 ρ' σ' S' W' H' ∧ PostS X.K G E k Wb W0 H0 Dn (loopL j (tgb a g) m i ρ' S'),
        ⟨n + 1, ρ, S1, W1, r1.base (WGe.refl _), post⟩, ?_⟩
      rintro i m σ' H' ⟨ρ', S', W', r', post'⟩
      have up : ∀ {ρ'' σ'' S'' W'' H''}, RepS X.K G W1 W0 H0 ρ'' σ'' S'' W'' H'' → RepS X.K G Wb W0 H0 ρ'' σ'' S'' W'' H'' := fun q => q.base (r1.ge.trans q.ge)
      cases m with
      | zero => exact post'.elim
      | succ m =>
        unfold loopL at post'
        cases e1 : S'[j]? with
        | none => simp only [e1] at post'; exact post'.elim
        | some ob =>
          cases ob with
          | ins c fs => simp only [e1] at post'; exact post'.elim
          | lst ds =>
            simp only [e1] at post'
            obtain ⟨vs, h1, h2⟩ := r'.rep.wok.obs j ad _ (r'.ge.at_ ha) e1
            cases e2 : ds[i]? with
            | none =>
              simp only [e2] at post'
              exact .inl ⟨⟨vs, SqL.of h1, by rw [h2.length]; exact List.getElem?_eq_none_iff.mp e2⟩, post' σ' W' H' (up r')⟩
            | some d =>
              simp only [e2] at post'
              obtain ⟨x0, g1, g2⟩ := h2.get e2
              refine .inr ⟨⟨vs, x0, SqL.of h1, g1⟩, fun σ2 H2 => ∃ ρ2 S2 W2, RepS X.K G W1 W0 H0 ρ2 σ2 S2 W2 H2 ∧ PostS X.K G E k Wb W0 H0 Dn (loopL j (tgb a g) m (i + 1) ρ2 S2), fun σ2 H2 ⟨ρ2, S2, W2, r2, p2⟩ => ⟨m, Nat.lt_succ_self m, ρ2, S2, W2, r2, p2⟩, fun x H2 y => ?_⟩
              obtain ⟨rfl, y⟩ := y
              have e3 := y vs (SqL.of h1)
              rw [g1] at e3
              cases e3
              unfold tgb at post'
              cases ea : a d ρ' with
              | none => simp only [ea] at post'; exact post'.elim
              | some ρ3 =>
                simp only [ea] at post'
                refine st W1 W0 H0 ρ' ρ3 σ' S' W' H2 x0 d _ r' g2 ea fun σ3 r3 _ _ => ?_
                refine sb W1 W0 H0 ρ3 σ3 S' W' H2 _ r3 ?_
                cases eg : g ρ3 S' with
                | nx ρ4 S4 => simp only [eg] at post'; exact fun σ4 W4 H4 r4 => ⟨ρ4, S4, W4, r4, post'⟩
                | ct ρ4 S4 => simp only [eg] at post'; exact fun σ4 W4 H4 r4 => ⟨ρ4, S4, W4, r4, post'⟩
                | bk ρ4 S4 => simp only [eg] at post'; exact fun σ4 W4 H4 r4 => post' σ4 W4 H4 (up r4)
                | rt d S4 => simp only [eg] at post'; exact post'
                | er x S4 => simp only [eg] at post'; exact post'
                | no => simp only [eg] at post'; exact post'.elim
  | _ => exact (show False from post).elim
def compM (j : Nat) (step : D → Mem → Res (Option D)) : Nat → Nat → List D → Mem → Res (List D)
  | 0, _, _, _ => .no
  | n + 1, i, acc, S => match S[j]? with
    | some (.lst ds) => (match ds[i]? with
      | some d => (step d S).bind fun o S1 => match o with
        | some y => if acc.length < 1000000 then compM j step n (i + 1) (acc ++ [y]) S1 else .no
        | none => compM j step n (i + 1) acc S1
      | none => .ok acc S)
    | _ => .no
def lcM (fo : Sem) (a : Tg) (vs : List Nat) (tt te : Sem) (n : Nat) : Sem := fun ρ S => (fo ρ S).bind fun x S1 => match x with
  | .obj j => (compM j (lcStep ρ a vs tt te) n 0 [] S1).bind fun ys S2 => .ok (.lst ys) S2
  | _ => .no
theorem snd_lcM {K : PySem.W.Frag} {ti : TE} {fo : Sem} {a : Tg} {vs js : List Nat} {tt te : Sem} (n : Nat) (so : SndE K G E .i ti fo) (hjs : ∀ j ∈ js, j ∈ vs) : SndE K G E .f (tLc (iList K ti) (canG K G js a) (canT K G EN tt) (canE K G EN .i te) vs) (lcM fo a vs tt te n) := by
  intro ρ σ S W H Q rep post
  refine so.go rep (Step.refl W H) post fun dO S1 ov W1 H1 st1 s01 rep1 is1 post => ?_
  have is1 : Ist K W1 ov dO := is1
  cases dO with
  | obj j =>
    dsimp only at post
    obtain ⟨ad, rfl, ha⟩ := is1.objv
    cases n with
    | zero => exact post.elim
    | succ n =>
      obtain ⟨vs0, q0⟩ : ∃ vs0, H1 ad = some (.lst vs0) := by
        unfold compM at post
        cases e1 : S1[j]? with
        | none => simp only [e1] at post; exact post.elim
        | some ob =>
          cases ob with
          | ins c fs => simp only [e1] at post; exact post.elim
          | lst ds => obtain ⟨vs, h1, _⟩ := rep1.wok.obs j ad _ ha e1; exact ⟨vs, h1⟩
      refine ⟨ad, rfl, ⟨vs0, SqL.of q0⟩, ?_⟩
      intro DD hD
      refine ⟨fun i m H' => ∃ acc us S' W', Step W H W' H' ∧ WOk K G W' S' H' ∧ WGe W1 W' ∧ H' DD = some (.lst us) ∧ IstL K W' us acc ∧ W'.h DD = none ∧ DD ∉ W'.ad ∧
        Pg K G E W H (okE K G .f W H Q) ((compM j (lcStep ρ a vs tt te) m i acc S').bind fun ys S2 => .ok (.lst ys) S2), ⟨n + 1, [], [], S1, W1, s01.trans (Step.up (up_new hD)), rep1.wok.up (up_new hD), WGe.refl _, upd_same, .nil, rep1.wok.none_of hD, rep1.wok.nad hD, post⟩, ?_⟩
      rintro i m H' ⟨acc, us, S', W', st', ok', ge', hL, hus, nL, nA, post'⟩
      have n0 : H DD = none := s01.back hD
      cases m with
      | zero => exact post'.elim
      | succ m =>
        unfold compM at post'
        cases e1 : S'[j]? with
        | none => simp only [e1] at post'; exact post'.elim
        | some ob =>
          cases ob with
          | ins c fs => simp only [e1] at post'; exact post'.elim
          | lst ds =>
            simp only [e1] at post'
            obtain ⟨vsj, h1, h2⟩ := ok'.obs j ad _ (ge'.at_ ha) e1
            cases e2 : ds[i]? with
            | none =>
              simp only [e2] at post'
              exact .inl ⟨⟨vsj, SqL.of h1, by rw [h2.length]; exact List.getElem?_eq_none_iff.mp e2⟩, post' _ W' H' st' ok' ⟨DD, us, acc, rfl, rfl, n0, hL, hus, nL, nA⟩⟩
            | some d =>
              simp only [e2] at post'
              obtain ⟨x0, g1, g2⟩ := h2.get e2
              refine .inr ⟨⟨vsj, x0, SqL.of h1, g1⟩, fun H2 => ∃ acc us S2 W2, Step W H W2 H2 ∧ WOk K G W2 S2 H2 ∧ WGe W1 W2 ∧ H2 DD = some (.lst us) ∧ IstL K W2 us acc ∧ W2.h DD = none ∧ DD ∉ W2.ad ∧
                Pg K G E W H (okE K G .f W H Q) ((compM j (lcStep ρ a vs tt te) m (i + 1) acc S2).bind fun ys S2 => .ok (.lst ys) S2), fun H2 q => ⟨m, Nat.lt_succ_self m, q⟩, fun x H2 y => ?_⟩
              obtain ⟨rfl, y⟩ := y
              have e3 := y vsj (SqL.of h1)
              rw [g1] at e3
              cases e3
              have r2 := (rep.step st' ok').wipe vs
              unfold lcStep at post'
              cases ea : a d (wipeS ρ vs) with
              | none => simp only [ea] at post'; exact post'.elim
              | some ρ3 =>
                simp only [ea] at post'
                refine ⟨W', W00, H00, wipeS ρ vs, ρ3, S', W', d, ⟨r2, Step.empty, fun _ _ _ _ _ => rfl, WGe.refl _⟩, g2, ea, fun σ3 r3 k3 l3 => ⟨wipe_same hjs k3 l3, ?_⟩⟩
                have keep : ∀ {W4 : Wd} {H4 : Hp} {S4 : Mem}, Step W' H2 W4 H4 → WOk K G W4 S4 H4 → Step W H W4 H4 ∧ WGe W1 W4 ∧ H4 DD = some (.lst us) ∧ IstL K W4 us acc ∧ W4.h DD = none ∧ DD ∉ W4.ad := fun {W4 H4 S4} s4 o4 => by
                  exact ⟨st'.trans s4, ge'.trans s4.ge, s4.pres DD _ hL nA (fun ps z => by cases z), IsL.step s4 hus, s4.new DD _ hL nA nL, s4.notad (by rw [hL]; simp) nA⟩
                refine ⟨ρ3, S', W', r3.rep, ?_⟩
                cases et : tt ρ3 S' with
                | no => simp only [et, Res.bind, noer] at post'; exact post'.elim
                | er x S4 => simp only [et, Res.bind, noer] at post'; exact post'.elim
                | ok b S4 =>
                  simp only [et, Res.bind] at post'
                  cases b with
                  | bl b =>
                    refine ⟨b, rfl, fun W4 H4 st4 ok4 => ?_⟩
                    cases b with
                    | false =>
                      refine iteF ?_
                      obtain ⟨k1, k2, k3, k4, k5, k6⟩ := keep st4 ok4
                      exact ⟨acc, us, S4, W4, k1, ok4, k2, k3, k4, k5, k6, post'⟩
                    | true =>
                      refine iteT ⟨ρ3, S4, W4, r3.rep.step st4 ok4, ?_⟩
                      dsimp only at post'
                      cases ee : te ρ3 S4 with
                      | no => simp only [ee, noer] at post'; exact post'.elim
                      | er x S5 => simp only [ee, noer] at post'; exact post'.elim
                      | ok y S5 =>
                        simp only [ee, noer] at post'
                        intro v W5 H5 st5 ok5 is5
                        obtain ⟨k1, k2, k3, k4, k5, k6⟩ := keep (st4.trans st5) ok5
                        by_cases hz : acc.length < 1000000
                        · rw [if_pos hz] at post'
                          exact ⟨us, k3, by rw [k4.length]; exact Nat.lt_of_lt_of_le hz (by decide), acc ++ [y], us ++ [v], S5, W5, k1.own (.inl n0), ok5.own k3 k5 k6, k2, upd_same, k4.append (.cons is5 .nil), k5, k6, post'⟩
                        · rw [if_neg hz] at post'
                          exact post'.elim
                  | _ => simp only [noer] at post'; exact post'.elim
  | _ => exact (show False from post).elim
theorem e_lcM {elt tg iter : Expr} {ifs : List Expr} {scope : Scope} {own : List (Str × Nat)} {fo : Sem} {a : Tg} {js : List Nat} {tt te : Sem} (n : Nat) (hc : X.calm = true) (hN : X.N.Nodup) (hi : SE G E .i X iter fo) (ok : BlkOk X.N X.env.scope scope own) (hjs : ∀ j ∈ js, j ∈ own.map (·.2))
    (hg : ∀ (s : Shared) (H : Hp) (C : Addr) (cl : List (Str × Addr)) (fp : List Addr), SG G js (X.blk s H scope (compEnvC scope cl C X.env) fp) tg a) (ht : ∀ (s : Shared) (H : Hp) (C : Addr) (cl : List (Str × Addr)) (fp : List Addr), STs G (X.blk s H scope (compEnvC scope cl C X.env) fp) ifs tt)
    (he : ∀ (s : Shared) (H : Hp) (C : Addr) (cl : List (Str × Addr)) (fp : List Addr), SE G EN .i (X.blk s H scope (compEnvC scope cl C X.env) fp) elt te) (hs : ∀ x, foldedSetIterable iter X.env x = pure x := by intro _; rfl) :
    SE G E .f X (.ListComp elt [⟨tg, iter, ifs, 0⟩] scope pos) (lcM fo a (own.map (·.2)) tt te n) := by
  obtain ⟨ti, pi, si⟩ := hi
  exact ⟨_, pe_lc (g := canG X.K G js a) (tt := canT X.K G EN tt) (te := canE X.K G EN .i te) hc hN (pi_list pi) ok (fun s H C cl fp => (hg s H C cl fp).can) (fun s H C cl fp => (ht s H C cl fp).can) (fun s H C cl fp => (he s H C cl fp).can) hs, snd_lcM n si hjs⟩
/-! ### o.pop(), o a changing list -/
def popM (fo : Sem) : Sem := fun ρ S => (fo ρ S).bind fun x S1 => match x with
  | .obj k => (match S1[k]? with
    | some (.lst ds) => (match ds[ds.length - 1]? with
      | some d => .ok d (S1.set k (.lst ds.dropLast))
      | none => .no)
    | _ => .no)
  | _ => .no
theorem IsL.dropLast {K : PySem.W.Frag} {ad : List Addr} {h : Hp} : ∀ {vs : List V} {ds : List D}, IsL K ad h vs ds → IsL K ad h vs.dropLast ds.dropLast
  | _, _, .nil => .nil
  | [v], [d], .cons a .nil => .nil
  | v :: v2 :: vs, d :: d2 :: ds, .cons a r => .cons a (IsL.dropLast r)
theorem e_popM {o : Expr} {fo : Sem} {apos : Pos} (ho : SE G E .i X o fo) (hbase : attributeBase o "pop" X.env (eval o X.env) = eval o X.env := by rfl) (hline : (apos.endLine == pos.line) = true := by rfl) :
    SE G E .i X (.Call (.Attribute o "pop" apos) [] [] pos) (popM fo) := by
  obtain ⟨to, po, so⟩ := ho
  refine ⟨_, pe_bm0 PySem.F.plainAttrs_list PySem.F.slot_list_pop PySem.F.type_list_pop mt_pop po hbase hline, fun ρ σ S W H Q rep post => ?_⟩
  refine so.go rep (Step.refl W H) post fun dO S1 ov W1 H1 st1 s01 rep1 is1 post => ?_
  have is1 : Ist X.K W1 ov dO := is1
  cases dO with
  | obj j =>
    dsimp only at post
    obtain ⟨a, rfl, ha⟩ := is1.objv
    cases e1 : S1[j]? with
    | none => simp only [e1] at post; exact post.elim
    | some ob =>
      simp only [e1] at post
      cases ob with
      | ins c fs => exact post.elim
      | lst ds =>
        dsimp only at post
        cases e2 : ds[ds.length - 1]? with
        | none => simp only [e2] at post; exact post.elim
        | some d =>
          simp only [e2] at post
          obtain ⟨vs, h1, h2⟩ := rep1.wok.obs j a _ ha e1
          obtain ⟨y, h3, h4⟩ := h2.get e2
          have hmem : a ∈ W1.ad := List.mem_of_getElem? ha
          refine ⟨.inl ⟨rfl, vs, SqL.of h1⟩, a, vs, y, rfl, rfl, h1, by rw [h2.length]; exact h3, ?_⟩
          exact post y W1 _ (s01.own (s01.inad hmem)) (rep1.wok.put ha h1 h2.dropLast) h4
  | _ => exact (show False from post).elim
/-! ### == with a changing list -/
def seeM (S : Mem) : D → D
  | .obj k => (match S[k]? with
    | some (.lst ds) => .lst ds
    | _ => .obj k)
  | d => d
def eqM (S : Mem) (x y : D) : Option D := eqD (seeM S x) y
def neM (S : Mem) (x y : D) : Option D := neD (seeM S x) y
def binM (u : Mem → D → D → Option D) (fa fb : Sem) : Sem := fun ρ S => (fa ρ S).bind fun x S1 => (fb ρ S1).bind fun y S2 => Res.opt (u S2 x y) S2
def OpM (K : PySem.W.Frag) (G : Gm) (k : Rk) (r : R2) (g : Mem → D → D → Option D) : Prop := ∀ (S : Mem) (W : Wd) (H : Hp) (x y : V) (dx dy d : D) (Q : VK), WOk K G W S H → View K W H x dx → View K W H y dy → g S dx dy = some d → okE K G k W H Q d S → r x y H Q
theorem snd_binM {K : PySem.W.Frag} {ta tb : TE} {fa fb : Sem} {r : R2} {g : Mem → D → D → Option D} {kk : Rk} (sa : SndE K G E .v ta fa) (sb : SndE K G E .v tb fb) (hg : OpM K G kk r g) : SndE K G E kk (tOp r ta tb) (binM g fa fb) := by
  intro ρ σ S W H Q rep post
  refine sa.go rep (Step.refl W H) post fun dx S1 x W1 H1 st1 s01 rep1 is1 post => ?_
  refine sb.go rep1 s01 post fun dy S2 y W2 H2 st2 s02 rep2 is2 post => ?_
  cases e3 : g S2 dx dy with
  | none => rw [e3] at post; exact post.elim
  | some d =>
    rw [e3] at post
    exact hg S2 W2 H2 x y dx dy d Q rep2.wok (View.step st2 is1) is2 e3 fun v W' H' st3 ok3 rr => post v W' H' (s02.trans st3) ok3 (rr.pre s02)
theorem t_cmpM {a b : Expr} {fa fb : Sem} {op : CmpOp} {r : R2} {g : Mem → D → D → Option D} (ho : OpR X (compareOp op) r) (hg : OpM X.K G .v r g) (ha : SE G E .v X a fa) (hb : SE G E .v X b fb) (hm : behindInMarks op b = false) : ST G E X (.Compare a [op] [b] pos) (binM g fa fb) := by
  obtain ⟨ta, pa, sa⟩ := ha
  obtain ⟨tb, pb, sb⟩ := hb
  exact ⟨_, pt_cmpR ho pa pb hm, snd_test (snd_binM sa sb hg)⟩
theorem seeM_dp {K : PySem.W.Frag} {W : Wd} {S : Mem} {H : Hp} {v : V} {d : D} (k : WOk K G W S H) (c : pureD (seeM S d) = true) (q : View K W H v d) : Dp K H v (py (seeM S d)) := by
  cases d with
  | obj j =>
    unfold seeM at c ⊢
    dsimp only at c ⊢
    cases e1 : S[j]? with
    | none => rw [e1] at c; cases canLay_of c
    | some ob =>
      rw [e1] at c
      cases ob with
      | ins c' fs => cases canLay_of c
      | lst ds =>
        have c := canLay_of c
        rcases q with q | ⟨_, _, _, _, e, _⟩
        · obtain ⟨a, rfl, ha⟩ := q.objv
          obtain ⟨vs, h1, h2⟩ := k.obs j a _ ha e1
          exact .lst (SqL.of h1) (DpAll.ex k.sub (dpl_of ds (by simpa [py, PyData.canLay0] using c) h2))
        · cases e
  | _ => exact View.dp k c q
/-- a changing list, or not, beside plain data -/
def eqMD (S : Mem) (x y : D) : Option D := if pureD (seeM S x) && pureD y then some (.bl (PyData.eqv (py (seeM S x)) (py y))) else none
def neMD (S : Mem) (x y : D) : Option D := if pureD (seeM S x) && pureD y then some (.bl (!PyData.eqv (py (seeM S x)) (py y))) else none
theorem eqM_ok : OpM X.K G .i (rEqA X.K) eqMD := by
  intro S W H x y dx dy d Q wok ix iy e q
  unfold eqMD at e
  by_cases hz : (pureD (seeM S dx) && pureD dy) = true
  · rw [if_pos hz] at e
    cases e
    have hz := Bool.and_eq_true_iff.mp hz
    exact .inr ⟨_, _, seeM_dp wok hz.1 ix, iy.dp wok hz.2, hz.1, hz.2, q.here wok (.bl _)⟩
  · rw [if_neg hz] at e
    cases e
theorem neM_ok : OpM X.K G .i (rNeA X.K) neMD := by
  intro S W H x y dx dy d Q wok ix iy e q
  unfold neMD at e
  by_cases hz : (pureD (seeM S dx) && pureD dy) = true
  · rw [if_pos hz] at e
    cases e
    have hz := Bool.and_eq_true_iff.mp hz
    exact .inr ⟨_, _, seeM_dp wok hz.1 ix, iy.dp wok hz.2, hz.1, hz.2, q.here wok (.bl _)⟩
  · rw [if_neg hz] at e
    cases e
theorem OpM.iv {K : PySem.W.Frag} {r : R2} {g : Mem → D → D → Option D} (h : OpM K G .i r g) : OpM K G .v r g := fun S W H x y dx dy d Q wok ix iy e q => h S W H x y dx dy d Q wok ix iy e fun v W' H' st ok rr => q v W' H' st ok (.inl rr)
end
end Dl
/-! DlYc: sorted, of rows that begin with a text -/
namespace Dl
open PySem PySem.Spec PyProof.Rows L2
def txLt (x y : Str) : Bool := decide (x.cps.toList < y.cps.toList)
theorem txLt_swo {α : Type} (k : α → Str) : SrtO.Swo fun x y => txLt (k x) (k y) := by
  refine ⟨fun x y h => ?_, fun x y z h1 h2 => ?_⟩
  · unfold txLt at h ⊢
    exact decide_eq_false (List.lt_asymm (of_decide_eq_true h))
  · unfold txLt at h1 h2 ⊢
    have a : (k x).cps.toList ≤ (k y).cps.toList := List.not_lt.mp (of_decide_eq_false h1)
    have b : (k y).cps.toList ≤ (k z).cps.toList := List.not_lt.mp (of_decide_eq_false h2)
    exact decide_eq_false (List.not_lt.mpr (List.le_trans a b))
theorem txLt_irr (x : Str) : txLt x x = false := decide_eq_false (List.lt_irrefl _)
section
variable {prog : Program} {w : World} {A : Around} {E : Value → Shared → Prop} {s : Shared}
/-- v is a tuple that begins with the text x -/
def Row (h : Heap) (v : Value) (x : Str) : Prop := ∃ (a : Addr) (o : Obj) (n : Nat) (t : Tok) (us : List Value), v = .ref a ∧ h.get? a = some o ∧ o.cls = .type "tuple" ∧ o.data = .seq (List.toArray (.str x t :: us)) n
theorem row_same {b fin : Bool} {Q : Bool → Shared → Prop} (h : Q fin s) : ∀ (l : List Value) (i : Nat), PySem.W.KatLex prog w A b fin Q (l.zip l) i s
  | [], _ => PySem.W.kat_nil h
  | v :: l, i => PySem.W.kat_cons (SeqAt.EqAt.same v prog w _ _ (PySem.W.kat_yes (row_same h l (i + 1))))
theorem row_cmp {vs : List Value} {k : Value → Str} (hp : ∀ v ∈ vs, Row s.heap v (k v)) (hd : ∀ v ∈ vs, ∀ u ∈ vs, k v = k u → v = u) : SrtO.Cmp prog w A s (tuples' true) (fun p => p.1 ∈ vs) (SrtO.lt2 fun v u => txLt (k v) (k u)) := by
  intro p q hm hm'
  have h1 := hp _ hm
  have h2 := hp _ hm'
  have h3 := hd _ hm _ hm'
  show wpAny (model prog w) A (keyLt' (tuples' true) p.1 q.1) (fun r s' => s' = s ∧ r = txLt (k p.1) (k q.1)) (fun _ _ => False) s
  generalize k p.1 = x at h1 h3 ⊢
  generalize k q.1 = y at h2 h3 ⊢
  obtain ⟨a, o, n, t, us, e, ho, hc, hs⟩ := h1
  obtain ⟨a', o', n', t', us', e', ho', hc', hs'⟩ := h2
  rw [e, e']
  rw [e, e'] at h3
  refine PySem.W.kat_lt ho hs ho' hs' ?_
  by_cases q : x = y
  · have z := h3 q
    injection z with z
    subst z
    rw [ho] at ho'
    cases ho'
    rw [hs] at hs'
    injection hs' with hs1 _
    have hs2 : Value.str x t :: us = Value.str y t' :: us' := by simpa using congrArg Array.toList hs1
    rw [← hs2, q, txLt_irr]
    refine row_same ?_ _ _
    exact ⟨rfl, decide_eq_false (Nat.lt_irrefl _)⟩
  · have f : (x == y) = false := beq_eq_false_iff_ne.mpr q
    have eq0 := SeqAt.EqAt.str_str (A := A) (s := s) x t y t'
    rw [f] at eq0
    refine PySem.W.kat_cons (eq0 prog w _ _ ?_)
    refine PySem.W.kat_no ?_
    exact PyProof.Rows.oneLt_any_str ⟨rfl, rfl⟩
theorem row_firsts {h : Heap} {k : Value → Str} : ∀ vs : List Value, (∀ v ∈ vs, Row h v (k v)) → ∃ fs : List Value, PySem.W.KatTups h vs fs ∧ fs.length = vs.length ∧ ∀ f ∈ fs, ∃ x t, f = Value.str x t
  | [], _ => ⟨[], PySem.W.KatTups.nil, rfl, fun f hf => by simp at hf⟩
  | v :: vs, x => by
    obtain ⟨fs, kt, hl, hi⟩ := row_firsts vs fun u hu => x u (List.mem_cons_of_mem _ hu)
    obtain ⟨a, o, n, t, us, rfl, ho, hc, hs⟩ := x v List.mem_cons_self
    refine ⟨.str (k (.ref a)) t :: fs, PySem.W.KatTups.cons ho hc hs rfl kt, by rw [List.length_cons, List.length_cons, hl], fun f hf => ?_⟩
    rcases List.mem_cons.mp hf with rfl | hf
    · exact ⟨_, _, rfl⟩
    · exact hi f hf
theorem rows_sortable {a : Addr} {vs : List Value} {k : Value → Str} (h0 : 0 < vs.length) (hp : ∀ v ∈ vs, Row s.heap v (k v)) (hd : ∀ v ∈ vs, ∀ u ∈ vs, k v = k u → v = u) (ha : ∀ o, s.heap.get? a = some o → o.cls ≠ .type "tuple") : SrtO.SortableO prog w A s a vs fun v u => txLt (k v) (k u) := by
  intro h' keep
  have hp' : ∀ v ∈ vs, Row h' v (k v) := fun v hm => by
    obtain ⟨b, o, n, t, us, e, ho, hc, hs⟩ := hp v hm
    exact ⟨b, o, n, t, us, e, keep b o (fun z => by subst z; exact ha o ho hc) ho, hc, hs⟩
  obtain ⟨fs, h1, h2, h3⟩ := row_firsts vs hp'
  refine ⟨tuples' true, fun Q E hq => ?_, row_cmp hp' hd⟩
  refine PySem.W.kat_kind (T := .type "str") h1 (by omega) (fun f hm => ?_) (by rfl) ?_
  · obtain ⟨x, t, rfl⟩ := h3 f hm
    exact PySem.W.Looks.now
  · have e : (Value.type "str" != Value.type "tuple") = true := by first | decide +kernel | rfl | decide
    rw [e]
    exact hq
end
/-- the text that a tuple begins with, read off the heap -/
def headTx (h : Heap) : V → Str
  | .ref t => (match h.get? t with
    | some o => (match o.data with
      | .seq xs _ => (match xs.toList with
        | .str x _ :: _ => x
        | _ => ⟨#[]⟩)
      | _ => ⟨#[]⟩)
    | none => ⟨#[]⟩)
  | _ => ⟨#[]⟩
/-- sorted(xs), xs a list of tuples that begin with unlike texts: a new list, by the texts -/
def rSortedTx (K : PySem.W.Frag) : List V → Hp → VK → Prop := fun vs H Q => ∃ (a : Addr) (zs : List (V × Str)), vs = [V.ref a] ∧ SqL K H a (zs.map (·.1)) ∧ (∀ z ∈ zs, ∃ t ys, z.1 = V.ref t ∧ SqT K H t (.str z.2 :: ys)) ∧ (zs.map (·.2)).Nodup ∧
  ∀ (zs' : List (V × Str)) (p : Addr), zs'.Pairwise (fun x y => txLt y.2 x.2 = false) → zs'.Perm zs → H p = none → Q (.ref p) (upd H p (.lst (zs'.map (·.1))))
theorem nodup_inj {α β : Type} {f : α → β} : ∀ {l : List α}, (l.map f).Nodup → ∀ x ∈ l, ∀ y ∈ l, f x = f y → x = y
  | [], _, x, hx, _, _, _ => by cases hx
  | a :: l, h, x, hx, y, hy, e => by
    rw [List.map_cons, List.nodup_cons] at h
    rcases List.mem_cons.mp hx with ex | hx <;> rcases List.mem_cons.mp hy with ey | hy
    · rw [ex, ey]
    · exact absurd (List.mem_map.mpr ⟨y, hy, by rw [← e, ex]⟩) h.1
    · exact absurd (List.mem_map.mpr ⟨x, hx, by rw [e, ey]⟩) h.1
    · exact nodup_inj h.2 x hx y hy e
section
variable {X : Cx}
theorem cr_sortedTx : CallR X (.builtin "sorted") (rSortedTx X.K) := by
  intro pins s σ H vs us Q I r h
  obtain ⟨a, zs, rfl, hs, hx, hd, q⟩ := h
  obtain ⟨its, rv, hl, hz⟩ := I.list hs
  obtain ⟨u, rfl, ru⟩ := vals1 r
  obtain rfl : u = Value.ref a := ru
  obtain ⟨e1, e2⟩ := refs_back rv fun x m => by
    obtain ⟨z, hz, rfl⟩ := List.mem_map.mp m
    obtain ⟨t, _, e, _⟩ := hx z hz
    exact ⟨t, e⟩
  have hk : ∀ z ∈ zs, headTx s.heap z.1 = z.2 := fun z hz => by
    obtain ⟨t, ys, e, ht⟩ := hx z hz
    obtain ⟨its2, r2, ⟨o, ho, hc, n, hs2⟩, _⟩ := I.tuple ht
    rw [e]
    cases r2 with
    | cons a b =>
      obtain ⟨t1, rfl⟩ := a
      unfold headTx
      simp only [ho, hs2]
  have mem : ∀ v ∈ its, ∃ z ∈ zs, z.1 = backV v := fun v hv => by
    have : backV v ∈ zs.map (·.1) := by rw [e1]; exact List.mem_map.mpr ⟨_, hv, rfl⟩
    obtain ⟨z, hz, e⟩ := List.mem_map.mp this
    exact ⟨z, hz, e⟩
  have rows : ∀ v ∈ its, Row s.heap v (headTx s.heap (backV v)) := fun v hv => by
    obtain ⟨z, hz, ez⟩ := mem v hv
    rw [← ez, hk z hz]
    obtain ⟨t, rfl⟩ := e2 v hv
    obtain ⟨t', ys, e, ht⟩ := hx z hz
    rw [ez] at e
    cases e
    obtain ⟨its2, r2, ⟨o, ho, hc, n, hs2⟩, _⟩ := I.tuple ht
    cases r2 with
    | cons a b =>
      obtain ⟨t1, rfl⟩ := a
      exact ⟨t, o, n, t1, _, rfl, ho, hc, hs2⟩
  have uniq : ∀ v ∈ its, ∀ u ∈ its, headTx s.heap (backV v) = headTx s.heap (backV u) → v = u := fun v hv u hu e => by
    obtain ⟨z, hz, ez⟩ := mem v hv
    obtain ⟨z', hz', ez'⟩ := mem u hu
    rw [← ez, ← ez', hk z hz, hk z' hz'] at e
    have := nodup_inj hd z hz z' hz' e
    subst this
    obtain ⟨t, rfl⟩ := e2 v hv
    obtain ⟨t', rfl⟩ := e2 u hu
    have z : V.ref t = V.ref t' := ez.symm.trans ez'
    injection z with z
    rw [z]
  refine SrtO.sorted_ord (txLt_swo fun u => headTx s.heap (backV u)) hl.isList (by rw [← rv.length]; exact hz) (fun h2 h₁ b hb kk => ?_) fun out h1 h2 => ?_
  · refine rows_sortable (s := { s with heap := h₁ }) (k := fun u => headTx s.heap (backV u)) (by omega) (fun v hm => ?_) uniq fun o e => ?_
    · obtain ⟨c, o, n, t, us, e, ho, hc, hs⟩ := rows v hm
      exact ⟨c, o, n, t, us, e, (kk c o ho).2, hc, hs⟩
    · have e' : some o = some (seqObj "list" its.toArray 0) := e.symm.trans hb
      cases e'
      intro c
      exact absurd (Value.type.inj c) (by decide)
  · have h3 : ∀ u ∈ out, ∃ a, u = Value.ref a := fun u hu => e2 u (h2.perm.mem_iff.mp hu)
    have hb : (out.map backV).Perm (zs.map (·.1)) := by
      rw [e1]
      exact h2.perm.map backV
    have e0 : (out.map fun u => (backV u, headTx s.heap (backV u))).map (·.1) = out.map backV := by
      rw [List.map_map]
      rfl
    have ez : zs = (zs.map (·.1)).map fun x => (x, headTx s.heap x) := by
      rw [List.map_map]
      exact (List.map_id zs).symm.trans (List.map_congr_left fun z hz => by
        show z = (z.1, headTx s.heap z.1)
        rw [hk z hz])
    have q2 := q (out.map fun u => (backV u, headTx s.heap (backV u))) (s.heap.objs.size + 1) (List.pairwise_map.mpr h1) (by
      rw [ez]
      have := hb.map fun x => (x, headTx s.heap x)
      rw [List.map_map] at this
      exact this) (I.hok.fresh (Nat.le_succ _))
    rw [e0] at q2
    obtain ⟨n, hn⟩ := sortedAll_at s.heap its out.toArray
    refine ⟨.ref (s.heap.objs.size + 1), upd H (s.heap.objs.size + 1) (.lst (out.map backV)), I.laid (t' := s.toks) (fun b o e => sortedAll_old e) (Nat.le_succ _) ⟨?_, out, n, vals_back h3, hn⟩, rfl, q2⟩
    rw [hb.length_eq]
    exact hz
/-! ### what is denoted -/
def hdT : D → Str
  | .tup (.str x :: _) => x
  | _ => ⟨#[]⟩
def rowB : D → Bool
  | .tup (.str _ :: _) => true
  | _ => false
def srtR (ds : List D) : List D := ds.mergeSort fun a b => !txLt (hdT b) (hdT a)
def sortR : List D → Option D
  | [.lst ds] => if ds.all rowB = true ∧ (ds.map hdT).Nodup then some (.lst (srtR ds)) else none
  | _ => none
theorem txLt_total (x y : Str) (h : txLt x y = false) (h2 : txLt y x = false) : x = y := by
  have a : y.cps.toList ≤ x.cps.toList := List.not_lt.mp (of_decide_eq_false h)
  have b : x.cps.toList ≤ y.cps.toList := List.not_lt.mp (of_decide_eq_false h2)
  have e := List.le_antisymm a b
  obtain ⟨x⟩ := x
  obtain ⟨y⟩ := y
  have : x = y := Array.toList_inj.mp e.symm
  rw [this]
theorem srtR_ok (ds : List D) : (srtR ds).Perm ds ∧ (srtR ds).Pairwise fun x y => txLt (hdT y) (hdT x) = false := by
  refine ⟨List.mergeSort_perm _ _, ?_⟩
  have := List.pairwise_mergeSort (le := fun (a b : D) => !txLt (hdT b) (hdT a)) (fun a b c h1 h2 => by
    have h1 : txLt (hdT b) (hdT a) = false := by simpa using h1
    have h2 : txLt (hdT c) (hdT b) = false := by simpa using h2
    have := (txLt_swo hdT).tr a b c h1 h2
    simpa using this) (fun a b => by
    cases h : txLt (hdT b) (hdT a) with
    | false => simp
    | true =>
      have := (txLt_swo hdT).asym b a h
      simp [this]) ds
  exact this.imp fun h => by simpa using h
theorem perm_uniq {α : Type} {lt : α → α → Prop} (as : ∀ x y, lt x y → lt y x → False) {l m : List α} (p : l.Perm m) (h1 : l.Pairwise lt) (h2 : m.Pairwise lt) : l = m :=
  p.eq_of_pairwise (fun a b _ _ x y => (as a b x y).elim) h1 h2
theorem isL_mem {K : PySem.W.Frag} {W : Wd} : ∀ {T : List (V × D)}, (∀ t ∈ T, Ist K W t.1 t.2) → IstL K W (T.map (·.1)) (T.map (·.2))
  | [], _ => .nil
  | _ :: _, h => .cons (h _ List.mem_cons_self) (isL_mem fun t ht => h t (List.mem_cons_of_mem _ ht))
theorem isL_zip {K : PySem.W.Frag} {W : Wd} : ∀ {xs : List V} {ds : List D}, IstL K W xs ds → ∃ T : List (V × D), T.map (·.1) = xs ∧ T.map (·.2) = ds ∧ ∀ t ∈ T, Ist K W t.1 t.2
  | _, _, .nil => ⟨[], rfl, rfl, fun _ h => (by cases h)⟩
  | _, _, .cons (v := v) (d := d) a r => by
    obtain ⟨T, e1, e2, h⟩ := isL_zip r
    exact ⟨(v, d) :: T, by rw [List.map_cons, e1], by rw [List.map_cons, e2], fun t ht => by
      rcases List.mem_cons.mp ht with rfl | ht
      · exact a
      · exact h t ht⟩
theorem pairwise_ne {α β : Type} {f : α → β} {R : β → β → Prop} (tot : ∀ x y, R x y → x ≠ y → ¬ R y x) : ∀ {l : List α}, (l.map f).Nodup → l.Pairwise (fun x y => R (f x) (f y)) → l.Pairwise fun x y => R (f x) (f y) ∧ ¬ R (f y) (f x)
  | [], _, _ => List.Pairwise.nil
  | a :: l, h, p => by
    rw [List.map_cons, List.nodup_cons] at h
    rw [List.pairwise_cons] at p ⊢
    exact ⟨fun x hx => ⟨p.1 x hx, tot _ _ (p.1 x hx) fun e => h.1 (List.mem_map.mpr ⟨x, hx, e.symm⟩)⟩, pairwise_ne tot h.2 p.2⟩
theorem sortR_ok {G : Gm} : CallD X.K G .f (rSortedTx X.K) sortR := by
  intro S W H vs ds d Q wok is e q
  unfold sortR at e
  split at e
  · rename_i es
    by_cases h : es.all rowB = true ∧ (es.map hdT).Nodup
    · rw [if_pos h] at e
      cases e
      obtain ⟨v, rfl, i1⟩ := is.one
      obtain ⟨a, xs, rfl, h1, h2⟩ := View.lstv wok i1
      obtain ⟨T, rfl, rfl, hT⟩ := isL_zip h2
      refine ⟨a, T.map fun t => (t.1, hdT t.2), rfl, ?_, fun z hz => ?_, ?_, fun zs' p k1 k2 hp => ?_⟩
      · rw [List.map_map]
        exact SqL.of h1
      · obtain ⟨t, ht, rfl⟩ := List.mem_map.mp hz
        have hb := List.all_eq_true.mp h.1 t.2 (List.mem_map.mpr ⟨t, ht, rfl⟩)
        have it := hT t ht
        obtain ⟨v, d⟩ := t
        dsimp only at it hb ⊢
        unfold rowB at hb
        split at hb
        · rename_i x ys
          obtain ⟨b, ws, e, s1, s2⟩ := it.tupv
          cases s2 with
          | cons c r =>
            cases c
            exact ⟨b, _, e, SqT.ex wok.sub s1⟩
        · cases hb
      · rw [List.map_map]
        rw [List.map_map] at h
        exact h.2
      · obtain ⟨T', p1, e1⟩ := L2.perm_lift (fun t : V × D => (t.1, hdT t.2)) k2 T rfl
        have e2 : zs'.map (·.1) = T'.map (·.1) := by rw [← e1, List.map_map]; rfl
        have hn : (T'.map fun t => hdT t.2).Nodup := by
          have h3 := h.2
          rw [List.map_map] at h3
          exact (p1.map _).nodup_iff.mpr h3
        have tot : ∀ x y : Str, txLt y x = false → x ≠ y → ¬ txLt x y = false := fun x y a ne b => ne (txLt_total x y b a)
        have e3 : T'.map (·.2) = srtR (T.map (·.2)) := by
          obtain ⟨s1, s2⟩ := srtR_ok (T.map (·.2))
          refine perm_uniq (lt := fun x y => txLt (hdT y) (hdT x) = false ∧ ¬ txLt (hdT x) (hdT y) = false) (fun x y a b => a.2 b.1) ((p1.map _).trans s1.symm) ?_ ?_
          · refine pairwise_ne (f := hdT) (R := fun x y => txLt y x = false) tot (by rw [List.map_map]; exact hn) ?_
            rw [← e1] at k1
            exact List.pairwise_map.mpr (List.pairwise_map.mp k1)
          · exact pairwise_ne (f := hdT) (R := fun x y => txLt y x = false) tot ((s1.map hdT).nodup_iff.mpr h.2) s2
        rw [e2]
        refine q.newL wok ?_ hp
        rw [← e3]
        exact isL_mem fun t ht => hT t (p1.mem_iff.mp ht)
    · rw [if_neg h] at e
      cases e
  · cases e
end
theorem srtR_0 : srtR [] = [] := by simp [srtR]
theorem srtR_1 (a : D) : srtR [a] = [a] := by simp [srtR]
theorem srtR_2 (a b : D) : srtR [a, b] = if txLt (hdT b) (hdT a) = true then [b, a] else [a, b] := by
  unfold srtR
  rw [show [a, b] = [a] ++ [b] from rfl]
  simp [List.mergeSort, List.merge]
  cases txLt (hdT b) (hdT a) <;> simp
end Dl
/-! DlYd: lists put together and repeated, sorted(dict(pairs)), text.index -/
namespace Dl
open PySem PySem.Spec PyProof.Rows L2
def catD : D → D → Option D := fun x y => match x, y with | .lst xs, .lst ys => if xs.length + ys.length ≤ 1000000 then some (.lst (xs ++ ys)) else none | _, _ => none
def repD : D → D → Option D
  | .lst xs, .int k => if -(2 ^ 62) ≤ k ∧ k ≤ 1000000 ∧ xs.length * k.toNat ≤ 1000000 then some (.lst (List.replicate k.toNat xs).flatten) else none
  | _, _ => none
theorem isL_rep {K : PySem.W.Frag} {ad : List Addr} {h : Hp} {vs : List V} {ds : List D} (q : IsL K ad h vs ds) : ∀ n : Nat, IsL K ad h (List.replicate n vs).flatten (List.replicate n ds).flatten
  | 0 => .nil
  | n + 1 => by
    rw [List.replicate_succ, List.replicate_succ, List.flatten_cons, List.flatten_cons]
    exact q.append (isL_rep q n)
section
variable {X : Cx} {G : Gm} {E : L2.XK}
theorem rep_ok : OpD X.K G .f rRep repD := by
  intro S W H x y dx dy d Q wok ix iy e q
  unfold repD at e
  split at e
  · rename_i xs k
    by_cases hz : -(2 ^ 62) ≤ k ∧ k ≤ 1000000 ∧ xs.length * k.toNat ≤ 1000000
    · rw [if_pos hz] at e
      cases e
      obtain ⟨a, vs, rfl, h1, h2⟩ := ix.lstv wok
      refine ⟨a, k, vs, rfl, iy.intv, h1, by omega, by omega, by rw [h2.length]; exact sz6 hz.2.2, fun p hp => q.newL wok (isL_rep h2 _) hp⟩
    · rw [if_neg hz] at e
      cases e
  · cases e
/-! ### sorted(dict(pairs)) -/
def intKeys : List D → Option (List Int)
  | [] => some []
  | .tup [.int k, _] :: ds => (intKeys ds).map (k :: ·)
  | _ => none
def dedupI : List Int → List Int → List Int
  | acc, [] => acc
  | acc, k :: ks => dedupI (if k ∈ acc then acc else acc ++ [k]) ks
def sortI (is : List Int) : List Int := is.mergeSort fun a b => decide (a ≤ b)
def sdic (fe : Sem) : Sem := fun ρ S => (fe ρ S).bind fun d S1 => match d with
  | .lst ds => (match intKeys ds with
    | some ks => if ks.length < 64 then .ok (.lst ((sortI (dedupI [] ks)).map .int)) S1 else .no
    | none => .no)
  | _ => .no
theorem keys_put (acc : List (Key × V)) (k : Int) (v : V) (is : List Int) (h : acc.map (·.1) = is.map Sum.inl) : (putK acc (Sum.inl k) v).map (·.1) = (if k ∈ is then is else is ++ [k]).map Sum.inl := by
  have hm : (acc.any fun kv => decide (kv.1 = Sum.inl k)) = true ↔ k ∈ is := by
    rw [List.any_eq_true]
    constructor
    · rintro ⟨kv, hkv, e⟩
      have e : kv.1 = Sum.inl k := of_decide_eq_true e
      have : Sum.inl k ∈ is.map (Sum.inl : Int → Key) := by rw [← h]; exact List.mem_map.mpr ⟨kv, hkv, e⟩
      obtain ⟨j, hj, e2⟩ := List.mem_map.mp this
      cases e2
      exact hj
    · intro hk
      have : (Sum.inl k : Key) ∈ acc.map (·.1) := by rw [h]; exact List.mem_map.mpr ⟨k, hk, rfl⟩
      obtain ⟨kv, hkv, e⟩ := List.mem_map.mp this
      exact ⟨kv, hkv, decide_eq_true e⟩
  unfold putK
  by_cases q : k ∈ is
  · rw [if_pos (hm.mpr q), if_pos q, List.map_map, ← h]
    refine List.map_congr_left fun kv _ => ?_
    show (if kv.1 = Sum.inl k then (kv.1, v) else kv).1 = kv.1
    split <;> rfl
  · rw [if_neg (fun z => q (hm.mp z)), if_neg q, List.map_append, List.map_append, h]
    rfl
theorem keys_merge : ∀ (kvs : List (Key × V)) (ks : List Int) (acc : List (Key × V)) (is : List Int), kvs.map (·.1) = ks.map Sum.inl → acc.map (·.1) = is.map Sum.inl → (mergeK acc kvs).map (·.1) = (dedupI is ks).map Sum.inl
  | [], [], acc, is, _, h => h
  | kv :: kvs, k :: ks, acc, is, h1, h2 => by
    rw [List.map_cons, List.map_cons] at h1
    injection h1 with e1 e2
    obtain ⟨kk, v⟩ := kv
    have e1 : kk = Sum.inl k := e1
    subst e1
    exact keys_merge kvs ks _ _ e2 (keys_put acc k v is h2)
  | [], _ :: _, _, _, h, _ => by cases h
  | _ :: _, [], _, _, h, _ => by cases h
theorem dedup_len : ∀ (ks acc : List Int), (dedupI acc ks).length ≤ acc.length + ks.length
  | [], acc => Nat.le_refl _
  | k :: ks, acc => by
    have := dedup_len ks (if k ∈ acc then acc else acc ++ [k])
    rw [dedupI, List.length_cons]
    split at this
    · rename_i q; rw [if_pos q]; omega
    · rename_i q; rw [if_neg q]; rw [List.length_append, List.length_singleton] at this; omega
theorem pairs_is {K : PySem.W.Frag} {W : Wd} {H : Hp} (sub : ∀ a o, W.h a = some o → H a = some o) : ∀ {vs : List V} {ds : List D} {ks : List Int}, IstL K W vs ds → intKeys ds = some ks → ∃ (ps : List Addr) (kvs : List (Key × V)), vs = ps.map V.ref ∧ Paired (fun p kv => SqT K H p [kV kv.1, kv.2]) ps kvs ∧ kvs.map (·.1) = ks.map Sum.inl
  | _, _, ks, .nil, e => by
    cases e
    exact ⟨[], [], rfl, .nil, rfl⟩
  | _, _, ks, .cons (d := d) (ds := ds) a r, e => by
    unfold intKeys at e
    split at e
    · rename_i h; cases h
    · rename_i k y ds' h
      injection h with h1 h2
      subst h1 h2
      obtain ⟨ks', e2, rfl⟩ := Option.map_eq_some_iff.mp e
      obtain ⟨ps, kvs, rfl, h3, h4⟩ := pairs_is sub r e2
      obtain ⟨b, ws, rfl, s1, s2⟩ := a.tupv
      cases s2 with
      | cons i s2 =>
        cases i
        obtain ⟨z, rfl, iz⟩ := s2.one
        exact ⟨b :: ps, (Sum.inl k, z) :: kvs, rfl, .cons (SqT.ex sub s1) h3, by rw [List.map_cons, List.map_cons, h4]⟩
    · cases e
theorem sortI_ok (is : List Int) : (sortI is).Perm is ∧ (sortI is).Pairwise (· ≤ ·) := by
  refine ⟨List.mergeSort_perm _ _, ?_⟩
  have := List.pairwise_mergeSort (le := fun (a b : Int) => decide (a ≤ b)) (fun a b c h1 h2 => by simp at *; omega) (fun a b => by simp; omega) is
  exact this.imp fun h => by simpa using h
theorem e_sdic {e : Expr} {fe : Sem} {p p' pos pos' : Pos} (hc : X.calm = true) (hs : Gl X "sorted") (hms : X.mg "sorted" = none) (hd : Gl X "dict") (hmd : X.mg "dict" = none) (he : SE G E .v X e fe)
    (s1 : starEach [e] X.env = (false, eval e X.env) :: starEach [] X.env := by rfl) (b1 : (backTo pos' (starEach [] X.env)).any (·.1) = false := by rfl)
    (s2 : starEach [Expr.Call (.Name "dict" p') [e] [] pos'] X.env = (false, eval (.Call (.Name "dict" p') [e] [] pos') X.env) :: starEach [] X.env := by rfl) (b2 : (backTo pos (starEach [] X.env)).any (·.1) = false := by rfl) :
    SE G E .f X (.Call (.Name "sorted" p) [.Call (.Name "dict" p') [e] [] pos'] [] pos) (sdic fe) := by
  obtain ⟨te, pe, se⟩ := he
  refine ⟨_, pe_callB (call_sortedDI hc) hs hms PyProof.Rows.boot_sorted (pa_cons (pe_callTy (call_dictP hc) hd hmd PyProof.Rows.boot_dict (pa_cons pe pa_nil s1) (by decide) (by decide) s1 b1) pa_nil s2) (by decide) (by decide) s2 b2, fun ρ σ S W H Q rep post => ?_⟩
  refine se.go rep (Step.refl W H) post fun d S1 v W1 H1 st1 s01 rep1 is1 post => ?_
  cases d with
  | lst ds =>
    dsimp only at post
    cases ek : intKeys ds with
    | none => rw [ek] at post; exact post.elim
    | some ks =>
      simp only [ek] at post
      by_cases hz : ks.length < 64
      · rw [if_pos hz] at post
        obtain ⟨a, xs, rfl, h1, h2⟩ := is1.lstv rep1.wok
        obtain ⟨ps, kvs, rfl, h3, h4⟩ := pairs_is rep1.wok.sub h2 ek
        refine ⟨a, ps, kvs, rfl, SqL.of h1, h3, fun p hp => ?_⟩
        have km := keys_merge kvs ks [] [] h4 rfl
        refine ⟨p, _, _, rfl, Rd.of upd_same, km, by have := dedup_len ks []; simp at this; omega, fun ys p2 k1 k2 hp2 => ?_⟩
        have ok2 := rep1.wok.up (up_new (o := .dK (mergeK [] kvs)) hp)
        have e1 : ys = sortI (dedupI [] ks) := by
          obtain ⟨q1, q2⟩ := sortI_ok (dedupI [] ks)
          exact PySem.W.ksm_same (k1.trans q1.symm) k2 q2
        rw [e1]
        exact okE.newL (fun v' W' H' st3 ok3 rr => post v' W' H' ((s01.trans (Step.up (up_new hp))).trans st3) ok3 (rr.pre (k := .f) (s01.trans (Step.up (up_new hp))))) ok2 ints_is hp2
      · rw [if_neg hz] at post
        exact post.elim
  | _ => exact post.elim
/-! ### text.index -/
def sidxD (z : Str) : D → Option D
  | .str y => (match PySem.Builtin.Str.occurrences z y 0 z.length 1 with
    | i :: _ => some (.int (i : Nat))
    | [] => none)
  | _ => none
variable {a b : Expr} {fa fb : Sem}
theorem e_sindex {apos cpos : Pos} (ha : SE G E .v X a fa) (hb : SE G E .v X b fb) (hbase : attributeBase a "index" X.env (eval a X.env) = eval a X.env := by rfl)
    (hfew : ((backTo cpos (starEach [b] X.env)).all (fun x => !x.1) && (backToKw cpos (keywordEach [] X.env)).all (fun x => x.1.isSome)
      && decide ([b].length + ([] : List Keyword).length + (if ([] : List Keyword).isEmpty then 0 else 1) < 30)) = true := by rfl)
    (hline : (apos.endLine == cpos.line) = true := by rfl) (hst : starEach [b] X.env = (false, eval b X.env) :: starEach [] X.env := by rfl) (hplain : (backTo cpos (starEach [] X.env)).any (·.1) = false := by rfl) :
    SE G E .i X (.Call (.Attribute a "index" apos) [b] [] cpos) (sm1 sidxD fa fb) := by
  refine e_sm1 PySem.F.slot_str_index PySem.F.type_str_index mt_sindex (fun S W H s y dy d Q wok iy e q => ?_) ha hb hbase hfew hline hst hplain
  cases dy with
  | str z =>
    unfold sidxD at e
    dsimp only at e
    split at e
    · rename_i i rest ho
      cases e
      exact ⟨s, _, i, rest, rfl, by rw [iy.strv], ho, q.here wok (.int _)⟩
    · cases e
  | _ => cases e
end
end Dl
/-! DlYe: a written dict with text keys asked by get; two names set at once, the second to a new list; an own list returned -/
namespace Dl
open PySem PySem.Spec PyProof.Rows L2
/-- a written dict: what stands at some keys -/
def KTab (K : PySem.W.Frag) (w : World) (a : Addr) (kvs : List (Str × Option Int)) : Prop := ∃ es n, KDict K w a es n ∧ ∀ z o, kvs.lookup z = some o → match o with
  | some i => ∃ t, PySem.W.nsIn K a z = some (some (.int i t))
  | none => PySem.W.nsIn K a z = some none
def kgetD (kvs : List (Str × Option Int)) : D → D → Option D
  | .str z, .int d => (match kvs.lookup z with
    | some (some i) => some (.int i)
    | some none => some (.int d)
    | none => none)
  | _, _ => none
def kgt (kvs : List (Str × Option Int)) (fa fb : Sem) : Sem := fun ρ S => (fa ρ S).bind fun x S1 => (fb ρ S1).bind fun y S2 => Res.opt (kgetD kvs x y) S2
def tKGet (K : PySem.W.Frag) (w : World) (kvs : List (Str × Option Int)) (to ty tx : TE) : TE := fun σ H Q => to σ H fun x H1 => ∃ a, x = .ref a ∧ KTab K w a kvs ∧ ty σ H1 fun y H2 => tx σ H2 fun v H3 => ∃ z d o, y = .str z ∧ v = .int d ∧ kvs.lookup z = some o ∧ Q (.int (o.getD d)) H3
section
variable {X : Cx} {G : Gm} {E : L2.XK} {a b : Expr} {fa fb f : Sem} {pos : Pos} {k : Rk}
theorem pe_kget {o e f : Expr} {apos cpos : Pos} {to ty tx : TE} {kvs : List (Str × Option Int)} (ho : PE X o to) (he : PE X e ty) (hf : PE X f tx) (m : M2 X o "get" apos e f cpos) : PE X (.Call (.Attribute o "get" apos) [e, f] [] cpos) (tKGet X.K X.w kvs to ty tx) := by
  refine ⟨fun pins s σ H Q I h => ?_⟩
  refine wpAny_Call_method m.base m.few m.line PySem.F.plainAttrs_dict PySem.F.slot_dict_get PySem.F.type_dict_get (thn (ho.run pins s σ H _ I h) fun u s1 ⟨x, H1, I1, rx, a, ex, ⟨es, n, D, hk⟩, q1⟩ => ?_)
  subst ex
  obtain rfl : u = Value.ref a := rx
  have dm := PySem.W.mapOf_K (prog := X.prog) (w := X.w) I1.kIn D.at_ D.lit
  refine ⟨dm.typeIs, fun b q => ?_, ?_⟩
  · cases q
    exact ⟨_, I1.kIn _ _ D.at_, rfl⟩
  rw [m.trees]
  refine Calls.callWith_builtin rfl (Calls.evalArgs_plain (Calls.spliced_cons (thn (he.run pins s1 σ H1 _ I1 q1) fun iv s2 ⟨y, H2, I2, ry, q2⟩ =>
    Calls.spliced_cons (thn (hf.run pins s2 σ H2 _ I2 q2) fun fv s3 ⟨v, H3, I3, rv, z, d, r, ey, ev, hl, q3⟩ => Calls.spliced_nil ?_))))
  subst ey ev
  obtain ⟨t, rfl⟩ := ry
  obtain ⟨t2, rfl⟩ := rv
  have dm3 := PySem.W.mapOf_K (prog := X.prog) (w := X.w) I3.kIn D.at_ D.lit
  refine call_meetsIn PySem.F.slot_dict_get dm3.typeIs PySem.F.entry_dict_get (PySem.F.args_dict_get_3 _ _ _) (meets_dict_get_default (strKind X.prog X.w) a (strKind_is X.prog X.w z t) D.low (.int d t2)) ⟨_, dm3, ⟨_, H3, I3.tok _, ?_, q3⟩⟩
  have hz := hk z r hl
  cases r with
  | none =>
    have e := PySem.W.find_K D.at_ hz
    show RelV (.int d) _
    rw [e]
    exact ⟨t2, rfl⟩
  | some i =>
    obtain ⟨t3, hz⟩ := hz
    have e := PySem.W.find_K D.at_ hz
    show RelV (.int i) _
    rw [e]
    exact ⟨t3, rfl⟩
theorem e_kget {x : Str} {p apos cpos : Pos} {ad : Addr} {kvs : List (Str × Option Int)} (hg : Gl X x) (hm : X.mg x = some (.ref ad)) (ht : KTab X.K X.w ad kvs) (ha : SE G E .v X a fa) (hb : SE G E .v X b fb)
    (hbase : attributeBase (.Name x p) "get" X.env (eval (.Name x p) X.env) = eval (.Name x p) X.env := by rfl)
    (hfew : ((backTo cpos (starEach [a, b] X.env)).all (fun x => !x.1) && (backToKw cpos (keywordEach [] X.env)).all (fun x => x.1.isSome)
      && decide (([a, b] : List Expr).length + ([] : List Keyword).length + (if ([] : List Keyword).isEmpty then 0 else 1) < 30)) = true := by rfl)
    (hline : (apos.endLine == cpos.line) = true := by rfl) (htr : backTo cpos (starEach [a, b] X.env) = [(false, eval a X.env), (false, eval b X.env)] := by rfl) (hdb : (x == ("__debug__" : Str)) = false := by decide) :
    SE G E .i X (.Call (.Attribute (.Name x p) "get" apos) [a, b] [] cpos) (kgt kvs fa fb) := by
  obtain ⟨ta, pa, sa⟩ := ha
  obtain ⟨tb, pb, sb⟩ := hb
  refine ⟨_, pe_kget (kvs := kvs) (pe_glob (v := .ref ad) hg hm rfl hdb) pa pb ⟨hbase, hfew, hline, htr⟩, fun ρ σ S W H Q rep post => ?_⟩
  refine ⟨ad, rfl, ht, ?_⟩
  refine sa.go rep (Step.refl W H) post fun d S1 v W1 H1 st1 s01 rep1 is1 post => ?_
  refine sb.go rep1 s01 post fun d' S2 v' W2 H2 st2 s02 rep2 is2 post => ?_
  cases d with
  | str z =>
    cases d' with
    | int n =>
      unfold kgetD at post
      dsimp only at post
      cases hl : kvs.lookup z with
      | none => simp only [hl] at post; exact post.elim
      | some r =>
        simp only [hl] at post
        refine ⟨z, n, r, is1.strv, is2.intv, hl, ?_⟩
        cases r with
        | none => exact post _ W2 _ s02 rep2.wok (.int _)
        | some i => exact post _ W2 _ s02 rep2.wok (.int _)
    | _ => exact post.elim
  | _ => exact post.elim
/-! ### x, y = e, [..] -/
def parO (i j : Nat) (fa fb : Sem) : SemS := fun ρ S => (fa ρ S).bindF fun d S1 => (fb ρ S1).bindF fun e S2 => match e with
  | .lst ds => .nx ((ρ.set i (.dat d)).set j (.own ds)) S2
  | _ => .no
theorem s_parO {i j : Nat} {x y : Str} {px py pt : Pos} {kt k2 : Nat} {pt2 : Pos} (hc : X.calm = true) (hN : X.N.Nodup) (hi : X.N[i]? = some x) (hj : X.N[j]? = some y) (hij : i ≠ j) (hx : X.env.scope.names.lookup x = some .local) (hy : X.env.scope.names.lookup y = some .local)
    (ha : SE G E .i X a fa) (hb : SE G E .f X b fb) (h1 : starEach [a, b] X.env = (false, eval a X.env) :: starEach [b] X.env := by rfl) (h2 : starEach [b] X.env = (false, eval b X.env) :: starEach [] X.env := by rfl)
    (hw : swappedStores [.Tuple [.Name x px, .Name y py] kt pt] (.Tuple [a, b] k2 pt2) X.env = pure (some [x, y]) := by rfl) (hs : swapsWithSole [.Tuple [.Name x px, .Name y py] kt pt] (.Tuple [a, b] k2 pt2) pos.line X.env = pure false := by rfl) :
    SS G E k X (.Assign [.Tuple [.Name x px, .Name y py] kt pt] (.Tuple [a, b] k2 pt2) pos) (parO i j fa fb) := by
  obtain ⟨ta, pa, sa⟩ := ha
  obtain ⟨tb, pb, sb⟩ := hb
  refine ⟨_, ps_par hc hN hi hj hij hx hy (pa_cons pa (pa_cons pb pa_nil h2) h1) hw hs, fun Wb W0 H0 ρ σ S W H Dn r post => ?_⟩
  refine sa.goS r post fun d S1 v W1 H1 st1 r1 is1 post => ?_
  refine sb.goS r1 post fun d' S2 v' W2 H2 st2 r2 rr post => ?_
  obtain ⟨l, vs, ds, rfl, rfl, e1, e2, e3, e4, e5⟩ := rr
  have nl : ∀ (m : Nat) (es : List D), ρ[m]? = some (.own es) → σ[m]? ≠ some (some (.ref l)) := fun m es h1 h2 => by
    obtain ⟨q, ws, f1, f2, _⟩ := r1.rep.owns h1
    rw [h2] at f1
    cases f1
    rw [e1] at f2
    cases f2
  have r3 := r2.set (i := i) (Is.step st2 is1)
  have nl3 : ∀ (m : Nat) (es : List D), (ρ.set i (.dat d))[m]? = some (.own es) → (σ.set i (some v))[m]? ≠ some (some (.ref l)) := fun m es h1 h2 => by
    by_cases hm : i = m
    · subst hm
      have hl : i < ρ.length := by
        have := (List.getElem?_eq_some_iff.mp h1).1
        rwa [List.length_set] at this
      rw [List.getElem?_set_self hl] at h1
      cases h1
    · rw [List.getElem?_set_ne hm] at h1 h2
      exact nl m es h1 h2
  refine ⟨v, .ref l, rfl, post _ W2 H2 ⟨r3.rep.setOwn e2 e3 e4 e5 nl3, r3.st, fun m es q h1 h2 => ?_, r3.ge⟩⟩
  by_cases hm : j = m
  · subst hm
    have hl : j < (σ.set i (some v)).length := by
      have := (List.getElem?_eq_some_iff.mp h1).1
      rw [List.length_set, r3.rep.len] at this
      exact this
    rw [List.getElem?_set_self hl] at h2
    cases h2
    exact r1.st.back e1
  · rw [List.getElem?_set_ne hm] at h1 h2
    exact r3.own m es q h1 h2
theorem e_kgetE {x : Str} {p apos cpos : Pos} {kvs : List (Str × Option Int)} (hg : Gl X x) (ht : ∃ ad, X.mg x = some (.ref ad) ∧ KTab X.K X.w ad kvs) (ha : SE G E .v X a fa) (hb : SE G E .v X b fb)
    (hbase : attributeBase (.Name x p) "get" X.env (eval (.Name x p) X.env) = eval (.Name x p) X.env := by rfl)
    (hfew : ((backTo cpos (starEach [a, b] X.env)).all (fun x => !x.1) && (backToKw cpos (keywordEach [] X.env)).all (fun x => x.1.isSome)
      && decide (([a, b] : List Expr).length + ([] : List Keyword).length + (if ([] : List Keyword).isEmpty then 0 else 1) < 30)) = true := by rfl)
    (hline : (apos.endLine == cpos.line) = true := by rfl) (htr : backTo cpos (starEach [a, b] X.env) = [(false, eval a X.env), (false, eval b X.env)] := by rfl) (hdb : (x == ("__debug__" : Str)) = false := by decide) :
    SE G E .i X (.Call (.Attribute (.Name x p) "get" apos) [a, b] [] cpos) (kgt kvs fa fb) := by
  obtain ⟨ad, hm, ht⟩ := ht
  exact e_kget hg hm ht ha hb hbase hfew hline htr hdb
end
/-- the same, looked at in the kernel -/
def ktB (K : PySem.W.Frag) (a : Addr) (kvs : List (Str × Option Int)) : Bool := kvs.all fun q => match q.2 with
  | some i => (match PySem.W.nsIn K a q.1 with
    | some (some (.int j _)) => decide (j = i)
    | _ => false)
  | none => He.eqO (PySem.W.nsIn K a q.1) (some none)
theorem lookup_mem' {z : Str} {o : Option Int} : ∀ {kvs : List (Str × Option Int)}, kvs.lookup z = some o → (z, o) ∈ kvs
  | [], h => by cases h
  | (y, r) :: kvs, h => by
    rw [List.lookup_cons] at h
    split at h
    · rename_i e
      have e : z = y := beq_iff_eq.mp e
      cases h
      rw [e]
      exact List.mem_cons_self
    · exact List.mem_cons_of_mem _ (lookup_mem' h)
theorem ktab_of {K : PySem.W.Frag} {w : World} {a : Addr} {kvs : List (Str × Option Int)} (h : ∃ es n, KDict K w a es n) (e : ktB K a kvs = true) : KTab K w a kvs := by
  obtain ⟨es, n, D⟩ := h
  refine ⟨es, n, D, fun z o hl => ?_⟩
  have q := List.all_eq_true.mp e _ (lookup_mem' hl)
  cases o with
  | none => exact He.eqO_ok q
  | some i =>
    dsimp only at q ⊢
    split at q
    · rename_i j t e2
      have q : j = i := of_decide_eq_true q
      subst q
      exact ⟨t, e2⟩
    · cases q
end Dl
/-! DlYf: a changing list told apart, as a value; the greatest of a tuple of ints. -/
namespace Dl
open PySem PySem.Spec PyProof.Rows L2
section
variable {G : Gm} {E : XK} {X : Cx} {pos : Pos}
theorem e_cmpM {a b : Expr} {fa fb : Sem} {op : CmpOp} {r : R2} {k : Rk} {g : Mem → D → D → Option D} (ho : OpR X (compareOp op) r) (hg : OpM X.K G k r g) (ha : SE G E .v X a fa) (hb : SE G E .v X b fb) (hm : behindInMarks op b = false) : SE G E k X (.Compare a [op] [b] pos) (binM g fa fb) := by
  obtain ⟨ta, pa, sa⟩ := ha
  obtain ⟨tb, pb, sb⟩ := hb
  exact ⟨_, pe_cmpR ho pa pb hm, snd_binM sa sb hg⟩
/-! ### max of a tuple -/
def maxtD : List D → Option D
  | [.tup ds] => ((intsOf ds).bind maxL).map fun m => .int m
  | _ => none
def rMaxT (K : PySem.W.Frag) : List V → Hp → VK → Prop := fun vs H Q => ∃ (a : Addr) (n : Int) (ns : List Int), vs = [V.ref a] ∧ SqT K H a ((n :: ns).map V.int) ∧ Q (.int (ns.foldl (fun a b => if b > a then b else a) n)) H
theorem held_ints {h : Heap} {vs : List Value} {ns : List Int} (i : IntsAre vs ns) : PySem.W.HoldAll h vs ns := by
  induction i with
  | nil => exact ⟨_, .nil⟩
  | cons n t _ ih =>
    obtain ⟨as, r⟩ := ih
    exact ⟨_, .cons (.int n t) r⟩
theorem maxOf_int (ns : List Int) (n : Int) : PySem.W.maxOf n ns = ns.foldl (fun a b => if b > a then b else a) n := by
  unfold PySem.W.maxOf
  congr 1
  funext a b
  show (if decide (a < b) = true then b else a) = _
  by_cases h : a < b
  · rw [if_pos (decide_eq_true h), if_pos h]
  · rw [if_neg (by rw [decide_eq_false h]; decide), if_neg h]
theorem cr_maxT (hc : X.calm = true) (hu : X.A.units + 64 < cLine) : CallR X (.builtin "max") (rMaxT X.K) := by
  intro pins s σ H vs us Q I r h
  obtain ⟨a, n, ns, rfl, hs, q⟩ := h
  obtain ⟨its, rv, hl, _⟩ := I.tuple hs
  rw [Vals.ref1 r]
  refine PySem.W.max_tuple_datum (x := n) (xs := ns) (I.ok.hd hc) hl (held_ints rv.ints) (by show X.A.units + 1 + 0 < cLine; omega) fun i v h' tk hi hv hk => ?_
  obtain ⟨as, hv⟩ := hv
  rw [maxOf_int] at hv
  cases hv with
  | int m t => exact ⟨.int _, H, I.kept hk, ⟨_, rfl⟩, q⟩
theorem maxt_ok : CallD X.K G .i (rMaxT X.K) maxtD := by
  intro S W H vs ds d Q wok is e q
  unfold maxtD at e
  split at e
  · obtain ⟨v, rfl, i1⟩ := is.one
    obtain ⟨a, xs, rfl, h1, h2⟩ := View.tupv wok i1
    obtain ⟨m, h3, rfl⟩ := Option.map_eq_some_iff.mp e
    obtain ⟨js, h4, h5⟩ := Option.bind_eq_some_iff.mp h3
    cases js with
    | nil => cases h5
    | cons j js =>
      cases h5
      exact ⟨a, j, js, rfl, by rw [← ints_of h2 h4]; exact h1, q.here wok (.int _)⟩
  · cases e
end
end Dl
/-! DlYg: a def called with lists in the making, that holds on to none of them; an own list returned. -/
namespace Dl
open PySem L2
mutual
def noObj : D → Bool
  | .non => true
  | .bl _ => true
  | .int _ => true
  | .str _ => true
  | .tup ds => noObjL ds
  | .lst ds => noObjL ds
  | .frz ds => noObjL ds
  | _ => false
def noObjL : List D → Bool
  | [] => true
  | d :: ds => noObj d && noObjL ds
end
def smallD : D → Bool
  | .non => true
  | .bl _ => true
  | .int _ => true
  | .str _ => true
  | _ => false
section
variable {K : PySem.W.Frag} {ad : List Addr} {h h' : Hp}
mutual
theorem Is.bare (e : ∀ a o, h a = some o → h' a = some o) : ∀ {v : V} {d : D}, noObj d = true → Is K ad h v d → Is K [] h' v d
  | _, .non, _, .non => .non
  | _, .bl _, _, .bl b => .bl b
  | _, .int _, _, .int i => .int i
  | _, .str _, _, .str x => .str x
  | _, .lst _, n, .lst q r => .lst (e _ _ q) (IsL.bare e n r)
  | _, .frz _, n, .frz q r => .frz (SqL.ex e q) (IsL.bare e n r)
  | _, .tup _, n, .tup q r => .tup (SqT.ex e q) (IsL.bare e n r)
theorem IsL.bare (e : ∀ a o, h a = some o → h' a = some o) : ∀ {vs : List V} {ds : List D}, noObjL ds = true → IsL K ad h vs ds → IsL K [] h' vs ds
  | _, _, _, .nil => .nil
  | _, _ :: _, n, .cons q r => .cons (Is.bare e (Bool.and_eq_true_iff.mp n).1 q) (IsL.bare e (Bool.and_eq_true_iff.mp n).2 r)
end
theorem Is.flat {ad' : List Addr} : ∀ {v : V} {d : D}, smallD d = true → Is K ad h v d → Is K ad' h' v d
  | _, .non, _, .non => .non
  | _, .bl _, _, .bl b => .bl b
  | _, .int _, _, .int i => .int i
  | _, .str _, _, .str x => .str x
end
def bareH (H : Hp) : Hp := fun a => match H a with
  | some (.tbl _) => none
  | o => o
theorem bare_at {H : Hp} {a : Addr} {o : HO} (h : H a = some o) (n : ∀ ps, o ≠ .tbl ps) : bareH H a = some o := by
  unfold bareH
  rw [h]
  cases o with
  | tbl ps => exact absurd rfl (n ps)
  | _ => rfl
theorem bare_of {H : Hp} {a : Addr} {o : HO} (h : bareH H a = some o) : H a = some o ∧ ∀ ps, o ≠ .tbl ps := by
  unfold bareH at h
  cases e : H a with
  | none => rw [e] at h; cases h
  | some u =>
    rw [e] at h
    cases u with
    | tbl ps => cases h
    | _ =>
      cases h
      exact ⟨rfl, fun ps q => by cases q⟩
section
variable {K : PySem.W.Frag} {G : Gm} {W : Wd} {S : Mem} {H H' : Hp}
theorem WOk.bare (k : WOk K G W S H) : WOk K G ⟨bareH H, []⟩ [] H :=
  ⟨fun a o h => (bare_of h).1, fun a ps h => (bare_of h).2 ps rfl, (fun a ha => (nomatch ha)), List.nodup_nil, rfl, (fun i a o h => (nomatch h)), k.tab⟩
theorem View.bare {v : V} {d : D} (k : WOk K G W S H) (n : noObj d = true) (q : View K W H v d) : Is K [] (bareH H) v d := by
  have sub : ∀ a o, W.h a = some o → bareH H a = some o := fun a o h => bare_at (k.sub a o h) fun ps e => k.ntb a ps (by rw [h, e])
  rcases q with q | ⟨l, vs, ds, rfl, rfl, e3, e4, _, _⟩
  · exact Is.bare sub n q
  · exact .lst (bare_at e3 fun ps q => by cases q) (IsL.bare sub n e4)
theorem views_bare (k : WOk K G W S H) : ∀ {vs : List V} {ds : List D}, noObjL ds = true → AllR (RA K true W H) vs ds → IsL K [] (bareH H) vs ds
  | _, _, _, .nil => .nil
  | _, _, n, .cons a b => .cons (View.bare k (Bool.and_eq_true_iff.mp n).1 a) (views_bare k (Bool.and_eq_true_iff.mp n).2 b)
/-- back to the world that was -/
theorem WOk.back {W' : Wd} (k : WOk K G W S H) (s : Step ⟨bareH H, []⟩ H W' H') (k' : WOk K G W' [] H') : WOk K G W S H' := by
  have up : ∀ a o, H a = some o → (∀ ps, o ≠ .tbl ps) → H' a = some o := fun a o h n => s.pres a o h (fun q => (nomatch q)) n
  refine ⟨fun a o h => up a o (k.sub a o h) fun ps e => k.ntb a ps (by rw [h, e]), k.ntb, k.adn, k.nd, k.len, fun i a o h1 h2 => ?_, k'.tab⟩
  have q := k.obs i a o h1 h2
  cases o with
  | lst ds =>
    obtain ⟨vs, h3, h4⟩ := q
    exact ⟨vs, up _ _ h3 (fun ps z => by cases z), h4⟩
  | ins c fs =>
    obtain ⟨dx, vs, h3, h4⟩ := q
    exact ⟨dx, vs, up _ _ h3 (fun ps z => by cases z), h4⟩
theorem Step.back2 {W' : Wd} (s : Step ⟨bareH H, []⟩ H W' H') : Step W H W H' :=
  ⟨fun _ _ h => h, fun _ _ _ _ h => h, ⟨[], by simp, (fun a ha => (nomatch ha))⟩, fun a o h _ n => s.pres a o h (fun q => (nomatch q)) n, s.keep⟩
end
def calP (n : Nat) (F : Fn) (fs : SemL) : Sem := fun ρ S => (fs ρ S).bind fun ds S1 => if ds.length = n ∧ noObjL ds = true then (match F ds [] with
  | .ok d [] => if smallD d = true then .ok d S1 else .no
  | _ => .no) else .no
section
variable {G : Gm} {E : XK} {X : Cx} {e : Expr} {es : List Expr} {pos : Pos} {fa fb f : Sem}
theorem snd_callP {K : PySem.W.Frag} {t : TA} {fs : SemL} {n : Nat} {F : Fn} (s : SndA K G E true t fs) : SndE K G E .i (tCall (spF K G n .i F) [] E t) (calP n F fs) := by
  intro ρ σ S W H Q rep post
  refine s.go rep (Step.refl W H) post fun ds S1 vs W1 H1 st1 s01 rep1 is1 post => ?_
  by_cases hn : ds.length = n ∧ noObjL ds = true
  · rw [if_pos hn] at post
    refine ⟨by rw [List.append_nil, AllR.len is1, hn.1], [], ⟨bareH H1, []⟩, ds, rep1.wok.bare, by rw [List.append_nil]; exact views_bare rep1.wok hn.2 is1, ?_⟩
    cases q : F ds [] with
    | no => rw [q] at post; exact post.elim
    | er x S2 => rw [q] at post; exact post.elim
    | ok d S2 =>
      rw [q] at post
      cases S2 with
      | cons => exact post.elim
      | nil =>
        dsimp only at post
        by_cases hf : smallD d = true
        · rw [if_pos hf] at post
          intro v W2 H2 st2 ok2 rr
          exact post v W1 H2 (s01.trans st2.back2) (rep1.wok.back st2 ok2) (Is.flat hf rr)
        · rw [if_neg hf] at post
          exact post.elim
  · rw [if_neg hn] at post
    exact post.elim
theorem e_callP {kk kr n : Nat} {x : Str} {F : Fn} {fs : SemL} {p : Pos} (h : Fo X.prog X.w X.K X.mg X.base G kk x n .i F) (hr : Room kr X.A) (hk : kk ≤ kr) (hg : Gl X x) (hx : Passes (L2.CX X.prog X.w) X E) (ha : SA G E true X (e :: es) fs)
    (hdb : (x == ("__debug__" : Str)) = false := by decide) (he : starEach (e :: es) X.env = (false, eval e X.env) :: starEach es X.env := by rfl) (hpl : (backTo pos (starEach es X.env)).any (·.1) = false := by rfl) :
    SE G E .i X (.Call (.Name x p) (e :: es) [] pos) (calP n F fs) := by
  obtain ⟨f, fd, ps, h1, h2, h3, h4⟩ := h.ex
  obtain ⟨t, pa, s⟩ := ha
  exact ⟨_, pe_call h1 (hr.mono hk) hg h2 h3 h4 .nil hx pa hdb he hpl, snd_callP s⟩
/-- return of an own list -/
def retO (i : Nat) : SemS := fun ρ S => match ρ[i]? with
  | some (.own ds) => .rt (.lst ds) S
  | _ => .no
theorem s_retO (i : Nat) {x : Str} {p : Pos} (hN : X.N[i]? = some x := by rfl) (hv : Vis X.env.scope x := by first | exact Or.inl rfl | exact Or.inr (Or.inl rfl) | exact Or.inr (Or.inr rfl)) (hd : (x == ("__debug__" : Str)) = false := by decide)
    (hcd : (x == ("__classdict__" : Str)) = false := by decide) : SS G E .f X (.Return (some (.Name x p)) pos) (retO i) := by
  refine ⟨_, ps_ret (pe_var hN hv hd hcd), fun Wb W0 H0 ρ σ S W H Dn r post => ?_⟩
  unfold retO at post
  cases q : ρ[i]? with
  | none => rw [q] at post; exact post.elim
  | some s =>
    rw [q] at post
    cases s with
    | no => exact post.elim
    | dat d => exact post.elim
    | own ds =>
      obtain ⟨l, vs, h1, h2, h3, h4, h5⟩ := r.rep.owns q
      exact ⟨_, h1, post _ W H r.st r.rep.wok ⟨l, vs, ds, rfl, rfl, r.own i ds l q h1, h2, h3, h4, h5⟩⟩
end
end Dl
/-! Ev: what is denoted, run step by step. -/
namespace Dl
open PySem L2
/-- r ends well and its value is so -/
inductive Ev {α : Type} : Res α → (α → Mem → Prop) → Prop
  | mk {a : α} {S : Mem} {Q : α → Mem → Prop} (q : Q a S) : Ev (.ok a S) Q
structure Po where
  nx : Env → Mem → Prop
  rt : D → Mem → Prop
  bk : Env → Mem → Prop := fun _ _ => False
  ct : Env → Mem → Prop := fun _ _ => False
inductive EvS : Fl → Po → Prop
  | nx {ρ : Env} {S : Mem} {P : Po} (q : P.nx ρ S) : EvS (.nx ρ S) P
  | rt {d : D} {S : Mem} {P : Po} (q : P.rt d S) : EvS (.rt d S) P
  | bk {ρ : Env} {S : Mem} {P : Po} (q : P.bk ρ S) : EvS (.bk ρ S) P
  | ct {ρ : Env} {S : Mem} {P : Po} (q : P.ct ρ S) : EvS (.ct ρ S) P
section
variable {α β : Type} {r : Res α} {Q : α → Mem → Prop} {S S' : Mem} {a : α}
theorem ev_ok (e : r = .ok a S) (q : Q a S) : Ev r Q := by rw [e]; exact .mk q
theorem ev_out {v : α} (h : Ev r (fun a S' => a = v ∧ S' = S)) : r = .ok v S := by
  cases h with
  | mk q =>
    obtain ⟨rfl, rfl⟩ := q
    rfl
theorem ev_get (h : Ev r Q) : ∃ a S', r = .ok a S' ∧ Q a S' := by
  cases h with
  | mk q => exact ⟨_, _, rfl, q⟩
theorem ev_mono {Q' : α → Mem → Prop} (h : Ev r Q) (i : ∀ a S, Q a S → Q' a S) : Ev r Q' := by
  cases h with
  | mk q => exact .mk (i _ _ q)
theorem ev_bind {f : α → Mem → Res β} {Q : β → Mem → Prop} (h : Ev r fun a S => Ev (f a S) Q) : Ev (r.bind f) Q := by
  cases h with
  | mk q => exact q
theorem evs_bindF {f : α → Mem → Fl} {P : Po} (h : Ev r fun a S => EvS (f a S) P) : EvS (r.bindF f) P := by
  cases h with
  | mk q => exact q
end
section
variable {ρ ρ' : Env} {S : Mem} {Q : D → Mem → Prop} {QL : List D → Mem → Prop} {P : Po} {i j l : Nat} {d : D} {fa fb fc f : Sem} {fs gs : SemL} {g g1 g2 : SemS} {o : D → D → Option D}
/-! ### expressions -/
theorem ev_vr (e : ρ[i]? = some (.dat d)) (q : Q d S) : Ev (vr i ρ S) Q := by unfold vr; rw [e]; exact .mk q
theorem ev_vw (e : ρ[i]? = some (.dat d)) (q : Q d S) : Ev (vw i ρ S) Q := by unfold vw; rw [e]; exact .mk q
theorem ev_vwo {ds : List D} (e : ρ[i]? = some (.own ds)) (q : Q (.lst ds) S) : Ev (vw i ρ S) Q := by unfold vw; rw [e]; exact .mk q
theorem ev_cc (q : Q d S) : Ev (cc d ρ S) Q := .mk q
theorem ev_bin (h : Ev (fa ρ S) fun x S1 => Ev (fb ρ S1) fun y S2 => ∃ d, o x y = some d ∧ Q d S2) : Ev (bin o fa fb ρ S) Q := by
  unfold bin
  refine ev_bind (ev_mono h fun x S1 h => ev_bind (ev_mono h fun y S2 h => ?_))
  obtain ⟨d, e, q⟩ := h
  rw [e]
  exact .mk q
theorem ev_un {u : D → Option D} (h : Ev (fa ρ S) fun x S1 => ∃ d, u x = some d ∧ Q d S1) : Ev (un u fa ρ S) Q := by
  unfold un
  refine ev_bind (ev_mono h fun x S1 h => ?_)
  obtain ⟨d, e, q⟩ := h
  rw [e]
  exact .mk q
theorem ev_sm1 {u : Str → D → Option D} (h : Ev (fa ρ S) fun x S1 => ∃ s, x = .str s ∧ Ev (fb ρ S1) fun y S2 => ∃ d, u s y = some d ∧ Q d S2) : Ev (sm1 u fa fb ρ S) Q := by
  unfold sm1
  refine ev_bind (ev_mono h fun x S1 h => ?_)
  obtain ⟨s, rfl, h⟩ := h
  refine ev_bind (ev_mono h fun y S2 h => ?_)
  obtain ⟨d, e, q⟩ := h
  rw [e]
  exact .mk q
theorem ev_cal {u : List D → Option D} (h : Ev (fs ρ S) fun xs S1 => ∃ d, u xs = some d ∧ Q d S1) : Ev (cal u fs ρ S) Q := by
  unfold cal
  refine ev_bind (ev_mono h fun x S1 h => ?_)
  obtain ⟨d, e, q⟩ := h
  rw [e]
  exact .mk q
theorem ev_callF {n : Nat} {F : Fn} (h : Ev (fs ρ S) fun xs S1 => xs.length = n ∧ Ev (F xs S1) Q) : Ev (callF n F fs ρ S) Q := by
  unfold callF
  refine ev_bind (ev_mono h fun x S1 h => ?_)
  rw [if_pos h.1]
  exact h.2
theorem ev_ixm (h : Ev (fa ρ S) fun x S1 => Ev (fb ρ S1) fun y S2 => ∃ d, ixM S2 x y = some d ∧ Q d S2) : Ev (ixm fa fb ρ S) Q := by
  unfold ixm
  refine ev_bind (ev_mono h fun x S1 h => ev_bind (ev_mono h fun y S2 h => ?_))
  obtain ⟨d, e, q⟩ := h
  rw [e]
  exact .mk q
theorem ev_al0 (q : QL [] S) : Ev (al0 ρ S) QL := .mk q
theorem ev_alc (h : Ev (fa ρ S) fun x S1 => Ev (gs ρ S1) fun xs S2 => QL (x :: xs) S2) : Ev (alc fa gs ρ S) QL := by
  unfold alc
  exact ev_bind (ev_mono h fun x S1 h => ev_bind (ev_mono h fun _ _ q => .mk q))
theorem ev_tupl (h : Ev (fs ρ S) fun xs S1 => xs.length ≤ 10000 ∧ Q (.tup xs) S1) : Ev (tupl fs ρ S) Q := by
  unfold tupl
  refine ev_bind (ev_mono h fun x S1 h => ?_)
  rw [if_pos h.1]
  exact .mk h.2
theorem ev_lstl (h : Ev (fs ρ S) fun xs S1 => xs.length ≤ 10000 ∧ Q (.lst xs) S1) : Ev (lstl fs ρ S) Q := by
  unfold lstl
  refine ev_bind (ev_mono h fun x S1 h => ?_)
  rw [if_pos h.1]
  exact .mk h.2
theorem ev_nt (h : Ev (fa ρ S) fun x S1 => ∃ b, x = .bl b ∧ Q (.bl (!b)) S1) : Ev (nt fa ρ S) Q := by
  unfold nt
  refine ev_bind (ev_mono h fun x S1 h => ?_)
  obtain ⟨b, rfl, q⟩ := h
  exact .mk q
theorem ev_ad (h : Ev (fa ρ S) fun x S1 => ∃ b, x = .bl b ∧ ((b = true → Ev (fb ρ S1) Q) ∧ (b = false → Q (.bl false) S1))) : Ev (ad fa fb ρ S) Q := by
  unfold ad
  refine ev_bind (ev_mono h fun x S1 h => ?_)
  obtain ⟨b, rfl, q1, q2⟩ := h
  cases b with
  | true => exact q1 rfl
  | false => exact .mk (q2 rfl)
theorem ev_orr (h : Ev (fa ρ S) fun x S1 => ∃ b, x = .bl b ∧ ((b = false → Ev (fb ρ S1) Q) ∧ (b = true → Q (.bl true) S1))) : Ev (orr fa fb ρ S) Q := by
  unfold orr
  refine ev_bind (ev_mono h fun x S1 h => ?_)
  obtain ⟨b, rfl, q1, q2⟩ := h
  cases b with
  | true => exact .mk (q2 rfl)
  | false => exact q1 rfl
theorem ev_orr_f (h : Ev (fa ρ S) fun x S1 => x = .bl false ∧ S1 = S) (q : Ev (fb ρ S) Q) : Ev (orr fa fb ρ S) Q := ev_orr (ev_mono h fun x S1 h => by
  obtain ⟨rfl, rfl⟩ := h
  exact ⟨_, rfl, fun _ => q, fun h => nomatch h⟩)
theorem ev_ad_f (h : Ev (fa ρ S) fun x S1 => x = .bl false ∧ S1 = S) (q : Q (.bl false) S) : Ev (ad fa fb ρ S) Q := ev_ad (ev_mono h fun x S1 h => by
  obtain ⟨rfl, rfl⟩ := h
  exact ⟨_, rfl, fun h => (nomatch h), fun _ => q⟩)
theorem ev_ad_t (h : Ev (fa ρ S) fun x S1 => x = .bl true ∧ S1 = S) (q : Ev (fb ρ S) Q) : Ev (ad fa fb ρ S) Q := ev_ad (ev_mono h fun x S1 h => by
  obtain ⟨rfl, rfl⟩ := h
  exact ⟨_, rfl, fun _ => q, fun h => nomatch h⟩)
theorem ev_iff (h : Ev (fc ρ S) fun x S1 => ∃ b, x = .bl b ∧ ((b = true → Ev (fa ρ S1) Q) ∧ (b = false → Ev (fb ρ S1) Q))) : Ev (iff fc fa fb ρ S) Q := by
  unfold iff
  refine ev_bind (ev_mono h fun x S1 h => ?_)
  obtain ⟨b, rfl, q1, q2⟩ := h
  cases b with
  | true => exact q1 rfl
  | false => exact q2 rfl
theorem ev_chn {o' : D → D → Option D} (h : Ev (fa ρ S) fun x S1 => Ev (fb ρ S1) fun y S2 => ∃ b, o x y = some (.bl b) ∧ ((b = true → Ev (fc ρ S2) fun z S3 => ∃ d, o' y z = some d ∧ Q d S3) ∧ (b = false → Q (.bl false) S2))) : Ev (chn o o' fa fb fc ρ S) Q := by
  unfold chn
  refine ev_bind (ev_mono h fun x S1 h => ev_bind (ev_mono h fun y S2 h => ?_))
  obtain ⟨b, e, q1, q2⟩ := h
  rw [e]
  cases b with
  | false => exact .mk (q2 rfl)
  | true =>
    refine ev_bind (ev_mono (q1 rfl) fun z S3 h => ?_)
    obtain ⟨d, e, q⟩ := h
    rw [e]
    exact .mk q
theorem ev_inR {neg : Bool} (h : Ev (fa ρ S) fun x S1 => Ev (fb ρ S1) fun y S2 => ∃ i n, x = .int i ∧ y = .int n ∧ Q (.bl (if neg then !decide (0 ≤ i ∧ i < n) else decide (0 ≤ i ∧ i < n))) S2) : Ev (inR neg fa fb ρ S) Q := by
  unfold inR
  refine ev_bind (ev_mono h fun x S1 h => ev_bind (ev_mono h fun y S2 h => ?_))
  obtain ⟨i, n, rfl, rfl, q⟩ := h
  exact .mk q
theorem ev_rngL (h : Ev (fs ρ S) fun xs S1 => ∃ es, rngOf xs = some es ∧ es.length ≤ 1000000 ∧ Q (.lst es) S1) : Ev (rngL fs ρ S) Q := by
  unfold rngL
  refine ev_bind (ev_mono h fun x S1 h => ?_)
  obtain ⟨es, e, hl, q⟩ := h
  rw [e]
  dsimp only
  rw [if_pos hl]
  exact .mk q
theorem ev_slc {lo hi : SemP} (h : Ev (fa ρ S) fun x S1 => Ev (lo ρ S1) fun l S2 => Ev (hi ρ S2) fun u S3 => ∃ d, sliceD x l u = some d ∧ Q d S3) : Ev (slc fa lo hi ρ S) Q := by
  unfold slc
  refine ev_bind (ev_mono h fun x S1 h => ev_bind (ev_mono h fun l S2 h => ev_bind (ev_mono h fun u S3 h => ?_)))
  obtain ⟨d, e, q⟩ := h
  rw [e]
  exact .mk q
theorem ev_pN {Q : Option Int → Mem → Prop} (q : Q none S) : Ev (pN ρ S) Q := .mk q
theorem ev_pS {Q : Option Int → Mem → Prop} (h : Ev (fa ρ S) fun x S1 => ∃ i, x = .int i ∧ Q (some i) S1) : Ev (pS fa ρ S) Q := by
  unfold pS
  refine ev_bind (ev_mono h fun x S1 h => ?_)
  obtain ⟨i, rfl, q⟩ := h
  exact .mk q
/-! ### what is walked -/
theorem ev_itR (h : Ev (fs ρ S) fun xs S1 => ∃ es, rngOf xs = some es ∧ QL es S1) : Ev (itR fs ρ S) QL := by
  unfold itR
  refine ev_bind (ev_mono h fun x S1 h => ?_)
  obtain ⟨es, e, q⟩ := h
  rw [e]
  exact .mk q
theorem ev_itL (h : Ev (fa ρ S) fun x S1 => ∃ ds, (x = .lst ds ∨ x = .frz ds) ∧ QL ds S1) : Ev (itL fa ρ S) QL := by
  unfold itL
  refine ev_bind (ev_mono h fun x S1 h => ?_)
  obtain ⟨es, rfl | rfl, q⟩ := h <;> exact .mk q
theorem ev_itT (h : Ev (fa ρ S) fun x S1 => ∃ ds, x = .tup ds ∧ QL ds S1) : Ev (itT fa ρ S) QL := by
  unfold itT
  refine ev_bind (ev_mono h fun x S1 h => ?_)
  obtain ⟨es, rfl, q⟩ := h
  exact .mk q
theorem ev_itS (h : Ev (fa ρ S) fun x S1 => ∃ s, x = .str s ∧ QL (signs s) S1) : Ev (itS fa ρ S) QL := by
  unfold itS
  refine ev_bind (ev_mono h fun x S1 h => ?_)
  obtain ⟨es, rfl, q⟩ := h
  exact .mk q
theorem ev_itES (h : Ev (fa ρ S) fun x S1 => ∃ s, x = .str s ∧ QL (enumS s) S1) : Ev (itES fa ρ S) QL := by
  unfold itES
  refine ev_bind (ev_mono h fun x S1 h => ?_)
  obtain ⟨es, rfl, q⟩ := h
  exact .mk q
/-! ### statements -/
theorem evs_sq (h : EvS (g1 ρ S) { P with nx := fun ρ S => EvS (g2 ρ S) P }) : EvS (sq g1 g2 ρ S) P := by
  unfold sq
  cases e : g1 ρ S <;> rw [e] at h <;> cases h
  · rename_i q; exact q
  · rename_i q; exact .rt q
  · rename_i q; exact .bk q
  · rename_i q; exact .ct q
theorem evs_skip (q : P.nx ρ S) : EvS (skip ρ S) P := .nx q
theorem evs_brk (q : P.bk ρ S) : EvS (brk ρ S) P := .bk q
theorem evs_cont (q : P.ct ρ S) : EvS (cont ρ S) P := .ct q
theorem evs_asg (h : Ev (fa ρ S) fun d S1 => P.nx (ρ.set i (.dat d)) S1) : EvS (asg i fa ρ S) P := evs_bindF (ev_mono h fun _ _ q => .nx q)
theorem evs_asgO (h : Ev (fa ρ S) fun d S1 => ∃ ds, d = .lst ds ∧ P.nx (ρ.set i (.own ds)) S1) : EvS (asgO i fa ρ S) P := evs_bindF (ev_mono h fun d S1 h => by
  obtain ⟨ds, rfl, q⟩ := h
  exact .nx q)
theorem evs_asgN (h : Ev (fa ρ S) fun d S1 => ∃ ds, d = .lst ds ∧ P.nx (ρ.set i (.dat (.obj S1.length))) (S1 ++ [.lst ds])) : EvS (asgN i fa ρ S) P := evs_bindF (ev_mono h fun d S1 h => by
  obtain ⟨ds, rfl, q⟩ := h
  exact .nx q)
theorem evs_asgT {a : Tg} (h : Ev (fa ρ S) fun d S1 => ∃ ρ', a d ρ = some ρ' ∧ P.nx ρ' S1) : EvS (asgT a fa ρ S) P := evs_bindF (ev_mono h fun d S1 h => by
  obtain ⟨ρ', e, q⟩ := h
  rw [e]
  exact .nx q)
theorem evs_par (h : Ev (fs ρ S) fun ds S1 => ∃ x y, ds = [x, y] ∧ P.nx ((ρ.set i (.dat x)).set j (.dat y)) S1) : EvS (par i j fs ρ S) P := evs_bindF (ev_mono h fun d S1 h => by
  obtain ⟨x, y, rfl, q⟩ := h
  exact .nx q)
theorem evs_par3 (h : Ev (fs ρ S) fun ds S1 => ∃ x y z, ds = [x, y, z] ∧ P.nx (((ρ.set i (.dat x)).set j (.dat y)).set l (.dat z)) S1) : EvS (par3 i j l fs ρ S) P := evs_bindF (ev_mono h fun d S1 h => by
  obtain ⟨x, y, z, rfl, q⟩ := h
  exact .nx q)
theorem evs_drp (h : Ev (fa ρ S) fun _ S1 => P.nx ρ S1) : EvS (drp fa ρ S) P := evs_bindF (ev_mono h fun _ _ q => .nx q)
theorem evs_ret (h : Ev (fa ρ S) P.rt) : EvS (ret fa ρ S) P := evs_bindF (ev_mono h fun _ _ q => .rt q)
theorem evs_retN (q : P.rt .non S) : EvS (retN ρ S) P := .rt q
theorem evs_ifs (h : Ev (fc ρ S) fun x S1 => ∃ b, x = .bl b ∧ ((b = true → EvS (g1 ρ S1) P) ∧ (b = false → EvS (g2 ρ S1) P))) : EvS (ifs fc g1 g2 ρ S) P := evs_bindF (ev_mono h fun x S1 h => by
  obtain ⟨b, rfl, q1, q2⟩ := h
  cases b with
  | true => exact q1 rfl
  | false => exact q2 rfl)
theorem evs_if_f (h : Ev (fc ρ S) fun x S1 => x = .bl false ∧ S1 = S) (q : EvS (g2 ρ S) P) : EvS (ifs fc g1 g2 ρ S) P := evs_ifs (ev_mono h fun x S1 h => by
  obtain ⟨rfl, rfl⟩ := h
  exact ⟨_, rfl, fun h => (nomatch h), fun _ => q⟩)
theorem evs_if_t (h : Ev (fc ρ S) fun x S1 => x = .bl true ∧ S1 = S) (q : EvS (g1 ρ S) P) : EvS (ifs fc g1 g2 ρ S) P := evs_ifs (ev_mono h fun x S1 h => by
  obtain ⟨rfl, rfl⟩ := h
  exact ⟨_, rfl, fun _ => q, fun h => nomatch h⟩)
theorem evs_aug {x : D} (e : ρ[i]? = some (.dat x)) (h : Ev (fa ρ S) fun y S1 => ∃ z, o x y = some z ∧ P.nx (ρ.set i (.dat z)) S1) : EvS (aug i o fa ρ S) P := by
  unfold aug
  rw [e]
  exact evs_bindF (ev_mono h fun d S1 h => by
    obtain ⟨ρ', e, q⟩ := h
    simp only [e]
    exact .nx q)
theorem evs_app {ds : List D} (e : ρ[i]? = some (.own ds)) (h : Ev (fa ρ S) fun y S1 => ds.length < 1000000 ∧ P.nx (ρ.set i (.own (ds ++ [y]))) S1) : EvS (app i fa ρ S) P := by
  unfold app
  rw [e]
  exact evs_bindF (ev_mono h fun d S1 h => by
    rw [if_pos h.1]
    exact .nx h.2)
theorem evs_frzS {ds : List D} (e : ρ[i]? = some (.own ds)) (h : EvS (g (ρ.set i (.dat (.lst ds))) S) P) : EvS (frzS i g ρ S) P := by
  unfold frzS
  rw [e]
  exact h
theorem evs_frzS2 {d : D} (e : ρ[i]? = some (.dat d)) (h : EvS (g ρ S) P) : EvS (frzS i g ρ S) P := by
  unfold frzS
  rw [e]
  exact h
theorem evs_frzS3 (e : ρ[i]? = some .no) (h : EvS (g ρ S) P) : EvS (frzS i g ρ S) P := by
  unfold frzS
  rw [e]
  exact h
theorem evs_putM {fe fo fi : Sem} (h : Ev (fe ρ S) fun d S1 => Ev (fo ρ S1) fun o S2 => Ev (fi ρ S2) fun i S3 => ∃ k z ds j, o = .obj k ∧ i = .int z ∧ S3[k]? = some (.lst ds) ∧ ixN ds.length z = some j ∧ P.nx ρ (S3.set k (.lst (ds.set j d)))) : EvS (putM fe fo fi ρ S) P := by
  unfold putM
  refine evs_bindF (ev_mono h fun d S1 h => evs_bindF (ev_mono h fun o S2 h => evs_bindF (ev_mono h fun i S3 h => ?_)))
  obtain ⟨k, z, ds, j, rfl, rfl, e1, e2, q⟩ := h
  simp only [e1, e2]
  exact .nx q
theorem evs_putO {fe fi : Sem} {n : Nat} {ds : List D} (e : ρ[n]? = some (.own ds)) (h : Ev (fe ρ S) fun d S1 => Ev (fi ρ S1) fun i S2 => ∃ z j, i = .int z ∧ ixN ds.length z = some j ∧ P.nx (ρ.set n (.own (ds.set j d))) S2) : EvS (putO n fe fi ρ S) P := by
  unfold putO
  refine evs_bindF (ev_mono h fun d S1 h => ?_)
  rw [e]
  refine evs_bindF (ev_mono h fun i S2 h => ?_)
  obtain ⟨z, j, rfl, e2, q⟩ := h
  simp only [e2]
  exact .nx q
theorem evs_fr {a : Tg} (h : Ev (fs ρ S) fun ds S1 => EvS (loop (tgb a g) ds ρ S1) P) : EvS (fr fs a g ρ S) P := evs_bindF h
theorem evs_tgb {a : Tg} (e : a d ρ = some ρ') (h : EvS (g ρ' S) P) : EvS (tgb a g d ρ S) P := by
  unfold tgb
  rw [e]
  exact h
/-! ### loops -/
theorem evs_loop {b : D → SemS} (Inv : List D → Env → Mem → Prop) (step : ∀ d ds ρ S, Inv (d :: ds) ρ S → EvS (b d ρ S) { nx := Inv ds, ct := Inv ds, bk := P.nx, rt := P.rt }) (done : ∀ ρ S, Inv [] ρ S → P.nx ρ S) :
    ∀ (ds : List D) (ρ : Env) (S : Mem), Inv ds ρ S → EvS (loop b ds ρ S) P
  | [], ρ, S, h => .nx (done ρ S h)
  | d :: ds, ρ, S, h => by
    have h1 := step d ds ρ S h
    unfold loop
    cases e : b d ρ S <;> rw [e] at h1 <;> cases h1
    · rename_i q; exact evs_loop Inv step done ds _ _ q
    · rename_i q; exact .rt q
    · rename_i q; exact .nx q
    · rename_i q; exact evs_loop Inv step done ds _ _ q
theorem rangeD_nil {lo hi : Int} (h : hi ≤ lo) : rangeD lo hi = [] := by
  unfold rangeD
  have : (hi - lo).toNat = 0 := by omega
  rw [this]
  rfl
theorem rangeD_cons {lo hi : Int} (h : lo < hi) : rangeD lo hi = .int lo :: rangeD (lo + 1) hi := by
  unfold rangeD
  have : (hi - lo).toNat = (hi - (lo + 1)).toNat + 1 := by omega
  rw [this, List.range_succ_eq_map, List.map_cons, List.map_map]
  congr 1
  · simp
  · refine List.map_congr_left fun k _ => ?_
    show D.int (lo + ((k + 1 : Nat) : Int)) = D.int (lo + 1 + (k : Int))
    congr 1
    omega
theorem evs_range {b : D → SemS} {hi : Int} (Inv : Int → Env → Mem → Prop) (step : ∀ i ρ S, i < hi → Inv i ρ S → EvS (b (.int i) ρ S) { nx := Inv (i + 1), ct := Inv (i + 1), bk := P.nx, rt := P.rt }) (done : ∀ i ρ S, hi ≤ i → Inv i ρ S → P.nx ρ S) :
    ∀ (n : Nat) (lo : Int) (ρ : Env) (S : Mem), (hi - lo).toNat = n → Inv lo ρ S → EvS (loop b (rangeD lo hi) ρ S) P
  | 0, lo, ρ, S, e, h => by
    rw [rangeD_nil (by omega)]
    exact .nx (done lo ρ S (by omega) h)
  | n + 1, lo, ρ, S, e, h => by
    rw [rangeD_cons (by omega)]
    have h1 := step lo ρ S (by omega) h
    unfold loop
    cases e2 : b (.int lo) ρ S <;> rw [e2] at h1 <;> cases h1
    · rename_i q; exact evs_range Inv step done n (lo + 1) _ _ (by omega) q
    · rename_i q; exact .rt q
    · rename_i q; exact .nx q
    · rename_i q; exact evs_range Inv step done n (lo + 1) _ _ (by omega) q
theorem evs_wloop (Inv : Nat → Env → Mem → Prop) (step : ∀ n ρ S, Inv n ρ S → Ev (fc ρ S) fun x S1 => ∃ b, x = .bl b ∧ ((b = true → ∃ m, n = m + 1 ∧ EvS (g ρ S1) { nx := Inv m, ct := Inv m, bk := P.nx, rt := P.rt }) ∧ (b = false → P.nx ρ S1))) :
    ∀ (n : Nat) (ρ : Env) (S : Mem), Inv n ρ S → EvS (wloop fc g (n + 1) ρ S) P
  | n, ρ, S, h => by
    have h1 := step n ρ S h
    unfold wloop
    refine evs_bindF (ev_mono h1 fun x S1 h => ?_)
    obtain ⟨b, rfl, q1, q2⟩ := h
    cases b with
    | false => exact .nx (q2 rfl)
    | true =>
      obtain ⟨m, rfl, h2⟩ := q1 rfl
      dsimp only
      cases e : g ρ S1 <;> rw [e] at h2 <;> cases h2
      · rename_i q; exact evs_wloop Inv step m _ _ q
      · rename_i q; exact .rt q
      · rename_i q; exact .nx q
      · rename_i q; exact evs_wloop Inv step m _ _ q
theorem wloop_more : ∀ (n m : Nat) (ρ : Env) (S : Mem), EvS (wloop fc g n ρ S) P → EvS (wloop fc g (n + m) ρ S) P
  | 0, m, ρ, S, h => by cases h
  | n + 1, m, ρ, S, h => by
    have e : n + 1 + m = (n + m) + 1 := by omega
    rw [e]
    unfold wloop at h ⊢
    cases e1 : fc ρ S with
    | no => rw [e1] at h; exact h
    | er x S1 => rw [e1] at h; exact h
    | ok d S1 =>
      rw [e1] at h
      dsimp only [Res.bindF] at h ⊢
      split at h
      · exact h
      · cases e2 : g ρ S1 with
        | nx ρ' S' => simp only [e2] at h ⊢; exact wloop_more n m ρ' S' h
        | ct ρ' S' => simp only [e2] at h ⊢; exact wloop_more n m ρ' S' h
        | bk ρ' S' => simp only [e2] at h ⊢; exact h
        | rt d S' => simp only [e2] at h ⊢; exact h
        | er x S' => simp only [e2] at h ⊢; exact h
        | no => simp only [e2] at h ⊢; exact h
      · exact h
/-! ### comprehensions -/
theorem evs_comp {step : D → Mem → Res (Option D)} {QL : List D → Mem → Prop} (Inv : List D → List D → Mem → Prop)
    (st : ∀ d ds acc S, Inv (d :: ds) acc S → Ev (step d S) fun o S1 => match o with
      | some y => acc.length < 1000000 ∧ Inv ds (acc ++ [y]) S1
      | none => Inv ds acc S1) (done : ∀ acc S, Inv [] acc S → QL acc S) : ∀ (ds acc : List D) (S : Mem), Inv ds acc S → Ev (compL step ds acc S) QL
  | [], acc, S, h => .mk (done acc S h)
  | d :: ds, acc, S, h => by
    unfold compL
    refine ev_bind (ev_mono (st d ds acc S h) fun o S1 h1 => ?_)
    cases o with
    | none => exact evs_comp Inv st done ds acc S1 h1
    | some y =>
      dsimp only at h1 ⊢
      rw [if_pos h1.1]
      exact evs_comp Inv st done ds (acc ++ [y]) S1 h1.2
theorem ev_lc {a : Tg} {vs : List Nat} {tt te : Sem} (h : Ev (fs ρ S) fun ds S1 => Ev (compL (lcStep ρ a vs tt te) ds [] S1) fun ys S2 => Q (.lst ys) S2) : Ev (lc fs a vs tt te ρ S) Q := by
  unfold lc
  exact ev_bind (ev_mono h fun ds S1 h => ev_bind (ev_mono h fun _ _ q => .mk q))
theorem ev_noer {α : Type} {r : Res α} {Q : α → Mem → Prop} (h : Ev r Q) : Ev (noer r) Q := by
  cases h with
  | mk q => exact .mk q
theorem ev_lcStep {a : Tg} {vs : List Nat} {tt te : Sem} {QO : Option D → Mem → Prop} (e : a d (wipeS ρ vs) = some ρ') (h : Ev (tt ρ' S) fun b S1 => ∃ c, b = .bl c ∧ ((c = true → Ev (te ρ' S1) fun y S2 => QO (some y) S2) ∧ (c = false → QO none S1))) :
    Ev (lcStep ρ a vs tt te d S) QO := by
  unfold lcStep
  rw [e]
  exact ev_noer (ev_bind (ev_mono h fun b S1 h => by
    obtain ⟨c, rfl, q1, q2⟩ := h
    cases c with
    | true => exact ev_bind (ev_mono (q1 rfl) fun _ _ q => .mk q)
    | false => exact .mk (q2 rfl)))
/-! ### defs -/
def pb (Q : D → Mem → Prop) : Po := ⟨fun _ S => Q .non S, Q, fun _ _ => False, fun _ _ => False⟩
theorem ev_bodyI {n : Nat} {ds : List D} (h : EvS (g (st0 n ds) S) (pb Q)) : Ev (bodyI n g ds S) Q := by
  unfold bodyI
  cases e : g (st0 n ds) S <;> rw [e] at h <;> cases h
  · rename_i q; exact .mk q
  · rename_i q; exact .mk q
  · rename_i q; exact q.elim
  · rename_i q; exact q.elim
theorem ev_bodyF {n : Nat} {ds : List D} (h : EvS (g (st0 n ds) S) ⟨fun _ _ => False, Q, fun _ _ => False, fun _ _ => False⟩) : Ev (bodyF n g ds S) Q := by
  unfold bodyF
  cases e : g (st0 n ds) S <;> rw [e] at h <;> cases h
  · rename_i q; exact q.elim
  · rename_i q; exact .mk q
  · rename_i q; exact q.elim
  · rename_i q; exact q.elim
/-! ### guarded operators -/
theorem mulA_of {i j : Int} (h1 : i.natAbs < big) (h2 : j.natAbs < big) : mulA (.int i) (.int j) = some (.int (i * j)) := by
  unfold mulA
  exact if_pos ⟨h1, h2⟩
theorem imulD_of {i j : Int} (h1 : -(2 ^ 64) < j) (h2 : j < 2 ^ 64) : imulD (.int i) (.int j) = some (.int (i * j)) := by
  unfold imulD
  exact if_pos ⟨h1, h2⟩
theorem divD_of {i j : Int} (h1 : 0 < j) (h2 : j.natAbs < bigD) : divD (.int i) (.int j) = some (.int (i / j)) := by
  unfold divD
  exact if_pos ⟨h1, h2⟩
theorem idivD_of {i j : Int} (h1 : 0 < j) (h2 : j < 1073741824) : idivD (.int i) (.int j) = some (.int (i / j)) := by
  unfold idivD
  exact if_pos ⟨h1, h2⟩
theorem modD_of {i j : Int} (h1 : 0 < j) : modD (.int i) (.int j) = some (.int (i % j)) := by
  unfold modD
  exact if_pos h1
theorem powD_of {i j : Int} (h1 : 0 ≤ j) (h2 : j ≤ 1000000) (h3 : i.natAbs < 2 ^ 64) : powD (.int i) (.int j) = some (.int (i ^ j.toNat)) := by
  unfold powD
  exact if_pos ⟨h1, h2, h3⟩
theorem rng1_of {j : Int} (h1 : -(2 ^ 62) ≤ j) (h2 : j < 2 ^ 62) : rngOf [.int j] = some (rangeD 0 j) := by
  unfold rngOf
  exact if_pos ⟨h1, h2⟩
theorem rng2_of {i j : Int} (h1 : -(2 ^ 62) ≤ i) (h2 : i < 2 ^ 62) (h3 : -(2 ^ 62) ≤ j) (h4 : j < 2 ^ 62) : rngOf [.int i, .int j] = some (rangeD i j) := by
  unfold rngOf
  exact if_pos ⟨h1, h2, h3, h4⟩
theorem lt_big {n k : Nat} (h : n < 2 ^ k) (hk : k ≤ 100000) : n < big := by
  unfold big
  exact Nat.lt_of_lt_of_le h (Nat.pow_le_pow_right (by decide) hk)
theorem lt_bigD {n k : Nat} (h : n < 2 ^ k) (hk : k ≤ 9000) : n < bigD := by
  unfold bigD
  exact Nat.lt_of_lt_of_le h (Nat.pow_le_pow_right (by decide) hk)
end
end Dl
/-! P0: leaves. -/
namespace Dl
open PySem L2
section
variable {i j : Int} {s t : Str} {P : D → Prop} {PL : List D → Prop} {a b : Bool} {ds : List D}
theorem x_add (h : P (.int (i + j))) : ∃ d, addD (.int i) (.int j) = some d ∧ P d := ⟨_, rfl, h⟩
theorem x_sub (h : P (.int (i - j))) : ∃ d, subD (.int i) (.int j) = some d ∧ P d := ⟨_, rfl, h⟩
theorem x_adds (hl : s.length + t.length ≤ 1000000) (h : P (.str (s ++ t))) : ∃ d, addD (.str s) (.str t) = some d ∧ P d := ⟨_, if_pos hl, h⟩
theorem x_mul (h1 : i.natAbs < big) (h2 : j.natAbs < big) (h : P (.int (i * j))) : ∃ d, mulA (.int i) (.int j) = some d ∧ P d := ⟨_, mulA_of h1 h2, h⟩
theorem mulA_str (h1 : -(2 ^ 62) ≤ j) (h2 : j ≤ 1000000) (h3 : s.length * j.toNat ≤ 1000000) : mulA (.str s) (.int j) = some (.str (repS s j)) := by
  unfold mulA
  exact if_pos ⟨h1, h2, h3⟩
theorem x_muls (h1 : -(2 ^ 62) ≤ j) (h2 : j ≤ 1000000) (h3 : s.length * j.toNat ≤ 1000000) (h : P (.str (repS s j))) : ∃ d, mulA (.str s) (.int j) = some d ∧ P d := ⟨_, mulA_str h1 h2 h3, h⟩
theorem x_div (h1 : 0 < j) (h2 : j.natAbs < bigD) (h : P (.int (i / j))) : ∃ d, divD (.int i) (.int j) = some d ∧ P d := ⟨_, divD_of h1 h2, h⟩
theorem x_mod (h1 : 0 < j) (h : P (.int (i % j))) : ∃ d, modD (.int i) (.int j) = some d ∧ P d := ⟨_, modD_of h1, h⟩
theorem x_pow (h1 : 0 ≤ j) (h2 : j ≤ 1000000) (h3 : i.natAbs < 2 ^ 64) (h : P (.int (i ^ j.toNat))) : ∃ d, powD (.int i) (.int j) = some d ∧ P d := ⟨_, powD_of h1 h2 h3, h⟩
theorem x_lt (h : P (.bl (decide (i < j)))) : ∃ d, ltD (.int i) (.int j) = some d ∧ P d := ⟨_, rfl, h⟩
theorem x_le (h : P (.bl (decide (i ≤ j)))) : ∃ d, leD (.int i) (.int j) = some d ∧ P d := ⟨_, rfl, h⟩
theorem x_gt (h : P (.bl (decide (j < i)))) : ∃ d, gtD (.int i) (.int j) = some d ∧ P d := ⟨_, rfl, h⟩
theorem x_ge (h : P (.bl (decide (j ≤ i)))) : ∃ d, geD (.int i) (.int j) = some d ∧ P d := ⟨_, rfl, h⟩
theorem x_eqi (h : P (.bl (decide (i = j)))) : ∃ d, eqD (.int i) (.int j) = some d ∧ P d := ⟨_, rfl, h⟩
theorem x_eqs (h : P (.bl (decide (s = t)))) : ∃ d, eqD (.str s) (.str t) = some d ∧ P d := ⟨_, rfl, h⟩
theorem x_eqb (h : P (.bl (decide (a = b)))) : ∃ d, eqD (.bl a) (.bl b) = some d ∧ P d := ⟨_, rfl, h⟩
theorem x_nei (h : P (.bl (!decide (i = j)))) : ∃ d, neD (.int i) (.int j) = some d ∧ P d := ⟨_, rfl, h⟩
theorem x_nes (h : P (.bl (!decide (s = t)))) : ∃ d, neD (.str s) (.str t) = some d ∧ P d := ⟨_, rfl, h⟩
theorem x_neb (h : P (.bl (!decide (a = b)))) : ∃ d, neD (.bl a) (.bl b) = some d ∧ P d := ⟨_, rfl, h⟩
theorem x_neg (h : P (.int (-i))) : ∃ d, negD (.int i) = some d ∧ P d := ⟨_, rfl, h⟩
theorem x_isn {x : D} (h : P (.bl (isNonB x))) : ∃ d, isNonD x .non = some d ∧ P d := ⟨_, rfl, h⟩
theorem x_notn {x : D} (h : P (.bl (!isNonB x))) : ∃ d, notNonD x .non = some d ∧ P d := ⟨_, rfl, h⟩
theorem x_isb (h : P (.bl (decide (a = b)))) : ∃ d, isBlD (.bl a) (.bl b) = some d ∧ P d := ⟨_, rfl, h⟩
theorem x_notb (h : P (.bl (!decide (a = b)))) : ∃ d, notBlD (.bl a) (.bl b) = some d ∧ P d := ⟨_, rfl, h⟩
theorem x_imul (h1 : -(2 ^ 64) < j) (h2 : j < 2 ^ 64) (h : P (.int (i * j))) : ∃ d, imulD (.int i) (.int j) = some d ∧ P d := ⟨_, imulD_of h1 h2, h⟩
theorem x_idiv (h1 : 0 < j) (h2 : j < 1073741824) (h : P (.int (i / j))) : ∃ d, idivD (.int i) (.int j) = some d ∧ P d := ⟨_, idivD_of h1 h2, h⟩
theorem x_iadd (h : P (.int (i + j))) : ∃ d, iaddD (.int i) (.int j) = some d ∧ P d := ⟨_, rfl, h⟩
theorem x_abs (h : P (.int (if i < 0 then -i else i))) : ∃ d, absD [.int i] = some d ∧ P d := ⟨_, rfl, h⟩
theorem x_max2 (h : P (.int (if j > i then j else i))) : ∃ d, max2D [.int i, .int j] = some d ∧ P d := ⟨_, rfl, h⟩
theorem x_min2 (h : P (.int (if j < i then j else i))) : ∃ d, min2D [.int i, .int j] = some d ∧ P d := ⟨_, rfl, h⟩
theorem x_inti (h : P (.int i)) : ∃ d, intD [.int i] = some d ∧ P d := ⟨_, rfl, h⟩
theorem x_intb (h : P (.int (if a then 1 else 0))) : ∃ d, intD [.bl a] = some d ∧ P d := ⟨_, rfl, h⟩
theorem x_lens (hl : s.length ≤ 1000000) (h : P (.int s.length)) : ∃ d, lenD [.str s] = some d ∧ P d := ⟨_, if_pos hl, h⟩
theorem x_lenl (h : P (.int ds.length)) : ∃ d, lenD [.lst ds] = some d ∧ P d := ⟨_, rfl, h⟩
theorem x_lent (h : P (.int ds.length)) : ∃ d, lenD [.tup ds] = some d ∧ P d := ⟨_, rfl, h⟩
theorem x_lenf (h : P (.int ds.length)) : ∃ d, lenD [.frz ds] = some d ∧ P d := ⟨_, rfl, h⟩
theorem x_rng1 (h1 : -(2 ^ 62) ≤ j) (h2 : j < 2 ^ 62) (h : PL (rangeD 0 j)) : ∃ es, rngOf [.int j] = some es ∧ PL es := ⟨_, rng1_of h1 h2, h⟩
theorem x_rng2 (h1 : -(2 ^ 62) ≤ i) (h2 : i < 2 ^ 62) (h3 : -(2 ^ 62) ≤ j) (h4 : j < 2 ^ 62) (h : PL (rangeD i j)) : ∃ es, rngOf [.int i, .int j] = some es ∧ PL es := ⟨_, rng2_of h1 h2 h3 h4, h⟩
theorem x_len {B : Prop} (h : Nat.ble ds.length 10000 = true) (b : B) : ds.length ≤ 10000 ∧ B := ⟨Nat.le_of_ble_eq_true h, b⟩
/-- a test -/
theorem x_if {p : Prop} [Decidable p] {A B : Prop} (h1 : p → A) (h2 : ¬ p → B) : ∃ b, D.bl (decide p) = .bl b ∧ ((b = true → A) ∧ (b = false → B)) := ⟨_, rfl, fun h => h1 (of_decide_eq_true h), fun h => h2 (of_decide_eq_false h)⟩
theorem x_ifn {p : Prop} [Decidable p] {A B : Prop} (h1 : ¬ p → A) (h2 : p → B) : ∃ b, D.bl (!decide p) = .bl b ∧ ((b = true → A) ∧ (b = false → B)) := ⟨_, rfl, fun h => h1 (fun q => by rw [decide_eq_true q] at h; cases h), fun h => h2 (Decidable.byContradiction fun q => by rw [decide_eq_false q] at h; cases h)⟩
theorem x_if' {p : Prop} [Decidable p] {A B : Prop} (h1 : ¬ p → A) (h2 : p → B) : ∃ b, D.bl (decide p) = .bl b ∧ ((b = false → A) ∧ (b = true → B)) := ⟨_, rfl, fun h => h1 (of_decide_eq_false h), fun h => h2 (of_decide_eq_true h)⟩
theorem x_ifn' {p : Prop} [Decidable p] {A B : Prop} (h1 : p → A) (h2 : ¬ p → B) : ∃ b, D.bl (!decide p) = .bl b ∧ ((b = false → A) ∧ (b = true → B)) := ⟨_, rfl, fun h => h1 (Decidable.byContradiction fun q => by rw [decide_eq_false q] at h; cases h), fun h => h2 (fun q => by rw [decide_eq_true q] at h; cases h)⟩
theorem x_ift {p : Prop} [Decidable p] {A B : Prop} (h : p) (a : A) : ∃ b, D.bl (decide p) = .bl b ∧ ((b = true → A) ∧ (b = false → B)) := x_if (fun _ => a) fun q => absurd h q
theorem x_iff {p : Prop} [Decidable p] {A B : Prop} (h : ¬ p) (a : B) : ∃ b, D.bl (decide p) = .bl b ∧ ((b = true → A) ∧ (b = false → B)) := x_if (fun q => absurd q h) fun _ => a
theorem x_ifnt {p : Prop} [Decidable p] {A B : Prop} (h : ¬ p) (a : A) : ∃ b, D.bl (!decide p) = .bl b ∧ ((b = true → A) ∧ (b = false → B)) := x_ifn (fun _ => a) fun q => absurd q h
theorem x_ifnf {p : Prop} [Decidable p] {A B : Prop} (h : p) (a : B) : ∃ b, D.bl (!decide p) = .bl b ∧ ((b = true → A) ∧ (b = false → B)) := x_ifn (fun q => absurd h q) fun _ => a
theorem x_ift' {p : Prop} [Decidable p] {A B : Prop} (h : p) (a : A) : ∃ b, D.bl (decide p) = .bl b ∧ ((b = false → B) ∧ (b = true → A)) := x_if' (fun q => absurd h q) fun _ => a
theorem x_iff' {p : Prop} [Decidable p] {A B : Prop} (h : ¬ p) (a : B) : ∃ b, D.bl (decide p) = .bl b ∧ ((b = false → B) ∧ (b = true → A)) := x_if' (fun _ => a) fun q => absurd q h
theorem x_ifnt' {p : Prop} [Decidable p] {A B : Prop} (h : ¬ p) (a : A) : ∃ b, D.bl (!decide p) = .bl b ∧ ((b = false → B) ∧ (b = true → A)) := x_ifn' (fun q => absurd q h) fun _ => a
theorem x_ifnf' {p : Prop} [Decidable p] {A B : Prop} (h : p) (a : B) : ∃ b, D.bl (!decide p) = .bl b ∧ ((b = false → B) ∧ (b = true → A)) := x_ifn' (fun _ => a) fun q => absurd h q
theorem x_btt {A B : Prop} (a : A) : ∃ b, D.bl true = .bl b ∧ ((b = true → A) ∧ (b = false → B)) := ⟨_, rfl, fun _ => a, fun h => nomatch h⟩
theorem x_bff {A B : Prop} (a : B) : ∃ b, D.bl false = .bl b ∧ ((b = true → A) ∧ (b = false → B)) := ⟨_, rfl, fun h => (nomatch h), fun _ => a⟩
theorem x_btt' {A B : Prop} (a : A) : ∃ b, D.bl true = .bl b ∧ ((b = false → B) ∧ (b = true → A)) := ⟨_, rfl, fun h => (nomatch h), fun _ => a⟩
theorem x_bff' {A B : Prop} (a : B) : ∃ b, D.bl false = .bl b ∧ ((b = false → B) ∧ (b = true → A)) := ⟨_, rfl, fun _ => a, fun h => nomatch h⟩
theorem x_cle {A B : Prop} (h1 : i ≤ j → A) (h2 : ¬ i ≤ j → B) : ∃ b, leD (.int i) (.int j) = some (.bl b) ∧ ((b = true → A) ∧ (b = false → B)) := ⟨_, rfl, fun h => h1 (of_decide_eq_true h), fun h => h2 (of_decide_eq_false h)⟩
theorem x_clt {A B : Prop} (h1 : i < j → A) (h2 : ¬ i < j → B) : ∃ b, ltD (.int i) (.int j) = some (.bl b) ∧ ((b = true → A) ∧ (b = false → B)) := ⟨_, rfl, fun h => h1 (of_decide_eq_true h), fun h => h2 (of_decide_eq_false h)⟩
theorem x_clet {A B : Prop} (h : i ≤ j) (a : A) : ∃ b, leD (.int i) (.int j) = some (.bl b) ∧ ((b = true → A) ∧ (b = false → B)) := x_cle (fun _ => a) fun q => absurd h q
theorem x_clef {A B : Prop} (h : ¬ i ≤ j) (a : B) : ∃ b, leD (.int i) (.int j) = some (.bl b) ∧ ((b = true → A) ∧ (b = false → B)) := x_cle (fun q => absurd q h) fun _ => a
theorem x_cltt {A B : Prop} (h : i < j) (a : A) : ∃ b, ltD (.int i) (.int j) = some (.bl b) ∧ ((b = true → A) ∧ (b = false → B)) := x_clt (fun _ => a) fun q => absurd h q
theorem x_cltf {A B : Prop} (h : ¬ i < j) (a : B) : ∃ b, ltD (.int i) (.int j) = some (.bl b) ∧ ((b = true → A) ∧ (b = false → B)) := x_clt (fun q => absurd q h) fun _ => a
/-- not -/
theorem x_nt {b : Bool} (h : P (.bl (!b))) : ∃ c, D.bl b = .bl c ∧ P (.bl (!c)) := ⟨b, rfl, h⟩
theorem x_ntE {b : Bool} {R : Bool → Prop} (h : ∃ c, D.bl (!b) = .bl c ∧ R c) : ∃ c, D.bl b = .bl c ∧ ∃ c', D.bl (!c) = .bl c' ∧ R c' := ⟨b, rfl, h⟩
theorem x_str {PS : Str → Prop} (h : PS s) : ∃ t, D.str s = .str t ∧ PS t := ⟨s, rfl, h⟩
theorem x_lst (h : PL ds) : ∃ es, D.lst ds = .lst es ∧ PL es := ⟨ds, rfl, h⟩
theorem x_tup (h : PL ds) : ∃ es, D.tup ds = .tup es ∧ PL es := ⟨ds, rfl, h⟩
theorem x_itl (h : PL ds) : ∃ es, (D.lst ds = .lst es ∨ D.lst ds = .frz es) ∧ PL es := ⟨ds, .inl rfl, h⟩
theorem x_itf (h : PL ds) : ∃ es, (D.frz ds = .lst es ∨ D.frz ds = .frz es) ∧ PL es := ⟨ds, .inr rfl, h⟩
theorem x_two {x y : D} {R : D → D → Prop} (h : R x y) : ∃ u v, [x, y] = [u, v] ∧ R u v := ⟨x, y, rfl, h⟩
theorem x_three {x y z : D} {R : D → D → D → Prop} (h : R x y z) : ∃ u v w, [x, y, z] = [u, v, w] ∧ R u v w := ⟨x, y, z, rfl, h⟩
theorem x_inr (h : P (.bl (decide (0 ≤ i ∧ i < j)))) : ∃ k n, D.int i = .int k ∧ D.int j = .int n ∧ P (.bl (if false = true then !decide (0 ≤ k ∧ k < n) else decide (0 ≤ k ∧ k < n))) := ⟨i, j, rfl, rfl, h⟩
theorem x_ninr (h : P (.bl (!decide (0 ≤ i ∧ i < j)))) : ∃ k n, D.int i = .int k ∧ D.int j = .int n ∧ P (.bl (if true = true then !decide (0 ≤ k ∧ k < n) else decide (0 ≤ k ∧ k < n))) := ⟨i, j, rfl, rfl, h⟩
theorem x_inrI {A B : Prop} (h : ∃ b, D.bl (decide (0 ≤ i ∧ i < j)) = .bl b ∧ ((b = true → A) ∧ (b = false → B))) : ∃ k n, D.int i = .int k ∧ D.int j = .int n ∧ ∃ b, D.bl (if false = true then !decide (0 ≤ k ∧ k < n) else decide (0 ≤ k ∧ k < n)) = .bl b ∧ ((b = true → A) ∧ (b = false → B)) := ⟨i, j, rfl, rfl, h⟩
theorem x_ninrI {A B : Prop} (h : ∃ b, D.bl (!decide (0 ≤ i ∧ i < j)) = .bl b ∧ ((b = true → A) ∧ (b = false → B))) : ∃ k n, D.int i = .int k ∧ D.int j = .int n ∧ ∃ b, D.bl (if true = true then !decide (0 ≤ k ∧ k < n) else decide (0 ≤ k ∧ k < n)) = .bl b ∧ ((b = true → A) ∧ (b = false → B)) := ⟨i, j, rfl, rfl, h⟩
theorem x_inrI' {A B : Prop} (h : ∃ b, D.bl (decide (0 ≤ i ∧ i < j)) = .bl b ∧ ((b = false → A) ∧ (b = true → B))) : ∃ k n, D.int i = .int k ∧ D.int j = .int n ∧ ∃ b, D.bl (if false = true then !decide (0 ≤ k ∧ k < n) else decide (0 ≤ k ∧ k < n)) = .bl b ∧ ((b = false → A) ∧ (b = true → B)) := ⟨i, j, rfl, rfl, h⟩
theorem x_ninrI' {A B : Prop} (h : ∃ b, D.bl (!decide (0 ≤ i ∧ i < j)) = .bl b ∧ ((b = false → A) ∧ (b = true → B))) : ∃ k n, D.int i = .int k ∧ D.int j = .int n ∧ ∃ b, D.bl (if true = true then !decide (0 ≤ k ∧ k < n) else decide (0 ≤ k ∧ k < n)) = .bl b ∧ ((b = false → A) ∧ (b = true → B)) := ⟨i, j, rfl, rfl, h⟩
theorem x_int {R : Int → Prop} (h : R i) : ∃ k, D.int i = .int k ∧ R k := ⟨i, rfl, h⟩
end
theorem x_ix {S : Mem} {x y d : D} {P : D → Prop} (h : ixM S x y = some d) (p : P d) : ∃ d, ixM S x y = some d ∧ P d := ⟨d, h, p⟩
theorem at_mem {α : Type} {ds : List α} {r : Int} (h0 : 0 ≤ r) (h1 : r < ds.length) : ∃ d, atI ds r = some d ∧ d ∈ ds := by
  have hl : r.toNat < ds.length := by omega
  refine ⟨ds[r.toNat], ?_, List.getElem_mem hl⟩
  unfold atI ixN
  rw [if_pos h0, if_pos h1]
  show ds[r.toNat]? = _
  rw [List.getElem?_eq_getElem hl]
theorem x_ixl {S : Mem} {ds : List D} {r : Int} {P : D → Prop} (h0 : 0 ≤ r) (h1 : r < ds.length) (h : ∀ d ∈ ds, P d) : ∃ d, ixM S (.lst ds) (.int r) = some d ∧ P d := by
  obtain ⟨d, e, m⟩ := at_mem h0 h1
  exact ⟨d, e, h d m⟩
theorem x_p9 {P : D → Prop} (h : P (.int 1000000000)) : ∃ d, powD (.int 10) (.int 9) = some d ∧ P d := ⟨_, powD_of (by decide) (by decide) (by decide), by rw [show (10 : Int) ^ (9 : Int).toNat = 1000000000 from by decide]; exact h⟩
theorem x_p18 {P : D → Prop} (h : P (.int 1000000000000000000)) : ∃ d, powD (.int 10) (.int 18) = some d ∧ P d := ⟨_, powD_of (by decide) (by decide) (by decide), by rw [show (10 : Int) ^ (18 : Int).toNat = 1000000000000000000 from by decide]; exact h⟩
theorem x_p25 {P : D → Prop} (h : P (.int 10000000000000000000000000)) : ∃ d, powD (.int 10) (.int 25) = some d ∧ P d := ⟨_, powD_of (by decide) (by decide) (by decide), by rw [show (10 : Int) ^ (25 : Int).toNat = 10000000000000000000000000 from by decide]; exact h⟩
theorem x_p40 {P : D → Prop} (h : P (.int 10000000000000000000000000000000000000000)) : ∃ d, powD (.int 10) (.int 40) = some d ∧ P d := ⟨_, powD_of (by decide) (by decide) (by decide), by rw [show (10 : Int) ^ (40 : Int).toNat = 10000000000000000000000000000000000000000 from by decide]; exact h⟩
theorem x_p60 {P : D → Prop} (h : P (.int 1000000000000000000000000000000000000000000000000000000000000)) : ∃ d, powD (.int 10) (.int 60) = some d ∧ P d := ⟨_, powD_of (by decide) (by decide) (by decide), by rw [show (10 : Int) ^ (60 : Int).toNat = 1000000000000000000000000000000000000000000000000000000000000 from by decide]; exact h⟩
theorem x_ixli {S : Mem} {l : List Int} {r : Int} {P : D → Prop} (h0 : 0 ≤ r) (h1 : r < l.length) (h : ∀ n ∈ l, P (.int n)) : ∃ d, ixM S (.lst (l.map .int)) (.int r) = some d ∧ P d := x_ixl h0 (by rw [List.length_map]; exact h1) fun d hd => by
  obtain ⟨n, hn, rfl⟩ := List.mem_map.mp hd
  exact h n hn
/-! ### x in (..), == of tuples and lists of ints -/
theorem flat_ints (l : List Int) : (l.map D.int).all flatD = true := by
  induction l with
  | nil => rfl
  | cons a l ih => rw [List.map_cons, List.all_cons, ih]; rfl
theorem inV_ints (x : Int) (l : List Int) : inV (.int x) ((l.map D.int).map toV) = decide (x ∈ l) := by
  unfold inV
  induction l with
  | nil => simp
  | cons a l ih =>
    rw [List.map_cons, List.map_cons, List.any_cons, ih]
    show ((a == x) || decide (x ∈ l)) = _
    by_cases e : a = x
    · subst e
      simp
    · have e' : ¬ x = a := fun z => e z.symm
      simp [e, e']
theorem memB_ints (x : Int) (l : List Int) : memB (.int x) (l.map .int) = some (decide (x ∈ l)) := by
  unfold memB
  rw [flat_ints]
  show some (inV (.int x) _) = _
  rw [inV_ints]
theorem x_notin_t {x : Int} {l : List Int} {P : D → Prop} (h : P (.bl (!decide (x ∈ l)))) : ∃ d, notInD (.int x) (.tup (l.map .int)) = some d ∧ P d := by
  refine ⟨_, ?_, h⟩
  unfold notInD
  show (memB (.int x) (l.map .int)).map _ = _
  rw [memB_ints]
  rfl
theorem x_in_t {x : Int} {l : List Int} {P : D → Prop} (h : P (.bl (decide (x ∈ l)))) : ∃ d, inD (.int x) (.tup (l.map .int)) = some d ∧ P d := by
  refine ⟨_, ?_, h⟩
  unfold inD
  show (memB (.int x) (l.map .int)).map _ = _
  rw [memB_ints]
  rfl
theorem x_notin_l {x : Int} {l : List Int} {P : D → Prop} (h : P (.bl (!decide (x ∈ l)))) : ∃ d, notInD (.int x) (.lst (l.map .int)) = some d ∧ P d := by
  refine ⟨_, ?_, h⟩
  unfold notInD
  show (memB (.int x) (l.map .int)).map _ = _
  rw [memB_ints]
  rfl
theorem pyL_ints : ∀ l : List Int, PyData.canLayAll0 (pyL (l.map .int)) = true
  | [] => rfl
  | _ :: l => pyL_ints l
theorem depth_ints : ∀ l : List Int, PyData.depthAll (pyL (l.map .int)) ≤ 1
  | [] => by decide
  | a :: l => by
    have := depth_ints l
    simp only [List.map_cons, pyL, py, PyData.depthAll, PyData.depth] at this ⊢
    omega
theorem eqv_ints : ∀ l m : List Int, PyData.eqvAll (pyL (l.map .int)) (pyL (m.map .int)) = decide (l = m)
  | [], [] => rfl
  | [], _ :: _ => rfl
  | _ :: _, [] => rfl
  | a :: l, b :: m => by
    show ((a == b) && PyData.eqvAll (pyL (l.map .int)) (pyL (m.map .int))) = _
    rw [eqv_ints l m]
    by_cases e : a = b
    · subst e
      by_cases e2 : l = m
      · subst e2; simp
      · simp [e2]
    · simp [e]
theorem eqB_t (l m : List Int) : eqB (.tup (l.map .int)) (.tup (m.map .int)) = some (decide (l = m)) := by
  have pu : ∀ l : List Int, pureD (.tup (l.map .int)) = true := fun l => by
    unfold pureD SeqAt.shaped
    rw [Bool.and_eq_true]
    refine ⟨pyL_ints l, ?_⟩
    have := depth_ints l
    show decide (PyData.depthAll (pyL (l.map .int)) + 1 ≤ 64) = true
    exact decide_eq_true (by omega)
  show (if (pureD (.tup (l.map .int)) && pureD (.tup (m.map .int))) = true then some (PyData.eqv (py (.tup (l.map .int))) (py (.tup (m.map .int)))) else none) = _
  rw [pu, pu]
  show some (PyData.eqvAll _ _) = _
  rw [eqv_ints]
theorem eqB_l (l m : List Int) : eqB (.lst (l.map .int)) (.lst (m.map .int)) = some (decide (l = m)) := by
  have pu : ∀ l : List Int, pureD (.lst (l.map .int)) = true := fun l => by
    unfold pureD SeqAt.shaped
    rw [Bool.and_eq_true]
    refine ⟨pyL_ints l, ?_⟩
    have := depth_ints l
    show decide (PyData.depthAll (pyL (l.map .int)) + 1 ≤ 64) = true
    exact decide_eq_true (by omega)
  show (if (pureD (.lst (l.map .int)) && pureD (.lst (m.map .int))) = true then some (PyData.eqv (py (.lst (l.map .int))) (py (.lst (m.map .int)))) else none) = _
  rw [pu, pu]
  show some (PyData.eqvAll _ _) = _
  rw [eqv_ints]
theorem x_eqt {l m : List Int} {P : D → Prop} (h : P (.bl (decide (l = m)))) : ∃ d, eqD (.tup (l.map .int)) (.tup (m.map .int)) = some d ∧ P d := ⟨_, by unfold eqD; rw [eqB_t]; rfl, h⟩
theorem x_net {l m : List Int} {P : D → Prop} (h : P (.bl (!decide (l = m)))) : ∃ d, neD (.tup (l.map .int)) (.tup (m.map .int)) = some d ∧ P d := ⟨_, by unfold neD; rw [eqB_t]; rfl, h⟩
theorem x_eql {l m : List Int} {P : D → Prop} (h : P (.bl (decide (l = m)))) : ∃ d, eqD (.lst (l.map .int)) (.lst (m.map .int)) = some d ∧ P d := ⟨_, by unfold eqD; rw [eqB_l]; rfl, h⟩
theorem x_nel {l m : List Int} {P : D → Prop} (h : P (.bl (!decide (l = m)))) : ∃ d, neD (.lst (l.map .int)) (.lst (m.map .int)) = some d ∧ P d := ⟨_, by unfold neD; rw [eqB_l]; rfl, h⟩
/-! ### texts -/
def tx (cs : List Nat) : Str := ⟨cs.toArray⟩
theorem signs_tx (cs : List Nat) : signs (tx cs) = cs.map fun c => .str (tx [c]) := by simp [signs, tx]
theorem tx_len (cs : List Nat) : (tx cs).length = cs.length := by simp [tx, Str.length]
theorem tx_inj {a b : List Nat} (h : tx a = tx b) : a = b := by
  unfold tx at h
  have := Str.mk.inj h
  simpa using this
theorem tx_app (a b : List Nat) : tx a ++ tx b = tx (a ++ b) := by
  show Str.mk _ = Str.mk _
  simp [tx]
theorem str_tx (s : Str) : ∃ cs, s = tx cs := ⟨s.cps.toList, by obtain ⟨c⟩ := s; simp [tx]⟩
theorem x_ixs {S : Mem} {cs : List Nat} {r : Int} {P : D → Prop} (h0 : 0 ≤ r) (h1 : r < cs.length) (hl : cs.length ≤ 1000000) (h : ∀ c ∈ cs, P (.str (tx [c]))) : ∃ d, ixM S (.str (tx cs)) (.int r) = some d ∧ P d := by
  obtain ⟨d, e, m⟩ := at_mem h0 h1
  refine ⟨.str (tx [d]), ?_, h d m⟩
  show idxD (.str (tx cs)) (.int r) = _
  unfold idxD
  dsimp only
  rw [if_pos (by rw [tx_len]; exact hl)]
  show (atI cs r).map _ = _
  rw [e]
  rfl
theorem join_tx : ∀ us : List Nat, PySem.Txt.join (tx []) (us.map fun c => tx [c]) = tx us
  | [] => by decide
  | c :: us => by
    have ih := join_tx us
    unfold PySem.Txt.join at ih ⊢
    rw [PySem.StrLaws.glued_eq_join] at ih ⊢
    cases us with
    | nil => rfl
    | cons d us =>
      rw [List.map_cons, List.map_cons]
      rw [List.map_cons] at ih
      show tx [c] ++ tx [] ++ Str.join (tx []) (tx [d] :: us.map fun c => tx [c]) = _
      rw [ih, tx_app, tx_app]
      rfl
theorem strsOf_tx : ∀ us : List Nat, strsOf (us.map fun c => .str (tx [c])) = some (us.map fun c => tx [c])
  | [] => rfl
  | c :: us => by
    rw [List.map_cons]
    show (strsOf (us.map fun c => .str (tx [c]))).map _ = _
    rw [strsOf_tx us]
    rfl
theorem joinD_tx {us : List Nat} (h : us.length ≤ 1000000) : joinD (tx []) (.lst (us.map fun c => .str (tx [c]))) = some (.str (tx us)) := by
  unfold joinD
  dsimp only
  rw [strsOf_tx]
  show (if _ then _ else _) = _
  have e : ∀ us : List Nat, ((us.map fun c => tx [c]).map (·.length)).sum = us.length := by
    intro us
    induction us with
    | nil => rfl
    | cons c us ih =>
      rw [List.map_cons, List.map_cons, List.sum_cons, ih, List.length_cons]
      show 1 + us.length = _
      omega
  rw [if_pos (by rw [e]; show us.length + _ * 0 ≤ 10000000; omega), join_tx]
theorem t_empty : (("" : Str)) = tx [] := by decide +kernel
theorem x_in1 {c : Nat} {cs : List Nat} {P : D → Prop} (h : P (.bl (decide (c ∈ cs)))) : ∃ d, inD (.str (tx [c])) (.str (tx cs)) = some d ∧ P d := ⟨_, rfl, h⟩
theorem x_notin1 {c : Nat} {cs : List Nat} {P : D → Prop} (h : P (.bl (!decide (c ∈ cs)))) : ∃ d, notInD (.str (tx [c])) (.str (tx cs)) = some d ∧ P d := ⟨_, rfl, h⟩
theorem enumS_tx (cs : List Nat) : enumS (tx cs) = cs.zipIdx.map fun p => .tup [.int (p.2 : Nat), .str (tx [p.1])] := by simp [enumS, tx]
theorem t_two : (("2" : Str)) = tx [50] := by decide +kernel
theorem t_half : (("/" : Str)) = tx [47] := by decide +kernel
theorem t_plus : (("+" : Str)) = tx [43] := by decide +kernel
theorem t_minus : (("-" : Str)) = tx [45] := by decide +kernel
theorem t_dh : (("2/" : Str)) = tx [50, 47] := by decide +kernel
theorem t_pm : (("+-" : Str)) = tx [43, 45] := by decide +kernel
theorem t_mp : (("-+" : Str)) = tx [45, 43] := by decide +kernel
theorem t_dph : (("2+/" : Str)) = tx [50, 43, 47] := by decide +kernel
theorem t_signs : (("+-2/" : Str)) = tx [43, 45, 50, 47] := by decide +kernel
theorem tx1 {a b : Nat} : tx [a] = tx [b] ↔ a = b := ⟨fun h => by have := tx_inj h; simpa using this, fun h => by rw [h]⟩
/-- where c stands in a list -/
def idxs (c : Nat) : List Nat → Nat → List Nat
  | [], _ => []
  | a :: l, k => if a = c then k :: idxs c l (k + 1) else idxs c l (k + 1)
theorem idxs_len (c : Nat) : ∀ (l : List Nat) (k : Nat), (idxs c l k).length = l.count c
  | [], _ => rfl
  | a :: l, k => by
    unfold idxs
    by_cases h : a = c
    · rw [if_pos h, List.length_cons, idxs_len c l, h, List.count_cons_self]
    · rw [if_neg h, idxs_len c l, List.count_cons_of_ne (fun z => h z)]
theorem idxs_filter (c : Nat) : ∀ (l : List Nat) (k : Nat), (List.range' k (l.length + 1)).filter (fun i => decide (l[i - k]? = some c)) = idxs c l k
  | [], k => by
    unfold idxs
    simp [List.range']
  | a :: l, k => by
    rw [List.length_cons, List.range'_succ, List.filter_cons]
    have e : (List.range' (k + 1) (l.length + 1)).filter (fun i => decide ((a :: l)[i - k]? = some c)) = (List.range' (k + 1) (l.length + 1)).filter (fun i => decide (l[i - (k + 1)]? = some c)) := by
      refine List.filter_congr fun i hi => ?_
      have h1 : k + 1 ≤ i := (List.mem_range'.mp hi).elim fun m hm => by omega
      have h2 : i - k = (i - (k + 1)) + 1 := by omega
      rw [h2, List.getElem?_cons_succ]
    rw [e, idxs_filter c l (k + 1)]
    have e2 : idxs c (a :: l) k = if a = c then k :: idxs c l (k + 1) else idxs c l (k + 1) := rfl
    rw [e2]
    by_cases h : a = c
    · simp [h]
    · simp [h]
theorem occ_loop (s sub : Str) (hi limit : Nat) (p : Nat → Bool) (hw : sub.length = 1) (hp : ∀ i, (i + sub.length ≤ hi ∧ PySem.Builtin.Str.subAt s sub i = true) ↔ p i = true) : ∀ (n k : Nat) (st : Array Nat × Nat), st.snd ≤ k → st.fst.size + n ≤ limit →
    (forIn (List.range' k n) st (PySem.StrLaws.occBody s sub hi limit)).run.fst.toList = st.fst.toList ++ (List.range' k n).filter p
  | 0, k, st, h1, h2 => by simp [List.range']
  | n + 1, k, st, h1, h2 => by
    rw [List.range'_succ, List.forIn_cons, List.filter_cons]
    unfold PySem.StrLaws.occBody
    by_cases h : p k = true
    · have q := (hp k).mpr h
      rw [if_pos ⟨⟨⟨by omega, h1⟩, q.1⟩, q.2⟩, if_pos h]
      have ih := occ_loop s sub hi limit p hw hp n (k + 1) (st.fst.push k, k + sub.length) (by rw [hw]; exact Nat.le_refl _) (by simp; omega)
      show (forIn (List.range' (k + 1) n) (st.fst.push k, k + sub.length) (PySem.StrLaws.occBody s sub hi limit)).run.fst.toList = _
      rw [ih]
      simp
    · rw [if_neg (fun z => h ((hp k).mp ⟨z.1.2, z.2⟩)), if_neg h]
      have ih := occ_loop s sub hi limit p hw hp n (k + 1) st (by omega) (by omega)
      exact ih
theorem sub1 {cs : List Nat} {c i : Nat} : (i + 1 ≤ cs.length ∧ PySem.Builtin.Str.subAt (tx cs) (tx [c]) i = true) ↔ decide (cs[i]? = some c) = true := by
  rw [decide_eq_true_iff]
  have e : ((tx cs).cps.extract i (i + 1)).toList = (cs.drop i).take 1 := by
    show (cs.toArray.extract i (i + 1)).toList = _
    simp [Array.toList_extract, List.extract_eq_take_drop]
  unfold PySem.Builtin.Str.subAt
  rw [beq_iff_eq]
  constructor
  · rintro ⟨h1, h2⟩
    have h3 := congrArg Array.toList h2
    have h4 : (cs.drop i).take 1 = [c] := e ▸ h3
    rw [List.drop_eq_getElem_cons (by omega), List.take_succ_cons] at h4
    rw [List.getElem?_eq_getElem (by omega)]
    exact congrArg some (List.cons.inj h4).1
  · intro h
    have hl := (List.getElem?_eq_some_iff.mp h).1
    refine ⟨by omega, ?_⟩
    apply Array.toList_inj.mp
    refine e.trans ?_
    rw [List.drop_eq_getElem_cons (by omega), List.take_succ_cons, (List.getElem?_eq_some_iff.mp h).2]
    rfl
theorem occ_tx (cs : List Nat) (c : Nat) : PySem.Builtin.Str.occurrences (tx cs) (tx [c]) 0 (tx cs).length ((tx cs).length + 1) = idxs c cs 0 := by
  rw [PySem.StrLaws.occ_eq, tx_len]
  rw [occ_loop (tx cs) (tx [c]) cs.length (cs.length + 1) (fun i => decide (cs[i]? = some c)) (tx_len [c]) (fun i => sub1) _ 0 (#[], 0) (Nat.le_refl _) (by simp)]
  have := idxs_filter c cs 0
  simpa using this
theorem countD_tx (cs : List Nat) (c : Nat) : countD (tx cs) (.str (tx [c])) = some (.int (cs.count c : Nat)) := by
  unfold countD PySem.Txt.count
  dsimp only
  rw [occ_tx, idxs_len]
theorem x_count {cs : List Nat} {c : Nat} {P : D → Prop} (h : P (.int (cs.count c : Nat))) : ∃ d, countD (tx cs) (.str (tx [c])) = some d ∧ P d := ⟨_, countD_tx cs c, h⟩
end Dl
/-! the semantic functions, by gen.py -/
namespace Dl
open PySem L2
def g_need_work : SemS := (fr (itES (vr 0)) (tgT 2 (tgc (tgN 1) (tgc (tgN 2) tg0))) (ifs (orr (bin eqD (vr 1) (cc (.int 400))) (bin notInD (vr 2) (cc (.str "+-2/")))) (rsi 0 "place" (vr 1)) skip))
def M_need_work : Fn := bodyI 3 g_need_work
def g_two : SemS := (sq (asg 1 (cc (.int 1)))
    (sq (fr (itR (alc (vr 0) al0)) (tgN 2) (aug 1 imulD (cc (.int 2))))
    (ret (vr 1))))
def M_two : Fn := bodyI 3 g_two
def g_need_card : SemS := (sq (asgT (tgT 4 (tgc (tgN 1) (tgc (tgN 2) (tgc (tgN 3) (tgc (tgN 4) tg0))))) (vr 0))
    (sq (ifs (nt (chn leD leD (cc (.int 0)) (vr 1) (cc (.int 1000)))) (rsi 2 "part" (cc (.int 0))) skip)
    (sq (ifs (nt (chn leD leD (cc (.int 0)) (vr 2) (cc (.int 1000)))) (rsi 2 "part" (cc (.int 1))) skip)
    (sq (ifs (nt (chn leD ltD (cc (.int 0)) (vr 3) (callF 1 M_two (alc (vr 2) al0)))) (rsi 2 "part" (cc (.int 2))) skip)
    (ifs (nt (chn leD leD (bin subD (cc (.int 0)) (cc (.int 1000000000000000000000000000000000000000000000000000000000000))) (vr 4) (cc (.int 1000000000000000000000000000000000000000000000000000000000000)))) (rsi 2 "part" (cc (.int 3))) skip)))))
def M_need_card : Fn := bodyI 5 g_need_card
def g_step_on : SemS := (sq (ifs (bin eqD (vr 0) (cc (.str "2"))) (ret (bin mulA (cc (.int 2)) (vr 1))) skip)
    (sq (ifs (bin eqD (vr 0) (cc (.str "/"))) (ret (bin divD (vr 1) (cc (.int 2)))) skip)
    (ret (iff (bin eqD (vr 0) (cc (.str "+"))) (bin addD (vr 1) (cc (.int 1))) (bin subD (vr 1) (cc (.int 1)))))))
def M_step_on : Fn := bodyI 2 g_step_on
def g_even : SemS := (sq (asg 4 (callF 1 M_two (alc (vr 1) al0)))
    (ret (tupl (alc (vr 0) (alc (vr 1) (alc (bin modD (vr 2) (vr 4)) (alc (bin addD (vr 3) (bin mulA (bin divD (vr 2) (vr 4)) (callF 1 M_two (alc (vr 0) al0)))) al0)))))))
def M_even : Fn := bodyI 5 g_even
def g_stepped : SemS := (sq (asgT (tgT 4 (tgc (tgN 2) (tgc (tgN 3) (tgc (tgN 4) (tgc (tgN 5) tg0))))) (vr 0))
    (sq (ifs (bin eqD (vr 1) (cc (.str "2"))) (ret (tupl (alc (bin addD (vr 2) (cc (.int 1))) (alc (vr 3) (alc (vr 4) (alc (bin mulA (cc (.int 2)) (vr 5)) al0)))))) skip)
    (sq (ifs (bin neD (vr 1) (cc (.str "/"))) (ret (tupl (alc (vr 2) (alc (vr 3) (alc (vr 4) (alc (callF 2 M_step_on (alc (vr 1) (alc (vr 5) al0))) al0)))))) skip)
    (sq (ifs (bin gtD (vr 2) (cc (.int 0))) (ret (tupl (alc (bin subD (vr 2) (cc (.int 1))) (alc (vr 3) (alc (vr 4) (alc (bin divD (vr 5) (cc (.int 2))) al0)))))) skip)
    (ret (callF 4 M_even (alc (cc (.int 0)) (alc (bin addD (vr 3) (cc (.int 1))) (alc (bin addD (vr 4) (bin mulA (vr 5) (callF 1 M_two (alc (vr 3) al0)))) (alc (cc (.int 0)) al0))))))))))
def M_stepped : Fn := bodyI 6 g_stepped
def g_card_of : SemS := (sq (asg 1 (cc (.tup [(.int 0), (.int 0), (.int 0), (.int 0)])))
    (sq (fr (itS (vr 0)) (tgN 2) (asg 1 (callF 2 M_stepped (alc (vr 1) (alc (vr 2) al0)))))
    (ret (vr 1))))
def M_card_of : Fn := bodyI 3 g_card_of
def g_make : SemS := (sq (asgT (tgT 4 (tgc (tgN 2) (tgc (tgN 3) (tgc (tgN 4) (tgc (tgN 5) tg0))))) (vr 0))
    (ret (bin addD (bin mulA (bin divD (bin addD (vr 1) (vr 4)) (callF 1 M_two (alc (vr 3) al0))) (callF 1 M_two (alc (vr 2) al0))) (vr 5))))
def M_make : Fn := bodyI 6 g_make
def g_first_parting : SemS := (sq (ifs (bin neD (callF 2 M_make (alc (vr 0) (alc (cc (.int 0)) al0))) (callF 2 M_make (alc (vr 1) (alc (cc (.int 0)) al0)))) (ret (cc (.int 0))) skip)
    (sq (par 2 3 (alc (bin subD (callF 1 M_two (alc (ixm (vr 0) (cc (.int 1))) al0)) (ixm (vr 0) (cc (.int 2)))) (alc (bin subD (callF 1 M_two (alc (ixm (vr 1) (cc (.int 1))) al0)) (ixm (vr 1) (cc (.int 2)))) al0)))
    (sq (ifs (orr (bin neD (vr 2) (vr 3)) (bin neD (ixm (vr 0) (cc (.int 0))) (ixm (vr 1) (cc (.int 0))))) (ret (cal min2D (alc (vr 2) (alc (vr 3) al0)))) skip)
    (ret (iff (bin neD (ixm (vr 0) (cc (.int 1))) (ixm (vr 1) (cc (.int 1)))) (bin addD (vr 2) (callF 1 M_two (alc (cal min2D (alc (ixm (vr 0) (cc (.int 1))) (alc (ixm (vr 1) (cc (.int 1))) al0))) al0))) (cc .non))))))
def M_first_parting : Fn := bodyI 4 g_first_parting
def g_alike : SemS := (sq (drp (callF 1 M_need_work (alc (vr 0) al0)))
    (sq (drp (callF 1 M_need_work (alc (vr 1) al0)))
    (ret (callF 2 M_first_parting (alc (callF 1 M_card_of (alc (vr 0) al0)) (alc (callF 1 M_card_of (alc (vr 1) al0)) al0))))))
def M_alike : Fn := bodyI 2 g_alike
def g_parting : SemS := (sq (drp (callF 1 M_need_card (alc (vr 0) al0)))
    (sq (drp (callF 1 M_need_card (alc (vr 1) al0)))
    (ret (callF 2 M_first_parting (alc (vr 0) (alc (vr 1) al0))))))
def M_parting : Fn := bodyI 2 g_parting
def g_l_dice : SemS := (sq (asg 1 (cc (.int 0)))
    (sq (fr (itL (vr 0)) (tgN 2) (asg 1 (bin modD (bin addD (bin addD (bin mulA (vr 1) (cc (.int 48271))) (bin mulA (bin modD (vr 2) (cc (.int 2147483647))) (cc (.int 69621)))) (cc (.int 11))) (cc (.int 2147483647)))))
    (ret (lstl (alc (vr 0) (alc (cc (.int 0)) (alc (bin mulA (vr 1) (cal intD (alc (bin gtD (cal lenD (alc (vr 0) al0)) (cc (.int 2))) al0))) (alc (cc (.int 0)) al0))))))))
def M_l_dice : Fn := bodyF 3 g_l_dice
def g_l_next : SemS := (sq (ifs (bin gtD (ixm (vr 0) (cc (.int 3))) (cc (.int 0))) (sq (asg 2 (bin modD (ixm (vr 0) (cc (.int 3))) (vr 1)))
    (sq (putM (bin divD (ixm (vr 0) (cc (.int 3))) (vr 1)) (vr 0) (cc (.int 3)))
    (ret (vr 2)))) skip)
    (sq (putM (bin addD (ixm (vr 0) (cc (.int 1))) (cc (.int 1))) (vr 0) (cc (.int 1)))
    (sq (ifs (bin leD (ixm (vr 0) (cc (.int 1))) (cal lenD (alc (ixm (vr 0) (cc (.int 0))) al0))) (sq (asg 3 (ixm (ixm (vr 0) (cc (.int 0))) (bin subD (ixm (vr 0) (cc (.int 1))) (cc (.int 1)))))
    (sq (putM (iff (bin geD (vr 3) (bin powD (cc (.int 10)) (cc (.int 18)))) (bin divD (vr 3) (vr 1)) (cc (.int 0))) (vr 0) (cc (.int 3)))
    (ret (bin modD (vr 3) (vr 1))))) skip)
    (sq (putM (bin modD (bin mulA (ixm (vr 0) (cc (.int 2))) (cc (.int 48271))) (cc (.int 2147483647))) (vr 0) (cc (.int 2)))
    (ret (bin modD (bin divD (ixm (vr 0) (cc (.int 2))) (cc (.int 7))) (vr 1)))))))
def M_l_next : Fn := bodyI 4 g_l_next
def g_l_like (MREC : Fn) : SemS := (sq (ifs (orr (un (isiD "tuple") (vr 1)) (un (isiD "list") (vr 1))) (sq (ifs (bin neD (un (isiD "tuple") (vr 0)) (un (isiD "tuple") (vr 1))) (ret (cc (.bl false))) skip)
    (sq (ifs (orr (bin neD (un (isiD "list") (vr 0)) (un (isiD "list") (vr 1))) (bin neD (cal lenD (alc (vr 0) al0)) (cal lenD (alc (vr 1) al0)))) (ret (cc (.bl false))) skip)
    (ret (bin eqD (lc (itR (alc (cal lenD (alc (vr 1) al0)) al0)) (tgN 2) [2] (nt (callF 2 MREC (alc (ixm (vr 0) (vr 2)) (alc (ixm (vr 1) (vr 2)) al0)))) (vr 2)) (lstl al0))))) skip)
    (sq (ifs (bin neD (un (isiD "bool") (vr 0)) (un (isiD "bool") (vr 1))) (ret (cc (.bl false))) skip)
    (sq (ifs (orr (bin neD (un (isiD "int") (vr 0)) (un (isiD "int") (vr 1))) (bin neD (un (isiD "str") (vr 0)) (un (isiD "str") (vr 1)))) (ret (cc (.bl false))) skip)
    (ret (bin eqD (vr 0) (vr 1))))))
def M_l_like_n : Nat → Fn
  | 0 => fun _ _ => .no
  | n + 1 => bodyI 3 (g_l_like (M_l_like_n n))
def M_l_like : Fn := M_l_like_n 6
def g_l_pick : SemS := (ret (ixm (vr 1) (callF 2 M_l_next (alc (vr 0) (alc (cal lenD (alc (vr 1) al0)) al0)))))
def M_l_pick : Fn := bodyI 2 g_l_pick
def g_l_two : SemS := (sq (asg 1 (cc (.int 1)))
    (sq (fr (itR (alc (vr 0) al0)) (tgN 2) (asg 1 (bin mulA (vr 1) (cc (.int 2)))))
    (ret (vr 1))))
def M_l_two : Fn := bodyI 3 g_l_two
def g_l_work : SemS := (sq (asg 2 (ixm (lstl (alc (cc (.str "+-2/")) (alc (cc (.str "++--22//+-2/")) (alc (cc (.str "22//+")) (alc (cc (.str "/-+")) al0))))) (callF 2 M_l_next (alc (vr 0) (alc (cc (.int 4)) al0)))))
    (ret (sm1 joinD (cc (.str "")) (lc (itR (alc (callF 2 M_l_next (alc (vr 0) (alc (bin addD (vr 1) (cc (.int 1))) al0))) al0)) (tgN 3) [3] (cc (.bl true)) (ixm (vr 2) (callF 2 M_l_next (alc (vr 0) (alc (cal lenD (alc (vr 2) al0)) al0))))))))
def M_l_work : Fn := bodyI 4 g_l_work
def g_l_number : SemS := (sq (asg 1 (ixm (lstl (alc (cc (.int 9)) (alc (cc (.int 300)) (alc (bin powD (cc (.int 10)) (cc (.int 9))) (alc (bin powD (cc (.int 10)) (cc (.int 60))) al0))))) (callF 2 M_l_next (alc (vr 0) (alc (cc (.int 4)) al0)))))
    (ret (bin subD (callF 2 M_l_next (alc (vr 0) (alc (bin addD (bin mulA (cc (.int 2)) (vr 1)) (cc (.int 1))) al0))) (vr 1))))
def M_l_number : Fn := bodyI 2 g_l_number
def g_l_run : SemS := (sq (fr (itS (vr 0)) (tgN 2) (ifs (bin eqD (vr 2) (cc (.str "2"))) (asg 1 (bin mulA (vr 1) (cc (.int 2)))) (ifs (bin eqD (vr 2) (cc (.str "/"))) (asg 1 (bin divD (vr 1) (cc (.int 2)))) (asg 1 (bin subD (bin addD (vr 1) (cc (.int 1))) (bin mulA (cc (.int 2)) (cal intD (alc (bin eqD (vr 2) (cc (.str "-"))) al0))))))))
    (ret (vr 1)))
def M_l_run : Fn := bodyI 3 g_l_run
def g_l_make : SemS := (sq (asgT (tgT 4 (tgc (tgN 2) (tgc (tgN 3) (tgc (tgN 4) (tgc (tgN 5) tg0))))) (vr 0))
    (ret (bin addD (bin mulA (bin divD (bin addD (vr 1) (vr 4)) (callF 1 M_l_two (alc (vr 3) al0))) (callF 1 M_l_two (alc (vr 2) al0))) (vr 5))))
def M_l_make : Fn := bodyI 6 g_l_make
def g_l_pack : SemS := (sq (par 4 5 (alc (callF 2 M_l_next (alc (vr 0) (alc (bin addD (vr 1) (cc (.int 1))) al0))) (alc (callF 2 M_l_next (alc (vr 0) (alc (bin addD (vr 1) (cc (.int 1))) al0))) al0)))
    (sq (asg 2 (callF 1 M_l_two (alc (vr 5) al0)))
    (sq (asg 3 (ixm (lstl (alc (callF 2 M_l_next (alc (vr 0) (alc (vr 2) al0))) (alc (cc (.int 0)) (alc (bin subD (vr 2) (cc (.int 1))) (alc (bin divD (vr 2) (cc (.int 2))) (alc (bin divD (vr 2) (cc (.int 3))) (alc (bin divD (vr 2) (cc (.int 5))) al0))))))) (callF 2 M_l_next (alc (vr 0) (alc (cc (.int 6)) al0)))))
    (ret (tupl (alc (vr 4) (alc (vr 5) (alc (vr 3) (alc (ixm (lstl (alc (bin subD (callF 2 M_l_next (alc (vr 0) (alc (cc (.int 21)) al0))) (cc (.int 10))) (alc (callF 1 M_l_number (alc (vr 0) al0)) al0))) (callF 2 M_l_next (alc (vr 0) (alc (cc (.int 2)) al0)))) al0)))))))))
def M_l_pack : Fn := bodyI 6 g_l_pack
def g_stays : SemS := (sq (drp (callF 1 M_need_card (alc (vr 0) al0)))
    (sq (asgT (tgT 4 (tgc (tgN 2) (tgc (tgN 3) (tgc (tgN 4) (tgc (tgN 5) tg0))))) (vr 0))
    (sq (asg 1 (callF 1 M_two (alc (vr 3) al0)))
    (sq (ifs (bin eqD (vr 2) (vr 3)) (ret (iff (bin eqD (bin divD (bin addD (vr 4) (vr 5)) (vr 1)) (cc (.int 0))) (tupl (alc (bin modD (vr 5) (vr 1)) (alc (vr 1) al0))) (lstl al0))) skip)
    (sq (ifs (bin gtD (vr 2) (vr 3)) (sq (asg 6 (bin divD (bin addD (vr 4) (vr 5)) (vr 1)))
    (asg 7 (iff (bin eqD (bin modD (vr 6) (bin subD (callF 1 M_two (alc (bin subD (vr 2) (vr 3)) al0)) (cc (.int 1)))) (cc (.int 0))) (lstl (alc (bin subD (cc (.int 0)) (bin divD (vr 6) (bin subD (callF 1 M_two (alc (bin subD (vr 2) (vr 3)) al0)) (cc (.int 1))))) al0)) (lstl al0)))) (sq (asg 8 (bin subD (vr 1) (callF 1 M_two (alc (vr 2) al0))))
    (sq (asg 9 (bin divD (bin addD (vr 4) (vr 5)) (vr 8)))
    (asg 7 (rngF (alc (bin addD (bin divD (bin subD (bin addD (vr 4) (vr 5)) (vr 1)) (vr 8)) (cc (.int 1))) (alc (bin addD (vr 9) (cc (.int 1))) al0)))))))
    (ret (lc (itL (vr 7)) (tgN 10) [10] (cc (.bl true)) (bin addD (bin mulA (vr 10) (callF 1 M_two (alc (vr 2) al0))) (vr 5)))))))))
def M_stays : Fn := bodyI 11 g_stays
def g_need_number : SemS := (ifs (nt (chn leD leD (bin subD (cc (.int 0)) (cc (.int 1000000000000000000000000000000000000000000000000000000000000))) (vr 0) (cc (.int 1000000000000000000000000000000000000000000000000000000000000)))) (rse 1) skip)
def M_need_number : Fn := bodyI 1 g_need_number
def g_at_last : SemS := (sq (drp (callF 1 M_need_card (alc (vr 0) al0)))
    (sq (drp (callF 1 M_need_number (alc (vr 1) al0)))
    (sq (asg 2 (iff (bin geD (ixm (vr 0) (cc (.int 0))) (ixm (vr 0) (cc (.int 1)))) (cc (.int 2)) (cc (.int 2000))))
    (sq (fr (itR (alc (vr 2) al0)) (tgN 3) (sq (asg 4 (callF 2 M_make (alc (vr 0) (alc (vr 1) al0))))
    (sq (ifs (bin eqD (vr 4) (vr 1)) (ret (tupl (alc (vr 3) (alc (vr 1) al0)))) skip)
    (asg 1 (vr 4)))))
    (ret (cc .non))))))
def M_at_last : Fn := bodyI 5 g_at_last
def g_leading : SemS := (sq (drp (callF 1 M_need_card (alc (vr 0) al0)))
    (sq (drp (callF 1 M_need_number (alc (vr 1) al0)))
    (sq (asgT (tgT 4 (tgc (tgN 3) (tgc (tgN 4) (tgc (tgN 5) (tgc (tgN 6) tg0))))) (vr 0))
    (sq (ifs (bin neD (bin modD (bin subD (vr 1) (vr 6)) (callF 1 M_two (alc (vr 3) al0))) (cc (.int 0))) (ret (cc .non)) skip)
    (sq (asg 2 (bin subD (bin mulA (bin divD (bin subD (vr 1) (vr 6)) (callF 1 M_two (alc (vr 3) al0))) (callF 1 M_two (alc (vr 4) al0))) (vr 5)))
    (ret (tupl (alc (vr 2) (alc (bin subD (bin addD (vr 2) (callF 1 M_two (alc (vr 4) al0))) (cc (.int 1))) al0)))))))))
def M_leading : Fn := bodyI 7 g_leading
def g_undone : SemS := (sq (drp (callF 1 M_need_card (alc (vr 0) al0)))
    (sq (asgT (tgT 4 (tgc (tgN 2) (tgc (tgN 3) (tgc (tgN 4) (tgc (tgN 5) tg0))))) (vr 0))
    (sq (asg 1 (iff (bin eqD (vr 2) (cc (.int 0))) (tupl (alc (vr 3) (alc (cc (.int 0)) (alc (cc (.int 0)) (alc (bin subD (bin subD (cc (.int 0)) (bin mulA (vr 5) (callF 1 M_two (alc (vr 3) al0)))) (vr 4)) al0))))) (cc .non)))
    (ret (tupl (alc (vr 1) (alc (iff (bin eqD (vr 3) (cc (.int 0))) (callF 4 M_even (alc (cc (.int 0)) (alc (vr 2) (alc (bin subD (cc (.int 0)) (vr 5)) (alc (cc (.int 0)) al0))))) (cc .non)) al0)))))))
def M_undone : Fn := bodyI 6 g_undone
def g_run : SemS := (sq (drp (callF 1 M_need_work (alc (vr 0) al0)))
    (sq (drp (callF 1 M_need_number (alc (vr 1) al0)))
    (sq (fr (itS (vr 0)) (tgN 2) (asg 1 (callF 2 M_step_on (alc (vr 2) (alc (vr 1) al0)))))
    (ret (vr 1)))))
def M_run : Fn := bodyI 3 g_run
def g_card : SemS := (sq (drp (callF 1 M_need_work (alc (vr 0) al0)))
    (ret (callF 1 M_card_of (alc (vr 0) al0))))
def M_card : Fn := bodyI 1 g_card
def g_made : SemS := (sq (drp (callF 1 M_need_card (alc (vr 0) al0)))
    (sq (drp (callF 1 M_need_number (alc (vr 1) al0)))
    (ret (callF 2 M_make (alc (vr 0) (alc (vr 1) al0))))))
def M_made : Fn := bodyI 2 g_made
def g_behind : SemS := (sq (asgT (tgT 4 (tgc (tgN 3) (tgc (tgN 4) (tgc (tgN 5) (tgc (tgN 6) tg0))))) (vr 0))
    (sq (asgT (tgT 4 (tgc (tgN 7) (tgc (tgN 8) (tgc (tgN 9) (tgc (tgN 10) tg0))))) (vr 1))
    (sq (ifs (bin geD (vr 3) (vr 8)) (ret (callF 4 M_even (alc (bin addD (bin subD (vr 3) (vr 8)) (vr 7)) (alc (vr 4) (alc (vr 5) (alc (bin addD (bin mulA (bin divD (bin addD (vr 6) (vr 9)) (callF 1 M_two (alc (vr 8) al0))) (callF 1 M_two (alc (vr 7) al0))) (vr 10)) al0)))))) skip)
    (sq (asg 2 (bin divD (bin addD (vr 6) (vr 9)) (callF 1 M_two (alc (vr 3) al0))))
    (ret (callF 4 M_even (alc (vr 7) (alc (bin subD (bin addD (vr 4) (vr 8)) (vr 3)) (alc (bin addD (vr 5) (bin mulA (vr 2) (callF 1 M_two (alc (vr 4) al0)))) (alc (vr 10) al0))))))))))
def M_behind : Fn := bodyI 11 g_behind
def g_need_few : SemS := (ifs (orr (bin gtD (ixm (vr 0) (cc (.int 0))) (cc (.int 1000))) (bin gtD (ixm (vr 0) (cc (.int 1))) (cc (.int 1000)))) (rse 4) skip)
def M_need_few : Fn := bodyI 1 g_need_few
def g_joined : SemS := (sq (drp (callF 1 M_need_card (alc (vr 0) al0)))
    (sq (drp (callF 1 M_need_card (alc (vr 1) al0)))
    (sq (asg 2 (callF 2 M_behind (alc (vr 0) (alc (vr 1) al0))))
    (sq (drp (callF 1 M_need_few (alc (vr 2) al0)))
    (ret (vr 2))))))
def M_joined : Fn := bodyI 3 g_joined
def g_need_count : SemS := (ifs (nt (chn leD leD (vr 1) (vr 0) (vr 2))) (rse 3) skip)
def M_need_count : Fn := bodyI 3 g_need_count
def g_often : SemS := (sq (drp (callF 1 M_need_card (alc (vr 0) al0)))
    (sq (drp (callF 3 M_need_count (alc (vr 1) (alc (cc (.int 0)) (alc (cc (.int 1000000000000000000)) al0)))))
    (sq (par 3 4 (alc (ixm (vr 0) (cc (.int 0))) (alc (ixm (vr 0) (cc (.int 1))) al0)))
    (sq (ifs (bin gtD (vr 1) (cc (.int 0))) (drp (callF 1 M_need_few (alc (tupl (alc (bin addD (vr 3) (bin mulA (cal max2D (alc (bin subD (vr 3) (vr 4)) (alc (cc (.int 0)) al0))) (bin subD (vr 1) (cc (.int 1))))) (alc (bin addD (vr 4) (bin mulA (cal max2D (alc (bin subD (vr 4) (vr 3)) (alc (cc (.int 0)) al0))) (bin subD (vr 1) (cc (.int 1))))) al0))) al0))) skip)
    (sq (asg 2 (cc (.tup [(.int 0), (.int 0), (.int 0), (.int 0)])))
    (sq (wloop (bin gtD (vr 1) (cc (.int 0))) (sq (ifs (bin eqD (bin modD (vr 1) (cc (.int 2))) (cc (.int 1))) (asg 2 (callF 2 M_behind (alc (vr 2) (alc (vr 0) al0)))) skip)
    (sq (aug 1 idivD (cc (.int 2)))
    (asg 0 (iff (bin gtD (vr 1) (cc (.int 0))) (callF 2 M_behind (alc (vr 0) (alc (vr 0) al0))) (vr 0))))) 3000)
    (ret (vr 2))))))))
def M_often : Fn := bodyI 5 g_often
def GS_l_told (z : Err) (a : Addr) (d : Option Addr) : SemS := (sq (asg 2 (lstl (alc (isE a d 1 (decide (z.c = 0))) (alc (isE a d 1 (decide (z.c = 1))) (alc (isE a d 1 (decide (z.c = 2))) (alc (isE a d 1 (decide (z.c = 3))) al0))))))
    (sq (asg 2 (bin addD (vr 2) (lstl (alc (isE a d 1 (decide (z.c = 4))) (alc (isE a d 1 (decide (z.c = 5))) (alc (isE a d 1 (decide (z.c = 6))) (alc (isE a d 1 (decide (z.c = 7))) al0)))))))
    (sq (asg 3 (lstl (alc (cc (.str "BadWork")) (alc (cc (.str "BadNumber")) (alc (cc (.str "BadCard")) (alc (cc (.str "BadCount")) (alc (cc (.str "TooMany")) (alc (cc (.str "Longer")) (alc (cc (.str "BadDeed")) (alc (cc (.str "BadText")) al0))))))))))
    (sq (asg 4 (iff (bin eqD (lm1 cntLD (vr 2) (cc (.bl true))) (cc (.int 1))) (ixm (vr 3) (lm1 idxLD (vr 2) (cc (.bl true)))) (cc (.str "other"))))
    (sq (ifs (bin eqD (vr 4) (cc (.str "BadWork"))) (ret (tupl (alc (cc (.str "refused")) (alc (vr 4) (alc (exf a d z.c 0 1 "place") al0))))) skip)
    (sq (ifs (bin eqD (vr 4) (cc (.str "BadCard"))) (ret (tupl (alc (cc (.str "refused")) (alc (vr 4) (alc (exf a d z.c 2 1 "part") al0))))) skip)
    (sq (ifs (bin eqD (vr 4) (cc (.str "BadDeed"))) (ret (tupl (alc (cc (.str "refused")) (alc (vr 4) (alc (exf a d z.c 6 1 "at") al0))))) skip)
    (ret (bin addD (tupl (alc (cc (.str "refused")) (alc (vr 4) al0))) (iff (bin eqD (vr 4) (cc (.str "BadText"))) (tupl (alc (exf a d z.c 7 1 "row") al0)) (tupl al0)))))))))))
def GS_l_found (f : Addr) (vs : List V) (ms : List Bool) (dds : List D) (fe : Sem) : SemS := (sq (par3 4 5 6 (alc (cc (.int 0)) (alc (callF 1 M_l_two (alc (vr 1) al0)) (alc (cloS f vs ms dds fe 2 (alc (cc (.int 0)) al0)) al0))))
    (sq (fr (itR (alc (bin addD (vr 1) (cc (.int 1))) al0)) (tgN 3) (sq (asg 7 (bin divD (bin addD (vr 4) (vr 5)) (cc (.int 2))))
    (ifs (bin gtD (cloS f vs ms dds fe 2 (alc (vr 7) al0)) (vr 6)) (asg 5 (vr 7)) (asg 4 (vr 7)))))
    (ret (tupl (alc (vr 0) (alc (vr 1) (alc (bin subD (callF 1 M_l_two (alc (vr 1) al0)) (vr 5)) (alc (vr 6) al0))))))))
def g_l_card : SemS := (sq (asgT (tgT 2 (tgc (tgN 2) (tgc (tgN 3) tg0))) (tupl (alc (cc (.int 0)) (alc (cc (.int 0)) al0))))
    (sq (fr (itS (vr 0)) (tgN 1) (ifs (bin eqD (vr 1) (cc (.str "2"))) (asg 2 (bin addD (vr 2) (cc (.int 1)))) (ifs (ad (bin eqD (vr 1) (cc (.str "/"))) (bin gtD (vr 2) (cc (.int 0)))) (asg 2 (bin subD (vr 2) (cc (.int 1)))) (ifs (bin eqD (vr 1) (cc (.str "/"))) (asg 3 (bin addD (vr 3) (cc (.int 1)))) skip))))
    (ret (lamS foundF (callF 2 M_l_run (alc (vr 0) (alc (vr 4) al0))) [] 2 (alc (vr 2) (alc (vr 3) al0))))))
def M_l_card : Fn := bodyI 4 g_l_card
end Dl
/-! the semantic functions of later laws, by gen.py -/
namespace Dl
open PySem L2
def g_written : SemS := (sq (fr (itL (vr 0)) (tgN 1) (drp (callF 1 M_need_card (alc (vr 1) al0))))
    (ret (sm1 joinD (cc (.str "\n")) (lc (itL (vr 0)) (tgN 1) [1] (cc (.bl true)) (sm1 joinD (cc (.str " ")) (lc (itT (vr 1)) (tgN 2) [2] (cc (.bl true)) (cal strD (alc (vr 2) al0))))))))
def M_written : Fn := bodyI 3 g_written
def g_is_number : SemS := (sq (ifs (orr (nt (chn leD leD (cc (.int 1)) (cal lenD (alc (vr 0) al0)) (cc (.int 302)))) (bin neD (lc (itS (vr 0)) (tgN 1) [1] (bin notInD (vr 1) (cc (.str "0123456789"))) (vr 1)) (lstl al0))) (ret (cc (.bl false))) skip)
    (ret (orr (bin eqD (vr 0) (cc (.str "0"))) (bin neD (ixm (vr 0) (cc (.int 0))) (cc (.str "0"))))))
def M_is_number : Fn := bodyI 2 g_is_number
def g_is_row : SemS := (sq (ifs (orr (bin neD (cal lenD (alc (vr 0) al0)) (cc (.int 4))) (bin neD (lc (itL (slc (vr 0) pN (pS (un negD (cc (.int 1)))))) (tgN 2) [2] (nt (callF 1 M_is_number (alc (vr 2) al0))) (vr 2)) (lstl al0))) (ret (cc (.bl false))) skip)
    (sq (asg 1 (ixm (vr 0) (un negD (cc (.int 1)))))
    (ret (iff (bin eqD (slc (vr 1) pN (pS (cc (.int 1)))) (cc (.str "-"))) (ad (callF 1 M_is_number (alc (slc (vr 1) (pS (cc (.int 1))) pN) al0)) (bin neD (vr 1) (cc (.str "-0")))) (callF 1 M_is_number (alc (vr 1) al0))))))
def M_is_row : Fn := bodyI 3 g_is_row
def g_read : SemS := (sq (asgO 2 (lstl al0))
    (sq (fr (itEL (iff (bin neD (vr 0) (cc (.str ""))) (sm1 splitD (vr 0) (cc (.str "\n"))) (lstl al0))) (tgT 2 (tgc (tgN 3) (tgc (tgN 4) tg0))) (sq (asg 5 (sm1 splitD (vr 4) (cc (.str " "))))
    (sq (ifs (nt (callF 1 M_is_row (alc (vr 5) al0))) (rsi 7 "row" (vr 3)) skip)
    (sq (asg 6 (cal tupD (alc (lc (itL (vr 5)) (tgN 7) [7] (cc (.bl true)) (cal intD (alc (vr 7) al0))) al0)))
    (sq (tryN (drp (callF 1 M_need_card (alc (vr 6) al0))))
    (app 2 (vr 6)))))))
    (frzS 2 (ret (vr 2)))))
def M_read : Fn := bodyI 8 g_read
def g_l_plain_number : SemS := (sq (ifs (orr (nt (chn leD leD (cc (.int 1)) (cal lenD (alc (vr 0) al0)) (cc (.int 302)))) (bin neD (lc (itS (vr 0)) (tgN 1) [1] (bin notInD (vr 1) (cc (.str "0123456789"))) (vr 1)) (lstl al0))) (ret (cc (.bl false))) skip)
    (ret (orr (bin neD (ixm (vr 0) (cc (.int 0))) (cc (.str "0"))) (bin eqD (vr 0) (cc (.str "0"))))))
def M_l_plain_number : Fn := bodyI 2 g_l_plain_number
def g_l_is_row : SemS := (sq (asg 1 (sm1 splitD (vr 0) (cc (.str " "))))
    (sq (ifs (orr (bin neD (cal lenD (alc (vr 1) al0)) (cc (.int 4))) (bin neD (lc (itL (slc (vr 1) pN (pS (cc (.int 3))))) (tgN 7) [7] (nt (callF 1 M_l_plain_number (alc (vr 7) al0))) (vr 7)) (lstl al0))) (ret (cc (.bl false))) skip)
    (sq (asg 2 (iff (bin eqD (slc (ixm (vr 1) (cc (.int 3))) pN (pS (cc (.int 1)))) (cc (.str "-"))) (slc (ixm (vr 1) (cc (.int 3))) (pS (cc (.int 1))) pN) (ixm (vr 1) (cc (.int 3)))))
    (sq (ifs (orr (nt (callF 1 M_l_plain_number (alc (vr 2) al0))) (bin eqD (ixm (vr 1) (cc (.int 3))) (cc (.str "-0")))) (ret (cc (.bl false))) skip)
    (sq (asgT (tgU 4 (tgc (tgN 3) (tgc (tgN 4) (tgc (tgN 5) (tgc (tgN 6) tg0))))) (lc (itL (vr 1)) (tgN 7) [7] (cc (.bl true)) (cal intD (alc (vr 7) al0))))
    (ret (ad (bin leD (vr 3) (cc (.int 1000))) (ad (bin leD (vr 4) (cc (.int 1000))) (ad (bin ltD (vr 5) (callF 1 M_l_two (alc (cal min2D (alc (vr 4) (alc (cc (.int 1001)) al0))) al0))) (bin leD (cal absD (alc (vr 6) al0)) (bin powD (cc (.int 10)) (cc (.int 60)))))))))))))
def M_l_is_row : Fn := bodyI 8 g_l_is_row
def g__wall : SemS := (wloop (cc (.bl true)) skip 3000)
def M__wall : Fn := bodyI 1 g__wall
def g_bits_of : SemS := (sq (asgO 2 (lstl al0))
    (sq (fr (itR (alc (vr 1) al0)) (tgN 3) (sq (app 2 (bin modD (vr 0) (cc (.int 2))))
    (aug 0 idivD (cc (.int 2)))))
    (frzS 2 (ret (vr 2)))))
def M_bits_of : Fn := bodyI 4 g_bits_of
def g_Maker_best : SemS := (sq (asg 2 (lc (itL (vr 1)) (tgT 3 (tgc (tgN 4) (tgc (tgN 5) (tgc (tgN 6) tg0)))) [4, 5, 6] (cc (.bl true)) (tupl (alc (bin addD (cal absD (alc (vr 4) al0)) (ixm (vr 6) (cc (.int 0)))) (alc (ixm (vr 6) (cc (.int 1))) al0)))))
    (sq (ifs (bin eqD (vr 2) (lstl al0)) (ret (cc .non)) skip)
    (sq (asg 3 (cal minD (alc (lc (itL (vr 2)) (tgT 2 (tgc (tgN 7) (tgc (tgN 8) tg0))) [7, 8] (cc (.bl true)) (vr 7)) al0)))
    (ret (tupl (alc (vr 3) (alc (cal sumD (alc (lc (itL (vr 2)) (tgT 2 (tgc (tgN 7) (tgc (tgN 8) tg0))) [7, 8] (bin eqD (vr 7) (vr 3)) (vr 8)) al0)) al0)))))))
def M_Maker_best : Fn := bodyI 9 g_Maker_best
def g_Maker_middle_ways : SemS := (sq (asg 2 (ixm (fldM 9 "lows" (vr 0)) (un negD (cc (.int 1)))))
    (ret (lc (itT (tupl (alc (cc (.int 0)) (alc (cc (.int 1)) al0)))) (tgN 3) [3] (bin notNonD (ixm (vr 2) (vr 3)) (cc .non)) (tupl (alc (bin addD (bin addD (fldM 9 "rest" (vr 0)) (vr 1)) (vr 3)) (alc (vr 3) (alc (ixm (vr 2) (vr 3)) al0)))))))
def M_Maker_middle_ways : Fn := bodyI 4 g_Maker_middle_ways
def g_Maker_low_ways : SemS := (sq (asg 4 (lc (itT (tupl (alc (cc (.int 0)) (alc (cc (.int 1)) al0)))) (tgN 5) [5] (bin notNonD (ixm (vr 3) (vr 5)) (cc .non)) (tupl (alc (bin subD (bin addD (vr 1) (vr 5)) (bin mulA (cc (.int 2)) (vr 2))) (alc (vr 5) (alc (ixm (vr 3) (vr 5)) al0))))))
    (ret (lc (itL (vr 4)) (tgN 6) [6] (bin ltD (cal absD (alc (ixm (vr 6) (cc (.int 0))) al0)) (cc (.int 2))) (vr 6))))
def M_Maker_low_ways : Fn := bodyI 7 g_Maker_low_ways
def g_Maker_high_ways : SemS := (sq (asgO 4 (lstl al0))
    (sq (fr (itT (tupl (alc (bin subD (cc (.int 0)) (cc (.int 1))) (alc (cc (.int 0)) (alc (cc (.int 1)) al0))))) (tgN 5) (ifs (ad (bin eqD (bin modD (bin subD (bin addD (vr 1) (vr 2)) (vr 5)) (cc (.int 2))) (cc (.int 0))) (chn leD leD (cc (.int 0)) (bin subD (bin addD (vr 1) (vr 2)) (vr 5)) (cc (.int 2)))) (app 4 (tupl (alc (vr 5) (alc (bin divD (bin subD (bin addD (vr 1) (vr 2)) (vr 5)) (cc (.int 2))) (alc (ixm (vr 3) (bin divD (bin subD (bin addD (vr 1) (vr 2)) (vr 5)) (cc (.int 2)))) al0))))) skip))
    (frzS 4 (ret (vr 4)))))
def M_Maker_high_ways : Fn := bodyI 6 g_Maker_high_ways
def g_Maker___init__ : SemS := (sq (asgT (tgT 4 (tgc (tgN 3) (tgc (tgN 4) (tgc (tgN 5) (tgc (tgN 6) tg0))))) (vr 1))
    (sq (stM 9 "aheads" (callF 2 M_bits_of (alc (vr 5) (alc (vr 4) al0))) (vr 0))
    (sq (stM 9 "behinds" (callF 2 M_bits_of (alc (bin modD (vr 6) (callF 1 M_two (alc (vr 3) al0))) (alc (vr 3) al0))) (vr 0))
    (sq (stM 9 "rest" (bin divD (vr 6) (callF 1 M_two (alc (vr 3) al0))) (vr 0))
    (sq (stM 9 "lows" (newM (lstl (alc (lstl (alc (tupl (alc (cc (.int 0)) (alc (cc (.int 1)) al0))) (alc (cc .non) al0))) al0))) (vr 0))
    (sq (fr (itL (fldM 9 "behinds" (vr 0))) (tgN 2) (sq (asg 7 (ixm (fldM 9 "lows" (vr 0)) (un negD (cc (.int 1)))))
    (appM (fldM 9 "lows" (vr 0)) (lc (itT (tupl (alc (cc (.int 0)) (alc (cc (.int 1)) al0)))) (tgN 9) [9] (cc (.bl true)) (metM 9 2 "best" M_Maker_best (vr 0) (alc (metM 9 4 "low_ways" M_Maker_low_ways (vr 0) (alc (vr 2) (alc (vr 9) (alc (vr 7) al0)))) al0))))))
    (sq (stM 9 "middles" (lc (itT (tupl (alc (cc (.int 0)) (alc (cc (.int 1)) al0)))) (tgN 9) [9] (cc (.bl true)) (metM 9 2 "best" M_Maker_best (vr 0) (alc (metM 9 2 "middle_ways" M_Maker_middle_ways (vr 0) (alc (vr 9) al0)) al0))) (vr 0))
    (sq (stM 9 "highs" (newM (lstl (alc (fldM 9 "middles" (vr 0)) al0))) (vr 0))
    (sq (fr (itL (un revD (fldM 9 "aheads" (vr 0)))) (tgN 2) (sq (asg 8 (ixm (fldM 9 "highs" (vr 0)) (un negD (cc (.int 1)))))
    (appM (fldM 9 "highs" (vr 0)) (lc (itT (tupl (alc (cc (.int 0)) (alc (cc (.int 1)) al0)))) (tgN 9) [9] (cc (.bl true)) (metM 9 2 "best" M_Maker_best (vr 0) (alc (metM 9 4 "high_ways" M_Maker_high_ways (vr 0) (alc (vr 2) (alc (vr 9) (alc (vr 8) al0)))) al0))))))
    (stM 9 "highs" (revM (fldM 9 "highs" (vr 0))) (vr 0)))))))))))
def M_Maker___init__ : Fn := bodyI 10 g_Maker___init__
def g_Maker_nexts : SemS := (drp (callF 1 M__wall (alc (cc (.int 0)) al0)))
def M_Maker_nexts : Fn := bodyI 4 g_Maker_nexts
def g_Maker_begin : SemS := (drp (callF 1 M__wall (alc (cc (.int 1)) al0)))
def M_Maker_begin : Fn := bodyI 1 g_Maker_begin
def g_Maker_fewest : SemS := (ret (bin addD (bin addD (cal lenD (alc (fldM 9 "aheads" (vr 0)) al0)) (cal lenD (alc (fldM 9 "behinds" (vr 0)) al0))) (ixm (ixm (ixm (fldM 9 "highs" (vr 0)) (cc (.int 0))) (cc (.int 0))) (cc (.int 0)))))
def M_Maker_fewest : Fn := bodyI 1 g_Maker_fewest
def g_Maker_many : SemS := (ret (ixm (ixm (ixm (fldM 9 "highs" (vr 0)) (cc (.int 0))) (cc (.int 0))) (cc (.int 1))))
def M_Maker_many : Fn := bodyI 1 g_Maker_many
def g_Maker_numbered : SemS := (drp (callF 1 M__wall (alc (cc (.int 2)) al0)))
def M_Maker_numbered : Fn := bodyI 2 g_Maker_numbered
def g_Maker_rank : SemS := (drp (callF 1 M__wall (alc (cc (.int 3)) al0)))
def M_Maker_rank : Fn := bodyI 2 g_Maker_rank
def g_fewest : SemS := (sq (drp (callF 1 M_need_card (alc (vr 0) al0)))
    (ret (metM 9 1 "fewest" M_Maker_fewest (mkI 9 2 M_Maker___init__ (alc (vr 0) al0)) al0)))
def M_fewest : Fn := bodyI 1 g_fewest
def g_how_many : SemS := (sq (drp (callF 1 M_need_card (alc (vr 0) al0)))
    (ret (metM 9 1 "many" M_Maker_many (mkI 9 2 M_Maker___init__ (alc (vr 0) al0)) al0)))
def M_how_many : Fn := bodyI 1 g_how_many
def g_Bench___init__ : SemS := (sq (drp (callF 1 M_need_number (alc (vr 1) al0)))
    (sq (stM 10 "now" (vr 1) (vr 0))
    (stM 10 "past" (newM (lstl al0)) (vr 0))))
def M_Bench___init__ : Fn := bodyI 2 g_Bench___init__
def g_Bench_do : SemS := (sq (asg 2 (callF 2 M_run (alc (vr 1) (alc (fldM 10 "now" (vr 0)) al0))))
    (sq (drp (callF 1 M_need_number (alc (vr 2) al0)))
    (sq (appM (fldM 10 "past" (vr 0)) (tupl (alc (fldM 10 "now" (vr 0)) (alc (vr 1) al0))))
    (sq (stM 10 "now" (vr 2) (vr 0))
    (ret (vr 2))))))
def M_Bench_do : Fn := bodyI 3 g_Bench_do
def g_Bench_back : SemS := (sq (ifs (binM eqMD (fldM 10 "past" (vr 0)) (lstl al0)) (ret (cc (.bl false))) skip)
    (sq (stM 10 "now" (ixm (popM (fldM 10 "past" (vr 0))) (cc (.int 0))) (vr 0))
    (ret (cc (.bl true)))))
def M_Bench_back : Fn := bodyI 1 g_Bench_back
def g_Bench_number : SemS := (ret (fldM 10 "now" (vr 0)))
def M_Bench_number : Fn := bodyI 1 g_Bench_number
def g_Bench_works : SemS := (ret (lcM (fldM 10 "past" (vr 0)) (tgT 2 (tgc (tgN 1) (tgc (tgN 2) tg0))) [1, 2] (cc (.bl true)) (vr 2) 3000))
def M_Bench_works : Fn := bodyI 3 g_Bench_works
def g_Bench_whole : SemS := (sq (asg 1 (cc (.tup [(.int 0), (.int 0), (.int 0), (.int 0)])))
    (sq (frM (fldM 10 "past" (vr 0)) (tgT 2 (tgc (tgN 2) (tgc (tgN 3) tg0))) (asg 1 (callF 2 M_behind (alc (vr 1) (alc (callF 1 M_card_of (alc (vr 3) al0)) al0)))) 3000)
    (sq (drp (callF 1 M_need_few (alc (vr 1) al0)))
    (ret (vr 1)))))
def M_Bench_whole : Fn := bodyI 4 g_Bench_whole
def g_digits_text : SemS := (ret (iff (bin gtD (vr 0) (cc (.int 0))) (bin mulA (cc (.str "+")) (vr 0)) (bin mulA (cc (.str "-")) (bin subD (cc (.int 0)) (vr 0)))))
def M_digits_text : Fn := bodyI 1 g_digits_text
def g_Maker_nexts_2 : SemS := (sq (par 5 6 (alc (cal lenD (alc (fldM 9 "aheads" (vr 0)) al0)) (alc (cal lenD (alc (fldM 9 "behinds" (vr 0)) al0)) al0)))
    (sq (ifs (bin eqD (vr 1) (cc (.int 0))) (sq (asg 7 (metM 9 4 "high_ways" M_Maker_high_ways (vr 0) (alc (ixm (fldM 9 "aheads" (vr 0)) (vr 2)) (alc (vr 3) (alc (ixm (fldM 9 "highs" (vr 0)) (bin addD (vr 2) (cc (.int 1)))) al0)))))
    (sq (asg 8 (iff (bin ltD (bin addD (vr 2) (cc (.int 1))) (vr 5)) (tupl (alc (cc (.int 0)) (alc (bin addD (vr 2) (cc (.int 1))) al0))) (tupl (alc (cc (.int 1)) (alc (cc (.int 0)) al0)))))
    (par 12 13 (alc (ixm (ixm (ixm (fldM 9 "highs" (vr 0)) (vr 2)) (vr 3)) (cc (.int 0))) (alc (cc (.str "/")) al0))))) (ifs (bin eqD (vr 1) (cc (.int 1))) (sq (asg 7 (metM 9 2 "middle_ways" M_Maker_middle_ways (vr 0) (alc (vr 3) al0)))
    (sq (asg 8 (tupl (alc (cc (.int 2)) (alc (bin subD (vr 6) (cc (.int 1))) al0))))
    (par 12 13 (alc (ixm (ixm (fldM 9 "middles" (vr 0)) (vr 3)) (cc (.int 0))) (alc (iff (bin gtD (vr 6) (cc (.int 0))) (cc (.str "2")) (cc (.str ""))) al0))))) (sq (asg 7 (metM 9 4 "low_ways" M_Maker_low_ways (vr 0) (alc (ixm (fldM 9 "behinds" (vr 0)) (vr 2)) (alc (vr 3) (alc (ixm (fldM 9 "lows" (vr 0)) (vr 2)) al0)))))
    (sq (asg 8 (tupl (alc (cc (.int 2)) (alc (bin subD (vr 2) (cc (.int 1))) al0))))
    (par 12 13 (alc (ixm (ixm (ixm (fldM 9 "lows" (vr 0)) (bin addD (vr 2) (cc (.int 1)))) (vr 3)) (cc (.int 0))) (alc (iff (bin gtD (vr 2) (cc (.int 0))) (cc (.str "2")) (cc (.str ""))) al0)))))))
    (sq (asgO 4 (lstl al0))
    (sq (fr (itL (vr 7)) (tgT 3 (tgc (tgN 9) (tgc (tgN 10) (tgc (tgN 11) tg0)))) (ifs (bin eqD (bin addD (cal absD (alc (vr 9) al0)) (ixm (vr 11) (cc (.int 0)))) (vr 12)) (app 4 (tupl (alc (bin addD (callF 1 M_digits_text (alc (vr 9) al0)) (vr 13)) (alc (ixm (vr 11) (cc (.int 1))) (alc (bin addD (vr 8) (tupl (alc (vr 10) al0))) al0))))) skip))
    (ret (cal sortR (alc (vw 4) al0)))))))
def M_Maker_nexts_2 : Fn := bodyI 14 g_Maker_nexts_2
def g_Maker_begin_2 : SemS := (ret (iff (bin neD (fldM 9 "aheads" (vr 0)) (lstl al0)) (tupl (alc (cc (.int 0)) (alc (cc (.int 0)) (alc (cc (.int 0)) al0)))) (tupl (alc (cc (.int 1)) (alc (cc (.int 0)) (alc (cc (.int 0)) al0))))))
def M_Maker_begin_2 : Fn := bodyI 1 g_Maker_begin_2
def g_Maker_numbered_2 : SemS := (drp (callF 1 M__wall (alc (cc (.int 0)) al0)))
def M_Maker_numbered_2 : Fn := bodyI 2 g_Maker_numbered_2
def g_Maker_rank_2 : SemS := (sq (asgT (tgT 2 (tgc (tgN 3) (tgc (tgN 4) tg0))) (tupl (alc (cc (.int 0)) (alc (cc (.int 0)) al0))))
    (sq (asg 2 (metM 9 1 "begin" M_Maker_begin_2 (vr 0) al0))
    (sq (wloop (bin geD (ixm (vr 2) (cc (.int 1))) (cc (.int 0))) (fr (itL (metM 9 4 "nexts" M_Maker_nexts_2 (vr 0) (alc (ixm (vr 2) (cc (.int 0))) (alc (ixm (vr 2) (cc (.int 1))) (alc (ixm (vr 2) (cc (.int 2))) al0))))) (tgT 3 (tgc (tgN 5) (tgc (tgN 6) (tgc (tgN 7) tg0)))) (sq (ifs (bin eqD (slc (vr 1) (pS (vr 4)) (pS (bin addD (vr 4) (cal lenD (alc (vr 5) al0))))) (vr 5)) (sq (aug 4 iaddD (cal lenD (alc (vr 5) al0)))
    (sq (asg 2 (vr 7))
    brk)) skip)
    (aug 3 iaddD (vr 6)))) 3000)
    (ret (vr 3)))))
def M_Maker_rank_2 : Fn := bodyI 8 g_Maker_rank_2
def g_number_of : SemS := (sq (drp (callF 1 M_need_work (alc (vr 0) al0)))
    (sq (asg 1 (mkI 9 2 M_Maker___init__ (alc (callF 1 M_card_of (alc (vr 0) al0)) al0)))
    (sq (ifs (bin ltD (metM 9 1 "fewest" M_Maker_fewest (vr 1) al0) (cal lenD (alc (vr 0) al0))) (rse 5) skip)
    (ret (metM 9 2 "rank" M_Maker_rank_2 (vr 1) (alc (vr 0) al0))))))
def M_number_of : Fn := bodyI 2 g_number_of
def g_Maker_numbered_3 : SemS := (sq (asg 2 (cc (.str "")))
    (sq (asg 3 (metM 9 1 "begin" M_Maker_begin_2 (vr 0) al0))
    (sq (wloop (bin geD (ixm (vr 3) (cc (.int 1))) (cc (.int 0))) (fr (itL (metM 9 4 "nexts" M_Maker_nexts_2 (vr 0) (alc (ixm (vr 3) (cc (.int 0))) (alc (ixm (vr 3) (cc (.int 1))) (alc (ixm (vr 3) (cc (.int 2))) al0))))) (tgT 3 (tgc (tgN 4) (tgc (tgN 5) (tgc (tgN 6) tg0)))) (sq (ifs (bin ltD (vr 1) (vr 5)) (sq (asg 2 (bin addD (vr 2) (vr 4)))
    (sq (asg 3 (vr 6))
    brk)) skip)
    (aug 1 subD (vr 5)))) 3000)
    (ret (vr 2)))))
def M_Maker_numbered_3 : Fn := bodyI 7 g_Maker_numbered_3
def g_work_at : SemS := (sq (drp (callF 1 M_need_card (alc (vr 0) al0)))
    (sq (asg 2 (mkI 9 2 M_Maker___init__ (alc (vr 0) al0)))
    (sq (ifs (nt (chn leD ltD (cc (.int 0)) (vr 1) (metM 9 1 "many" M_Maker_many (vr 2) al0))) (rse 1) skip)
    (sq (ifs (bin gtD (metM 9 1 "fewest" M_Maker_fewest (vr 2) al0) (cc (.int 400))) (rse 4) skip)
    (ret (metM 9 2 "numbered" M_Maker_numbered_3 (vr 2) (alc (vr 1) al0)))))))
def M_work_at : Fn := bodyI 3 g_work_at
def g_l_step : SemS := (sq (asgT (tgT 4 (tgc (tgN 3) (tgc (tgN 4) (tgc (tgN 5) (tgc (tgN 6) tg0))))) (vr 0))
    (sq (ifs (bin eqD (vr 1) (cc (.str "+"))) (ret (tupl (alc (vr 3) (alc (vr 4) (alc (vr 5) (alc (bin addD (vr 6) (cc (.int 1))) al0)))))) skip)
    (sq (ifs (bin eqD (vr 1) (cc (.str "-"))) (ret (tupl (alc (vr 3) (alc (vr 4) (alc (vr 5) (alc (bin subD (vr 6) (cc (.int 1))) al0)))))) skip)
    (sq (ifs (bin eqD (vr 1) (cc (.str "2"))) (ret (tupl (alc (bin addD (vr 3) (cc (.int 1))) (alc (vr 4) (alc (vr 5) (alc (bin mulA (vr 6) (cc (.int 2))) al0)))))) skip)
    (sq (ifs (bin gtD (vr 3) (cc (.int 0))) (ret (tupl (alc (bin subD (vr 3) (cc (.int 1))) (alc (vr 4) (alc (vr 5) (alc (bin divD (vr 6) (cc (.int 2))) al0)))))) skip)
    (sq (asg 2 (callF 1 M_l_two (alc (vr 4) al0)))
    (ret (tupl (alc (cc (.int 0)) (alc (bin addD (vr 4) (cc (.int 1))) (alc (bin modD (bin addD (vr 5) (bin mulA (vr 6) (vr 2))) (bin mulA (cc (.int 2)) (vr 2))) (alc (bin divD (bin addD (vr 5) (bin mulA (vr 6) (vr 2))) (bin mulA (cc (.int 2)) (vr 2))) al0))))))))))))
def M_l_step : Fn := bodyI 7 g_l_step
def g_l_words : SemS := (sq (asg 1 (lstl (alc (cc (.str "")) al0)))
    (sq (fr (itR (alc (vr 0) al0)) (tgN 2) (sq (asg 3 (lstl al0))
    (sq (fr (itL (vr 1)) (tgN 4) (asg 3 (bin addD (vr 3) (lc (itS (cc (.str "+-/2"))) (tgN 5) [5] (cc (.bl true)) (bin addD (vr 4) (vr 5))))))
    (asg 1 (vr 3)))))
    (ret (vr 1))))
def M_l_words : Fn := bodyI 6 g_l_words
def g_Maker_rank_3 : SemS := (drp (callF 1 M__wall (alc (cc (.int 0)) al0)))
def M_Maker_rank_3 : Fn := bodyI 2 g_Maker_rank_3
def g_replayed : SemS := (sq (asg 3 (mkI 10 2 M_Bench___init__ (alc (vr 0) al0)))
    (sq (fr (itEL (vr 1)) (tgT 2 (tgc (tgN 4) (tgc (tgN 5) tg0))) (sq (ifs (orr (bin eqD (cal lenD (alc (vr 5) al0)) (cc (.int 0))) (bin neD (cal lenD (alc (vr 5) al0)) (kgt [("do", some 2), ("back", some 1), ("dos", none)] (ixm (vr 5) (cc (.int 0))) (cc (.int 0))))) (rsi 6 "at" (vr 4)) skip)
    (tryN (ifs (bin eqD (ixm (vr 5) (cc (.int 0))) (cc (.str "do"))) (drp (metM 10 2 "do" M_Bench_do (vr 3) (alc (ixm (vr 5) (cc (.int 1))) al0))) (drp (metM 10 1 "back" M_Bench_back (vr 3) al0))))))
    (ret (vr 3))))
def M_replayed : Fn := bodyI 6 g_replayed
def g_Bench_back_2 : SemS := (drp (callF 1 M__wall (alc (cc (.int 0)) al0)))
def M_Bench_back_2 : Fn := bodyI 1 g_Bench_back_2
def g_Maker_numbered_4 : SemS := (drp (callF 1 M__wall (alc (cc (.int 1)) al0)))
def M_Maker_numbered_4 : Fn := bodyI 2 g_Maker_numbered_4
def GS_l_told_2 (z : Err) (a : Addr) (d : Option Addr) : SemS := (sq (asg 2 (lstl (alc (isE a d 1 (decide (z.c = 0))) (alc (isE a d 1 (decide (z.c = 1))) (alc (isE a d 1 (decide (z.c = 2))) (alc (isE a d 1 (decide (z.c = 3))) al0))))))
    (sq (asg 2 (bin addD (vr 2) (lstl (alc (isE a d 1 (decide (z.c = 4))) (alc (isE a d 1 (decide (z.c = 5))) (alc (isE a d 1 (decide (z.c = 6))) (alc (isE a d 1 (decide (z.c = 7))) al0)))))))
    (sq (asg 2 (bin repD (vr 2) (bin addD (cc (.int 1)) (cal intD (alc (nt (isE a d 1 true)) al0)))))
    (sq (asg 3 (lstl (alc (cc (.str "BadWork")) (alc (cc (.str "BadNumber")) (alc (cc (.str "BadCard")) (alc (cc (.str "BadCount")) (alc (cc (.str "TooMany")) (alc (cc (.str "Longer")) (alc (cc (.str "BadDeed")) (alc (cc (.str "BadText")) al0))))))))))
    (sq (asg 4 (iff (bin eqD (lm1 cntLD (vr 2) (cc (.bl true))) (cc (.int 1))) (ixm (vr 3) (lm1 idxLD (vr 2) (cc (.bl true)))) (cc (.str "other"))))
    (sq (ifs (bin eqD (vr 4) (cc (.str "BadWork"))) (ret (tupl (alc (cc (.str "refused")) (alc (vr 4) (alc (exf a d z.c 0 1 "place") al0))))) skip)
    (sq (ifs (bin eqD (vr 4) (cc (.str "BadCard"))) (ret (tupl (alc (cc (.str "refused")) (alc (vr 4) (alc (exf a d z.c 2 1 "part") al0))))) skip)
    (sq (ifs (bin eqD (vr 4) (cc (.str "BadDeed"))) (ret (tupl (alc (cc (.str "refused")) (alc (vr 4) (alc (exf a d z.c 6 1 "at") al0))))) skip)
    (ret (bin addD (tupl (alc (cc (.str "refused")) (alc (vr 4) al0))) (iff (bin eqD (vr 4) (cc (.str "BadText"))) (tupl (alc (exf a d z.c 7 1 "row") al0)) (tupl al0))))))))))))
def g_l_wrong : SemS := (sq (fr (itR (alc (cc (.int 2)) al0)) (tgN 1) (ifs (orr (bin ltD (ixm (vr 0) (vr 1)) (cc (.int 0))) (bin gtD (ixm (vr 0) (vr 1)) (cc (.int 1000)))) (ret (vr 1)) skip))
    (sq (ifs (orr (bin ltD (ixm (vr 0) (cc (.int 2))) (cc (.int 0))) (bin geD (ixm (vr 0) (cc (.int 2))) (callF 1 M_l_two (alc (ixm (vr 0) (cc (.int 1))) al0)))) (ret (cc (.int 2))) skip)
    (ret (iff (bin gtD (cal absD (alc (ixm (vr 0) (cc (.int 3))) al0)) (bin powD (cc (.int 10)) (cc (.int 60)))) (cc (.int 3)) (cc .non)))))
def M_l_wrong : Fn := bodyI 2 g_l_wrong
def g_read_2 : SemS := (sq (asgO 2 (lstl al0))
    (sq (fr (itEL (iff (bin neD (vr 0) (cc (.str ""))) (sm1 splitD (vr 0) (cc (.str "\n"))) (lstl al0))) (tgT 2 (tgc (tgN 3) (tgc (tgN 4) tg0))) (sq (asg 5 (sm1 splitD (vr 4) (cc (.str " "))))
    (sq (ifs (nt (callF 1 M_is_row (alc (vr 5) al0))) (rsi 7 "row" (vr 3)) skip)
    (sq (asg 6 (cal tupD (alc (lc (itL (vr 5)) (tgN 7) [7] (cc (.bl true)) (cal intD (alc (vr 7) al0))) al0)))
    (sq (tryN (drp (callF 1 M_need_card (alc (vr 6) al0))))
    (app 2 (vr 6)))))))
    (retO 2)))
def M_read_2 : Fn := bodyF 8 g_read_2
end Dl
namespace Dl
open PySem L2
local macro_rules | `(tactic| walk_at "x") => `(tactic| (first
  | with_reducible refine x_p60 ?_ | with_reducible refine x_p9 ?_ | with_reducible refine x_p18 ?_ | with_reducible refine x_p25 ?_ | with_reducible refine x_p40 ?_
  | with_reducible refine x_add ?_ | with_reducible refine x_sub ?_ | with_reducible refine x_adds ?_ ?_ | with_reducible refine x_mul ?_ ?_ ?_ | with_reducible refine x_muls ?_ ?_ ?_ ?_ | with_reducible refine x_div ?_ ?_ ?_ | with_reducible refine x_mod ?_ ?_
  | with_reducible refine x_lt ?_ | with_reducible refine x_le ?_ | with_reducible refine x_gt ?_ | with_reducible refine x_ge ?_ | with_reducible refine x_eqi ?_ | with_reducible refine x_eqs ?_ | with_reducible refine x_eqb ?_ | with_reducible refine x_nei ?_ | with_reducible refine x_nes ?_ | with_reducible refine x_neb ?_ | with_reducible refine x_neg ?_
  | with_reducible refine x_isn ?_ | with_reducible refine x_notn ?_ | with_reducible refine x_imul ?_ ?_ ?_ | with_reducible refine x_idiv ?_ ?_ ?_ | with_reducible refine x_iadd ?_ | with_reducible refine x_pow ?_ ?_ ?_ ?_
  | with_reducible refine x_abs ?_ | with_reducible refine x_max2 ?_ | with_reducible refine x_min2 ?_ | with_reducible refine x_inti ?_ | with_reducible refine x_intb ?_ | with_reducible refine x_lens ?_ ?_ | with_reducible refine x_lenl ?_ | with_reducible refine x_lent ?_ | with_reducible refine x_lenf ?_
  | with_reducible refine x_rng1 ?_ ?_ ?_ | with_reducible refine x_rng2 ?_ ?_ ?_ ?_ ?_ | with_reducible refine x_isb ?_ | with_reducible refine x_notb ?_))
local macro_rules | `(tactic| walk_at "t") => `(tactic| (first
  | with_reducible refine x_ntE ?_ | with_reducible refine x_nt ?_ | with_reducible refine x_btt ?_ | with_reducible refine x_bff ?_ | with_reducible refine x_btt' ?_ | with_reducible refine x_bff' ?_
  | with_reducible refine x_ift (by first | omega | assumption | decide) ?_ | with_reducible refine x_iff (by first | omega | assumption | decide) ?_ | with_reducible refine x_ifnt (by first | omega | assumption | decide) ?_ | with_reducible refine x_ifnf (by first | omega | assumption | decide) ?_
  | with_reducible refine x_ift' (by first | omega | assumption | decide) ?_ | with_reducible refine x_iff' (by first | omega | assumption | decide) ?_ | with_reducible refine x_ifnt' (by first | omega | assumption | decide) ?_ | with_reducible refine x_ifnf' (by first | omega | assumption | decide) ?_
  | with_reducible refine x_clet (by first | omega | assumption | decide) ?_ | with_reducible refine x_clef (by first | omega | assumption | decide) ?_ | with_reducible refine x_cltt (by first | omega | assumption | decide) ?_ | with_reducible refine x_cltf (by first | omega | assumption | decide) ?_
  | with_reducible refine x_str ?_ | with_reducible refine x_lst ?_ | with_reducible refine x_tup ?_ | with_reducible refine x_itl ?_ | with_reducible refine x_itf ?_ | with_reducible refine x_two ?_ | with_reducible refine x_three ?_ | with_reducible refine x_inrI ?_ | with_reducible refine x_ninrI ?_ | with_reducible refine x_inrI' ?_ | with_reducible refine x_ninrI' ?_ | with_reducible refine x_inr ?_ | with_reducible refine x_ninr ?_ | with_reducible refine x_count ?_ | with_reducible refine x_int ?_))
local macro_rules | `(tactic| walk_at "e") => `(tactic| (first
  | ((with_reducible refine' ev_vr ?d_e ?_); (case d_e => exact rfl))
  | with_reducible refine ev_cc ?_ | with_reducible refine ev_bin ?_ | with_reducible refine ev_callF ?_ | with_reducible refine ev_alc ?_ | with_reducible refine ev_al0 ?_ | with_reducible refine ev_ixm ?_
  | with_reducible refine evs_sq ?_ | with_reducible refine evs_asg ?_ | with_reducible refine evs_ret ?_ | with_reducible refine evs_skip ?_ | with_reducible refine evs_fr ?_
  | with_reducible refine ev_un ?_ | with_reducible refine ev_cal ?_ | with_reducible refine ev_tupl ?_ | with_reducible refine ev_lstl ?_ | with_reducible refine ev_nt ?_ | with_reducible refine ev_ad ?_ | with_reducible refine ev_orr ?_ | with_reducible refine ev_iff ?_ | with_reducible refine ev_chn ?_ | with_reducible refine ev_inR ?_
  | with_reducible refine ev_rngL ?_ | with_reducible refine ev_slc ?_ | with_reducible refine ev_pN ?_ | with_reducible refine ev_pS ?_ | with_reducible refine ev_sm1 ?_
  | with_reducible refine ev_itR ?_ | with_reducible refine ev_itS ?_ | with_reducible refine ev_itES ?_ | with_reducible refine ev_itT ?_ | with_reducible refine ev_itL ?_
  | with_reducible refine evs_asgO ?_ | with_reducible refine evs_asgN ?_ | with_reducible refine evs_par ?_ | with_reducible refine evs_par3 ?_ | with_reducible refine evs_drp ?_ | with_reducible refine evs_retN ?_ | with_reducible refine evs_brk ?_ | with_reducible refine evs_cont ?_
  | ((with_reducible refine' evs_aug ?d_e ?_); (case d_e => exact rfl))
  | ((with_reducible refine evs_asgT ?_))
  | ((with_reducible refine' evs_app ?d_e ?_); (case d_e => exact rfl))
  | ((with_reducible refine' evs_frzS ?d_e ?_); (case d_e => exact rfl))
  | ((with_reducible refine' evs_frzS2 ?d_e ?_); (case d_e => exact rfl))
  | ((with_reducible refine' evs_putO ?d_e ?_); (case d_e => exact rfl))
  | with_reducible refine evs_putM ?_
  | ((with_reducible refine' ev_vw ?d_e ?_); (case d_e => exact rfl))
  | ((with_reducible refine' ev_vwo ?d_e ?_); (case d_e => exact rfl))
  | with_reducible refine ev_lc ?_
  | ((with_reducible refine' x_len ?d_e ?_); (case d_e => exact rfl))
  | ((with_reducible refine' x_ix ?d_e ?_); (case d_e => exact rfl))
  | walk_at "x" | walk_at "t"))
local macro_rules | `(tactic| walk_at "d") => `(tactic| (first | with_reducible refine evs_ifs ?_ | walk_at "e"))
theorem x_btn' {A B : Prop} (a : A) : ∃ b, D.bl (!true) = .bl b ∧ ((b = false → A) ∧ (b = true → B)) := ⟨_, rfl, fun _ => a, fun h => (nomatch h)⟩
theorem x_bfn' {A B : Prop} (a : B) : ∃ b, D.bl (!false) = .bl b ∧ ((b = false → A) ∧ (b = true → B)) := ⟨_, rfl, fun h => (nomatch h), fun _ => a⟩
theorem x_btn {A B : Prop} (a : B) : ∃ b, D.bl (!true) = .bl b ∧ ((b = true → A) ∧ (b = false → B)) := ⟨_, rfl, fun h => (nomatch h), fun _ => a⟩
theorem x_bfn {A B : Prop} (a : A) : ∃ b, D.bl (!false) = .bl b ∧ ((b = true → A) ∧ (b = false → B)) := ⟨_, rfl, fun _ => a, fun h => nomatch h⟩
/-! ### what ends in an exception -/
section
variable {g1 g2 : SemS} {fa fc fe : Sem} {fs : SemL} {ρ : Env} {S S' : Mem} {x : Err}
abbrev erP (g : Env → Mem → Prop) : Po := ⟨g, fun _ _ => False, fun _ _ => False, fun _ _ => False⟩
theorem er_sq (h : EvS (g1 ρ S) (erP fun ρ1 S1 => g2 ρ1 S1 = .er x S')) : sq g1 g2 ρ S = .er x S' := by
  unfold sq
  cases e : g1 ρ S <;> rw [e] at h <;> cases h
  all_goals rename_i q
  · exact q
  all_goals exact q.elim
theorem er_sq0 (h : g1 ρ S = .er x S') : sq g1 g2 ρ S = .er x S' := by
  unfold sq
  rw [h]
theorem er_ifs (h : Ev (fc ρ S) fun d S1 => ∃ b, d = .bl b ∧ ((b = true → g1 ρ S1 = .er x S') ∧ (b = false → g2 ρ S1 = .er x S'))) : ifs fc g1 g2 ρ S = .er x S' := by
  unfold ifs
  generalize fc ρ S = r at h
  cases h with
  | mk q =>
    obtain ⟨b, rfl, q1, q2⟩ := q
    cases b with
    | true => exact q1 rfl
    | false => exact q2 rfl
theorem er_rsi {c : Nat} {f : Str} {d : D} (h : Ev (fe ρ S) fun a S1 => a = d ∧ S1 = S') : rsi c f fe ρ S = .er ⟨c, some (f, d)⟩ S' := by
  unfold rsi
  generalize fe ρ S = r at h
  cases h with
  | mk q =>
    obtain ⟨rfl, rfl⟩ := q
    rfl
theorem er_drp (h : fa ρ S = .er x S') : drp fa ρ S = .er x S' := by
  unfold drp
  rw [h]
  rfl
theorem er_ret (h : fa ρ S = .er x S') : ret fa ρ S = .er x S' := by
  unfold ret
  rw [h]
  rfl
theorem er_asg {i : Nat} (h : fa ρ S = .er x S') : asg i fa ρ S = .er x S' := by
  unfold asg
  rw [h]
  rfl
theorem er_callF {n : Nat} {F : Fn} (h : Ev (fs ρ S) fun xs S1 => xs.length = n ∧ F xs S1 = .er x S') : callF n F fs ρ S = .er x S' := by
  unfold callF
  generalize fs ρ S = r at h
  cases h with
  | mk q =>
    show (if _ then _ else _) = _
    rw [if_pos q.1]
    exact q.2
theorem er_alc (h : fa ρ S = .er x S') : alc fa fs ρ S = .er x S' := by
  unfold alc
  rw [h]
  rfl
theorem er_args {n : Nat} {F : Fn} (h : fs ρ S = .er x S') : callF n F fs ρ S = .er x S' := by
  unfold callF
  rw [h]
  rfl
theorem er_bodyI {n : Nat} {ds : List D} (h : g1 (st0 n ds) S = .er x S') : bodyI n g1 ds S = .er x S' := by
  unfold bodyI
  rw [h]
/-! ### a work that is told -/
variable {Q : D → Mem → Prop}
theorem ev_toldO {ρ1 : Env} (e : seeO ρ ++ [] = ρ1) (h : Ev (fe ρ1 S) Q) : Ev (lamS toldF fe [] 0 al0 ρ S) Q := by
  subst e
  cases q : fe (seeO ρ ++ []) S with
  | no => rw [q] at h; cases h
  | er => rw [q] at h; cases h
  | ok d S1 =>
    rw [q] at h
    have e : lamS toldF fe [] 0 al0 ρ S = .ok d S1 := by
      show noer (toldF (fun as S => fe (seeO ρ ++ (as ++ []).map .dat) S) [] S) = _
      have h2 : (fun as S => fe (seeO ρ ++ (as ++ []).map .dat) S) [] S = .ok d S1 := q
      unfold toldF
      rw [h2]
      rfl
    rw [e]
    exact h
theorem ev_toldE {ρ1 : Env} {d : D} (e : seeO ρ ++ [] = ρ1) (h : fe ρ1 S = .er x S') (t : toldV x = some d) (q : Q d S') : Ev (lamS toldF fe [] 0 al0 ρ S) Q := by
  subst e
  have e : lamS toldF fe [] 0 al0 ρ S = .ok d S' := by
    show noer (toldF (fun as S => fe (seeO ρ ++ (as ++ []).map .dat) S) [] S) = _
    have h2 : (fun as S => fe (seeO ρ ++ (as ++ []).map .dat) S) [] S = .er x S' := h
    unfold toldF
    rw [h2]
    dsimp only
    rw [t]
    rfl
  rw [e]
  exact .mk q
end
/-! ### leaves -/
theorem x_addl {xs ys : List D} {P : D → Prop} (h : Nat.ble (xs.length + ys.length) 1000000 = true) (p : P (.lst (xs ++ ys))) : ∃ d, addD (.lst xs) (.lst ys) = some d ∧ P d := ⟨_, if_pos (Nat.le_of_ble_eq_true h), p⟩
theorem x_addt {xs ys : List D} {P : D → Prop} (h : Nat.ble (xs.length + ys.length) 1000000 = true) (p : P (.tup (xs ++ ys))) : ∃ d, addD (.tup xs) (.tup ys) = some d ∧ P d := ⟨_, if_pos (Nat.le_of_ble_eq_true h), p⟩
theorem x_som {o : Option D} {d : D} {P : D → Prop} (h : o = some d) (p : P d) : ∃ d, o = some d ∧ P d := ⟨d, h, p⟩
end Dl
/-! Mt: cards, in plain Lean. -/
namespace Dl
/-- a card: of n it makes (n + a) / 2 ^ j * 2 ^ i + b -/
structure Cd where
  i : Nat
  j : Nat
  a : Int
  b : Int
deriving DecidableEq
theorem dd (x : Int) (k l : Nat) : x / 2 ^ k / 2 ^ l = x / (2 ^ k * 2 ^ l) := by
  rw [Int.ediv_ediv, if_neg]
  · omega
  · have : (0 : Int) < 2 ^ k := Int.pow_pos (by decide)
    omega
def Cd.ok (c : Cd) : Prop := 0 ≤ c.a ∧ c.a < 2 ^ c.j
def Cd.f (c : Cd) (n : Int) : Int := (n + c.a) / 2 ^ c.j * 2 ^ c.i + c.b
theorem p2pos (k : Nat) : (0 : Int) < 2 ^ k := Int.pow_pos (by decide)
theorem p2ne (k : Nat) : (2 : Int) ^ k ≠ 0 := Int.ne_of_gt (p2pos k)
theorem p2s (k : Nat) : (2 : Int) ^ (k + 1) = 2 * 2 ^ k := by rw [Int.pow_succ, Int.mul_comm]
theorem p2add (k l : Nat) : (2 : Int) ^ (k + l) = 2 ^ k * 2 ^ l := Int.pow_add 2 k l
theorem p2le {k l : Nat} (h : k ≤ l) : (2 : Int) ^ k ≤ 2 ^ l := by
  obtain ⟨m, rfl⟩ := Nat.exists_eq_add_of_le h
  rw [p2add]
  have h1 := p2pos k
  have h2 := p2pos m
  have h3 : (2 : Int) ^ k * 1 ≤ 2 ^ k * 2 ^ m := Int.mul_le_mul_of_nonneg_left (by omega) (by omega)
  omega
theorem p2lt {k l : Nat} (h : k < l) : 2 * (2 : Int) ^ k ≤ 2 ^ l := by
  have := p2le (show k + 1 ≤ l by omega)
  rw [p2s] at this
  exact this
theorem p2inj {k l : Nat} (h : (2 : Int) ^ k = 2 ^ l) : k = l := by
  have h1 := p2pos k
  have h2 := p2pos l
  rcases Nat.lt_trichotomy k l with q | q | q
  · have := p2lt q
    omega
  · exact q
  · have := p2lt q
    omega
/-! ### even -/
def evn (i j : Nat) (a b : Int) : Cd := ⟨i, j, a % 2 ^ j, b + a / 2 ^ j * 2 ^ i⟩
theorem evn_ok (i j : Nat) (a b : Int) : (evn i j a b).ok := ⟨Int.emod_nonneg _ (p2ne j), Int.emod_lt_of_pos _ (p2pos j)⟩
theorem evn_f (i j : Nat) (a b n : Int) : (evn i j a b).f n = (n + a) / 2 ^ j * 2 ^ i + b := by
  show (n + a % 2 ^ j) / 2 ^ j * 2 ^ i + (b + a / 2 ^ j * 2 ^ i) = _
  have e : n + a = (n + a % 2 ^ j) + a / 2 ^ j * 2 ^ j := by
    have := Int.emod_add_mul_ediv a (2 ^ j)
    rw [Int.mul_comm] at this
    omega
  rw [e, Int.add_mul_ediv_right _ _ (p2ne j), Int.add_mul]
  omega
theorem evn_id {c : Cd} (h : c.ok) : evn c.i c.j c.a c.b = c := by
  obtain ⟨i, j, a, b⟩ := c
  show Cd.mk i j (a % 2 ^ j) (b + a / 2 ^ j * 2 ^ i) = _
  rw [Int.emod_eq_of_lt h.1 h.2, Int.ediv_eq_zero_of_lt h.1 h.2, Int.zero_mul, Int.add_zero]
/-! ### steps: the signs are 43 +, 45 -, 50 2, 47 / -/
def sgn (c : Nat) : Prop := c = 43 ∨ c = 45 ∨ c = 50 ∨ c = 47
def stf (s : Nat) (n : Int) : Int := if s = 50 then 2 * n else if s = 47 then n / 2 else if s = 43 then n + 1 else n - 1
def runF (w : List Nat) (n : Int) : Int := w.foldl (fun n s => stf s n) n
def Cd.st (c : Cd) (s : Nat) : Cd :=
  if s = 50 then ⟨c.i + 1, c.j, c.a, 2 * c.b⟩
  else if s ≠ 47 then ⟨c.i, c.j, c.a, stf s c.b⟩
  else if 0 < c.i then ⟨c.i - 1, c.j, c.a, c.b / 2⟩
  else evn 0 (c.j + 1) (c.a + c.b * 2 ^ c.j) 0
def Cd.z : Cd := ⟨0, 0, 0, 0⟩
def cardOf (w : List Nat) : Cd := w.foldl Cd.st Cd.z
theorem z_ok : Cd.z.ok := ⟨by decide, by decide⟩
theorem z_f (n : Int) : Cd.z.f n = n := by
  show (n + 0) / 2 ^ 0 * 2 ^ 0 + 0 = n
  simp
theorem st_ok {c : Cd} (h : c.ok) (s : Nat) : (c.st s).ok := by
  unfold Cd.st
  split
  · exact h
  · split
    · exact h
    · split
      · exact h
      · exact evn_ok _ _ _ _
theorem st_f {c : Cd} (h : c.ok) (s : Nat) (n : Int) : (c.st s).f n = stf s (c.f n) := by
  by_cases h1 : s = 50
  · have e : c.st s = ⟨c.i + 1, c.j, c.a, 2 * c.b⟩ := by unfold Cd.st; rw [if_pos h1]
    rw [e]
    show (n + c.a) / 2 ^ c.j * 2 ^ (c.i + 1) + 2 * c.b = _
    unfold stf
    rw [if_pos h1, p2s]
    show _ = 2 * ((n + c.a) / 2 ^ c.j * 2 ^ c.i + c.b)
    rw [Int.mul_add, ← Int.mul_assoc, ← Int.mul_assoc, Int.mul_comm _ 2]
  · by_cases h2 : s ≠ 47
    · have e : c.st s = ⟨c.i, c.j, c.a, stf s c.b⟩ := by unfold Cd.st; rw [if_neg h1, if_pos h2]
      rw [e]
      show (n + c.a) / 2 ^ c.j * 2 ^ c.i + stf s c.b = stf s ((n + c.a) / 2 ^ c.j * 2 ^ c.i + c.b)
      unfold stf
      rw [if_neg h1, if_neg h1, if_neg h2, if_neg h2]
      split <;> omega
    · have h2 : s = 47 := Decidable.byContradiction h2
      by_cases h3 : 0 < c.i
      · have e : c.st s = ⟨c.i - 1, c.j, c.a, c.b / 2⟩ := by unfold Cd.st; rw [if_neg h1, if_neg (by simp [h2]), if_pos h3]
        rw [e]
        show (n + c.a) / 2 ^ c.j * 2 ^ (c.i - 1) + c.b / 2 = _
        unfold stf
        rw [if_neg h1, if_pos h2]
        show _ = ((n + c.a) / 2 ^ c.j * 2 ^ c.i + c.b) / 2
        obtain ⟨k, hk⟩ : ∃ k, c.i = k + 1 := ⟨c.i - 1, by omega⟩
        rw [hk, Nat.add_sub_cancel, p2s]
        have : (n + c.a) / 2 ^ c.j * (2 * 2 ^ k) + c.b = c.b + (n + c.a) / 2 ^ c.j * 2 ^ k * 2 := by
          rw [Int.mul_comm 2, ← Int.mul_assoc]
          omega
        rw [this, Int.add_mul_ediv_right _ _ (by decide)]
        omega
      · have e : c.st s = evn 0 (c.j + 1) (c.a + c.b * 2 ^ c.j) 0 := by unfold Cd.st; rw [if_neg h1, if_neg (by simp [h2]), if_neg h3]
        rw [e, evn_f]
        unfold stf
        rw [if_neg h1, if_pos h2]
        show _ = ((n + c.a) / 2 ^ c.j * 2 ^ c.i + c.b) / 2
        have hi : c.i = 0 := by omega
        rw [hi]
        have e2 : n + (c.a + c.b * 2 ^ c.j) = (n + c.a) + c.b * 2 ^ c.j := by omega
        have e3 : (2 : Int) ^ (c.j + 1) = 2 ^ c.j * 2 ^ 1 := p2add c.j 1
        rw [e2, e3, ← dd, Int.add_mul_ediv_right _ _ (p2ne c.j)]
        simp
theorem foldl_ok : ∀ (w : List Nat) (c : Cd), c.ok → (w.foldl Cd.st c).ok ∧ ∀ n, (w.foldl Cd.st c).f n = runF w (c.f n)
  | [], c, h => ⟨h, fun _ => rfl⟩
  | s :: w, c, h => by
    obtain ⟨h1, h2⟩ := foldl_ok w (c.st s) (st_ok h s)
    refine ⟨h1, fun n => ?_⟩
    show (w.foldl Cd.st (c.st s)).f n = _
    rw [h2 n, st_f h]
    rfl
theorem cardOf_ok (w : List Nat) : (cardOf w).ok := (foldl_ok w _ z_ok).1
theorem cardOf_f (w : List Nat) (n : Int) : (cardOf w).f n = runF w n := by
  have := (foldl_ok w _ z_ok).2 n
  rw [z_f] at this
  exact this
theorem runF_app (w v : List Nat) (n : Int) : runF (w ++ v) n = runF v (runF w n) := by
  unfold runF
  rw [List.foldl_append]
/-! ### unlike cards do unlike things -/
theorem f_zero {c : Cd} (h : c.ok) : c.f 0 = c.b := by
  show (0 + c.a) / 2 ^ c.j * 2 ^ c.i + c.b = _
  rw [Int.zero_add, Int.ediv_eq_zero_of_lt h.1 h.2]
  omega
def Cd.jp (c : Cd) : Int := 2 ^ c.j - c.a
theorem f_low {c : Cd} (h : c.ok) {n : Int} (h0 : 0 ≤ n) (h1 : n < c.jp) : c.f n = c.b := by
  unfold Cd.jp at h1
  have h2 := h.1
  show (n + c.a) / 2 ^ c.j * 2 ^ c.i + c.b = _
  rw [Int.ediv_eq_zero_of_lt (by omega) (by omega)]
  omega
theorem f_at {c : Cd} (h : c.ok) (q r : Int) (h0 : 0 ≤ r) (h1 : r < 2 ^ c.j) : c.f (c.jp + q * 2 ^ c.j + r) = (q + 1) * 2 ^ c.i + c.b := by
  show (2 ^ c.j - c.a + q * 2 ^ c.j + r + c.a) / 2 ^ c.j * 2 ^ c.i + c.b = _
  have e : 2 ^ c.j - c.a + q * 2 ^ c.j + r + c.a = r + (q + 1) * 2 ^ c.j := by
    rw [Int.add_mul]
    omega
  rw [e, Int.add_mul_ediv_right _ _ (p2ne c.j), Int.ediv_eq_zero_of_lt h0 h1, Int.zero_add]
theorem jp_pos {c : Cd} (h : c.ok) : 0 < c.jp := by
  have := h.2
  unfold Cd.jp
  omega
theorem f_jp {c : Cd} (h : c.ok) : c.f c.jp = 2 ^ c.i + c.b := by
  have := f_at h 0 0 (by decide) (p2pos _)
  rw [Int.zero_mul, Int.add_zero, Int.add_zero, Int.zero_add, Int.one_mul] at this
  exact this
/-- what parts two cards -/
def Cd.part (c d : Cd) : Option Int :=
  if c.f 0 ≠ d.f 0 then some 0
  else if c.jp ≠ d.jp ∨ c.i ≠ d.i then some (if d.jp < c.jp then d.jp else c.jp)
  else if c.j ≠ d.j then some (c.jp + 2 ^ (if d.j < c.j then d.j else c.j)) else none
theorem part_none {c d : Cd} (hc : c.ok) (hd : d.ok) : c.part d = none ↔ c = d := by
  constructor
  · intro h
    unfold Cd.part at h
    split at h
    · cases h
    · rename_i h1
      split at h
      · cases h
      · rename_i h2
        split at h
        · cases h
        · rename_i h3
          have h1' : c.f 0 = d.f 0 := Decidable.byContradiction h1
          rw [f_zero hc, f_zero hd] at h1'
          have h2' : c.jp = d.jp := Decidable.byContradiction fun q => h2 (.inl q)
          have h2'' : c.i = d.i := Decidable.byContradiction fun q => h2 (.inr q)
          have h3' : c.j = d.j := Decidable.byContradiction h3
          obtain ⟨i, j, a, b⟩ := c
          obtain ⟨i', j', a', b'⟩ := d
          dsimp only [Cd.jp] at *
          subst h2'' h3' h1'
          have : a = a' := by omega
          rw [this]
  · rintro rfl
    unfold Cd.part
    rw [if_neg (by simp), if_neg (by simp), if_neg (by simp)]
theorem part_some {c d : Cd} (hc : c.ok) (hd : d.ok) {n : Int} (h : c.part d = some n) : 0 ≤ n ∧ c.f n ≠ d.f n ∧ ∀ m, 0 ≤ m → m < n → c.f m = d.f m := by
  have jc := jp_pos hc
  have jd := jp_pos hd
  unfold Cd.part at h
  split at h
  · rename_i h1
    cases h
    exact ⟨by decide, h1, fun m h1 h2 => by omega⟩
  · rename_i h1
    have h1 : c.f 0 = d.f 0 := Decidable.byContradiction h1
    rw [f_zero hc, f_zero hd] at h1
    have hic := p2pos c.i
    have hid := p2pos d.i
    split at h
    · rename_i h2
      have h := Option.some.inj h
      by_cases h3 : d.jp < c.jp
      · rw [if_pos h3] at h
        subst h
        refine ⟨by omega, ?_, fun m m0 m1 => by rw [f_low hc m0 (by omega), f_low hd m0 m1, h1]⟩
        rw [f_low hc (by omega) h3, f_jp hd]
        omega
      · rw [if_neg h3] at h
        subst h
        refine ⟨by omega, ?_, fun m m0 m1 => by rw [f_low hc m0 (by omega), f_low hd m0 (by omega), h1]⟩
        by_cases h4 : c.jp < d.jp
        · rw [f_jp hc, f_low hd (by omega) h4]
          omega
        · have h5 : c.jp = d.jp := by omega
          have e2 : d.f c.jp = 2 ^ d.i + d.b := by rw [h5]; exact f_jp hd
          rw [f_jp hc, e2]
          rcases h2 with h2 | h2
          · exact absurd h5 h2
          · intro q
            exact h2 (p2inj (by omega))
    · rename_i h2
      have h2' : c.jp = d.jp := Decidable.byContradiction fun q => h2 (.inl q)
      have h2'' : c.i = d.i := Decidable.byContradiction fun q => h2 (.inr q)
      split at h
      · rename_i h3
        have h := Option.some.inj h
        have two : ∀ {c d : Cd}, c.ok → d.ok → c.b = d.b → c.jp = d.jp → c.i = d.i → d.j < c.j → c.f (c.jp + 2 ^ d.j) ≠ d.f (c.jp + 2 ^ d.j) ∧ ∀ m, 0 ≤ m → m < c.jp + 2 ^ d.j → c.f m = d.f m := fun {c d} hc hd e1 e2 e3 h => by
          have hl := p2lt h
          have hp := p2pos d.j
          have hic := p2pos d.i
          constructor
          · have a1 := f_at hc 0 (2 ^ d.j) (by omega) (by omega)
            have a2 := f_at hd 1 0 (by omega) (by omega)
            rw [Int.zero_mul, Int.add_zero] at a1
            rw [Int.one_mul, Int.add_zero, ← e2] at a2
            rw [a1, a2, e3, e1]
            omega
          · intro m m0 m1
            by_cases hm : m < c.jp
            · rw [f_low hc m0 hm, f_low hd m0 (by omega), e1]
            · have a1 := f_at hc 0 (m - c.jp) (by omega) (by omega)
              have a2 := f_at hd 0 (m - d.jp) (by omega) (by omega)
              rw [show c.jp + 0 * 2 ^ c.j + (m - c.jp) = m by omega] at a1
              rw [show d.jp + 0 * 2 ^ d.j + (m - d.jp) = m by omega] at a2
              rw [a1, a2, e3, e1]
        by_cases h4 : d.j < c.j
        · rw [if_pos h4] at h
          subst h
          have hp := p2pos d.j
          exact ⟨by omega, two hc hd h1 h2' h2'' h4⟩
        · rw [if_neg h4] at h
          subst h
          have hp := p2pos c.j
          obtain ⟨a1, a2⟩ := two hd hc h1.symm h2'.symm h2''.symm (by omega)
          rw [← h2'] at a1 a2
          exact ⟨by omega, fun q => a1 q.symm, fun m m0 m1 => (a2 m m0 m1).symm⟩
      · cases h
theorem cd_ext {c d : Cd} (hc : c.ok) (hd : d.ok) (h : ∀ n, 0 ≤ n → c.f n = d.f n) : c = d := by
  refine (part_none hc hd).mp ?_
  cases e : c.part d with
  | none => rfl
  | some n =>
    obtain ⟨h1, h2, _⟩ := part_some hc hd e
    exact absurd (h n h1) h2
/-! ### one behind another -/
def Cd.bh (c d : Cd) : Cd :=
  if d.j ≤ c.i then evn (c.i - d.j + d.i) c.j c.a ((c.b + d.a) / 2 ^ d.j * 2 ^ d.i + d.b)
  else evn d.i (c.j + d.j - c.i) (c.a + (c.b + d.a) / 2 ^ c.i * 2 ^ c.j) d.b
theorem bh_ok (c d : Cd) : (c.bh d).ok := by
  unfold Cd.bh
  split <;> exact evn_ok _ _ _ _
theorem bh_f (c d : Cd) (n : Int) : (c.bh d).f n = d.f (c.f n) := by
  unfold Cd.bh
  split
  · rename_i h
    rw [evn_f]
    show _ = ((n + c.a) / 2 ^ c.j * 2 ^ c.i + c.b + d.a) / 2 ^ d.j * 2 ^ d.i + d.b
    obtain ⟨k, hk⟩ := Nat.exists_eq_add_of_le h
    rw [hk, Nat.add_sub_cancel_left, p2add d.j k, p2add k d.i]
    generalize (n + c.a) / 2 ^ c.j = x
    have e : x * (2 ^ d.j * 2 ^ k) + c.b + d.a = (c.b + d.a) + x * 2 ^ k * 2 ^ d.j := by
      rw [Int.mul_comm (2 ^ d.j), ← Int.mul_assoc]
      omega
    rw [e, Int.add_mul_ediv_right _ _ (p2ne d.j), Int.add_mul, ← Int.mul_assoc]
    omega
  · rename_i h
    rw [evn_f]
    show _ = ((n + c.a) / 2 ^ c.j * 2 ^ c.i + c.b + d.a) / 2 ^ d.j * 2 ^ d.i + d.b
    obtain ⟨k, hk⟩ := Nat.exists_eq_add_of_le (show c.i ≤ d.j by omega)
    have e1 : c.j + d.j - c.i = c.j + k := by omega
    rw [e1, hk, p2add c.j k, p2add c.i k, ← dd, ← dd]
    have e2 : n + (c.a + (c.b + d.a) / 2 ^ c.i * 2 ^ c.j) = (n + c.a) + (c.b + d.a) / 2 ^ c.i * 2 ^ c.j := by omega
    have e3 : (n + c.a) / 2 ^ c.j * 2 ^ c.i + c.b + d.a = (c.b + d.a) + (n + c.a) / 2 ^ c.j * 2 ^ c.i := by omega
    rw [e2, e3, Int.add_mul_ediv_right _ _ (p2ne c.j), Int.add_mul_ediv_right _ _ (p2ne c.i), Int.add_comm ((n + c.a) / 2 ^ c.j)]
theorem bh_z {c : Cd} (h : c.ok) : Cd.z.bh c = c := cd_ext (bh_ok _ _) h fun n _ => by rw [bh_f, z_f]
theorem z_bh {c : Cd} (h : c.ok) : c.bh Cd.z = c := cd_ext (bh_ok _ _) h fun n _ => by rw [bh_f, z_f]
theorem bh_assoc (c d e : Cd) : (c.bh d).bh e = c.bh (d.bh e) := cd_ext (bh_ok _ _) (bh_ok _ _) fun n _ => by rw [bh_f, bh_f, bh_f, bh_f]
theorem cardOf_app (w v : List Nat) : cardOf (w ++ v) = (cardOf w).bh (cardOf v) := cd_ext (cardOf_ok _) (bh_ok _ _) fun n _ => by rw [bh_f, cardOf_f, cardOf_f, cardOf_f, runF_app]
/-! ### never falls -/
theorem f_mono {c : Cd} {n m : Int} (h : n ≤ m) : c.f n ≤ c.f m := by
  have h1 : (n + c.a) / 2 ^ c.j ≤ (m + c.a) / 2 ^ c.j := Int.ediv_le_ediv (p2pos _) (by omega)
  have h2 := Int.mul_le_mul_of_nonneg_right h1 (Int.le_of_lt (p2pos c.i))
  show (n + c.a) / 2 ^ c.j * 2 ^ c.i + c.b ≤ (m + c.a) / 2 ^ c.j * 2 ^ c.i + c.b
  omega
theorem f_per (c : Cd) (n k : Int) : c.f (n + k * 2 ^ c.j) = c.f n + k * 2 ^ c.i := by
  show (n + k * 2 ^ c.j + c.a) / 2 ^ c.j * 2 ^ c.i + c.b = (n + c.a) / 2 ^ c.j * 2 ^ c.i + c.b + k * 2 ^ c.i
  have e : n + k * 2 ^ c.j + c.a = n + c.a + k * 2 ^ c.j := by omega
  rw [e, Int.add_mul_ediv_right _ _ (p2ne c.j), Int.add_mul]
  omega
theorem part_symm {c d : Cd} (hc : c.ok) (hd : d.ok) : c.part d = d.part c := by
  cases e1 : c.part d with
  | none =>
    have := (part_none hc hd).mp e1
    exact ((part_none hd hc).mpr this.symm).symm
  | some n =>
    cases e2 : d.part c with
    | none =>
      have := (part_none hd hc).mp e2
      rw [(part_none hc hd).mpr this.symm] at e1
      cases e1
    | some m =>
      obtain ⟨a1, a2, a3⟩ := part_some hc hd e1
      obtain ⟨b1, b2, b3⟩ := part_some hd hc e2
      rcases Int.lt_trichotomy n m with q | q | q
      · exact absurd (b3 n a1 q).symm a2
      · rw [q]
      · exact absurd (a3 m b1 q).symm b2
theorem part_bd {c d : Cd} (hc : c.ok) (hd : d.ok) {n : Int} (h : c.part d = some n) : n ≤ 2 ^ c.j + 2 ^ c.j := by
  have h1 := hc.1
  have p := p2pos c.j
  have jl : c.jp ≤ 2 ^ c.j := by unfold Cd.jp; omega
  unfold Cd.part at h
  split at h
  · have := Option.some.inj h
    omega
  · split at h
    · have := Option.some.inj h
      split at this <;> omega
    · split at h
      · have := Option.some.inj h
        have : (2 : Int) ^ (if d.j < c.j then d.j else c.j) ≤ 2 ^ c.j := p2le (by split <;> omega)
        omega
      · cases h
end Dl
/-! Mr: where numbers go, in plain Lean. -/
namespace Dl
/-! ### what leads to a number -/
def Cd.lead (c : Cd) (n : Int) : Option (Int × Int) :=
  if (n - c.b) % 2 ^ c.i ≠ 0 then none else some ((n - c.b) / 2 ^ c.i * 2 ^ c.j - c.a, (n - c.b) / 2 ^ c.i * 2 ^ c.j - c.a + 2 ^ c.j - 1)
theorem ediv_iff {x q : Int} (k : Nat) : x / 2 ^ k = q ↔ q * 2 ^ k ≤ x ∧ x < q * 2 ^ k + 2 ^ k := by
  have p := p2pos k
  constructor
  · rintro rfl
    have h1 := Int.ediv_mul_le x (p2ne k)
    have h2 := Int.lt_ediv_add_one_mul_self x p
    rw [Int.add_mul, Int.one_mul] at h2
    exact ⟨h1, h2⟩
  · rintro ⟨h1, h2⟩
    have e : x = (x - q * 2 ^ k) + q * 2 ^ k := by omega
    rw [e, Int.add_mul_ediv_right _ _ (p2ne k), Int.ediv_eq_zero_of_lt (by omega) (by omega), Int.zero_add]
theorem f_eq {c : Cd} {m n : Int} : c.f m = n ↔ (n - c.b) % 2 ^ c.i = 0 ∧ (m + c.a) / 2 ^ c.j = (n - c.b) / 2 ^ c.i := by
  show (m + c.a) / 2 ^ c.j * 2 ^ c.i + c.b = n ↔ _
  constructor
  · intro h
    have e : n - c.b = (m + c.a) / 2 ^ c.j * 2 ^ c.i := by omega
    rw [e]
    exact ⟨Int.mul_emod_left _ _, (Int.mul_ediv_cancel _ (p2ne c.i)).symm⟩
  · rintro ⟨h1, h2⟩
    rw [h2, Int.ediv_mul_cancel (Int.dvd_of_emod_eq_zero h1)]
    omega
theorem lead_none {c : Cd} {n : Int} (h : c.lead n = none) (m : Int) : c.f m ≠ n := by
  intro e
  have := (f_eq.mp e).1
  unfold Cd.lead at h
  rw [if_neg (by simpa using this)] at h
  cases h
theorem lead_none_iff {c : Cd} {n : Int} : c.lead n = none ↔ (n - c.b) % 2 ^ c.i ≠ 0 := by
  unfold Cd.lead
  split
  · rename_i q
    exact ⟨fun _ => q, fun _ => rfl⟩
  · rename_i q
    exact ⟨fun h => (by cases h), fun h => absurd h q⟩
theorem lead_some {c : Cd} {n l h : Int} (e : c.lead n = some (l, h)) : h = l + 2 ^ c.j - 1 ∧ ∀ m, c.f m = n ↔ l ≤ m ∧ m ≤ h := by
  unfold Cd.lead at e
  split at e
  · cases e
  · rename_i q
    have q : (n - c.b) % 2 ^ c.i = 0 := Decidable.byContradiction q
    have e := Option.some.inj e
    have e1 := (Prod.mk.inj e).1
    have e2 := (Prod.mk.inj e).2
    refine ⟨by omega, fun m => ?_⟩
    rw [f_eq, ediv_iff]
    constructor
    · rintro ⟨_, h1, h2⟩
      omega
    · rintro ⟨h1, h2⟩
      exact ⟨q, by omega, by omega⟩
/-! ### what undoes -/
def Cd.ahead (c : Cd) : Option Cd := if c.i = 0 then some ⟨c.j, 0, 0, 0 - c.b * 2 ^ c.j - c.a⟩ else none
def Cd.late (c : Cd) : Option Cd := if c.j = 0 then some (evn 0 c.i (0 - c.b) 0) else none
theorem ahead_ok {c d : Cd} (h : c.ahead = some d) : d.ok := by
  unfold Cd.ahead at h
  split at h
  · cases h
    exact ⟨Int.le_refl 0, p2pos 0⟩
  · cases h
theorem ahead_f {c d : Cd} (h : c.ahead = some d) (n : Int) : c.f (d.f n) = n := by
  unfold Cd.ahead at h
  split at h
  · rename_i hi
    have h := Option.some.inj h
    subst h
    show ((n + 0) / 2 ^ 0 * 2 ^ c.j + (0 - c.b * 2 ^ c.j - c.a) + c.a) / 2 ^ c.j * 2 ^ c.i + c.b = n
    have e : (n + 0) / 2 ^ 0 * 2 ^ c.j + (0 - c.b * 2 ^ c.j - c.a) + c.a = (n - c.b) * 2 ^ c.j := by
      rw [Int.add_zero, Int.pow_zero, Int.ediv_one, Int.sub_mul]
      omega
    rw [e, Int.mul_ediv_cancel _ (p2ne c.j), hi, Int.pow_zero, Int.mul_one]
    omega
  · cases h
theorem late_ok {c d : Cd} (h : c.late = some d) : d.ok := by
  unfold Cd.late at h
  split at h
  · cases h
    exact evn_ok _ _ _ _
  · cases h
theorem late_f {c d : Cd} (hc : c.ok) (h : c.late = some d) (n : Int) : d.f (c.f n) = n := by
  unfold Cd.late at h
  split at h
  · rename_i hj
    have h := Option.some.inj h
    subst h
    rw [evn_f]
    have ha : c.a = 0 := by
      have := hc.2
      rw [hj, Int.pow_zero] at this
      have := hc.1
      omega
    show ((n + c.a) / 2 ^ c.j * 2 ^ c.i + c.b + (0 - c.b)) / 2 ^ c.i * 2 ^ 0 + 0 = n
    have e : (n + c.a) / 2 ^ c.j * 2 ^ c.i + c.b + (0 - c.b) = n * 2 ^ c.i := by
      rw [ha, hj, Int.pow_zero, Int.ediv_one, Int.add_zero]
      omega
    rw [e, Int.mul_ediv_cancel _ (p2ne c.i), Int.pow_zero, Int.mul_one]
    omega
  · cases h
/-! ### at last -/
def Cd.atl (c : Cd) : Nat → Nat → Int → Option (Nat × Int)
  | 0, _, _ => none
  | k + 1, t, n => if c.f n = n then some (t, n) else Cd.atl c k (t + 1) (c.f n)
def Cd.it (c : Cd) : Nat → Int → Int
  | 0, n => n
  | k + 1, n => Cd.it c k (c.f n)
theorem atl_some {c : Cd} : ∀ (k t : Nat) (n : Int) {u : Nat} {m : Int}, c.atl k t n = some (u, m) → t ≤ u ∧ u < t + k ∧ m = c.it (u - t) n ∧ c.f m = m ∧ ∀ v, v < u - t → c.f (c.it v n) ≠ c.it v n
  | 0, t, n, u, m, h => by cases h
  | k + 1, t, n, u, m, h => by
    unfold Cd.atl at h
    split at h
    · rename_i e
      cases h
      refine ⟨Nat.le_refl _, by omega, ?_, e, fun v hv => by omega⟩
      rw [Nat.sub_self]
      rfl
    · rename_i e
      obtain ⟨h1, h2, h3, h4, h5⟩ := atl_some k (t + 1) (c.f n) h
      refine ⟨by omega, by omega, ?_, h4, fun v hv => ?_⟩
      · rw [h3, show u - t = (u - (t + 1)) + 1 by omega]
        rfl
      · cases v with
        | zero => exact e
        | succ v => exact h5 v (by omega)
theorem atl_fix {c : Cd} {n : Int} (k t : Nat) (h : c.f n = n) : c.atl (k + 1) t n = some (t, n) := by
  unfold Cd.atl
  rw [if_pos h]
/-! ### what stays -/
def Cd.gap (c : Cd) : Int := 2 ^ c.j - 2 ^ c.i
def zrange (lo hi : Int) : List Int := (List.range (hi - lo).toNat).map fun (i : Nat) => lo + i
def Cd.xs (c : Cd) : List Int :=
  if c.j < c.i then (if (c.a + c.b) / 2 ^ c.j % (2 ^ (c.i - c.j) - 1) = 0 then [0 - (c.a + c.b) / 2 ^ c.j / (2 ^ (c.i - c.j) - 1)] else [])
  else zrange ((c.a + c.b - 2 ^ c.j) / c.gap + 1) ((c.a + c.b) / c.gap + 1)
/-- the numbers that stay, unless they are without end -/
def Cd.rs (c : Cd) : List Int := c.xs.map fun x => x * 2 ^ c.i + c.b
theorem mem_zr {lo hi x : Int} : x ∈ zrange lo hi ↔ lo ≤ x ∧ x < hi := by
  unfold zrange
  rw [List.mem_map]
  constructor
  · rintro ⟨i, h1, rfl⟩
    have := List.mem_range.mp h1
    omega
  · rintro ⟨h1, h2⟩
    exact ⟨(x - lo).toNat, List.mem_range.mpr (by omega), by omega⟩
theorem fix_x {c : Cd} {n : Int} : c.f n = n ↔ ∃ x, n = x * 2 ^ c.i + c.b ∧ (x * 2 ^ c.i + c.b + c.a) / 2 ^ c.j = x := by
  constructor
  · intro h
    refine ⟨(n + c.a) / 2 ^ c.j, h.symm, ?_⟩
    have : (n + c.a) / 2 ^ c.j * 2 ^ c.i + c.b = n := h
    rw [this]
  · rintro ⟨x, h1, h2⟩
    show (n + c.a) / 2 ^ c.j * 2 ^ c.i + c.b = n
    rw [h1, h2]
theorem mem_xs {c : Cd} (hij : c.i ≠ c.j) (x : Int) : x ∈ c.xs ↔ (x * 2 ^ c.i + c.b + c.a) / 2 ^ c.j = x := by
  have pi := p2pos c.i
  have pj := p2pos c.j
  unfold Cd.xs
  by_cases h : c.j < c.i
  · rw [if_pos h]
    obtain ⟨k, hk⟩ := Nat.exists_eq_add_of_lt h
    have e1 : c.i - c.j = k + 1 := by omega
    have e2 : (2 : Int) ^ c.i = 2 ^ (k + 1) * 2 ^ c.j := by
      rw [← p2add]
      congr 1
      omega
    rw [e1]
    have d0 : 0 < (2 : Int) ^ (k + 1) - 1 := by
      have := p2pos k
      rw [p2s]
      omega
    generalize hd : (2 : Int) ^ (k + 1) - 1 = d at d0
    have e3 : x * 2 ^ c.i + c.b + c.a = (c.a + c.b) + x * (d + 1) * 2 ^ c.j := by
      rw [e2, ← Int.mul_assoc, show (2 : Int) ^ (k + 1) = d + 1 by omega]
      omega
    rw [e3, Int.add_mul_ediv_right _ _ (p2ne c.j)]
    generalize (c.a + c.b) / 2 ^ c.j = m
    rw [Int.mul_add, Int.mul_one]
    constructor
    · intro hx
      split at hx
      · rename_i hm
        have : x = 0 - m / d := by simpa using hx
        have q := Int.ediv_mul_cancel (Int.dvd_of_emod_eq_zero hm)
        have : x * d = - m := by
          rw [this, Int.sub_mul, q]
          omega
        omega
      · cases hx
    · intro hx
      have hx : m = (0 - x) * d := by
        rw [Int.sub_mul]
        omega
      rw [hx, if_pos (Int.mul_emod_left _ _), Int.mul_ediv_cancel _ (by omega)]
      simp
  · rw [if_neg h, mem_zr, ediv_iff]
    have g0 : 0 < c.gap := by
      have := p2lt (show c.i < c.j by omega)
      unfold Cd.gap
      omega
    have e : x * c.gap = x * 2 ^ c.j - x * 2 ^ c.i := by
      unfold Cd.gap
      rw [Int.mul_sub]
    constructor
    · rintro ⟨h1, h2⟩
      have h3 : x ≤ (c.a + c.b) / c.gap := by omega
      rw [Int.le_ediv_iff_mul_le g0] at h3
      have h4 : (c.a + c.b - 2 ^ c.j) / c.gap < x := by omega
      rw [Int.ediv_lt_iff_lt_mul g0] at h4
      omega
    · rintro ⟨h1, h2⟩
      have h3 : x ≤ (c.a + c.b) / c.gap := by
        rw [Int.le_ediv_iff_mul_le g0]
        omega
      have h4 : (c.a + c.b - 2 ^ c.j) / c.gap < x := by
        rw [Int.ediv_lt_iff_lt_mul g0]
        omega
      omega
theorem mem_rs {c : Cd} (hij : c.i ≠ c.j) (n : Int) : n ∈ c.rs ↔ c.f n = n := by
  unfold Cd.rs
  rw [List.mem_map, fix_x]
  constructor
  · rintro ⟨x, h1, h2⟩
    exact ⟨x, h2.symm, (mem_xs hij x).mp h1⟩
  · rintro ⟨x, h1, h2⟩
    exact ⟨x, (mem_xs hij x).mpr h2, h1.symm⟩
theorem xs_len (c : Cd) (hij : c.i ≠ c.j) : c.xs.length ≤ 2 := by
  unfold Cd.xs
  split
  · split <;> simp
  · have l := p2lt (show c.i < c.j by omega)
    have pj := p2pos c.j
    have g0 : 0 < c.gap := by
      unfold Cd.gap
      omega
    have g1 : 2 ^ c.j ≤ 2 * c.gap := by
      unfold Cd.gap
      omega
    unfold zrange
    rw [List.length_map, List.length_range]
    have h1 : (c.a + c.b) / c.gap ≤ (c.a + c.b - 2 ^ c.j) / c.gap + 2 := by
      have e : (c.a + c.b - 2 ^ c.j) + 2 * c.gap = (c.a + c.b) + (2 * c.gap - 2 ^ c.j) := by omega
      rw [← Int.add_mul_ediv_right _ 2 (by omega), e]
      exact Int.ediv_le_ediv g0 (by omega)
    omega
theorem stay_even {c : Cd} (hij : c.i = c.j) (n : Int) : c.f n = n ↔ (c.a + c.b) / 2 ^ c.j = 0 ∧ n % 2 ^ c.j = c.b % 2 ^ c.j := by
  rw [fix_x]
  constructor
  · rintro ⟨x, h1, h2⟩
    rw [hij] at h1 h2
    have e : x * 2 ^ c.j + c.b + c.a = (c.a + c.b) + x * 2 ^ c.j := by omega
    rw [e, Int.add_mul_ediv_right _ _ (p2ne c.j)] at h2
    refine ⟨by omega, ?_⟩
    rw [h1, Int.add_comm, Int.add_mul_emod_self_right]
  · rintro ⟨h1, h2⟩
    have d : (2 : Int) ^ c.j ∣ n - c.b := by
      apply Int.dvd_of_emod_eq_zero
      rw [Int.sub_emod, h2, Int.sub_self]
      simp
    obtain ⟨x, hx⟩ := d
    refine ⟨x, ?_, ?_⟩
    · rw [hij, Int.mul_comm]
      omega
    · rw [hij]
      have e : x * 2 ^ c.j + c.b + c.a = (c.a + c.b) + x * 2 ^ c.j := by omega
      rw [e, Int.add_mul_ediv_right _ _ (p2ne c.j), h1, Int.zero_add]
end Dl
namespace Dl
open PySem L2
def g_law : SemS := (sq (asgN 1 (callF 1 M_l_dice (alc (vr 0) al0)))
    (sq (asg 2 (lc (itR (alc (callF 2 M_l_next (alc (vr 1) (alc (cc (.int 7)) al0))) al0)) (tgN 5) [5] (cc (.bl true)) (callF 1 M_card (alc (callF 2 M_l_work (alc (vr 1) (alc (cc (.int 90)) al0))) al0))))
    (sq (asg 2 (lc (itL (vr 2)) (tgN 6) [6] (bin leD (cal absD (alc (ixm (vr 6) (cc (.int 3))) al0)) (bin powD (cc (.int 10)) (cc (.int 60)))) (vr 6)))
    (sq (asg 3 (callF 1 M_written (alc (vr 2) al0)))
    (sq (asgO 4 (callF 1 M_read_2 (alc (vr 3) al0)))
    (sq (ifs (orr (nt (calP 2 M_l_like (alc (vw 4) (alc (vr 2) al0)))) (bin neD (calP 1 M_written (alc (vw 4) al0)) (vr 3))) (ret (cc (.bl false))) skip)
    (sq (app 4 (tupl (alc (cc (.int 0)) (alc (cc (.int 0)) (alc (cc (.int 0)) (alc (cc (.int 0)) al0))))))
    (ret (bin eqD (callF 1 M_read_2 (alc (vr 3) al0)) (vr 2))))))))))
def M_law : Fn := bodyI 7 g_law
local macro_rules | `(tactic| walk_at "x") => `(tactic| (first
  | with_reducible refine x_p60 ?_ | with_reducible refine x_p9 ?_ | with_reducible refine x_p18 ?_ | with_reducible refine x_p25 ?_ | with_reducible refine x_p40 ?_
  | with_reducible refine x_add ?_ | with_reducible refine x_sub ?_ | with_reducible refine x_adds ?_ ?_ | with_reducible refine x_mul ?_ ?_ ?_ | with_reducible refine x_muls ?_ ?_ ?_ ?_ | with_reducible refine x_div ?_ ?_ ?_ | with_reducible refine x_mod ?_ ?_
  | with_reducible refine x_lt ?_ | with_reducible refine x_le ?_ | with_reducible refine x_gt ?_ | with_reducible refine x_ge ?_ | with_reducible refine x_eqi ?_ | with_reducible refine x_eqs ?_ | with_reducible refine x_eqb ?_ | with_reducible refine x_nei ?_ | with_reducible refine x_nes ?_ | with_reducible refine x_neb ?_ | with_reducible refine x_neg ?_
  | with_reducible refine x_isn ?_ | with_reducible refine x_notn ?_ | with_reducible refine x_imul ?_ ?_ ?_ | with_reducible refine x_idiv ?_ ?_ ?_ | with_reducible refine x_iadd ?_ | with_reducible refine x_pow ?_ ?_ ?_ ?_
  | with_reducible refine x_abs ?_ | with_reducible refine x_max2 ?_ | with_reducible refine x_min2 ?_ | with_reducible refine x_inti ?_ | with_reducible refine x_intb ?_ | with_reducible refine x_lens ?_ ?_ | with_reducible refine x_lenl ?_ | with_reducible refine x_lent ?_ | with_reducible refine x_lenf ?_
  | with_reducible refine x_rng1 ?_ ?_ ?_ | with_reducible refine x_rng2 ?_ ?_ ?_ ?_ ?_ | with_reducible refine x_isb ?_ | with_reducible refine x_notb ?_))
local macro_rules | `(tactic| walk_at "t") => `(tactic| (first
  | with_reducible refine x_ntE ?_ | with_reducible refine x_nt ?_ | with_reducible refine x_btt ?_ | with_reducible refine x_bff ?_ | with_reducible refine x_btt' ?_ | with_reducible refine x_bff' ?_
  | with_reducible refine x_ift (by first | omega | assumption | decide) ?_ | with_reducible refine x_iff (by first | omega | assumption | decide) ?_ | with_reducible refine x_ifnt (by first | omega | assumption | decide) ?_ | with_reducible refine x_ifnf (by first | omega | assumption | decide) ?_
  | with_reducible refine x_ift' (by first | omega | assumption | decide) ?_ | with_reducible refine x_iff' (by first | omega | assumption | decide) ?_ | with_reducible refine x_ifnt' (by first | omega | assumption | decide) ?_ | with_reducible refine x_ifnf' (by first | omega | assumption | decide) ?_
  | with_reducible refine x_clet (by first | omega | assumption | decide) ?_ | with_reducible refine x_clef (by first | omega | assumption | decide) ?_ | with_reducible refine x_cltt (by first | omega | assumption | decide) ?_ | with_reducible refine x_cltf (by first | omega | assumption | decide) ?_
  | with_reducible refine x_str ?_ | with_reducible refine x_lst ?_ | with_reducible refine x_tup ?_ | with_reducible refine x_itl ?_ | with_reducible refine x_itf ?_ | with_reducible refine x_two ?_ | with_reducible refine x_three ?_ | with_reducible refine x_inrI ?_ | with_reducible refine x_ninrI ?_ | with_reducible refine x_inrI' ?_ | with_reducible refine x_ninrI' ?_ | with_reducible refine x_inr ?_ | with_reducible refine x_ninr ?_ | with_reducible refine x_count ?_ | with_reducible refine x_int ?_))
local macro_rules | `(tactic| walk_at "e") => `(tactic| (first
  | ((with_reducible refine' ev_vr ?d_e ?_); (case d_e => exact rfl))
  | with_reducible refine ev_cc ?_ | with_reducible refine ev_bin ?_ | with_reducible refine ev_callF ?_ | with_reducible refine ev_alc ?_ | with_reducible refine ev_al0 ?_ | with_reducible refine ev_ixm ?_
  | with_reducible refine evs_sq ?_ | with_reducible refine evs_asg ?_ | with_reducible refine evs_ret ?_ | with_reducible refine evs_skip ?_ | with_reducible refine evs_fr ?_
  | with_reducible refine ev_un ?_ | with_reducible refine ev_cal ?_ | with_reducible refine ev_tupl ?_ | with_reducible refine ev_lstl ?_ | with_reducible refine ev_nt ?_ | with_reducible refine ev_ad ?_ | with_reducible refine ev_orr ?_ | with_reducible refine ev_iff ?_ | with_reducible refine ev_chn ?_ | with_reducible refine ev_inR ?_
  | with_reducible refine ev_rngL ?_ | with_reducible refine ev_slc ?_ | with_reducible refine ev_pN ?_ | with_reducible refine ev_pS ?_ | with_reducible refine ev_sm1 ?_
  | with_reducible refine ev_itR ?_ | with_reducible refine ev_itS ?_ | with_reducible refine ev_itES ?_ | with_reducible refine ev_itT ?_ | with_reducible refine ev_itL ?_
  | with_reducible refine evs_asgO ?_ | with_reducible refine evs_asgN ?_ | with_reducible refine evs_par ?_ | with_reducible refine evs_par3 ?_ | with_reducible refine evs_drp ?_ | with_reducible refine evs_retN ?_ | with_reducible refine evs_brk ?_ | with_reducible refine evs_cont ?_
  | ((with_reducible refine' evs_aug ?d_e ?_); (case d_e => exact rfl))
  | ((with_reducible refine evs_asgT ?_))
  | ((with_reducible refine' evs_app ?d_e ?_); (case d_e => exact rfl))
  | ((with_reducible refine' evs_frzS ?d_e ?_); (case d_e => exact rfl))
  | ((with_reducible refine' evs_frzS2 ?d_e ?_); (case d_e => exact rfl))
  | ((with_reducible refine' evs_putO ?d_e ?_); (case d_e => exact rfl))
  | with_reducible refine evs_putM ?_
  | ((with_reducible refine' ev_vw ?d_e ?_); (case d_e => exact rfl))
  | ((with_reducible refine' ev_vwo ?d_e ?_); (case d_e => exact rfl))
  | with_reducible refine ev_lc ?_
  | ((with_reducible refine' x_len ?d_e ?_); (case d_e => exact rfl))
  | ((with_reducible refine' x_ix ?d_e ?_); (case d_e => exact rfl))
  | walk_at "x" | walk_at "t"))
local macro_rules | `(tactic| walk_at "d") => `(tactic| (first | with_reducible refine evs_ifs ?_ | walk_at "e"))
/-! ### bounds -/
def Bd (x : Int) (k : Nat) : Prop := x.natAbs < 2 ^ k
theorem pow_le_n {k l : Nat} (h : k ≤ l) : (2 : Nat) ^ k ≤ 2 ^ l := Nat.pow_le_pow_right (by decide) h
theorem Bd.mono {x : Int} {k l : Nat} (b : Bd x k) (h : k ≤ l) : Bd x l := Nat.lt_of_lt_of_le b (pow_le_n h)
theorem Bd.add {x y : Int} {k l m : Nat} (a : Bd x k) (b : Bd y l) (h1 : k < m) (h2 : l < m) : Bd (x + y) m := by
  obtain ⟨n, rfl⟩ : ∃ n, m = n + 1 := ⟨m - 1, by omega⟩
  have a := a.mono (show k ≤ n by omega)
  have b := b.mono (show l ≤ n by omega)
  unfold Bd at *
  rw [Nat.pow_succ]
  omega
theorem Bd.sub {x y : Int} {k l m : Nat} (a : Bd x k) (b : Bd y l) (h1 : k < m) (h2 : l < m) : Bd (x - y) m := by
  rw [Int.sub_eq_add_neg]
  exact Bd.add a (by unfold Bd at *; omega) h1 h2
theorem Bd.mul {x y : Int} {k l m : Nat} (a : Bd x k) (b : Bd y l) (h : k + l ≤ m) : Bd (x * y) m := by
  refine Bd.mono ?_ h
  unfold Bd at *
  rw [Int.natAbs_mul, Nat.pow_add]
  exact Nat.mul_lt_mul'' a b
theorem Bd.div {x y : Int} {k : Nat} (a : Bd x k) (h : 0 < y) : Bd (x / y) k := by
  unfold Bd at *
  refine Nat.lt_of_le_of_lt ?_ a
  rcases Int.lt_or_le x 0 with q | q
  · have h1 : x / y < 0 := Int.ediv_neg_of_neg_of_pos q h
    have h2 : x ≤ x / y := by
      rw [Int.le_ediv_iff_mul_le h]
      have : x * y ≤ x * 1 := Int.mul_le_mul_of_nonpos_left (by omega) (by omega)
      omega
    omega
  · have h1 : 0 ≤ x / y := Int.ediv_nonneg q (by omega)
    have h2 : x / y ≤ x := Int.ediv_le_self _ q
    omega
theorem Bd.pow (k : Nat) {m : Nat} (h : k < m) : Bd (2 ^ k) m := by
  unfold Bd
  have : ((2 : Int) ^ k).natAbs = 2 ^ k := by rw [Int.natAbs_pow]; rfl
  rw [this]
  exact Nat.pow_lt_pow_right (by decide) h
theorem Bd.lit {x : Int} {k : Nat} (h : x.natAbs < 2 ^ k) : Bd x k := h
theorem Bd.of {x : Int} {k : Nat} (h0 : 0 ≤ x) (h1 : x < 2 ^ k) : Bd x k := by
  unfold Bd
  have e : ((2 ^ k : Nat) : Int) = (2 : Int) ^ k := by simp
  omega
theorem Bd.big {x : Int} {k : Nat} (b : Bd x k) (h : k ≤ 100000) : x.natAbs < big := lt_big b h
theorem Bd.bigD {x : Int} {k : Nat} (b : Bd x k) (h : k ≤ 9000) : x.natAbs < bigD := lt_bigD b h
theorem p2big {k : Nat} (h : k < 100000) : ((2 : Int) ^ k).natAbs < big := (Bd.pow k (Nat.lt_succ_self k)).big h
theorem p2bigD {k : Nat} (h : k < 9000) : ((2 : Int) ^ k).natAbs < bigD := (Bd.pow k (Nat.lt_succ_self k)).bigD h
/-! ### what the program's defs do -/
theorem sp_two {S : Mem} (n : Nat) (h1 : n ≤ 8000) : M_two [.int n] S = .ok (.int (2 ^ n)) S := by
  refine ev_out (ev_bodyI ?_)
  show EvS (g_two [.dat (.int n), .no, .no] S) _
  unfold g_two
  repeat walk_at "d"
  · omega
  · omega
  refine evs_range (fun k ρ S' => ∃ z, ρ = [.dat (.int n), .dat (.int (2 ^ k.toNat)), z] ∧ S' = S ∧ 0 ≤ k ∧ k ≤ n) ?_ ?_ _ 0 _ S rfl ⟨_, rfl, rfl, by omega, by omega⟩
  · rintro k ρ S' hk ⟨z, rfl, rfl, h2, h3⟩
    refine evs_tgb rfl ?_
    repeat walk_at "d"
    · omega
    · omega
    refine ⟨.dat (.int k), ?_, rfl, by omega, by omega⟩
    show [_, Sl.dat (.int (2 ^ k.toNat * 2)), _] = _
    rw [show (k + 1).toNat = k.toNat + 1 by omega, Int.pow_succ]
  · rintro k ρ S' hk ⟨z, rfl, rfl, h2, h3⟩
    have : k.toNat = n := by omega
    rw [this]
    repeat walk_at "d"
    exact ⟨rfl, rfl⟩
theorem sp_l_two {S : Mem} (n : Nat) (h1 : n ≤ 8000) : M_l_two [.int n] S = .ok (.int (2 ^ n)) S := by
  refine ev_out (ev_bodyI ?_)
  show EvS (g_l_two [.dat (.int n), .no, .no] S) _
  unfold g_l_two
  repeat walk_at "d"
  · omega
  · omega
  refine evs_range (fun k ρ S' => ∃ z, ρ = [.dat (.int n), .dat (.int (2 ^ k.toNat)), z] ∧ S' = S ∧ 0 ≤ k ∧ k ≤ n) ?_ ?_ _ 0 _ S rfl ⟨_, rfl, rfl, by omega, by omega⟩
  · rintro k ρ S' hk ⟨z, rfl, rfl, h2, h3⟩
    refine evs_tgb rfl ?_
    repeat walk_at "d"
    · exact p2big (by omega)
    · exact (Bd.lit (x := 2) (k := 2) (by decide)).big (by decide)
    refine ⟨.dat (.int k), ?_, rfl, by omega, by omega⟩
    show [_, Sl.dat (.int (2 ^ k.toNat * 2)), _] = _
    rw [show (k + 1).toNat = k.toNat + 1 by omega, Int.pow_succ]
  · rintro k ρ S' hk ⟨z, rfl, rfl, h2, h3⟩
    have : k.toNat = n := by omega
    rw [this]
    repeat walk_at "d"
    exact ⟨rfl, rfl⟩
/-- the data of a card -/
def Cd.D (c : Cd) : Dl.D := .tup [.int c.i, .int c.j, .int c.a, .int c.b]
theorem sp_even {S : Mem} (i j : Nat) (a b : Int) {k : Nat} (h1 : i ≤ 8000) (g1 : j ≤ 8000) (ha : Bd a k) (hk : k ≤ 90000) : M_even [.int i, .int j, .int a, .int b] S = .ok (evn i j a b).D S := by
  refine ev_out (ev_bodyI ?_)
  show EvS (g_even [.dat (.int i), .dat (.int j), .dat (.int a), .dat (.int b), .no] S) _
  unfold g_even
  repeat walk_at "d"
  refine ⟨rfl, ev_ok (sp_two j g1) ?_⟩
  repeat walk_at "d"
  · exact p2pos j
  repeat walk_at "d"
  · exact p2pos j
  · exact p2bigD (by omega)
  repeat walk_at "d"
  refine ⟨rfl, ev_ok (sp_two i h1) ?_⟩
  repeat walk_at "d"
  · exact (ha.div (p2pos j)).big (by omega)
  · exact p2big (by omega)
  repeat walk_at "d"
  exact ⟨rfl, rfl⟩
theorem sp_step_on {S : Mem} (s : Nat) (n : Int) {k : Nat} (hn : Bd n k) (hk : k ≤ 100000) : M_step_on [.str (tx [s]), .int n] S = .ok (.int (stf s n)) S := by
  refine ev_out (ev_bodyI ?_)
  show EvS (g_step_on [.dat (.str (tx [s])), .dat (.int n)] S) _
  unfold g_step_on stf
  repeat walk_at "d"
  rw [t_two, t_half, t_plus]
  refine x_if (fun h => ?_) (fun h => ?_)
  · rw [tx1] at h
    rw [if_pos h]
    repeat walk_at "d"
    · exact (Bd.lit (x := 2) (k := 2) (by decide)).big (by decide)
    · exact hn.big hk
    exact ⟨rfl, rfl⟩
  · rw [tx1] at h
    rw [if_neg h]
    repeat walk_at "d"
    refine x_if (fun h => ?_) (fun h => ?_)
    · rw [tx1] at h
      rw [if_pos h]
      repeat walk_at "d"
      · decide
      · exact (Bd.lit (x := 2) (k := 2) (by decide)).bigD (by decide)
      exact ⟨rfl, rfl⟩
    · rw [tx1] at h
      rw [if_neg h]
      repeat walk_at "d"
      refine x_if (fun h => ?_) (fun h => ?_)
      · rw [tx1] at h
        rw [if_pos h]
        repeat walk_at "d"
        exact ⟨rfl, rfl⟩
      · rw [tx1] at h
        rw [if_neg h]
        repeat walk_at "d"
        exact ⟨rfl, rfl⟩
theorem stf_bd {s : Nat} {n : Int} {k : Nat} (h : Bd n k) : Bd (stf s n) (k + 1) := by
  unfold Bd at *
  unfold stf
  have := Nat.pow_succ 2 k
  have hp : 0 < 2 ^ k := Nat.pow_pos (by decide)
  split
  · omega
  · split
    · omega
    · split <;> omega
def FR : Int := 1000000000000000000000000000000000000000000000000000000000000
def goodN (n : Int) : Prop := 0 - FR ≤ n ∧ n ≤ FR
theorem goodN_bd {n : Int} (h : goodN n) : Bd n 200 := by
  unfold goodN FR at h
  unfold Bd
  have : (2 : Nat) ^ 200 = 1606938044258990275541962092341162602522202993782792835301376 := by decide
  omega
theorem sp_need_number {S : Mem} (n : Int) (h : goodN n) : M_need_number [.int n] S = .ok .non S := by
  unfold goodN FR at h
  refine ev_out (ev_bodyI ?_)
  show EvS (g_need_number [.dat (.int n)] S) _
  unfold g_need_number
  repeat walk_at "d"
  exact ⟨rfl, rfl⟩
def goodW (w : List Nat) : Prop := w.length ≤ 400 ∧ ∀ c ∈ w, sgn c
theorem zipIdx_cons' {α : Type} (a : α) (l : List α) (k : Nat) : (a :: l).zipIdx k = (a, k) :: l.zipIdx (k + 1) := rfl
theorem sp_need_work {S : Mem} (w : List Nat) (h : goodW w) : M_need_work [.str (tx w)] S = .ok .non S := by
  refine ev_out (ev_bodyI ?_)
  show EvS (g_need_work [.dat (.str (tx w)), .no, .no] S) _
  unfold g_need_work
  repeat walk_at "d"
  rw [enumS_tx]
  refine evs_loop (fun ds ρ S' => ∃ k v y z, ds = ((v.zipIdx k).map fun p => D.tup [.int (p.2 : Nat), .str (tx [p.1])]) ∧ ρ = [.dat (.str (tx w)), y, z] ∧ S' = S ∧ k + v.length ≤ 400 ∧ ∀ c ∈ v, sgn c) ?_ ?_ _ _ S ⟨0, w, _, _, rfl, rfl, rfl, by have := h.1; omega, h.2⟩
  · rintro d ds ρ S' ⟨k, v, y, z, e, rfl, rfl, h1, h2⟩
    cases v with
    | nil => cases e
    | cons c v =>
      rw [zipIdx_cons', List.map_cons] at e
      injection e with e1 e2
      subst e1 e2
      rw [List.length_cons] at h1
      refine evs_tgb rfl ?_
      rw [t_signs]
      repeat walk_at "d"
      refine x_notin1 ?_
      have hc : c ∈ [43, 45, 50, 47] := by
        rcases h2 c (by simp) with q | q | q | q <;> simp [q]
      repeat walk_at "d"
      exact ⟨k + 1, v, _, _, rfl, rfl, rfl, by omega, fun c hc => h2 c (by simp [hc])⟩
  · rintro ρ S' ⟨k, v, y, z, e, rfl, rfl, h1, h2⟩
    exact ⟨rfl, rfl⟩
theorem runF_cons (s : Nat) (w : List Nat) (n : Int) : runF (s :: w) n = runF w (stf s n) := rfl
theorem sp_run {S : Mem} (w : List Nat) (n : Int) (h : goodW w) (hn : goodN n) : M_run [.str (tx w), .int n] S = .ok (.int (runF w n)) S := by
  refine ev_out (ev_bodyI ?_)
  show EvS (g_run [.dat (.str (tx w)), .dat (.int n), .no] S) _
  unfold g_run
  repeat walk_at "d"
  refine ⟨rfl, ev_ok (sp_need_work w h) ?_⟩
  repeat walk_at "d"
  refine ⟨rfl, ev_ok (sp_need_number n hn) ?_⟩
  repeat walk_at "d"
  rw [signs_tx]
  refine evs_loop (fun ds ρ S' => ∃ v m z k, ds = (v.map fun c => D.str (tx [c])) ∧ ρ = [.dat (.str (tx w)), .dat (.int m), z] ∧ S' = S ∧ runF v m = runF w n ∧ Bd m k ∧ k + v.length ≤ 600) ?_ ?_ _ _ S ⟨w, n, _, 200, rfl, rfl, rfl, rfl, goodN_bd hn, by have := h.1; omega⟩
  · rintro d ds ρ S' ⟨v, m, z, k, e, rfl, rfl, h1, h2, h3⟩
    cases v with
    | nil => cases e
    | cons c v =>
      rw [List.map_cons] at e
      injection e with e1 e2
      subst e1 e2
      rw [List.length_cons] at h3
      refine evs_tgb rfl ?_
      repeat walk_at "d"
      refine ⟨rfl, ev_ok (sp_step_on c m h2 (by omega)) ?_⟩
      exact ⟨v, stf c m, _, k + 1, rfl, rfl, rfl, h1, stf_bd h2, by omega⟩
  · rintro ρ S' ⟨v, m, z, k, e, rfl, rfl, h1, h2, h3⟩
    cases v with
    | cons c v => cases e
    | nil =>
      repeat walk_at "d"
      have h1 : m = runF w n := h1
      exact ⟨by rw [h1], rfl⟩
theorem runF_bd : ∀ (w : List Nat) {n : Int} {k : Nat}, Bd n k → Bd (runF w n) (k + w.length)
  | [], n, k, h => h
  | c :: w, n, k, h => (runF_bd w (stf_bd (s := c) h)).mono (by simp; omega)
/-! ### cards of works -/
theorem sp_stepped {S : Mem} (c : Cd) (s : Nat) {k : Nat} (hc : c.ok) (hi : c.i ≤ 4000) (hj : c.j ≤ 4000) (hb : Bd c.b k) (hk : k ≤ 50000) : M_stepped [c.D, .str (tx [s])] S = .ok (c.st s).D S := by
  have ha : Bd c.a c.j := .of hc.1 hc.2
  refine ev_out (ev_bodyI ?_)
  show EvS (g_stepped [.dat c.D, .dat (.str (tx [s])), .no, .no, .no, .no] S) _
  unfold g_stepped
  rw [t_two, t_half]
  repeat walk_at "d"
  refine ⟨_, rfl, ?_⟩
  repeat walk_at "d"
  refine x_if (fun h => ?_) (fun h => ?_)
  · rw [tx1] at h
    repeat walk_at "d"
    · exact (Bd.lit (x := 2) (k := 2) (by decide)).big (by decide)
    · exact hb.big (by omega)
    have e : c.st s = ⟨c.i + 1, c.j, c.a, 2 * c.b⟩ := by unfold Cd.st; rw [if_pos h]
    rw [e]
    repeat walk_at "d"
    exact ⟨rfl, rfl⟩
  · rw [tx1] at h
    repeat walk_at "d"
    refine x_ifn (fun h2 => ?_) (fun h2 => ?_)
    · rw [tx1] at h2
      repeat walk_at "d"
      refine ⟨rfl, ev_ok (sp_step_on s c.b hb (by omega)) ?_⟩
      have e : c.st s = ⟨c.i, c.j, c.a, stf s c.b⟩ := by unfold Cd.st; rw [if_neg h, if_pos h2]
      rw [e]
      repeat walk_at "d"
      exact ⟨rfl, rfl⟩
    · rw [tx1] at h2
      repeat walk_at "d"
      refine x_if (fun h3 => ?_) (fun h3 => ?_)
      · repeat walk_at "d"
        · decide
        · exact (Bd.lit (x := 2) (k := 2) (by decide)).bigD (by decide)
        have e : c.st s = ⟨c.i - 1, c.j, c.a, c.b / 2⟩ := by unfold Cd.st; rw [if_neg h, if_neg (by simp [h2]), if_pos (by omega)]
        rw [e]
        repeat walk_at "d"
        refine ⟨?_, rfl⟩
        show D.tup [.int ((c.i : Int) - 1), _, _, _] = D.tup [.int ((c.i - 1 : Nat) : Int), _, _, _]
        rw [show ((c.i - 1 : Nat) : Int) = (c.i : Int) - 1 by omega]
      · repeat walk_at "d"
        refine ⟨rfl, ev_ok (sp_two c.j (by omega)) ?_⟩
        repeat walk_at "d"
        · exact hb.big (by omega)
        · exact p2big (by omega)
        repeat walk_at "d"
        have e : c.st s = evn 0 (c.j + 1) (c.a + c.b * 2 ^ c.j) 0 := by unfold Cd.st; rw [if_neg h, if_neg (by simp [h2]), if_neg (by omega)]
        rw [e]
        refine ⟨rfl, ev_ok (sp_even 0 (c.j + 1) _ 0 (k := k + 5000) (by omega) (by omega) (Bd.add ha (hb.mul (Bd.pow c.j (Nat.lt_succ_self _)) (Nat.le_refl _)) (by omega) (by omega)) (by omega)) ?_⟩
        exact ⟨rfl, rfl⟩
/-- how large a step makes a card -/
structure Cd.sz (c : Cd) (n k : Nat) : Prop where
  i : c.i ≤ n
  j : c.j ≤ n
  b : Bd c.b k
theorem st_sz {c : Cd} {n k : Nat} (hc : c.ok) (h : c.sz n k) (s : Nat) : (c.st s).sz (n + 1) (k + 1) := by
  obtain ⟨h1, h2, h3⟩ := h
  unfold Cd.st
  split
  · exact ⟨by show c.i + 1 ≤ _; omega, by show c.j ≤ _; omega, Bd.mono (h3.mul (Bd.lit (x := 2) (k := 2) (by decide)) (Nat.le_refl _) |> fun (q : Bd (c.b * 2) (k + 2)) => (by
      show Bd (2 * c.b) (k + 1)
      unfold Bd at *
      rw [Nat.pow_succ]
      omega)) (Nat.le_refl _)⟩
  · split
    · exact ⟨by show c.i ≤ _; omega, by show c.j ≤ _; omega, stf_bd h3⟩
    · split
      · exact ⟨by show c.i - 1 ≤ _; omega, by show c.j ≤ _; omega, (h3.div (by decide)).mono (by omega)⟩
      · refine ⟨by show 0 ≤ _; omega, by show c.j + 1 ≤ _; omega, ?_⟩
        show Bd (0 + (c.a + c.b * 2 ^ c.j) / 2 ^ (c.j + 1) * 2 ^ 0) (k + 1)
        rw [p2add c.j 1, ← dd, Int.add_mul_ediv_right _ _ (p2ne c.j), Int.ediv_eq_zero_of_lt hc.1 hc.2]
        have := (h3.div (y := 2 ^ 1) (by decide)).mono (show k ≤ k + 1 by omega)
        rw [Int.zero_add, Int.zero_add]
        show Bd (c.b / 2 ^ 1 * 1) (k + 1)
        rw [Int.mul_one]
        exact this
theorem foldl_sz : ∀ (w : List Nat) {c : Cd} {n k : Nat}, c.ok → c.sz n k → (w.foldl Cd.st c).sz (n + w.length) (k + w.length)
  | [], c, n, k, _, h => h
  | s :: w, c, n, k, hc, h => by
    have := foldl_sz w (st_ok hc s) (st_sz hc h s)
    rw [List.length_cons]
    refine ⟨Nat.le_trans this.i (by omega), Nat.le_trans this.j (by omega), this.b.mono (by omega)⟩
theorem cardOf_sz (w : List Nat) : (cardOf w).sz w.length w.length := by
  have := foldl_sz w (c := Cd.z) (n := 0) (k := 0) z_ok ⟨by decide, by decide, by unfold Bd Cd.z; decide⟩
  rw [Nat.zero_add] at this
  exact this
theorem sp_card_of {S : Mem} (w : List Nat) (h : w.length ≤ 4000) : M_card_of [.str (tx w)] S = .ok (cardOf w).D S := by
  refine ev_out (ev_bodyI ?_)
  show EvS (g_card_of [.dat (.str (tx w)), .no, .no] S) _
  unfold g_card_of
  repeat walk_at "d"
  rw [signs_tx]
  refine evs_loop (fun ds ρ S' => ∃ v c z k, ds = (v.map fun c => D.str (tx [c])) ∧ ρ = [.dat (.str (tx w)), .dat (Cd.D c), z] ∧ S' = S ∧ v.foldl Cd.st c = cardOf w ∧ c.ok ∧ c.sz k k ∧ k + v.length ≤ 4000) ?_ ?_ _ _ S ⟨w, Cd.z, _, 0, rfl, rfl, rfl, rfl, z_ok, ⟨by decide, by decide, by unfold Bd Cd.z; decide⟩, by omega⟩
  · rintro d ds ρ S' ⟨v, c, z, k, e, rfl, rfl, h1, hc, h2, h3⟩
    cases v with
    | nil => cases e
    | cons s v =>
      rw [List.map_cons] at e
      injection e with e1 e2
      subst e1 e2
      rw [List.length_cons] at h3
      refine evs_tgb rfl ?_
      repeat walk_at "d"
      refine ⟨rfl, ev_ok (sp_stepped c s hc (by have := h2.i; omega) (by have := h2.j; omega) h2.b (by omega)) ?_⟩
      exact ⟨v, c.st s, _, k + 1, rfl, rfl, rfl, h1, st_ok hc s, st_sz hc h2 s, by omega⟩
  · rintro ρ S' ⟨v, c, z, k, e, rfl, rfl, h1, hc, h2, h3⟩
    cases v with
    | cons c v => cases e
    | nil =>
      repeat walk_at "d"
      have h1 : c = cardOf w := h1
      exact ⟨by rw [h1], rfl⟩
theorem sp_card {S : Mem} (w : List Nat) (h : goodW w) : M_card [.str (tx w)] S = .ok (cardOf w).D S := by
  refine ev_out (ev_bodyI ?_)
  show EvS (g_card [.dat (.str (tx w))] S) _
  unfold g_card
  repeat walk_at "d"
  refine ⟨rfl, ev_ok (sp_need_work w h) ?_⟩
  repeat walk_at "d"
  refine ⟨rfl, ev_ok (sp_card_of w (by have := h.1; omega)) ?_⟩
  exact ⟨rfl, rfl⟩
theorem sp_make {S : Mem} (c : Cd) (n : Int) {k : Nat} (hc : c.ok) (hi : c.i ≤ 4000) (hj : c.j ≤ 4000) (hn : Bd n k) (hk : k ≤ 50000) : M_make [c.D, .int n] S = .ok (.int (c.f n)) S := by
  have ha : Bd c.a c.j := .of hc.1 hc.2
  refine ev_out (ev_bodyI ?_)
  show EvS (g_make [.dat c.D, .dat (.int n), .no, .no, .no, .no] S) _
  unfold g_make
  repeat walk_at "d"
  refine ⟨_, rfl, ?_⟩
  repeat walk_at "d"
  refine ⟨rfl, ev_ok (sp_two c.j (by omega)) ?_⟩
  repeat walk_at "d"
  · exact p2pos _
  · exact p2bigD (by omega)
  repeat walk_at "d"
  refine ⟨rfl, ev_ok (sp_two c.i (by omega)) ?_⟩
  repeat walk_at "d"
  · exact ((Bd.add (m := k + c.j + 1) hn ha (by omega) (by omega)).div (p2pos _)).big (by omega)
  · exact p2big (by omega)
  repeat walk_at "d"
  exact ⟨rfl, rfl⟩
/-- a card that may be handed in -/
structure Cd.good (c : Cd) : Prop where
  ok : c.ok
  i : c.i ≤ 1000
  j : c.j ≤ 1000
  b : goodN c.b
theorem sp_need_card {S : Mem} (c : Cd) (h : c.good) : M_need_card [c.D] S = .ok .non S := by
  obtain ⟨⟨a0, a1⟩, i1, j1, b1, b2⟩ := h
  unfold FR at b1 b2
  refine ev_out (ev_bodyI ?_)
  show EvS (g_need_card [.dat c.D, .no, .no, .no, .no] S) _
  unfold g_need_card
  repeat walk_at "d"
  refine ⟨_, rfl, ?_⟩
  repeat walk_at "d"
  refine ⟨rfl, ev_ok (sp_two c.j (by omega)) ?_⟩
  repeat walk_at "d"
  exact ⟨rfl, rfl⟩
theorem sp_made {S : Mem} (c : Cd) (n : Int) (h : c.good) (hn : goodN n) : M_made [c.D, .int n] S = .ok (.int (c.f n)) S := by
  refine ev_out (ev_bodyI ?_)
  show EvS (g_made [.dat c.D, .dat (.int n)] S) _
  unfold g_made
  repeat walk_at "d"
  refine ⟨rfl, ev_ok (sp_need_card c h) ?_⟩
  repeat walk_at "d"
  refine ⟨rfl, ev_ok (sp_need_number n hn) ?_⟩
  repeat walk_at "d"
  refine ⟨rfl, ev_ok (sp_make c n h.ok (by have := h.i; omega) (by have := h.j; omega) (goodN_bd hn) (by omega)) ?_⟩
  exact ⟨rfl, rfl⟩
theorem sp_behind {S : Mem} (c d : Cd) {k l : Nat} (hc : c.ok) (hd : d.ok) (ci : c.i ≤ 2500) (cj : c.j ≤ 2500) (di : d.i ≤ 2500) (dj : d.j ≤ 2500) (hb : Bd c.b k) (hk : k ≤ 30000) : M_behind [c.D, d.D] S = .ok (c.bh d).D S := by
  have ha : Bd c.a c.j := .of hc.1 hc.2
  have hda : Bd d.a d.j := .of hd.1 hd.2
  have hs : Bd (c.b + d.a) (k + d.j + 1) := Bd.add hb hda (by omega) (by omega)
  refine ev_out (ev_bodyI ?_)
  show EvS (g_behind [.dat c.D, .dat d.D, .no, .no, .no, .no, .no, .no, .no, .no, .no] S) _
  unfold g_behind
  repeat walk_at "d"
  refine ⟨_, rfl, ?_⟩
  repeat walk_at "d"
  refine ⟨_, rfl, ?_⟩
  repeat walk_at "d"
  unfold Cd.bh
  refine x_if (fun h => ?_) (fun h => ?_)
  · have h : d.j ≤ c.i := by omega
    rw [if_pos h]
    repeat walk_at "d"
    refine ⟨rfl, ev_ok (sp_two d.j (by omega)) ?_⟩
    repeat walk_at "d"
    · exact p2pos _
    · exact p2bigD (by omega)
    repeat walk_at "d"
    refine ⟨rfl, ev_ok (sp_two d.i (by omega)) ?_⟩
    repeat walk_at "d"
    · exact (hs.div (p2pos _)).big (by omega)
    · exact p2big (by omega)
    repeat walk_at "d"
    have e : (c.i : Int) - d.j + d.i = ((c.i - d.j + d.i : Nat) : Int) := by omega
    rw [e]
    exact ⟨rfl, ev_ok (sp_even _ c.j c.a _ (by omega) (by omega) ha (by omega)) ⟨rfl, rfl⟩⟩
  · have h : ¬ d.j ≤ c.i := by omega
    rw [if_neg h]
    repeat walk_at "d"
    refine ⟨rfl, ev_ok (sp_two c.i (by omega)) ?_⟩
    repeat walk_at "d"
    · exact p2pos _
    · exact p2bigD (by omega)
    repeat walk_at "d"
    refine ⟨rfl, ev_ok (sp_two c.j (by omega)) ?_⟩
    repeat walk_at "d"
    · exact (hs.div (p2pos _)).big (by omega)
    · exact p2big (by omega)
    repeat walk_at "d"
    have e : (c.j : Int) + d.j - c.i = ((c.j + d.j - c.i : Nat) : Int) := by omega
    rw [e]
    refine ⟨rfl, ev_ok (sp_even d.i _ _ _ (k := k + 10000) (by omega) (by omega) (Bd.add ha (((hs.div (p2pos c.i)).mul (Bd.pow c.j (Nat.lt_succ_self _)) (Nat.le_refl _))) (by omega) (by omega)) (by omega)) ⟨rfl, rfl⟩⟩
theorem sp_need_few {S : Mem} (c : Cd) (hi : c.i ≤ 1000) (hj : c.j ≤ 1000) : M_need_few [c.D] S = .ok .non S := by
  refine ev_out (ev_bodyI ?_)
  show EvS (g_need_few [.dat c.D] S) _
  unfold g_need_few
  repeat walk_at "d"
  exact ⟨rfl, rfl⟩
theorem sp_joined {S : Mem} (c d : Cd) (hc : c.good) (hd : d.good) (hi : (c.bh d).i ≤ 1000) (hj : (c.bh d).j ≤ 1000) : M_joined [c.D, d.D] S = .ok (c.bh d).D S := by
  have c1 := hc.i
  have c2 := hc.j
  have d1 := hd.i
  have d2 := hd.j
  refine ev_out (ev_bodyI ?_)
  show EvS (g_joined [.dat c.D, .dat d.D, .no] S) _
  unfold g_joined
  repeat walk_at "d"
  refine ⟨rfl, ev_ok (sp_need_card c hc) ?_⟩
  repeat walk_at "d"
  refine ⟨rfl, ev_ok (sp_need_card d hd) ?_⟩
  repeat walk_at "d"
  refine ⟨rfl, ev_ok (sp_behind c d (l := 0) hc.ok hd.ok (by omega) (by omega) (by omega) (by omega) (goodN_bd hc.b) (by omega)) ?_⟩
  repeat walk_at "d"
  refine ⟨rfl, ev_ok (sp_need_few _ hi hj) ?_⟩
  repeat walk_at "d"
  exact ⟨rfl, rfl⟩
def optI : Option Int → D
  | none => .non
  | some n => .int n
theorem isNon_opt (p : Option Int) : isNonB (optI p) = decide (p = none) := by cases p <;> rfl
theorem x_neopt {a b : Option Int} {P : D → Prop} (h : P (.bl (!decide (a = b)))) : ∃ d, neD (optI a) (optI b) = some d ∧ P d := by
  refine ⟨_, ?_, h⟩
  cases a <;> cases b
  · rfl
  · rfl
  · rfl
  · rename_i x y
    show some (D.bl (!decide (x = y))) = some (D.bl (!decide (some x = some y)))
    simp
theorem cd_list (c d : Cd) : decide ([(c.i : Int), (c.j : Int), c.a, c.b] = [(d.i : Int), (d.j : Int), d.a, d.b]) = decide (c = d) := by
  apply decide_eq_decide.mpr
  obtain ⟨i, j, a, b⟩ := c
  obtain ⟨i', j', a', b'⟩ := d
  simp
  omega
theorem x_eqcd {c d : Cd} {P : D → Prop} (h : P (.bl (decide (c = d)))) : ∃ e, eqD c.D d.D = some e ∧ P e := x_eqt (l := [(c.i : Int), (c.j : Int), c.a, c.b]) (m := [(d.i : Int), (d.j : Int), d.a, d.b]) (by rw [cd_list]; exact h)
theorem x_necd {c d : Cd} {P : D → Prop} (h : P (.bl (!decide (c = d)))) : ∃ e, neD c.D d.D = some e ∧ P e := x_net (l := [(c.i : Int), (c.j : Int), c.a, c.b]) (m := [(d.i : Int), (d.j : Int), d.a, d.b]) (by rw [cd_list]; exact h)
theorem sp_first_parting {S : Mem} (c d : Cd) (hc : c.ok) (hd : d.ok) (ci : c.i ≤ 4000) (cj : c.j ≤ 4000) (di : d.i ≤ 4000) (dj : d.j ≤ 4000) : M_first_parting [c.D, d.D] S = .ok (optI (c.part d)) S := by
  have b0 : Bd 0 0 := by unfold Bd; decide
  refine ev_out (ev_bodyI ?_)
  show EvS (g_first_parting [.dat c.D, .dat d.D, .no, .no] S) _
  unfold g_first_parting
  repeat walk_at "d"
  refine ⟨rfl, ev_ok (sp_make c 0 hc ci cj b0 (by omega)) ?_⟩
  repeat walk_at "d"
  refine ⟨rfl, ev_ok (sp_make d 0 hd di dj b0 (by omega)) ?_⟩
  repeat walk_at "d"
  unfold Cd.part
  refine x_ifn (fun h => ?_) (fun h => ?_)
  · rw [if_pos h]
    repeat walk_at "d"
    exact ⟨rfl, rfl⟩
  · rw [if_neg (by simpa using h)]
    repeat walk_at "d"
    refine ⟨rfl, ev_ok (sp_two c.j (by omega)) ?_⟩
    repeat walk_at "d"
    refine ⟨rfl, ev_ok (sp_two d.j (by omega)) ?_⟩
    repeat walk_at "d"
    have fin : ∀ P : Po, P.rt (.int (if d.jp < c.jp then d.jp else c.jp)) S → EvS (ret (cal min2D (alc (vr 2) (alc (vr 3) al0))) [.dat c.D, .dat d.D, .dat (.int (2 ^ c.j - c.a)), .dat (.int (2 ^ d.j - d.a))] S) P := by
      intro P q
      repeat walk_at "d"
      exact q
    refine x_ifn' (fun h1 => ?_) (fun h1 => ?_)
    · repeat walk_at "d"
      refine x_ifn (fun h2 => ?_) (fun h2 => ?_)
      · exact fin _ ⟨by rw [if_pos (show c.jp ≠ d.jp ∨ c.i ≠ d.i from .inr (by omega))]; rfl, rfl⟩
      · rw [if_neg (show ¬ (c.jp ≠ d.jp ∨ c.i ≠ d.i) by
          rintro (q | q)
          · exact q h1
          · omega)]
        repeat walk_at "d"
        refine x_ifn (fun h3 => ?_) (fun h3 => ?_)
        · rw [if_pos (show c.j ≠ d.j by omega)]
          repeat walk_at "d"
          have e : (if (d.j : Int) < (c.j : Int) then (d.j : Int) else (c.j : Int)) = ((if d.j < c.j then d.j else c.j : Nat) : Int) := by
            split <;> split <;> omega
          rw [e]
          refine ⟨rfl, ev_ok (sp_two _ (by split <;> omega)) ?_⟩
          repeat walk_at "d"
          exact ⟨rfl, rfl⟩
        · rw [if_neg (show ¬ c.j ≠ d.j by omega)]
          repeat walk_at "d"
          exact ⟨rfl, rfl⟩
    · repeat walk_at "d"
      exact ⟨by rw [if_pos (show c.jp ≠ d.jp ∨ c.i ≠ d.i from .inl h1)]; rfl, rfl⟩
theorem sp_alike {S : Mem} (w v : List Nat) (hw : goodW w) (hv : goodW v) : M_alike [.str (tx w), .str (tx v)] S = .ok (optI ((cardOf w).part (cardOf v))) S := by
  have l1 := hw.1
  have l2 := hv.1
  have s1 := cardOf_sz w
  have s2 := cardOf_sz v
  refine ev_out (ev_bodyI ?_)
  show EvS (g_alike [.dat (.str (tx w)), .dat (.str (tx v))] S) _
  unfold g_alike
  repeat walk_at "d"
  refine ⟨rfl, ev_ok (sp_need_work w hw) ?_⟩
  repeat walk_at "d"
  refine ⟨rfl, ev_ok (sp_need_work v hv) ?_⟩
  repeat walk_at "d"
  refine ⟨rfl, ev_ok (sp_card_of w (by omega)) ?_⟩
  repeat walk_at "d"
  refine ⟨rfl, ev_ok (sp_card_of v (by omega)) ?_⟩
  repeat walk_at "d"
  refine ⟨rfl, ev_ok (sp_first_parting _ _ (cardOf_ok w) (cardOf_ok v) (by have := s1.i; omega) (by have := s1.j; omega) (by have := s2.i; omega) (by have := s2.j; omega)) ?_⟩
  exact ⟨rfl, rfl⟩
theorem sp_parting {S : Mem} (c d : Cd) (hc : c.good) (hd : d.good) : M_parting [c.D, d.D] S = .ok (optI (c.part d)) S := by
  refine ev_out (ev_bodyI ?_)
  show EvS (g_parting [.dat c.D, .dat d.D] S) _
  unfold g_parting
  repeat walk_at "d"
  refine ⟨rfl, ev_ok (sp_need_card c hc) ?_⟩
  repeat walk_at "d"
  refine ⟨rfl, ev_ok (sp_need_card d hd) ?_⟩
  repeat walk_at "d"
  refine ⟨rfl, ev_ok (sp_first_parting _ _ hc.ok hd.ok (by have := hc.i; omega) (by have := hc.j; omega) (by have := hd.i; omega) (by have := hd.j; omega)) ?_⟩
  exact ⟨rfl, rfl⟩
/-! ### dice -/
def dcO (ns : List Int) (p m r : Int) : MO := .lst [.frz (ns.map .int), .int p, .int m, .int r]
def Dice (rest S : Mem) : Prop := ∃ (ns : List Int) (p m r : Int), S = dcO ns p m r :: rest ∧ 0 ≤ p ∧ 0 ≤ m ∧ m < 2147483647 ∧ 0 ≤ r
theorem ev_dice {ns : List Int} {S : Mem} {Q : D → Mem → Prop} (h : ∀ m, 0 ≤ m → m < 2147483647 → Q (.lst [.frz (ns.map .int), .int 0, .int m, .int 0]) S) : Ev (M_l_dice [.frz (ns.map .int)] S) Q := by
  refine ev_bodyF ?_
  show EvS (g_l_dice [.dat (.frz (ns.map .int)), .no, .no] S) _
  unfold g_l_dice
  repeat walk_at "d"
  refine evs_loop (fun ds ρ S' => ∃ l m z, ds = l.map D.int ∧ ρ = [.dat (.frz (ns.map .int)), .dat (.int m), z] ∧ S' = S ∧ 0 ≤ m ∧ m < 2147483647) ?_ ?_ _ _ S ⟨ns, 0, _, rfl, rfl, rfl, by decide, by decide⟩
  · rintro d ds ρ S' ⟨l, m, z, e, rfl, rfl, h1, h2⟩
    cases l with
    | nil => cases e
    | cons c l =>
      rw [List.map_cons] at e
      injection e with e1 e2
      subst e1 e2
      refine evs_tgb rfl ?_
      have q1 := Int.emod_nonneg c (show (2147483647 : Int) ≠ 0 by decide)
      have q2 := Int.emod_lt_of_pos c (show (0 : Int) < 2147483647 by decide)
      repeat walk_at "d"
      · exact (Bd.of (k := 31) h1 (by omega)).big (by decide)
      · exact (Bd.lit (x := 48271) (k := 16) (by decide)).big (by decide)
      repeat walk_at "d"
      · decide
      repeat walk_at "d"
      · exact (Bd.of (k := 31) q1 (by omega)).big (by decide)
      · exact (Bd.lit (x := 69621) (k := 17) (by decide)).big (by decide)
      repeat walk_at "d"
      · decide
      repeat walk_at "d"
      refine ⟨l, _, _, rfl, rfl, rfl, Int.emod_nonneg _ (by decide), Int.emod_lt_of_pos _ (by decide)⟩
  · rintro ρ S' ⟨l, m, z, e, rfl, rfl, h1, h2⟩
    repeat walk_at "d"
    · exact (Bd.of (k := 31) h1 (by omega)).big (by decide)
    · refine (Bd.lit (k := 2) ?_).big (by decide)
      split <;> decide
    repeat walk_at "d"
    refine h _ ?_ ?_ <;> split <;> omega
theorem ev_next {rest S : Mem} {Q : D → Mem → Prop} (hD : Dice rest S) {m : Int} (hm : 0 < m) (hb : m.natAbs < bigD) (h : ∀ r S', 0 ≤ r → r < m → Dice rest S' → Q (.int r) S') : Ev (M_l_next [.obj 0, .int m] S) Q := by
  obtain ⟨ns, p, x, r, rfl, hp, hx0, hx1, hr⟩ := hD
  have md : ∀ y : Int, 0 ≤ y % m ∧ y % m < m := fun y => ⟨Int.emod_nonneg _ (by omega), Int.emod_lt_of_pos _ hm⟩
  refine ev_bodyI ?_
  show EvS (g_l_next [.dat (.obj 0), .dat (.int m), .no, .no] (dcO ns p x r :: rest)) _
  unfold g_l_next
  repeat walk_at "d"
  refine x_if (fun h1 => ?_) (fun h1 => ?_)
  · repeat walk_at "d"
    · exact hm
    repeat walk_at "d"
    · exact hm
    · exact hb
    repeat walk_at "d"
    refine ⟨0, 3, _, 3, rfl, rfl, rfl, rfl, ?_⟩
    repeat walk_at "d"
    exact h _ _ (md r).1 (md r).2 ⟨ns, p, x, r / m, rfl, hp, hx0, hx1, Int.ediv_nonneg hr (by omega)⟩
  · repeat walk_at "d"
    refine ⟨0, 1, _, 1, rfl, rfl, rfl, rfl, ?_⟩
    show EvS _ _
    repeat walk_at "d"
    refine x_if (fun h2 => ?_) (fun h2 => ?_)
    · rw [List.length_map] at h2
      have hl : (p + 1 - 1).toNat < ns.length := by omega
      repeat walk_at "d"
      refine ⟨.int ns[(p + 1 - 1).toNat], ?_, ?_⟩
      · show atI (ns.map D.int) (p + 1 - 1) = _
        rw [atI_map]
        unfold atI ixN
        rw [if_pos (by omega), if_pos (by omega)]
        show (ns[(p + 1 - 1).toNat]?).map _ = _
        rw [List.getElem?_eq_getElem hl]
        rfl
      generalize ns[(p + 1 - 1).toNat] = c
      repeat walk_at "d"
      refine x_if (fun h3 => ?_) (fun h3 => ?_)
      · repeat walk_at "d"
        · exact hm
        · exact hb
        repeat walk_at "d"
        refine ⟨0, 3, _, 3, rfl, rfl, rfl, rfl, ?_⟩
        repeat walk_at "d"
        · exact hm
        have h3 : (0 : Int) ≤ c := by omega
        exact h _ _ (md c).1 (md c).2 ⟨ns, p + 1, x, c / m, rfl, by omega, hx0, hx1, Int.ediv_nonneg h3 (by omega)⟩
      · repeat walk_at "d"
        refine ⟨0, 3, _, 3, rfl, rfl, rfl, rfl, ?_⟩
        repeat walk_at "d"
        · exact hm
        exact h _ _ (md c).1 (md c).2 ⟨ns, p + 1, x, 0, rfl, by omega, hx0, hx1, by decide⟩
    · repeat walk_at "d"
      · exact (Bd.of (k := 31) hx0 (by omega)).big (by decide)
      · exact (Bd.lit (x := 48271) (k := 16) (by decide)).big (by decide)
      repeat walk_at "d"
      · decide
      repeat walk_at "d"
      refine ⟨0, 2, _, 2, rfl, rfl, rfl, rfl, ?_⟩
      repeat walk_at "d"
      · decide
      · exact (Bd.lit (x := 7) (k := 16) (by decide)).bigD (by decide)
      repeat walk_at "d"
      · exact hm
      exact h _ _ (md _).1 (md _).2 ⟨ns, p + 1, _, r, rfl, by omega, Int.emod_nonneg _ (by decide), Int.emod_lt_of_pos _ (by decide), hr⟩
theorem t_w1 : (("++--22//+-2/" : Str)) = tx [43, 43, 45, 45, 50, 50, 47, 47, 43, 45, 50, 47] := by decide +kernel
theorem t_w2 : (("22//+" : Str)) = tx [50, 50, 47, 47, 43] := by decide +kernel
theorem t_w3 : (("/-+" : Str)) = tx [47, 45, 43] := by decide +kernel
theorem lbD {m : Int} {k : Nat} (h0 : 0 ≤ m) (h : m < 2 ^ k) (hk : k ≤ 9000) : m.natAbs < bigD := (Bd.of h0 h).bigD hk
theorem ev_work {rest S : Mem} {Q : D → Mem → Prop} (hD : Dice rest S) {size : Nat} (hs : size ≤ 1000) (h : ∀ w S', (∀ c ∈ w, sgn c) → w.length ≤ size → Dice rest S' → Q (.str (tx w)) S') : Ev (M_l_work [.obj 0, .int size] S) Q := by
  refine ev_bodyI ?_
  show EvS (g_l_work [.dat (.obj 0), .dat (.int size), .no, .no] S) _
  unfold g_l_work
  rw [t_signs, t_w1, t_w2, t_w3]
  repeat walk_at "d"
  refine ⟨rfl, ev_next hD (by decide) (lbD (k := 3) (by decide) (by decide) (by decide)) fun r S1 r0 r1 hD1 => ?_⟩
  refine x_ixl r0 r1 ?_
  have key : ∀ cs : List Nat, (∀ c ∈ cs, sgn c) → 0 < cs.length → cs.length ≤ 100 → EvS (ret (sm1 joinD (cc (.str "")) (lc (itR (alc (callF 2 M_l_next (alc (vr 0) (alc (bin addD (vr 1) (cc (.int 1))) al0))) al0)) (tgN 3) [3] (cc (.bl true)) (ixm (vr 2) (callF 2 M_l_next (alc (vr 0) (alc (cal lenD (alc (vr 2) al0)) al0)))))) [.dat (.obj 0), .dat (.int size), .dat (.str (tx cs)), .no] S1) (pb Q) := by
    intro cs hc hc0 hc1
    rw [t_empty]
    repeat walk_at "d"
    refine ⟨rfl, ev_next hD1 (by omega) (lbD (k := 30) (by omega) (by omega) (by decide)) fun n S2 n0 n1 hD2 => ?_⟩
    repeat walk_at "d"
    · omega
    · omega
    refine evs_comp (fun ds acc S' => ∃ us, acc = us.map (fun c => D.str (tx [c])) ∧ (∀ c ∈ us, sgn c) ∧ us.length + ds.length = n.toNat ∧ Dice rest S') ?_ ?_ _ _ S2 ⟨[], rfl, by simp, by simp [rangeD], hD2⟩
    · rintro d ds acc S' ⟨us, rfl, h1, h2, hD'⟩
      rw [List.length_cons] at h2
      refine ev_lcStep rfl ?_
      repeat walk_at "d"
      · rw [tx_len]; omega
      repeat walk_at "d"
      rw [tx_len]
      refine ⟨rfl, ev_next hD' (by omega) (lbD (k := 30) (by omega) (by omega) (by decide)) fun k S3 k0 k1 hD3 => ?_⟩
      refine x_ixs k0 k1 (by omega) fun c hcm => ?_
      refine ⟨by rw [List.length_map]; omega, us ++ [c], by simp, ?_, by simp; omega, hD3⟩
      intro c' hc'
      rcases List.mem_append.mp hc' with q | q
      · exact h1 c' q
      · have : c' = c := by simpa using q
        rw [this]
        exact hc c hcm
    · rintro acc S' ⟨us, rfl, h1, h2, hD'⟩
      rw [List.length_nil] at h2
      refine ⟨_, joinD_tx (by omega), ?_⟩
      exact h us S' h1 (by omega) hD'
  have s4 : ∀ c ∈ [43, 45, 50, 47], sgn c := by
    intro c hc
    unfold sgn
    simp at hc
    omega
  intro d hd
  simp only [List.mem_cons, List.not_mem_nil, or_false] at hd
  rcases hd with rfl | rfl | rfl | rfl
  · exact key _ (by unfold sgn; simp) (by decide) (by decide)
  · exact key _ (by unfold sgn; simp) (by decide) (by decide)
  · exact key _ (by unfold sgn; simp) (by decide) (by decide)
  · exact key _ (by unfold sgn; simp) (by decide) (by decide)
theorem ev_number {rest S : Mem} {Q : D → Mem → Prop} (hD : Dice rest S) (h : ∀ n S', goodN n → Dice rest S' → Q (.int n) S') : Ev (M_l_number [.obj 0] S) Q := by
  refine ev_bodyI ?_
  show EvS (g_l_number [.dat (.obj 0), .no] S) _
  unfold g_l_number
  repeat walk_at "d"
  refine ⟨rfl, ev_next hD (by decide) (lbD (k := 3) (by decide) (by decide) (by decide)) fun r S1 r0 r1 hD1 => ?_⟩
  refine x_ixl r0 r1 ?_
  have key : ∀ f : Int, 0 ≤ f → f ≤ FR → EvS (ret (bin subD (callF 2 M_l_next (alc (vr 0) (alc (bin addD (bin mulA (cc (.int 2)) (vr 1)) (cc (.int 1))) al0))) (vr 1)) [.dat (.obj 0), .dat (.int f)] S1) (pb Q) := by
    intro f f0 f1
    unfold FR at f1
    repeat walk_at "d"
    · exact (Bd.lit (x := 2) (k := 2) (by decide)).big (by decide)
    · exact (goodN_bd (n := f) ⟨by unfold FR; omega, by unfold FR; omega⟩).big (by decide)
    repeat walk_at "d"
    have hb : Bd (2 * f + 1) 300 := Bd.add (((Bd.lit (x := 2) (k := 2) (by decide)).mul (goodN_bd (n := f) ⟨by unfold FR; omega, by unfold FR; omega⟩) (Nat.le_refl _))) (Bd.lit (x := 1) (k := 1) (by decide)) (by decide) (by decide)
    refine ⟨rfl, ev_next hD1 (by omega) (hb.bigD (by decide)) fun n S2 n0 n1 hD2 => ?_⟩
    repeat walk_at "d"
    exact h _ _ ⟨by unfold FR; omega, by unfold FR; omega⟩ hD2
  intro d hd
  simp only [List.mem_cons, List.not_mem_nil, or_false] at hd
  rcases hd with rfl | rfl | rfl | rfl
  · exact key 9 (by decide) (by decide)
  · exact key 300 (by decide) (by decide)
  · exact key _ (by decide) (by decide)
  · exact key _ (by decide) (by decide)
/-! ### laws that go through turns -/
def Iv (ns : List Int) (n : Nat) (ρ : Env) (S : Mem) : Prop := ∃ (k : Sl) (xs : List Sl), ρ = .dat (.frz (ns.map .int)) :: .dat (.obj 0) :: k :: xs ∧ xs.length = n ∧ Dice [] S
def tp (ns : List Int) (n : Nat) : Po := ⟨Iv ns n, fun d _ => d = .bl true, fun _ _ => False, Iv ns n⟩
theorem law_turns {n : Nat} {N : Int} {body : SemS} {ns : List Int} (h1 : -(2 ^ 62) ≤ N) (h2 : N < 2 ^ 62) (hb : ∀ (k : Sl) (xs : List Sl) (S : Mem), xs.length = n → Dice [] S → EvS (body (.dat (.frz (ns.map .int)) :: .dat (.obj 0) :: k :: xs) S) (tp ns n)) :
    ∃ S', bodyI (n + 3) (sq (asgN 1 (callF 1 M_l_dice (alc (vr 0) al0))) (sq (fr (itR (alc (cc (.int N)) al0)) (tgN 2) body) (ret (cc (.bl true))))) [.frz (ns.map .int)] [] = .ok (.bl true) S' := by
  have : Ev (bodyI (n + 3) (sq (asgN 1 (callF 1 M_l_dice (alc (vr 0) al0))) (sq (fr (itR (alc (cc (.int N)) al0)) (tgN 2) body) (ret (cc (.bl true))))) [.frz (ns.map .int)] []) (fun d S' => d = .bl true) := by
    refine ev_bodyI ?_
    have e : st0 (n + 3) [D.frz (ns.map .int)] = .dat (.frz (ns.map .int)) :: .no :: .no :: List.replicate n .no := by
      show [Sl.dat _] ++ List.replicate (n + 3 - 1) .no = _
      rw [show n + 3 - 1 = (n + 1) + 1 by omega, List.replicate_succ, List.replicate_succ]
      rfl
    rw [e]
    repeat walk_at "d"
    refine ⟨rfl, ev_dice fun m m0 m1 => ⟨_, rfl, ?_⟩⟩
    repeat walk_at "d"
    · exact h1
    · exact h2
    refine evs_range (fun k ρ S' => Iv ns n ρ S') ?_ ?_ _ 0 _ _ rfl ⟨_, _, rfl, List.length_replicate, ⟨ns, 0, m, 0, rfl, by decide, m0, m1, by decide⟩⟩
    · rintro i ρ S' hi ⟨k, xs, rfl, hx, hD⟩
      refine evs_tgb rfl ?_
      have := hb (.dat (.int i)) xs S' hx hD
      generalize body (.dat (.frz (ns.map .int)) :: .dat (.obj 0) :: .dat (.int i) :: xs) S' = f at this
      show EvS (body (.dat (.frz (ns.map .int)) :: .dat (.obj 0) :: .dat (.int i) :: xs) S') _
      have h3 := hb (.dat (.int i)) xs S' hx hD
      cases e : body (.dat (.frz (ns.map .int)) :: .dat (.obj 0) :: .dat (.int i) :: xs) S' <;> rw [e] at h3 <;> cases h3
      · rename_i q; exact .nx q
      · rename_i q; exact .rt q
      · rename_i q; exact q.elim
      · rename_i q; exact .ct q
    · rintro i ρ S' hi ⟨k, xs, rfl, hx, hD⟩
      repeat walk_at "d"
      rfl
  obtain ⟨d, S', e, rfl⟩ := ev_get this
  exact ⟨S', e⟩
theorem goodW_of {w : List Nat} {n : Nat} (h : ∀ c ∈ w, sgn c) (l : w.length ≤ n) (hn : n ≤ 400) : goodW w := ⟨by omega, h⟩
theorem FR_val : FR = 1000000000000000000000000000000000000000000000000000000000000 := rfl
theorem ls1 {xs : List Sl} (h : xs.length = 1) : ∃ x0, xs = [x0] := by
  match xs, h with
  | [x0], _ => exact ⟨x0, rfl⟩
theorem ls2 {xs : List Sl} (h : xs.length = 2) : ∃ x0 x1, xs = [x0, x1] := by
  match xs, h with
  | [x0, x1], _ => exact ⟨x0, x1, rfl⟩
theorem ls3 {xs : List Sl} (h : xs.length = 3) : ∃ x0 x1 x2, xs = [x0, x1, x2] := by
  match xs, h with
  | [x0, x1, x2], _ => exact ⟨x0, x1, x2, rfl⟩
theorem ls4 {xs : List Sl} (h : xs.length = 4) : ∃ x0 x1 x2 x3, xs = [x0, x1, x2, x3] := by
  match xs, h with
  | [x0, x1, x2, x3], _ => exact ⟨x0, x1, x2, x3, rfl⟩
theorem ls5 {xs : List Sl} (h : xs.length = 5) : ∃ x0 x1 x2 x3 x4, xs = [x0, x1, x2, x3, x4] := by
  match xs, h with
  | [x0, x1, x2, x3, x4], _ => exact ⟨x0, x1, x2, x3, x4, rfl⟩
theorem ls6 {xs : List Sl} (h : xs.length = 6) : ∃ x0 x1 x2 x3 x4 x5, xs = [x0, x1, x2, x3, x4, x5] := by
  match xs, h with
  | [x0, x1, x2, x3, x4, x5], _ => exact ⟨x0, x1, x2, x3, x4, x5, rfl⟩
theorem ls7 {xs : List Sl} (h : xs.length = 7) : ∃ x0 x1 x2 x3 x4 x5 x6, xs = [x0, x1, x2, x3, x4, x5, x6] := by
  match xs, h with
  | [x0, x1, x2, x3, x4, x5, x6], _ => exact ⟨x0, x1, x2, x3, x4, x5, x6, rfl⟩
theorem ls8 {xs : List Sl} (h : xs.length = 8) : ∃ x0 x1 x2 x3 x4 x5 x6 x7, xs = [x0, x1, x2, x3, x4, x5, x6, x7] := by
  match xs, h with
  | [x0, x1, x2, x3, x4, x5, x6, x7], _ => exact ⟨x0, x1, x2, x3, x4, x5, x6, x7, rfl⟩
theorem ls9 {xs : List Sl} (h : xs.length = 9) : ∃ x0 x1 x2 x3 x4 x5 x6 x7 x8, xs = [x0, x1, x2, x3, x4, x5, x6, x7, x8] := by
  match xs, h with
  | [x0, x1, x2, x3, x4, x5, x6, x7, x8], _ => exact ⟨x0, x1, x2, x3, x4, x5, x6, x7, x8, rfl⟩
theorem ls10 {xs : List Sl} (h : xs.length = 10) : ∃ x0 x1 x2 x3 x4 x5 x6 x7 x8 x9, xs = [x0, x1, x2, x3, x4, x5, x6, x7, x8, x9] := by
  match xs, h with
  | [x0, x1, x2, x3, x4, x5, x6, x7, x8, x9], _ => exact ⟨x0, x1, x2, x3, x4, x5, x6, x7, x8, x9, rfl⟩
theorem ls11 {xs : List Sl} (h : xs.length = 11) : ∃ x0 x1 x2 x3 x4 x5 x6 x7 x8 x9 x10, xs = [x0, x1, x2, x3, x4, x5, x6, x7, x8, x9, x10] := by
  match xs, h with
  | [x0, x1, x2, x3, x4, x5, x6, x7, x8, x9, x10], _ => exact ⟨x0, x1, x2, x3, x4, x5, x6, x7, x8, x9, x10, rfl⟩
theorem ls12 {xs : List Sl} (h : xs.length = 12) : ∃ x0 x1 x2 x3 x4 x5 x6 x7 x8 x9 x10 x11, xs = [x0, x1, x2, x3, x4, x5, x6, x7, x8, x9, x10, x11] := by
  match xs, h with
  | [x0, x1, x2, x3, x4, x5, x6, x7, x8, x9, x10, x11], _ => exact ⟨x0, x1, x2, x3, x4, x5, x6, x7, x8, x9, x10, x11, rfl⟩
theorem ls13 {xs : List Sl} (h : xs.length = 13) : ∃ x0 x1 x2 x3 x4 x5 x6 x7 x8 x9 x10 x11 x12, xs = [x0, x1, x2, x3, x4, x5, x6, x7, x8, x9, x10, x11, x12] := by
  match xs, h with
  | [x0, x1, x2, x3, x4, x5, x6, x7, x8, x9, x10, x11, x12], _ => exact ⟨x0, x1, x2, x3, x4, x5, x6, x7, x8, x9, x10, x11, x12, rfl⟩
theorem ls14 {xs : List Sl} (h : xs.length = 14) : ∃ x0 x1 x2 x3 x4 x5 x6 x7 x8 x9 x10 x11 x12 x13, xs = [x0, x1, x2, x3, x4, x5, x6, x7, x8, x9, x10, x11, x12, x13] := by
  match xs, h with
  | [x0, x1, x2, x3, x4, x5, x6, x7, x8, x9, x10, x11, x12, x13], _ => exact ⟨x0, x1, x2, x3, x4, x5, x6, x7, x8, x9, x10, x11, x12, x13, rfl⟩
theorem ls15 {xs : List Sl} (h : xs.length = 15) : ∃ x0 x1 x2 x3 x4 x5 x6 x7 x8 x9 x10 x11 x12 x13 x14, xs = [x0, x1, x2, x3, x4, x5, x6, x7, x8, x9, x10, x11, x12, x13, x14] := by
  match xs, h with
  | [x0, x1, x2, x3, x4, x5, x6, x7, x8, x9, x10, x11, x12, x13, x14], _ => exact ⟨x0, x1, x2, x3, x4, x5, x6, x7, x8, x9, x10, x11, x12, x13, x14, rfl⟩
/-! ### texts: times, slices, count -/
theorem repS_tx (c : Nat) (n : Int) : repS (tx [c]) n = tx (List.replicate n.toNat c) := by
  unfold repS tx
  congr 1
  generalize n.toNat = k
  have : ∀ (k : Nat) (a : Array Nat), (List.replicate k [c].toArray).foldl (· ++ ·) a = a ++ (List.replicate k c).toArray := by
    intro k
    induction k with
    | zero => intro a; simp
    | succ k ih =>
      intro a
      rw [List.replicate_succ, List.foldl_cons, ih, List.replicate_succ]
      apply Array.toList_inj.mp
      simp
  rw [this]
  simp
theorem sIx_le {n d : Nat} {k : Int} (h0 : 0 ≤ k) (h1 : k ≤ n) : HT.sIx n d (some k) = k.toNat := by
  unfold HT.sIx
  dsimp only
  rw [if_neg (by omega)]
  omega
theorem cut_to {cs : List Nat} {k : Int} (h0 : 0 ≤ k) : cutS (tx cs) none (some k) = tx (cs.take k.toNat) := by
  unfold cutS
  rw [HT.sIx_none]
  show Str.mk _ = Str.mk _
  rw [tx_len]
  have e : HT.sIx cs.length cs.length (some k) = min k.toNat cs.length := by
    unfold HT.sIx
    dsimp only
    rw [if_neg (by omega)]
  rw [e, List.drop_zero, Nat.sub_zero]
  congr 2
  show List.take (min k.toNat cs.length) cs = _
  rw [← List.take_eq_take_min]
theorem cut_from {cs : List Nat} {k : Int} (h0 : 0 ≤ k) : cutS (tx cs) (some k) none = tx (cs.drop k.toNat) := by
  unfold cutS
  rw [HT.sIx_none]
  show Str.mk _ = Str.mk _
  rw [tx_len]
  have e : HT.sIx cs.length 0 (some k) = min k.toNat cs.length := by
    unfold HT.sIx
    dsimp only
    rw [if_neg (by omega)]
  rw [e]
  congr 2
  show List.take (cs.length - min k.toNat cs.length) (cs.drop (min k.toNat cs.length)) = _
  rw [List.take_of_length_le (by rw [List.length_drop]; omega)]
  rcases Nat.le_total k.toNat cs.length with h | h
  · rw [Nat.min_eq_left h]
  · rw [Nat.min_eq_right h, List.drop_eq_nil_of_le (Nat.le_refl _), List.drop_eq_nil_of_le h]
theorem x_slto {cs : List Nat} {k : Int} {P : D → Prop} (h0 : 0 ≤ k) (hl : cs.length ≤ 1000000) (h : P (.str (tx (cs.take k.toNat)))) : ∃ d, sliceD (.str (tx cs)) none (some k) = some d ∧ P d := by
  refine ⟨_, ?_, h⟩
  unfold sliceD
  dsimp only
  rw [if_pos (by rw [tx_len]; exact hl), cut_to h0]
theorem x_slfr {cs : List Nat} {k : Int} {P : D → Prop} (h0 : 0 ≤ k) (hl : cs.length ≤ 1000000) (h : P (.str (tx (cs.drop k.toNat)))) : ∃ d, sliceD (.str (tx cs)) (some k) none = some d ∧ P d := by
  refine ⟨_, ?_, h⟩
  unfold sliceD
  dsimp only
  rw [if_pos (by rw [tx_len]; exact hl), cut_from h0]
/-! ### numbers -/
theorem goodN_abs {n : Int} (h : (if n < 0 then -n else n) ≤ 1000000000000000000000000000000000000000000000000000000000000) : goodN n := by
  unfold goodN FR
  split at h <;> omega
theorem abs_goodN {n : Int} (h : goodN n) : (if n < 0 then -n else n) ≤ 1000000000000000000000000000000000000000000000000000000000000 := by
  unfold goodN FR at h
  split <;> omega
theorem ten60 : (10 : Int) ^ (60 : Int).toNat = 1000000000000000000000000000000000000000000000000000000000000 := by decide
theorem p2_200 : (2 : Int) ^ 200 = 1606938044258990275541962092341162602522202993782792835301376 := by decide
theorem ev_workI {rest S : Mem} {Q : D → Mem → Prop} (hD : Dice rest S) {size : Int} (h0 : 0 ≤ size) (hs : size ≤ 1000) (h : ∀ w S', (∀ c ∈ w, sgn c) → (w.length : Int) ≤ size → Dice rest S' → Q (.str (tx w)) S') : Ev (M_l_work [.obj 0, .int size] S) Q := by
  obtain ⟨n, rfl⟩ := Int.eq_ofNat_of_zero_le h0
  exact ev_work hD (by omega) fun w S' h1 h2 h3 => h w S' h1 (by omega) h3
/-- a short work's card may be handed in, if its b may -/
theorem card_good {w : List Nat} (h : w.length ≤ 1000) (hb : goodN (cardOf w).b) : (cardOf w).good := by
  have s := cardOf_sz w
  exact ⟨cardOf_ok w, Nat.le_trans s.i h, Nat.le_trans s.j h, hb⟩
/-- i less j: doublings less halvings -/
theorem foldl_ij : ∀ (w : List Nat) (c : Cd), (∀ s ∈ w, sgn s) → ((w.foldl Cd.st c).i : Int) - (w.foldl Cd.st c).j = c.i - c.j + (w.count 50 - w.count 47)
  | [], c, _ => by simp
  | s :: w, c, h => by
    have ih := foldl_ij w (c.st s) fun s hs => h s (by simp [hs])
    show ((w.foldl Cd.st (c.st s)).i : Int) - _ = _
    rw [show (List.foldl Cd.st c (s :: w)) = w.foldl Cd.st (c.st s) from rfl, ih]
    rcases h s (by simp) with rfl | rfl | rfl | rfl
    · rw [List.count_cons_of_ne (by decide), List.count_cons_of_ne (by decide)]
      rfl
    · rw [List.count_cons_of_ne (by decide), List.count_cons_of_ne (by decide)]
      rfl
    · rw [List.count_cons_self, List.count_cons_of_ne (by decide)]
      have e : c.st 50 = ⟨c.i + 1, c.j, c.a, 2 * c.b⟩ := rfl
      rw [e]
      show ((c.i + 1 : Nat) : Int) - c.j + _ = _
      omega
    · rw [List.count_cons_self, List.count_cons_of_ne (by decide)]
      unfold Cd.st
      rw [if_neg (by decide), if_neg (by decide)]
      split
      · show ((c.i - 1 : Nat) : Int) - c.j + _ = _
        omega
      · show ((0 : Nat) : Int) - ((c.j + 1 : Nat) : Int) + _ = _
        omega
theorem cardOf_ij {w : List Nat} (h : ∀ s ∈ w, sgn s) : ((cardOf w).i : Int) - (cardOf w).j = w.count 50 - w.count 47 := by
  have := foldl_ij w Cd.z h
  rw [show (w.foldl Cd.st Cd.z) = cardOf w from rfl] at this
  rw [this]
  show (0 : Int) - 0 + _ = _
  omega
theorem law_begin {n : Nat} {rest : SemS} {ns : List Int} (h : ∀ S, Dice [] S → EvS (rest (.dat (.frz (ns.map .int)) :: .dat (.obj 0) :: List.replicate n .no) S) (pb fun d _ => d = .bl true)) :
    ∃ S', bodyI (n + 2) (sq (asgN 1 (callF 1 M_l_dice (alc (vr 0) al0))) rest) [.frz (ns.map .int)] [] = .ok (.bl true) S' := by
  have : Ev (bodyI (n + 2) (sq (asgN 1 (callF 1 M_l_dice (alc (vr 0) al0))) rest) [.frz (ns.map .int)] []) (fun d S' => d = .bl true) := by
    refine ev_bodyI ?_
    have e : st0 (n + 2) [D.frz (ns.map .int)] = .dat (.frz (ns.map .int)) :: .no :: List.replicate n .no := by
      show [Sl.dat _] ++ List.replicate (n + 2 - 1) .no = _
      rw [show n + 2 - 1 = n + 1 by omega, List.replicate_succ]
      rfl
    rw [e]
    repeat walk_at "d"
    refine ⟨rfl, ev_dice fun m m0 m1 => ⟨_, rfl, ?_⟩⟩
    exact h _ ⟨ns, 0, m, 0, rfl, by decide, m0, m1, by decide⟩
  obtain ⟨d, S', e, rfl⟩ := ev_get this
  exact ⟨S', e⟩
theorem ev_pick {rest S : Mem} {Q : D → Mem → Prop} (hD : Dice rest S) {ds : List D} (h0 : 0 < ds.length) (h1 : ds.length ≤ 100000) (h : ∀ x S', x ∈ ds → Dice rest S' → Q x S') : Ev (M_l_pick [.obj 0, .lst ds] S) Q := by
  refine ev_bodyI ?_
  show EvS (g_l_pick [.dat (.obj 0), .dat (.lst ds)] S) _
  unfold g_l_pick
  repeat walk_at "d"
  refine ⟨rfl, ev_next hD (by omega) (lbD (k := 30) (by omega) (by omega) (by decide)) fun r S1 r0 r1 hD1 => ?_⟩
  refine x_ixl r0 r1 fun d hd => ?_
  exact h d S1 hd hD1
theorem ev_pack {rest S : Mem} {Q : D → Mem → Prop} (hD : Dice rest S) {size : Nat} (hs : size ≤ 1000) (h : ∀ (c : Cd) S', c.ok → c.i ≤ size → c.j ≤ size → goodN c.b → Dice rest S' → Q c.D S') : Ev (M_l_pack [.obj 0, .int size] S) Q := by
  refine ev_bodyI ?_
  show EvS (g_l_pack [.dat (.obj 0), .dat (.int size), .no, .no, .no, .no] S) _
  unfold g_l_pack
  repeat walk_at "d"
  refine ⟨rfl, ev_next hD (by omega) (lbD (k := 30) (by omega) (by omega) (by decide)) fun i S1 i0 i1 hD1 => ?_⟩
  repeat walk_at "d"
  refine ⟨rfl, ev_next hD1 (by omega) (lbD (k := 30) (by omega) (by omega) (by decide)) fun j S2 j0 j1 hD2 => ?_⟩
  obtain ⟨i, rfl⟩ := Int.eq_ofNat_of_zero_le i0
  obtain ⟨j, rfl⟩ := Int.eq_ofNat_of_zero_le j0
  have pj := p2pos j
  repeat walk_at "d"
  refine ⟨rfl, ev_ok (sp_l_two j (by omega)) ?_⟩
  repeat walk_at "d"
  refine ⟨rfl, ev_next hD2 pj (p2bigD (by omega)) fun a S3 a0 a1 hD3 => ?_⟩
  repeat walk_at "d"
  · decide
  · exact (Bd.lit (x := 2) (k := 3) (by decide)).bigD (by decide)
  repeat walk_at "d"
  · decide
  · exact (Bd.lit (x := 3) (k := 3) (by decide)).bigD (by decide)
  repeat walk_at "d"
  · decide
  · exact (Bd.lit (x := 5) (k := 3) (by decide)).bigD (by decide)
  repeat walk_at "d"
  refine ⟨rfl, ev_next hD3 (by decide) (lbD (k := 3) (by decide) (by decide) (by decide)) fun r S4 r0 r1 hD4 => ?_⟩
  refine x_ixli (l := [a, 0, 2 ^ j - 1, 2 ^ j / 2, 2 ^ j / 3, 2 ^ j / 5]) r0 r1 fun a' ha' => ?_
  replace ha' : 0 ≤ a' ∧ a' < 2 ^ j := by
    simp only [List.mem_cons, List.not_mem_nil, or_false] at ha'
    omega
  repeat walk_at "d"
  refine ⟨rfl, ev_next hD4 (by decide) (lbD (k := 6) (by decide) (by decide) (by decide)) fun b S5 b0 b1 hD5 => ?_⟩
  repeat walk_at "d"
  refine ⟨rfl, ev_number hD5 fun n S6 gn hD6 => ?_⟩
  repeat walk_at "d"
  refine ⟨rfl, ev_next hD6 (by decide) (lbD (k := 3) (by decide) (by decide) (by decide)) fun r S7 r0 r1 hD7 => ?_⟩
  refine x_ixli (l := [b - 10, n]) r0 r1 fun b' hb' => ?_
  have gb : goodN b' := by
    simp only [List.mem_cons, List.not_mem_nil, or_false] at hb'
    unfold goodN FR at gn ⊢
    omega
  repeat walk_at "d"
  exact h ⟨i, j, a', b'⟩ S7 ha' (by show i ≤ size; omega) (by show j ≤ size; omega) gb hD7
theorem ev_packI {rest S : Mem} {Q : D → Mem → Prop} (hD : Dice rest S) {size : Int} (h0 : 0 ≤ size) (hs : size ≤ 1000) (h : ∀ (c : Cd) S', c.ok → (c.i : Int) ≤ size → (c.j : Int) ≤ size → goodN c.b → Dice rest S' → Q c.D S') : Ev (M_l_pack [.obj 0, .int size] S) Q := by
  obtain ⟨n, rfl⟩ := Int.eq_ofNat_of_zero_le h0
  exact ev_pack hD (by omega) fun c S' h1 h2 h3 h4 h5 => h c S' h1 (by omega) (by omega) h4 h5
theorem sp_l_make {S : Mem} (c : Cd) (n : Int) {k : Nat} (hc : c.ok) (hi : c.i ≤ 4000) (hj : c.j ≤ 4000) (hn : Bd n k) (hk : k ≤ 50000) : M_l_make [c.D, .int n] S = .ok (.int (c.f n)) S := by
  have ha : Bd c.a c.j := .of hc.1 hc.2
  refine ev_out (ev_bodyI ?_)
  show EvS (g_l_make [.dat c.D, .dat (.int n), .no, .no, .no, .no] S) _
  unfold g_l_make
  repeat walk_at "d"
  refine ⟨_, rfl, ?_⟩
  repeat walk_at "d"
  refine ⟨rfl, ev_ok (sp_l_two c.j (by omega)) ?_⟩
  repeat walk_at "d"
  · exact p2pos _
  · exact p2bigD (by omega)
  repeat walk_at "d"
  refine ⟨rfl, ev_ok (sp_l_two c.i (by omega)) ?_⟩
  repeat walk_at "d"
  · exact ((Bd.add (m := k + c.j + 1) hn ha (by omega) (by omega)).div (p2pos _)).big (by omega)
  · exact p2big (by omega)
  repeat walk_at "d"
  exact ⟨rfl, rfl⟩
/-! ### what is alike -/
def likes : Nat → D → Prop
  | _, .non => True
  | _, .bl _ => True
  | _, .int _ => True
  | _, .str _ => True
  | 0, _ => False
  | n + 1, .tup ds => ds.length ≤ 100000 ∧ ∀ d ∈ ds, likes n d
  | n + 1, .lst ds => ds.length ≤ 100000 ∧ ∀ d ∈ ds, likes n d
  | _ + 1, _ => False
theorem x_some {o : Option D} {v : D} {P : D → Prop} (e : o = some v) (p : P v) : ∃ d, o = some d ∧ P d := ⟨v, e, p⟩
theorem isi_non_tuple  : isiD "tuple" (.non) = some (.bl false) := by
  show (kitB "NoneType" "tuple").map _ = _
  rw [show kitB "NoneType" "tuple" = some false from by decide +kernel]
  rfl
theorem isi_non_list  : isiD "list" (.non) = some (.bl false) := by
  show (kitB "NoneType" "list").map _ = _
  rw [show kitB "NoneType" "list" = some false from by decide +kernel]
  rfl
theorem isi_non_bool  : isiD "bool" (.non) = some (.bl false) := by
  show (kitB "NoneType" "bool").map _ = _
  rw [show kitB "NoneType" "bool" = some false from by decide +kernel]
  rfl
theorem isi_non_int  : isiD "int" (.non) = some (.bl false) := by
  show (kitB "NoneType" "int").map _ = _
  rw [show kitB "NoneType" "int" = some false from by decide +kernel]
  rfl
theorem isi_non_str  : isiD "str" (.non) = some (.bl false) := by
  show (kitB "NoneType" "str").map _ = _
  rw [show kitB "NoneType" "str" = some false from by decide +kernel]
  rfl
theorem isi_bl_tuple (x : Bool) : isiD "tuple" (.bl x) = some (.bl false) := by
  show (kitB "bool" "tuple").map _ = _
  rw [show kitB "bool" "tuple" = some false from by decide +kernel]
  rfl
theorem isi_bl_list (x : Bool) : isiD "list" (.bl x) = some (.bl false) := by
  show (kitB "bool" "list").map _ = _
  rw [show kitB "bool" "list" = some false from by decide +kernel]
  rfl
theorem isi_bl_bool (x : Bool) : isiD "bool" (.bl x) = some (.bl true) := by
  show (kitB "bool" "bool").map _ = _
  rw [show kitB "bool" "bool" = some true from by decide +kernel]
  rfl
theorem isi_bl_int (x : Bool) : isiD "int" (.bl x) = some (.bl true) := by
  show (kitB "bool" "int").map _ = _
  rw [show kitB "bool" "int" = some true from by decide +kernel]
  rfl
theorem isi_bl_str (x : Bool) : isiD "str" (.bl x) = some (.bl false) := by
  show (kitB "bool" "str").map _ = _
  rw [show kitB "bool" "str" = some false from by decide +kernel]
  rfl
theorem isi_int_tuple (x : Int) : isiD "tuple" (.int x) = some (.bl false) := by
  show (kitB "int" "tuple").map _ = _
  rw [show kitB "int" "tuple" = some false from by decide +kernel]
  rfl
theorem isi_int_list (x : Int) : isiD "list" (.int x) = some (.bl false) := by
  show (kitB "int" "list").map _ = _
  rw [show kitB "int" "list" = some false from by decide +kernel]
  rfl
theorem isi_int_bool (x : Int) : isiD "bool" (.int x) = some (.bl false) := by
  show (kitB "int" "bool").map _ = _
  rw [show kitB "int" "bool" = some false from by decide +kernel]
  rfl
theorem isi_int_int (x : Int) : isiD "int" (.int x) = some (.bl true) := by
  show (kitB "int" "int").map _ = _
  rw [show kitB "int" "int" = some true from by decide +kernel]
  rfl
theorem isi_int_str (x : Int) : isiD "str" (.int x) = some (.bl false) := by
  show (kitB "int" "str").map _ = _
  rw [show kitB "int" "str" = some false from by decide +kernel]
  rfl
theorem isi_str_tuple (x : Str) : isiD "tuple" (.str x) = some (.bl false) := by
  show (kitB "str" "tuple").map _ = _
  rw [show kitB "str" "tuple" = some false from by decide +kernel]
  rfl
theorem isi_str_list (x : Str) : isiD "list" (.str x) = some (.bl false) := by
  show (kitB "str" "list").map _ = _
  rw [show kitB "str" "list" = some false from by decide +kernel]
  rfl
theorem isi_str_bool (x : Str) : isiD "bool" (.str x) = some (.bl false) := by
  show (kitB "str" "bool").map _ = _
  rw [show kitB "str" "bool" = some false from by decide +kernel]
  rfl
theorem isi_str_int (x : Str) : isiD "int" (.str x) = some (.bl false) := by
  show (kitB "str" "int").map _ = _
  rw [show kitB "str" "int" = some false from by decide +kernel]
  rfl
theorem isi_str_str (x : Str) : isiD "str" (.str x) = some (.bl true) := by
  show (kitB "str" "str").map _ = _
  rw [show kitB "str" "str" = some true from by decide +kernel]
  rfl
theorem isi_tup_tuple (x : List D) : isiD "tuple" (.tup x) = some (.bl true) := by
  show (kitB "tuple" "tuple").map _ = _
  rw [show kitB "tuple" "tuple" = some true from by decide +kernel]
  rfl
theorem isi_tup_list (x : List D) : isiD "list" (.tup x) = some (.bl false) := by
  show (kitB "tuple" "list").map _ = _
  rw [show kitB "tuple" "list" = some false from by decide +kernel]
  rfl
theorem isi_tup_bool (x : List D) : isiD "bool" (.tup x) = some (.bl false) := by
  show (kitB "tuple" "bool").map _ = _
  rw [show kitB "tuple" "bool" = some false from by decide +kernel]
  rfl
theorem isi_tup_int (x : List D) : isiD "int" (.tup x) = some (.bl false) := by
  show (kitB "tuple" "int").map _ = _
  rw [show kitB "tuple" "int" = some false from by decide +kernel]
  rfl
theorem isi_tup_str (x : List D) : isiD "str" (.tup x) = some (.bl false) := by
  show (kitB "tuple" "str").map _ = _
  rw [show kitB "tuple" "str" = some false from by decide +kernel]
  rfl
theorem isi_lst_tuple (x : List D) : isiD "tuple" (.lst x) = some (.bl false) := by
  show (kitB "list" "tuple").map _ = _
  rw [show kitB "list" "tuple" = some false from by decide +kernel]
  rfl
theorem isi_lst_list (x : List D) : isiD "list" (.lst x) = some (.bl true) := by
  show (kitB "list" "list").map _ = _
  rw [show kitB "list" "list" = some true from by decide +kernel]
  rfl
theorem isi_lst_bool (x : List D) : isiD "bool" (.lst x) = some (.bl false) := by
  show (kitB "list" "bool").map _ = _
  rw [show kitB "list" "bool" = some false from by decide +kernel]
  rfl
theorem isi_lst_int (x : List D) : isiD "int" (.lst x) = some (.bl false) := by
  show (kitB "list" "int").map _ = _
  rw [show kitB "list" "int" = some false from by decide +kernel]
  rfl
theorem isi_lst_str (x : List D) : isiD "str" (.lst x) = some (.bl false) := by
  show (kitB "list" "str").map _ = _
  rw [show kitB "list" "str" = some false from by decide +kernel]
  rfl
local macro_rules | `(tactic| walk_at "i") => `(tactic| (first | with_reducible refine x_some (isi_non_tuple) ?_ | with_reducible refine x_some (isi_non_list) ?_ | with_reducible refine x_some (isi_non_bool) ?_ | with_reducible refine x_some (isi_non_int) ?_ | with_reducible refine x_some (isi_non_str) ?_ | with_reducible refine x_some (isi_bl_tuple _) ?_ | with_reducible refine x_some (isi_bl_list _) ?_ | with_reducible refine x_some (isi_bl_bool _) ?_ | with_reducible refine x_some (isi_bl_int _) ?_ | with_reducible refine x_some (isi_bl_str _) ?_ | with_reducible refine x_some (isi_int_tuple _) ?_ | with_reducible refine x_some (isi_int_list _) ?_ | with_reducible refine x_some (isi_int_bool _) ?_ | with_reducible refine x_some (isi_int_int _) ?_ | with_reducible refine x_some (isi_int_str _) ?_ | with_reducible refine x_some (isi_str_tuple _) ?_ | with_reducible refine x_some (isi_str_list _) ?_ | with_reducible refine x_some (isi_str_bool _) ?_ | with_reducible refine x_some (isi_str_int _) ?_ | with_reducible refine x_some (isi_str_str _) ?_ | with_reducible refine x_some (isi_tup_tuple _) ?_ | with_reducible refine x_some (isi_tup_list _) ?_ | with_reducible refine x_some (isi_tup_bool _) ?_ | with_reducible refine x_some (isi_tup_int _) ?_ | with_reducible refine x_some (isi_tup_str _) ?_ | with_reducible refine x_some (isi_lst_tuple _) ?_ | with_reducible refine x_some (isi_lst_list _) ?_ | with_reducible refine x_some (isi_lst_bool _) ?_ | with_reducible refine x_some (isi_lst_int _) ?_ | with_reducible refine x_some (isi_lst_str _) ?_))
theorem like_refl {S : Mem} : ∀ (n : Nat) (d : D), likes n d → M_l_like_n (n + 1) [d, d] S = .ok (.bl true) S := by
  have flat : ∀ (n : Nat) (d : D), (∃ i, d = .int i) ∨ (∃ i, d = .str i) ∨ d = .non ∨ (∃ b, d = .bl b) → M_l_like_n (n + 1) [d, d] S = .ok (.bl true) S := by
    intro n d h
    refine ev_out (ev_bodyI ?_)
    show EvS (g_l_like (M_l_like_n n) [.dat d, .dat d, .no] S) _
    unfold g_l_like
    rcases h with ⟨i, rfl⟩ | ⟨i, rfl⟩ | rfl | ⟨b, rfl⟩
    all_goals
      repeat (first | walk_at "d" | walk_at "i")
    · exact ⟨by simp, rfl⟩
    · exact ⟨by simp, rfl⟩
    · exact ⟨_, rfl, rfl, rfl⟩
    · exact ⟨by simp, rfl⟩
  have many : ∀ (n : Nat) (ds : List D), ds.length ≤ 100000 → (∀ d ∈ ds, M_l_like_n (n + 1) [d, d] S = .ok (.bl true) S) → ∀ x : D, (x = .tup ds ∨ x = .lst ds) → M_l_like_n (n + 1 + 1) [x, x] S = .ok (.bl true) S := by
    intro n ds hl hd x hx
    refine ev_out (ev_bodyI ?_)
    show EvS (g_l_like (M_l_like_n (n + 1)) [.dat x, .dat x, .no] S) _
    unfold g_l_like
    have comp : Ev (bin eqD (lc (itR (alc (cal lenD (alc (vr 1) al0)) al0)) (tgN 2) [2] (nt (callF 2 (M_l_like_n (n + 1)) (alc (ixm (vr 0) (vr 2)) (alc (ixm (vr 1) (vr 2)) al0)))) (vr 2)) (lstl al0) [.dat x, .dat x, .no] S) (fun a S' => a = .bl true ∧ S' = S) := by
      have len : lenD [x] = some (.int ds.length) := by rcases hx with rfl | rfl <;> rfl
      have at_ : ∀ i : Nat, i < ds.length → ∃ d, d ∈ ds ∧ ixM S x (.int i) = some d := by
        intro i hi
        obtain ⟨d, e, m⟩ := at_mem (ds := ds) (r := (i : Int)) (by omega) (by omega)
        exact ⟨d, m, by rcases hx with rfl | rfl <;> exact e⟩
      repeat walk_at "d"
      refine ⟨_, len, ?_⟩
      repeat walk_at "d"
      · omega
      · omega
      refine evs_comp (fun es acc S' => acc = [] ∧ S' = S ∧ ∃ i : Nat, es = rangeD i ds.length) ?_ ?_ _ _ S ⟨rfl, rfl, 0, rfl⟩
      · rintro d es acc S' ⟨rfl, rfl, i, e⟩
        by_cases hi : (i : Int) < ds.length
        · rw [rangeD_cons hi] at e
          injection e with e1 e2
          subst e1 e2
          obtain ⟨y, hy, ey⟩ := at_ i (by omega)
          refine ev_lcStep rfl ?_
          repeat walk_at "d"
          refine ⟨_, ey, ?_⟩
          repeat walk_at "d"
          refine ⟨_, ey, ?_⟩
          repeat walk_at "d"
          refine ⟨rfl, ev_ok (hd y hy) ?_⟩
          refine ⟨true, rfl, _, rfl, fun h => (nomatch h), fun _ => ⟨rfl, rfl, i + 1, ?_⟩⟩
          rw [show ((i + 1 : Nat) : Int) = (i : Int) + 1 by omega]
        · rw [rangeD_nil (by omega)] at e
          cases e
      · rintro acc S' ⟨rfl, rfl, _⟩
        repeat walk_at "d"
        exact ⟨_, rfl, rfl, rfl⟩
    have compC : ∀ Q : D → Mem → Prop, Q (.bl true) S → Ev (bin eqD (lc (itR (alc (cal lenD (alc (vr 1) al0)) al0)) (tgN 2) [2] (nt (callF 2 (M_l_like_n (n + 1)) (alc (ixm (vr 0) (vr 2)) (alc (ixm (vr 1) (vr 2)) al0)))) (vr 2)) (lstl al0) [.dat x, .dat x, .no] S) Q := fun Q q => ev_mono comp fun a S' h => by
      obtain ⟨rfl, rfl⟩ := h
      exact q
    rcases hx with rfl | rfl
    · repeat (first | with_reducible refine evs_ret (compC _ ?_) | walk_at "d" | walk_at "i")
      exact ⟨rfl, rfl⟩
    · repeat (first | with_reducible refine evs_ret (compC _ ?_) | walk_at "d" | walk_at "i")
      exact ⟨rfl, rfl⟩
  intro n
  induction n with
  | zero =>
    intro d h
    cases d with
    | int i => exact flat 0 _ (.inl ⟨i, rfl⟩)
    | str i => exact flat 0 _ (.inr (.inl ⟨i, rfl⟩))
    | non => exact flat 0 _ (.inr (.inr (.inl rfl)))
    | bl b => exact flat 0 _ (.inr (.inr (.inr ⟨b, rfl⟩)))
    | _ => exact h.elim
  | succ n ih =>
    intro d h
    cases d with
    | int i => exact flat _ _ (.inl ⟨i, rfl⟩)
    | str i => exact flat _ _ (.inr (.inl ⟨i, rfl⟩))
    | non => exact flat _ _ (.inr (.inr (.inl rfl)))
    | bl b => exact flat _ _ (.inr (.inr (.inr ⟨b, rfl⟩)))
    | tup ds => exact many n ds h.1 (fun d hd => ih d (h.2 d hd)) _ (.inl rfl)
    | lst ds => exact many n ds h.1 (fun d hd => ih d (h.2 d hd)) _ (.inr rfl)
    | _ => exact h.elim
/-! ### what leads, what undoes -/
def leadD : Option (Int × Int) → D
  | none => .non
  | some p => .tup [.int p.1, .int p.2]
def optC : Option Cd → D
  | none => .non
  | some c => c.D
theorem isNon_optC (p : Option Cd) : isNonB (optC p) = decide (p = none) := by cases p <;> rfl
theorem isNon_lead (p : Option (Int × Int)) : isNonB (leadD p) = decide (p = none) := by cases p <;> rfl
theorem sp_leading {S : Mem} (c : Cd) (n : Int) (h : c.good) (hn : goodN n) : M_leading [c.D, .int n] S = .ok (leadD (c.lead n)) S := by
  have hi := h.i
  have hj := h.j
  have bn := goodN_bd hn
  have bb := goodN_bd h.b
  have bs : Bd (n - c.b) 201 := Bd.sub bn bb (by omega) (by omega)
  refine ev_out (ev_bodyI ?_)
  show EvS (g_leading [.dat c.D, .dat (.int n), .no, .no, .no, .no, .no] S) _
  unfold g_leading
  repeat walk_at "e"
  refine ⟨rfl, ev_ok (sp_need_card c h) ?_⟩
  repeat walk_at "e"
  refine ⟨rfl, ev_ok (sp_need_number n hn) ?_⟩
  repeat walk_at "e"
  refine ⟨_, rfl, ?_⟩
  repeat walk_at "d"
  refine ⟨rfl, ev_ok (sp_two c.i (by omega)) ?_⟩
  repeat walk_at "d"
  · exact p2pos _
  repeat walk_at "d"
  unfold Cd.lead
  refine x_ifn (fun q => ?_) (fun q => ?_)
  · rw [if_pos q]
    repeat walk_at "d"
    exact ⟨rfl, rfl⟩
  · rw [if_neg (by simpa using q)]
    repeat walk_at "d"
    refine ⟨rfl, ev_ok (sp_two c.i (by omega)) ?_⟩
    repeat walk_at "d"
    · exact p2pos _
    · exact p2bigD (by omega)
    repeat walk_at "d"
    refine ⟨rfl, ev_ok (sp_two c.j (by omega)) ?_⟩
    repeat walk_at "d"
    · exact (bs.div (p2pos _)).big (by omega)
    · exact p2big (by omega)
    repeat walk_at "d"
    refine ⟨rfl, ev_ok (sp_two c.j (by omega)) ?_⟩
    repeat walk_at "d"
    exact ⟨rfl, rfl⟩
theorem sp_undone {S : Mem} (c : Cd) (h : c.good) : M_undone [c.D] S = .ok (.tup [optC c.ahead, optC c.late]) S := by
  have hi := h.i
  have hj := h.j
  have bb := goodN_bd h.b
  refine ev_out (ev_bodyI ?_)
  show EvS (g_undone [.dat c.D, .no, .no, .no, .no, .no] S) _
  unfold g_undone
  have tail : ∀ x : D, EvS (ret (tupl (alc (vr 1) (alc (iff (bin eqD (vr 3) (cc (.int 0))) (callF 4 M_even (alc (cc (.int 0)) (alc (vr 2) (alc (bin subD (cc (.int 0)) (vr 5)) (alc (cc (.int 0)) al0))))) (cc .non)) al0))) [.dat c.D, .dat x, .dat (.int c.i), .dat (.int c.j), .dat (.int c.a), .dat (.int c.b)] S) (pb fun d S' => d = .tup [x, optC c.late] ∧ S' = S) := by
    intro x
    unfold Cd.late
    repeat walk_at "d"
    refine x_if (fun q => ?_) (fun q => ?_)
    · rw [if_pos (by omega)]
      repeat walk_at "d"
      refine ⟨rfl, ev_ok (sp_even 0 c.i _ _ (k := 300) (by omega) (by omega) (Bd.sub (Bd.lit (k := 1) (by decide)) bb (by omega) (by omega)) (by omega)) ?_⟩
      repeat walk_at "d"
      exact ⟨rfl, rfl⟩
    · rw [if_neg (by omega)]
      repeat walk_at "d"
      exact ⟨rfl, rfl⟩
  generalize (ret (tupl (alc (vr 1) (alc (iff (bin eqD (vr 3) (cc (.int 0))) (callF 4 M_even (alc (cc (.int 0)) (alc (vr 2) (alc (bin subD (cc (.int 0)) (vr 5)) (alc (cc (.int 0)) al0))))) (cc .non)) al0)))) = T at tail ⊢
  repeat walk_at "e"
  refine ⟨rfl, ev_ok (sp_need_card c h) ?_⟩
  repeat walk_at "e"
  refine ⟨_, rfl, ?_⟩
  repeat walk_at "e"
  unfold Cd.ahead
  refine x_if (fun q => ?_) (fun q => ?_)
  · rw [if_pos (by omega)]
    repeat walk_at "e"
    refine ⟨rfl, ev_ok (sp_two c.j (by omega)) ?_⟩
    repeat walk_at "e"
    · exact bb.big (by omega)
    · exact p2big (by omega)
    repeat walk_at "e"
    exact tail _
  · rw [if_neg (by omega)]
    refine ev_cc ?_
    exact tail _
theorem ahead_none {c : Cd} : c.ahead = none ↔ 0 < c.i := by
  unfold Cd.ahead
  split
  · exact ⟨fun h => (by cases h), fun h => by omega⟩
  · exact ⟨fun _ => by omega, fun _ => rfl⟩
theorem late_none {c : Cd} : c.late = none ↔ 0 < c.j := by
  unfold Cd.late
  split
  · exact ⟨fun h => (by cases h), fun h => by omega⟩
  · exact ⟨fun _ => by omega, fun _ => rfl⟩
theorem ahead_ij {c d : Cd} (h : c.ahead = some d) : d.i = c.j ∧ d.j = 0 ∧ d.b = 0 - c.b * 2 ^ c.j - c.a := by
  unfold Cd.ahead at h
  split at h
  · cases h
    exact ⟨rfl, rfl, rfl⟩
  · cases h
theorem late_ij {c d : Cd} (h : c.late = some d) : d.i = 0 ∧ d.j = c.i ∧ d.b = (0 - c.b) / 2 ^ c.i := by
  unfold Cd.late at h
  split at h
  · cases h
    refine ⟨rfl, rfl, ?_⟩
    unfold evn
    simp
  · cases h
theorem f_bd {c : Cd} {n : Int} {k l : Nat} (hc : c.ok) (hn : Bd n k) (hj : c.j ≤ k) (hb : Bd c.b l) (hl : l ≤ k + c.i + 2) : Bd (c.f n) (k + c.i + 3) := by
  have ha : Bd c.a c.j := .of hc.1 hc.2
  have h1 : Bd ((n + c.a) / 2 ^ c.j) (k + 1) := (Bd.add hn ha (by omega) (by omega)).div (p2pos _)
  have h2 : Bd ((n + c.a) / 2 ^ c.j * 2 ^ c.i) (k + 1 + (c.i + 1)) := h1.mul (Bd.pow c.i (Nat.lt_succ_self _)) (Nat.le_refl _)
  exact Bd.add h2 hb (by omega) (by omega)
/-! ### more rules -/
theorem evs_nx {f : Fl} {P : Po} (N : Env → Mem → Prop) (h : EvS f ⟨N, fun _ _ => False, fun _ _ => False, fun _ _ => False⟩) (q : ∀ ρ S, N ρ S → P.nx ρ S) : EvS f P := by
  cases h with
  | nx n => exact .nx (q _ _ n)
  | rt n => exact n.elim
  | bk n => exact n.elim
  | ct n => exact n.elim
theorem evs_asgQ {fa : Sem} {i : Nat} {ρ : Env} {S : Mem} {P : Po} (Q : D → Mem → Prop) (h : Ev (fa ρ S) Q) (q : ∀ d S1, Q d S1 → P.nx (ρ.set i (.dat d)) S1) : EvS (asg i fa ρ S) P := evs_asg (ev_mono h q)
theorem ev_comp_cons {step : D → Mem → Res (Option D)} {QL : List D → Mem → Prop} {d : D} {ds acc : List D} {S : Mem} (ha : acc.length < 1000000) (h : Ev (step d S) fun o S1 => ∃ y, o = some y ∧ Ev (compL step ds (acc ++ [y]) S1) QL) : Ev (compL step (d :: ds) acc S) QL := by
  show Ev ((step d S).bind _) QL
  refine ev_bind (ev_mono h fun o S1 h => ?_)
  obtain ⟨y, rfl, q⟩ := h
  show Ev (if acc.length < 1000000 then _ else _) QL
  rw [if_pos ha]
  exact q
theorem ev_comp_nil {step : D → Mem → Res (Option D)} {QL : List D → Mem → Prop} {acc : List D} {S : Mem} (h : QL acc S) : Ev (compL step [] acc S) QL := .mk h
/-- a comprehension without a test, of which each is a law of its number, and which changes nothing -/
theorem ev_comp_map {step : D → Mem → Res (Option D)} {QL : List D → Mem → Prop} {S : Mem} (g : D → D) (ds acc : List D) (hl : acc.length + ds.length ≤ 1000000) (st : ∀ d ∈ ds, Ev (step d S) fun o S1 => o = some (g d) ∧ S1 = S) (h : QL (acc ++ ds.map g) S) : Ev (compL step ds acc S) QL := by
  induction ds generalizing acc with
  | nil => exact ev_comp_nil (by simpa using h)
  | cons d ds ih =>
    rw [List.length_cons] at hl
    refine ev_comp_cons (by omega) (ev_mono (st d (by simp)) fun o S1 e => ?_)
    obtain ⟨rfl, rfl⟩ := e
    exact ⟨_, rfl, ih _ (by rw [List.length_append]; simp; omega) (fun d hd => st d (by simp [hd])) (by simpa using h)⟩
/-- a comprehension that keeps some, and which changes nothing -/
theorem ev_comp_filter {step : D → Mem → Res (Option D)} {QL : List D → Mem → Prop} {S : Mem} (p : D → Bool) (ds acc : List D) (hl : acc.length + ds.length ≤ 1000000) (st : ∀ d ∈ ds, Ev (step d S) fun o S1 => (o = if p d then some d else none) ∧ S1 = S) (h : QL (acc ++ ds.filter p) S) : Ev (compL step ds acc S) QL := by
  induction ds generalizing acc with
  | nil => exact ev_comp_nil (by simpa using h)
  | cons d ds ih =>
    rw [List.length_cons] at hl
    have s := st d (by simp)
    by_cases hp : p d = true
    · rw [if_pos hp] at s
      refine ev_comp_cons (by omega) (ev_mono s fun o S1 e => ?_)
      obtain ⟨rfl, rfl⟩ := e
      exact ⟨_, rfl, ih _ (by rw [List.length_append]; simp; omega) (fun d hd => st d (by simp [hd])) (by rw [List.filter_cons_of_pos hp] at h; simpa using h)⟩
    · rw [if_neg hp] at s
      show Ev ((step d S).bind _) QL
      refine ev_bind (ev_mono s fun o S1 e => ?_)
      obtain ⟨rfl, rfl⟩ := e
      exact ih _ (by omega) (fun d hd => st d (by simp [hd])) (by rw [List.filter_cons_of_neg hp] at h; exact h)
theorem goodN_pm {b : Int} {k : Nat} (hb : goodN b) (hk : k ≤ 199) : goodN (b + 2 ^ k * (1 - 2 * (if decide (0 < b) = true then 1 else 0))) := by
  have h1 : (2 : Int) ^ k ≤ 2 ^ 199 := p2le hk
  have h2 : (2 : Int) ^ 199 = 803469022129495137770981046170581301261101496891396417650688 := by decide
  have h3 := p2pos k
  unfold goodN FR at hb ⊢
  simp only [decide_eq_true_eq]
  split <;> omega
theorem leadD_some (l h : Int) : leadD (some (l, h)) = .tup [.int l, .int h] := rfl
theorem rangeD_z (lo hi : Int) : rangeD lo hi = (zrange lo hi).map .int := by
  unfold rangeD zrange
  rw [List.map_map]
  rfl
theorem ev_comp_z {step : D → Mem → Res (Option D)} {QL : List D → Mem → Prop} {S : Mem} (p : Int → Bool) (zs : List Int) (hl : zs.length ≤ 1000000) (st : ∀ z ∈ zs, Ev (step (.int z) S) fun o S1 => (o = if p z then some (.int z) else none) ∧ S1 = S) (h : QL ((zs.filter p).map .int) S) : Ev (compL step (zs.map .int) [] S) QL := by
  refine ev_comp_filter (fun d => match d with | .int z => p z | _ => false) (zs.map .int) [] (by simp; omega) ?_ ?_
  · intro d hd
    obtain ⟨z, hz, rfl⟩ := List.mem_map.mp hd
    exact st z hz
  · rw [List.nil_append, List.filter_map]
    exact h
theorem ev_comp_zm {step : D → Mem → Res (Option D)} {QL : List D → Mem → Prop} {S : Mem} (g : Int → Int) (zs : List Int) (hl : zs.length ≤ 1000000) (st : ∀ z ∈ zs, Ev (step (.int z) S) fun o S1 => o = some (.int (g z)) ∧ S1 = S) (h : QL ((zs.map g).map .int) S) : Ev (compL step (zs.map .int) [] S) QL := by
  refine ev_comp_map (fun d => match d with | .int z => .int (g z) | d => d) (zs.map .int) [] (by simp; omega) ?_ ?_
  · intro d hd
    obtain ⟨z, hz, rfl⟩ := List.mem_map.mp hd
    exact st z hz
  · rw [List.nil_append, List.map_map]
    rw [List.map_map] at h
    exact h
theorem zr_len {lo hi : Int} : (zrange lo hi).length = (hi - lo).toNat := by
  unfold zrange
  rw [List.length_map, List.length_range]
theorem foldl_mx : ∀ (l : List Int) (a : Int), (l.foldl (fun a b => if b > a then b else a) a = a ∨ l.foldl (fun a b => if b > a then b else a) a ∈ l) ∧ a ≤ l.foldl (fun a b => if b > a then b else a) a ∧ ∀ x ∈ l, x ≤ l.foldl (fun a b => if b > a then b else a) a
  | [], a => ⟨.inl rfl, Int.le_refl _, fun x h => by cases h⟩
  | b :: l, a => by
    obtain ⟨h1, h2, h3⟩ := foldl_mx l (if b > a then b else a)
    show (l.foldl (fun a b => if b > a then b else a) (if b > a then b else a) = a ∨ _) ∧ a ≤ l.foldl (fun a b => if b > a then b else a) (if b > a then b else a) ∧ ∀ x ∈ b :: l, x ≤ l.foldl (fun a b => if b > a then b else a) (if b > a then b else a)
    generalize hm : l.foldl (fun a b => if b > a then b else a) (if b > a then b else a) = m at h1 h2 h3
    have e : (b :: l).foldl (fun a b => if b > a then b else a) a = m := hm
    rw [e]
    refine ⟨?_, ?_, ?_⟩
    · rcases h1 with h1 | h1
      · split at h1
        · exact .inr (by rw [h1]; simp)
        · exact .inl h1
      · exact .inr (by simp [h1])
    · split at h2 <;> omega
    · intro x hx
      rcases List.mem_cons.mp hx with rfl | hx
      · split at h2 <;> omega
      · exact h3 x hx
theorem intsOf_map : ∀ l : List Int, intsOf (l.map .int) = some l
  | [] => rfl
  | x :: l => by
    show (intsOf (l.map .int)).map _ = _
    rw [intsOf_map l]
    rfl
theorem x_max {l : List Int} {P : D → Prop} (h0 : 0 < l.length) (h : ∀ m, m ∈ l → (∀ x ∈ l, x ≤ m) → P (.int m)) : ∃ d, maxD [.lst (l.map .int)] = some d ∧ P d := by
  cases l with
  | nil => cases h0
  | cons a l =>
    obtain ⟨h1, h2, h3⟩ := foldl_mx l a
    refine ⟨.int (l.foldl (fun a b => if b > a then b else a) a), ?_, h _ ?_ ?_⟩
    · show ((intsOf ((a :: l).map .int)).bind maxL).map _ = _
      rw [intsOf_map]
      rfl
    · rcases h1 with h1 | h1
      · rw [h1]; simp
      · simp [h1]
    · intro x hx
      rcases List.mem_cons.mp hx with rfl | hx
      · exact h2
      · exact h3 x hx
theorem abs_le_goodN {n m : Int} (h : (if n < 0 then -n else n) ≤ m) (hm : m ≤ 1000000000000000000000000000000000000000000000000000000000000) : goodN n := goodN_abs (by omega)
/-! ### at last -/
def lastD : Option (Nat × Int) → D
  | none => .non
  | some p => .tup [.int p.1, .int p.2]
theorem isNon_last (p : Option (Nat × Int)) : isNonB (lastD p) = decide (p = none) := by cases p <;> rfl
theorem f_stay {c : Cd} {n : Int} (hc : c.ok) (hij : c.i < c.j) (hj : c.j ≤ 1000) (hb : Bd c.b 200) (hn : Bd n 2000) : Bd (c.f n) 2000 := by
  have pi := p2pos c.i
  have pj := p2pos c.j
  have ha := hc.1
  have ha2 := hc.2
  have l := p2lt hij
  have e : (2 : Int) ^ 2000 = 2 ^ (2000 - c.j) * 2 ^ c.j := by rw [← p2add]; congr 1; omega
  have pk := p2pos (2000 - c.j)
  unfold Bd at hn hb
  have hn' : -(2 : Int) ^ 2000 < n ∧ n < (2 : Int) ^ 2000 := by
    have : ((2 : Nat) ^ 2000 : Nat) = ((2 : Int) ^ 2000) := by norm_cast
    omega
  have hb' : -(2 : Int) ^ 200 < c.b ∧ c.b < (2 : Int) ^ 200 := by
    have : ((2 : Nat) ^ 200 : Nat) = ((2 : Int) ^ 200) := by norm_cast
    omega
  have q1 : (n + c.a) / 2 ^ c.j ≤ 2 ^ (2000 - c.j) := by
    have : (n + c.a) / 2 ^ c.j < 2 ^ (2000 - c.j) + 1 := by
      rw [Int.ediv_lt_iff_lt_mul pj, Int.add_mul, ← e]
      omega
    omega
  have q2 : -2 ^ (2000 - c.j) ≤ (n + c.a) / 2 ^ c.j := by
    rw [Int.le_ediv_iff_mul_le pj, Int.neg_mul, ← e]
    omega
  generalize hq : (n + c.a) / 2 ^ c.j = q at q1 q2
  have r1 : q * 2 ^ c.i ≤ 2 ^ (2000 - c.j) * 2 ^ c.i := Int.mul_le_mul_of_nonneg_right q1 (by omega)
  have r2 : -2 ^ (2000 - c.j) * 2 ^ c.i ≤ q * 2 ^ c.i := Int.mul_le_mul_of_nonneg_right q2 (by omega)
  rw [Int.neg_mul] at r2
  have r3 : (2 : Int) ^ (2000 - c.j) * 2 ^ c.i ≤ 2 ^ 1999 := by
    rw [← p2add]
    exact p2le (by omega)
  have r4 : (2 : Int) ^ 2000 = 2 * 2 ^ 1999 := p2s 1999
  have r5 : (2 : Int) ^ 200 ≤ 2 ^ 1999 := p2le (by omega)
  show ((n + c.a) / 2 ^ c.j * 2 ^ c.i + c.b).natAbs < 2 ^ 2000
  rw [hq]
  have : ((2 : Nat) ^ 2000 : Nat) = ((2 : Int) ^ 2000) := by norm_cast
  omega
theorem atl_succ (c : Cd) (k t : Nat) (n : Int) : c.atl (k + 1) t n = if c.f n = n then some (t, n) else c.atl k (t + 1) (c.f n) := rfl
theorem sp_at_last {S : Mem} (c : Cd) (n : Int) (h : c.good) (hn : goodN n) : M_at_last [c.D, .int n] S = .ok (lastD (c.atl (if c.j ≤ c.i then 2 else 2000) 0 n)) S := by
  have hi := h.i
  have hj := h.j
  have bb := goodN_bd h.b
  have bn := goodN_bd hn
  refine ev_out (ev_bodyI ?_)
  show EvS (g_at_last [.dat c.D, .dat (.int n), .no, .no, .no] S) _
  unfold g_at_last
  repeat walk_at "e"
  refine ⟨rfl, ev_ok (sp_need_card c h) ?_⟩
  repeat walk_at "e"
  refine ⟨rfl, ev_ok (sp_need_number n hn) ?_⟩
  let kb : Nat → Nat := fun t => if c.j ≤ c.i then 2300 + 1010 * t else 2000
  let tries : Nat := if c.j ≤ c.i then 2 else 2000
  have kb0 : Bd n (kb 0) := by
    show Bd n (if c.j ≤ c.i then 2300 + 1010 * 0 else 2000)
    split <;> exact bn.mono (by omega)
  have kbs : ∀ (t : Nat) (m : Int), t < tries → Bd m (kb t) → Bd (c.f m) (kb (t + 1)) ∧ kb t ≤ 50000 := by
    intro t m ht hm
    show Bd (c.f m) (if c.j ≤ c.i then 2300 + 1010 * (t + 1) else 2000) ∧ (if c.j ≤ c.i then 2300 + 1010 * t else 2000) ≤ 50000
    have ht : t < (if c.j ≤ c.i then 2 else 2000) := ht
    have hm : Bd m (if c.j ≤ c.i then 2300 + 1010 * t else 2000) := hm
    by_cases q : c.j ≤ c.i
    · rw [if_pos q] at ht hm ⊢
      rw [if_pos q]
      refine ⟨?_, by omega⟩
      by_cases q2 : c.j ≤ 2300 + 1010 * t
      · exact (f_bd h.ok hm q2 bb (by omega)).mono (by omega)
      · omega
    · rw [if_neg q] at ht hm ⊢
      rw [if_neg q]
      exact ⟨f_stay h.ok (by omega) hj bb hm, by omega⟩
  have loop : EvS (fr (itR (alc (vr 2) al0)) (tgN 3) (sq (asg 4 (callF 2 M_make (alc (vr 0) (alc (vr 1) al0)))) (sq (ifs (bin eqD (vr 4) (vr 1)) (ret (tupl (alc (vr 3) (alc (vr 1) al0)))) skip) (asg 1 (vr 4)))) [.dat c.D, .dat (.int n), .dat (.int tries), .no, .no] S) ⟨fun _ S' => c.atl tries 0 n = none ∧ S' = S, fun d S' => d = lastD (c.atl tries 0 n) ∧ S' = S, fun _ _ => False, fun _ _ => False⟩ := by
    have t2 : tries ≤ 2000 := by show (if c.j ≤ c.i then 2 else 2000) ≤ 2000; split <;> omega
    clear_value tries kb
    repeat walk_at "e"
    · omega
    · omega
    refine evs_range (fun k ρ S' => ∃ t : Nat, k = t ∧ t ≤ tries ∧ S' = S ∧ ∃ m y3 y4, ρ = [.dat c.D, .dat (.int m), .dat (.int tries), y3, y4] ∧ Bd m (kb t) ∧ c.atl (tries - t) t m = c.atl tries 0 n) ?_ ?_ _ 0 _ S rfl ⟨0, rfl, Nat.zero_le _, rfl, n, _, _, rfl, kb0, rfl⟩
    · rintro k ρ S' hk ⟨t, rfl, ht, rfl, m, y3, y4, rfl, bm, em⟩
      have ht : t < tries := by omega
      obtain ⟨b1, b2⟩ := kbs t m ht bm
      rw [show tries - t = (tries - (t + 1)) + 1 by omega] at em
      rw [atl_succ] at em
      refine evs_tgb rfl ?_
      repeat walk_at "e"
      refine ⟨rfl, ev_ok (sp_make c m h.ok (by omega) (by omega) bm b2) ?_⟩
      repeat walk_at "d"
      refine x_if (fun q => ?_) (fun q => ?_)
      · rw [if_pos q] at em
        repeat walk_at "d"
        refine ⟨?_, rfl⟩
        rw [← em]
        rfl
      · rw [if_neg q] at em
        repeat walk_at "d"
        exact ⟨t + 1, by omega, by omega, rfl, _, _, _, rfl, b1, em⟩
    · rintro k ρ S' hk ⟨t, rfl, ht, rfl, m, y3, y4, rfl, bm, em⟩
      have e : tries - t = 0 := by omega
      rw [e] at em
      exact ⟨em.symm, rfl⟩
  have tail : EvS (sq (fr (itR (alc (vr 2) al0)) (tgN 3) (sq (asg 4 (callF 2 M_make (alc (vr 0) (alc (vr 1) al0)))) (sq (ifs (bin eqD (vr 4) (vr 1)) (ret (tupl (alc (vr 3) (alc (vr 1) al0)))) skip) (asg 1 (vr 4))))) (ret (cc .non)) [.dat c.D, .dat (.int n), .dat (.int tries), .no, .no] S) (pb fun d S' => d = lastD (c.atl tries 0 n) ∧ S' = S) := by
    refine evs_sq ?_
    cases loop' : fr (itR (alc (vr 2) al0)) (tgN 3) (sq (asg 4 (callF 2 M_make (alc (vr 0) (alc (vr 1) al0)))) (sq (ifs (bin eqD (vr 4) (vr 1)) (ret (tupl (alc (vr 3) (alc (vr 1) al0)))) skip) (asg 1 (vr 4)))) [.dat c.D, .dat (.int n), .dat (.int tries), .no, .no] S <;> rw [loop'] at loop <;> cases loop
    · rename_i q
      obtain ⟨q1, rfl⟩ := q
      refine .nx ?_
      repeat walk_at "e"
      rw [q1]
      exact ⟨rfl, rfl⟩
    · rename_i q
      exact .rt q
    · rename_i q
      exact q.elim
    · rename_i q
      exact q.elim
  generalize (sq (fr (itR (alc (vr 2) al0)) (tgN 3) (sq (asg 4 (callF 2 M_make (alc (vr 0) (alc (vr 1) al0)))) (sq (ifs (bin eqD (vr 4) (vr 1)) (ret (tupl (alc (vr 3) (alc (vr 1) al0)))) skip) (asg 1 (vr 4))))) (ret (cc .non))) = T at tail ⊢
  repeat walk_at "e"
  refine x_if (fun q => ?_) (fun q => ?_)
  · have e : tries = 2 := if_pos (by omega)
    rw [e] at tail
    repeat walk_at "e"
    show EvS (T _ _) (pb fun d S' => d = lastD (c.atl tries 0 n) ∧ S' = S)
    rw [e]
    exact tail
  · have e : tries = 2000 := if_neg (by omega)
    rw [e] at tail
    repeat walk_at "e"
    show EvS (T _ _) (pb fun d S' => d = lastD (c.atl tries 0 n) ∧ S' = S)
    rw [e]
    exact tail
/-! ### how soon it stays -/
def Cd.g (c : Cd) (x : Int) : Int := (x * 2 ^ c.i + (c.a + c.b)) / 2 ^ c.j
def Cd.gl (c : Cd) : Int := (c.a + c.b - 2 ^ c.j) / c.gap
def Cd.gm (c : Cd) : Int := (c.a + c.b) / c.gap
theorem gap_pos {c : Cd} (h : c.i < c.j) : 0 < c.gap := by
  have l := p2lt h
  have p := p2pos c.i
  unfold Cd.gap
  omega
theorem g_fix {c : Cd} (h : c.i < c.j) (x : Int) : c.g x = x ↔ c.gl < x ∧ x ≤ c.gm := by
  have := mem_xs (c := c) (by omega) x
  have pj := p2pos c.j
  unfold Cd.g
  rw [show x * 2 ^ c.i + (c.a + c.b) = x * 2 ^ c.i + c.b + c.a by omega, ← this]
  unfold Cd.xs
  rw [if_neg (by omega), mem_zr]
  show c.gl + 1 ≤ x ∧ x < c.gm + 1 ↔ _
  omega
theorem g_mono {c : Cd} {x y : Int} (h : x ≤ y) : c.g x ≤ c.g y := by
  unfold Cd.g
  have := Int.mul_le_mul_of_nonneg_right h (Int.le_of_lt (p2pos c.i))
  exact Int.ediv_le_ediv (p2pos c.j) (by omega)
theorem gl_lt {c : Cd} (h : c.i < c.j) : c.gl + 1 ≤ c.gm := by
  have g0 := gap_pos h
  have pi := p2pos c.i
  have e : (c.a + c.b - 2 ^ c.j) + 1 * c.gap ≤ c.a + c.b := by
    unfold Cd.gap
    omega
  have := Int.ediv_le_ediv g0 e
  rw [Int.add_mul_ediv_right _ _ (by omega)] at this
  exact this
theorem g_up {c : Cd} (h : c.i < c.j) {x : Int} (hx : x ≤ c.gl) : 2 * (c.gl - c.g x) + 1 ≤ c.gl - x ∧ c.g x ≤ c.gl + 1 := by
  have g0 := gap_pos h
  have l := p2lt h
  have pi := p2pos c.i
  have pj := p2pos c.j
  constructor
  · have q : c.gl * c.gap ≤ c.a + c.b - 2 ^ c.j := Int.ediv_mul_le _ (by omega)
    have e : c.gl * c.gap = c.gl * 2 ^ c.j - c.gl * 2 ^ c.i := by unfold Cd.gap; rw [Int.mul_sub]
    have g2 : x * 2 ^ c.i + (c.a + c.b) < (c.g x + 1) * 2 ^ c.j := Int.lt_ediv_add_one_mul_self _ pj
    rw [Int.add_mul, Int.one_mul] at g2
    have d0 : 0 ≤ c.gl - x := by omega
    have m : (c.gl - x) * (2 * 2 ^ c.i) ≤ (c.gl - x) * 2 ^ c.j := Int.mul_le_mul_of_nonneg_left l d0
    have m2 : (c.gl - x) * (2 * 2 ^ c.i) = 2 * (c.gl * 2 ^ c.i) - 2 * (x * 2 ^ c.i) := by rw [Int.mul_left_comm, Int.sub_mul, Int.mul_sub]
    have m3 : (c.gl - x) * 2 ^ c.j = c.gl * 2 ^ c.j - x * 2 ^ c.j := Int.sub_mul ..
    have m4 : (2 * (c.gl - c.g x)) * 2 ^ c.j = 2 * (c.gl * 2 ^ c.j) - 2 * (c.g x * 2 ^ c.j) := by rw [Int.mul_assoc, Int.sub_mul, Int.mul_sub]
    have : (2 * (c.gl - c.g x)) * 2 ^ c.j < (c.gl - x) * 2 ^ c.j := by omega
    have := Int.lt_of_mul_lt_mul_right this (Int.le_of_lt pj)
    omega
  · have := g_mono (c := c) (show x ≤ c.gl + 1 by omega)
    rw [(g_fix h (c.gl + 1)).mpr ⟨by omega, gl_lt h⟩] at this
    exact this
theorem g_down {c : Cd} (h : c.i < c.j) {x : Int} (hx : c.gm < x) : 2 * (c.g x - c.gm - 1) + 1 ≤ x - c.gm - 1 ∧ c.gm ≤ c.g x := by
  have g0 := gap_pos h
  have l := p2lt h
  have pi := p2pos c.i
  have pj := p2pos c.j
  constructor
  · have q : c.a + c.b < (c.gm + 1) * c.gap := Int.lt_ediv_add_one_mul_self _ g0
    have e : (c.gm + 1) * c.gap = (c.gm + 1) * 2 ^ c.j - (c.gm + 1) * 2 ^ c.i := by unfold Cd.gap; rw [Int.mul_sub]
    have g2 : c.g x * 2 ^ c.j ≤ x * 2 ^ c.i + (c.a + c.b) := Int.ediv_mul_le _ (by omega)
    obtain ⟨M, hM⟩ : ∃ M, M = c.gm + 1 := ⟨_, rfl⟩
    rw [← hM] at q e
    have d0 : 0 ≤ x - M := by omega
    have m : (x - M) * (2 * 2 ^ c.i) ≤ (x - M) * 2 ^ c.j := Int.mul_le_mul_of_nonneg_left l d0
    have m2 : (x - M) * (2 * 2 ^ c.i) = 2 * (x * 2 ^ c.i) - 2 * (M * 2 ^ c.i) := by rw [Int.mul_left_comm, Int.sub_mul, Int.mul_sub]
    have m3 : (x - M) * 2 ^ c.j = x * 2 ^ c.j - M * 2 ^ c.j := Int.sub_mul ..
    have m4 : (2 * (c.g x - M)) * 2 ^ c.j = 2 * (c.g x * 2 ^ c.j) - 2 * (M * 2 ^ c.j) := by rw [Int.mul_assoc, Int.sub_mul, Int.mul_sub]
    have : (2 * (c.g x - M)) * 2 ^ c.j < (x - M) * 2 ^ c.j := by omega
    have := Int.lt_of_mul_lt_mul_right this (Int.le_of_lt pj)
    omega
  · have := g_mono (c := c) (show c.gm ≤ x by omega)
    rw [(g_fix h c.gm).mpr ⟨by have := gl_lt h; omega, Int.le_refl _⟩] at this
    exact this
def Cd.gt (c : Cd) : Nat → Int → Int
  | 0, x => x
  | k + 1, x => Cd.gt c k (c.g x)
theorem g_soon {c : Cd} (h : c.i < c.j) : ∀ (K : Nat) (x : Int), c.gl - x < 2 ^ K → x - c.gm - 1 < 2 ^ K → ∃ t, t ≤ K + 1 ∧ c.g (c.gt t x) = c.gt t x
  | K, x, h1, h2 => by
    by_cases q1 : x ≤ c.gl
    · obtain ⟨u1, u2⟩ := g_up h q1
      cases K with
      | zero =>
        rw [Int.pow_zero] at h1
        exact ⟨1, by omega, (g_fix h _).mpr ⟨by show c.gl < c.g x; omega, by show c.g x ≤ c.gm; have := gl_lt h; omega⟩⟩
      | succ K =>
        have e := p2s K
        have p := p2pos K
        have := gl_lt h
        obtain ⟨t, t1, t2⟩ := g_soon h K (c.g x) (by omega) (by omega)
        exact ⟨t + 1, by omega, t2⟩
    · by_cases q2 : x ≤ c.gm
      · exact ⟨0, by omega, (g_fix h x).mpr ⟨by omega, q2⟩⟩
      · obtain ⟨u1, u2⟩ := g_down h (x := x) (by omega)
        cases K with
        | zero =>
          rw [Int.pow_zero] at h2
          exact ⟨1, by omega, (g_fix h _).mpr ⟨by show c.gl < c.g x; have := gl_lt h; omega, by show c.g x ≤ c.gm; omega⟩⟩
        | succ K =>
          have e := p2s K
          have p := p2pos K
          have := gl_lt h
          obtain ⟨t, t1, t2⟩ := g_soon h K (c.g x) (by omega) (by omega)
          exact ⟨t + 1, by omega, t2⟩
/-- number and x go together -/
theorem it_gt {c : Cd} : ∀ (t : Nat) (x : Int), c.it t (x * 2 ^ c.i + c.b) = c.gt t x * 2 ^ c.i + c.b
  | 0, x => rfl
  | t + 1, x => by
    show c.it t (c.f (x * 2 ^ c.i + c.b)) = c.gt t (c.g x) * 2 ^ c.i + c.b
    rw [← it_gt t (c.g x)]
    congr 1
    show (x * 2 ^ c.i + c.b + c.a) / 2 ^ c.j * 2 ^ c.i + c.b = c.g x * 2 ^ c.i + c.b
    unfold Cd.g
    rw [show x * 2 ^ c.i + c.b + c.a = x * 2 ^ c.i + (c.a + c.b) by omega]
theorem ediv_abs {x d : Int} {k : Nat} (h : Bd x k) (hd : 0 < d) : -2 ^ k ≤ x / d ∧ x / d < 2 ^ k := by
  have := h.div hd
  unfold Bd at this
  have e : ((2 : Nat) ^ k : Nat) = ((2 : Int) ^ k) := by norm_cast
  omega
theorem f_soon {c : Cd} (hc : c.ok) (h : c.i < c.j) (hj : c.j ≤ 200) (hb : Bd c.b 200) {n : Int} (hn : Bd n 200) : ∃ t, t ≤ 220 ∧ c.f (c.it t n) = c.it t n := by
  have ha : Bd c.a c.j := .of hc.1 hc.2
  have s1 : Bd (c.a + c.b) 202 := Bd.add (ha.mono hj) hb (by omega) (by omega)
  have g0 := gap_pos h
  have m1 := ediv_abs s1 g0
  have m2 := ediv_abs (Bd.sub (m := 203) s1 (Bd.pow (m := 201) c.j (by omega)) (by omega) (by omega)) g0
  have m3 := ediv_abs (Bd.add (m := 202) hn (ha.mono hj) (by omega) (by omega)) (p2pos c.j)
  have p1 : (2 : Int) ^ 202 ≤ 2 ^ 210 := p2le (by omega)
  have p2 : 2 * (2 : Int) ^ 202 ≤ 2 ^ 203 := p2lt (by omega)
  have p3 : 2 * (2 : Int) ^ 203 ≤ 2 ^ 204 := p2lt (by omega)
  have p4 : 2 * (2 : Int) ^ 204 ≤ 2 ^ 210 := p2lt (by omega)
  have p0 := p2pos 202
  have e1 : c.gl = (c.a + c.b - 2 ^ c.j) / c.gap := rfl
  have e2 : c.gm = (c.a + c.b) / c.gap := rfl
  obtain ⟨t, t1, t2⟩ := g_soon h 210 ((n + c.a) / 2 ^ c.j) (by omega) (by omega)
  refine ⟨t + 1, by omega, ?_⟩
  show c.f (c.it t (c.f n)) = c.it t (c.f n)
  have e : c.f n = (n + c.a) / 2 ^ c.j * 2 ^ c.i + c.b := rfl
  rw [e, it_gt, fix_x]
  refine ⟨_, rfl, ?_⟩
  have := t2
  unfold Cd.g at this
  rw [show c.gt t ((n + c.a) / 2 ^ c.j) * 2 ^ c.i + (c.a + c.b) = c.gt t ((n + c.a) / 2 ^ c.j) * 2 ^ c.i + c.b + c.a by omega] at this
  exact this
theorem atl_more {c : Cd} : ∀ (k m t : Nat) (n : Int) {r : Nat × Int}, c.atl k t n = some r → c.atl (k + m) t n = some r
  | 0, m, t, n, r, h => by cases h
  | k + 1, m, t, n, r, h => by
    rw [show k + 1 + m = (k + m) + 1 by omega, atl_succ]
    rw [atl_succ] at h
    by_cases q : c.f n = n
    · rw [if_pos q] at h ⊢
      exact h
    · rw [if_neg q] at h ⊢
      exact atl_more k m (t + 1) (c.f n) h
theorem atl_find {c : Cd} : ∀ (u k t : Nat) (n : Int), u < k → c.f (c.it u n) = c.it u n → ∃ r, c.atl k t n = some r
  | u, 0, t, n, h, e => by omega
  | 0, k + 1, t, n, h, e => by
    have e : c.f n = n := e
    rw [atl_succ, if_pos e]
    exact ⟨_, rfl⟩
  | u + 1, k + 1, t, n, h, e => by
    rw [atl_succ]
    by_cases q : c.f n = n
    · rw [if_pos q]
      exact ⟨_, rfl⟩
    · rw [if_neg q]
      exact atl_find u k (t + 1) (c.f n) (by omega) e
theorem atl_600 {c : Cd} (hc : c.ok) (h : c.i < c.j) (hj : c.j ≤ 200) (hb : Bd c.b 200) {n : Int} (hn : Bd n 200) : c.atl 2000 0 n = c.atl 600 0 n := by
  obtain ⟨t, t1, t2⟩ := f_soon hc h hj hb hn
  obtain ⟨r, hr⟩ := atl_find t 600 0 n (by omega) t2
  rw [hr]
  exact atl_more 600 1400 0 n hr
/-! ### what stays -/
def Cd.stay (c : Cd) : Dl.D := if c.i = c.j then (if (c.a + c.b) / 2 ^ c.j = 0 then .tup [.int (c.b % 2 ^ c.j), .int (2 ^ c.j)] else .lst []) else .lst (c.rs.map .int)
theorem ev_rngF {fs : SemL} {ρ : Env} {S : Mem} {Q : D → Mem → Prop} (h : Ev (fs ρ S) fun xs S1 => ∃ i j, xs = [.int i, .int j] ∧ (j - i).toNat ≤ 1000000 ∧ Q (.lst (rangeD i j)) S1) : Ev (rngF fs ρ S) Q := by
  unfold rngF
  refine ev_bind (ev_mono h fun x S1 h => ?_)
  obtain ⟨i, j, rfl, hl, q⟩ := h
  dsimp only
  rw [if_pos hl]
  exact .mk q
theorem xs_bd {c : Cd} (h : c.good) : ∀ x ∈ c.xs, Bd x 3000 := by
  have hi := h.i
  have hj := h.j
  have bb := goodN_bd h.b
  have ba : Bd c.a c.j := .of h.ok.1 h.ok.2
  have bs : Bd (c.a + c.b) 1100 := Bd.add (ba.mono hj) (bb.mono (l := 1000) (by omega)) (by omega) (by omega)
  intro x hx
  unfold Cd.xs at hx
  split at hx
  · rename_i q
    have d0 : (0 : Int) < 2 ^ (c.i - c.j) - 1 := by
      have : (2 : Int) ^ 1 ≤ 2 ^ (c.i - c.j) := p2le (by omega)
      rw [Int.pow_one] at this
      omega
    split at hx
    · have : x = 0 - (c.a + c.b) / 2 ^ c.j / (2 ^ (c.i - c.j) - 1) := by simpa using hx
      rw [this]
      exact Bd.sub (Bd.lit (x := 0) (k := 1) (by decide)) ((bs.div (p2pos _)).div d0) (by omega) (by omega)
    · cases hx
  · rename_i q
    rw [mem_zr] at hx
    by_cases e : c.i = c.j
    · exfalso
      have : c.gap = 0 := by unfold Cd.gap; rw [e]; omega
      rw [this, Int.ediv_zero, Int.ediv_zero] at hx
      omega
    have g0 := gap_pos (c := c) (by omega)
    have m1 := ediv_abs bs g0
    have m2 := ediv_abs (Bd.sub (m := 1101) bs (Bd.pow (m := 1001) c.j (by omega)) (by omega) (by omega)) g0
    have p1 : 2 * (2 : Int) ^ 1101 ≤ 2 ^ 3000 := p2lt (by omega)
    have p2 : (2 : Int) ^ 1100 ≤ 2 ^ 1101 := p2le (by omega)
    have p3 := p2pos 1101
    have e : ((2 : Nat) ^ 3000 : Nat) = ((2 : Int) ^ 3000) := by norm_cast
    unfold Bd
    omega
theorem rs_bd {c : Cd} (h : c.good) : ∀ n ∈ c.rs, Bd n 5000 := by
  intro n hn
  obtain ⟨x, hx, rfl⟩ := List.mem_map.mp hn
  have hi := h.i
  exact Bd.add ((xs_bd h x hx).mul (Bd.pow (m := 1001) c.i (by omega)) (Nat.le_refl _)) (goodN_bd h.b) (by omega) (by omega)
theorem sp_stays {S : Mem} (c : Cd) (h : c.good) : M_stays [c.D] S = .ok c.stay S := by
  have hi := h.i
  have hj := h.j
  have bb := goodN_bd h.b
  have ba : Bd c.a c.j := .of h.ok.1 h.ok.2
  have bs : Bd (c.a + c.b) 1100 := Bd.add (ba.mono hj) (bb.mono (l := 1000) (by omega)) (by omega) (by omega)
  have bpj : Bd ((2 : Int) ^ c.j) 1001 := Bd.pow c.j (by omega)
  have bpi : Bd ((2 : Int) ^ c.i) 1001 := Bd.pow c.i (by omega)
  refine ev_out (ev_bodyI ?_)
  show EvS (g_stays [.dat c.D, .no, .no, .no, .no, .no, .no, .no, .no, .no, .no] S) _
  unfold g_stays
  have tail : ∀ y6 y8 y9, c.i ≠ c.j → (∀ x ∈ c.xs, Bd x 3000) → EvS (ret (lc (itL (vr 7)) (tgN 10) [10] (cc (.bl true)) (bin addD (bin mulA (vr 10) (callF 1 M_two (alc (vr 2) al0))) (vr 5))) [.dat c.D, .dat (.int (2 ^ c.j)), .dat (.int c.i), .dat (.int c.j), .dat (.int c.a), .dat (.int c.b), y6, .dat (.lst (c.xs.map .int)), y8, y9, .no] S) (pb fun d S' => d = c.stay ∧ S' = S) := by
    intro y6 y8 y9 hij hb
    have l2 := xs_len c hij
    repeat walk_at "e"
    refine ev_comp_zm (fun x => x * 2 ^ c.i + c.b) c.xs (by omega) ?_ ?_
    · intro x hx
      refine ev_lcStep rfl ?_
      repeat walk_at "e"
      refine ⟨rfl, ev_ok (sp_two c.i (by omega)) ?_⟩
      repeat walk_at "e"
      · exact (hb x hx).big (by omega)
      · exact p2big (by omega)
      repeat walk_at "e"
      exact ⟨rfl, rfl⟩
    · unfold Cd.stay
      rw [if_neg hij]
      exact ⟨rfl, rfl⟩
  generalize hT : (ret (lc (itL (vr 7)) (tgN 10) [10] (cc (.bl true)) (bin addD (bin mulA (vr 10) (callF 1 M_two (alc (vr 2) al0))) (vr 5)))) = T at tail ⊢
  repeat walk_at "e"
  refine ⟨rfl, ev_ok (sp_need_card c h) ?_⟩
  repeat walk_at "e"
  refine ⟨_, rfl, ?_⟩
  repeat walk_at "e"
  refine ⟨rfl, ev_ok (sp_two c.j (by omega)) ?_⟩
  repeat walk_at "d"
  refine x_if (fun q => ?_) (fun q => ?_)
  · have q : c.i = c.j := by omega
    unfold Cd.stay
    rw [if_pos q]
    repeat walk_at "d"
    · exact p2pos _
    · exact p2bigD (by omega)
    repeat walk_at "d"
    refine x_if (fun q => ?_) (fun q => ?_)
    · rw [if_pos q]
      repeat walk_at "d"
      · exact p2pos _
      repeat walk_at "d"
      exact ⟨rfl, rfl⟩
    · rw [if_neg q]
      repeat walk_at "d"
      exact ⟨rfl, rfl⟩
  have q : c.i ≠ c.j := fun e => q (by rw [e])
  repeat walk_at "d"
  refine x_if (fun q2 => ?_) (fun q2 => ?_)
  · have hx : c.xs = if (c.a + c.b) / 2 ^ c.j % (2 ^ (c.i - c.j) - 1) = 0 then [0 - (c.a + c.b) / 2 ^ c.j / (2 ^ (c.i - c.j) - 1)] else [] := by
      unfold Cd.xs
      rw [if_pos (by omega)]
    have e2 : (c.i : Int) - c.j = ((c.i - c.j : Nat) : Int) := by omega
    have d0 : (0 : Int) < 2 ^ (c.i - c.j) - 1 := by
      have : (2 : Int) ^ 1 ≤ 2 ^ (c.i - c.j) := p2le (by omega)
      rw [Int.pow_one] at this
      omega
    have bx : ∀ x ∈ c.xs, Bd x 3000 := by
      intro x hx'
      rw [hx] at hx'
      split at hx'
      · have : x = 0 - (c.a + c.b) / 2 ^ c.j / (2 ^ (c.i - c.j) - 1) := by simpa using hx'
        rw [this]
        exact Bd.sub (Bd.lit (x := 0) (k := 1) (by decide)) ((bs.div (p2pos _)).div d0) (by omega) (by omega)
      · cases hx'
    have tail := fun y6 y8 y9 => tail y6 y8 y9 q bx
    have two' : ∀ S, M_two [.int ((c.i : Int) - c.j)] S = .ok (.int (2 ^ (c.i - c.j))) S := fun S => by rw [e2]; exact sp_two _ (by omega)
    rw [hx] at tail
    repeat walk_at "d"
    · exact p2pos _
    · exact p2bigD (by omega)
    repeat walk_at "d"
    refine ⟨rfl, ev_ok (two' _) ?_⟩
    repeat walk_at "d"
    · exact d0
    repeat walk_at "d"
    refine x_if (fun q3 => ?_) (fun q3 => ?_)
    · rw [if_pos q3] at tail
      repeat walk_at "d"
      refine ⟨rfl, ev_ok (two' _) ?_⟩
      repeat walk_at "d"
      · exact d0
      · exact (Bd.sub (m := 1002) (Bd.pow (m := 1001) (c.i - c.j) (by omega)) (Bd.lit (x := 1) (k := 1) (by decide)) (by omega) (by omega)).bigD (by omega)
      repeat walk_at "d"
      exact tail _ _ _
    · rw [if_neg q3] at tail
      repeat walk_at "d"
      exact tail _ _ _
  · have lt : c.i < c.j := by omega
    have g0 := gap_pos lt
    have gg := gl_lt lt
    have hx : c.xs = zrange (c.gl + 1) (c.gm + 1) := by
      unfold Cd.xs
      rw [if_neg (by omega)]
      rfl
    have bx := xs_bd h
    have l2 := xs_len c q
    have tail := fun y6 y8 y9 => tail y6 y8 y9 q bx
    rw [hx] at tail l2
    have bg : Bd ((2 : Int) ^ c.j - 2 ^ c.i) 1100 := Bd.sub bpj bpi (by omega) (by omega)
    repeat walk_at "d"
    refine ⟨rfl, ev_ok (sp_two c.i (by omega)) ?_⟩
    repeat walk_at "d"
    · exact g0
    · exact bg.bigD (by omega)
    repeat walk_at "d"
    refine ev_rngF ?_
    repeat walk_at "d"
    · exact g0
    · exact bg.bigD (by omega)
    repeat walk_at "d"
    refine ⟨_, _, rfl, ?_, ?_⟩
    · show (c.gm + 1 - (c.gl + 1)).toNat ≤ 1000000
      rw [zr_len] at l2
      omega
    show EvS (T _ _) _
    rw [rangeD_z]
    exact tail _ _ _
/-! ### often -/
def Cd.pw (c : Cd) : Nat → Cd
  | 0 => Cd.z
  | m + 1 => (Cd.pw c m).bh c
theorem pw_ok (c : Cd) : ∀ m, (c.pw m).ok
  | 0 => z_ok
  | m + 1 => bh_ok _ _
theorem pw_1 {c : Cd} (h : c.ok) : c.pw 1 = c := bh_z h
theorem pw_add (c : Cd) (a : Nat) : ∀ b, c.pw (a + b) = (c.pw a).bh (c.pw b)
  | 0 => (z_bh (pw_ok c a)).symm
  | b + 1 => by
    show (c.pw (a + b)).bh c = (c.pw a).bh ((c.pw b).bh c)
    rw [pw_add c a b, bh_assoc]
theorem pw_mul (c : Cd) (a : Nat) : ∀ b, c.pw (a * b) = (c.pw a).pw b
  | 0 => rfl
  | b + 1 => by
    rw [Nat.mul_add, Nat.mul_one, pw_add, pw_mul c a b]
    rfl
theorem pw_ij {c : Cd} (h : c.ok) : ∀ m : Nat, (c.j ≤ c.i → (c.pw (m + 1)).i = c.i + (c.i - c.j) * m ∧ (c.pw (m + 1)).j = c.j) ∧ (c.i < c.j → (c.pw (m + 1)).i = c.i ∧ (c.pw (m + 1)).j = c.j + (c.j - c.i) * m)
  | 0 => by
    rw [pw_1 h]
    exact ⟨fun _ => ⟨by omega, rfl⟩, fun _ => ⟨rfl, by omega⟩⟩
  | m + 1 => by
    obtain ⟨h1, h2⟩ := pw_ij h m
    have e : c.pw (m + 1 + 1) = (c.pw (m + 1)).bh c := rfl
    constructor
    · intro q
      obtain ⟨a1, a2⟩ := h1 q
      rw [e]
      unfold Cd.bh
      rw [if_pos (by omega), Nat.mul_add, Nat.mul_one]
      exact ⟨by show (c.pw (m + 1)).i - c.j + c.i = _; omega, a2⟩
    · intro q
      obtain ⟨a1, a2⟩ := h2 q
      rw [e]
      unfold Cd.bh
      rw [if_neg (by omega), Nat.mul_add, Nat.mul_one]
      exact ⟨rfl, by show (c.pw (m + 1)).j + c.j - (c.pw (m + 1)).i = _; omega⟩
theorem pw_le {c : Cd} (h : c.ok) {N M : Nat} (h1 : c.i + (c.i - c.j) * (N - 1) ≤ M) (h2 : c.j + (c.j - c.i) * (N - 1) ≤ M) {m : Nat} (hm : m ≤ N) : (c.pw m).i ≤ M ∧ (c.pw m).j ≤ M := by
  cases m with
  | zero => exact ⟨Nat.zero_le _, Nat.zero_le _⟩
  | succ m =>
    obtain ⟨a1, a2⟩ := pw_ij h m
    have l1 := Nat.mul_le_mul_left (c.i - c.j) (show m ≤ N - 1 by omega)
    have l2 := Nat.mul_le_mul_left (c.j - c.i) (show m ≤ N - 1 by omega)
    by_cases q : c.j ≤ c.i
    · have := a1 q
      omega
    · have := a2 (by omega)
      omega
theorem bh_bd {c d : Cd} {L M : Nat} (hc : c.ok) (hd : d.ok) (bc : Bd c.b L) (bd : Bd d.b L) (ci : c.i ≤ M) (cj : c.j ≤ M) (di : d.i ≤ M) (dj : d.j ≤ M) (hj : (c.bh d).j ≤ M) (hM : M ≤ L) : Bd (c.bh d).b (L + (2 * M + 8)) := by
  have ho := bh_ok c d
  have ea : (c.bh d).f (0 - (c.bh d).a) = (c.bh d).b := by
    show (0 - (c.bh d).a + (c.bh d).a) / 2 ^ (c.bh d).j * 2 ^ (c.bh d).i + (c.bh d).b = _
    rw [Int.sub_add_cancel, Int.zero_ediv, Int.zero_mul, Int.zero_add]
  rw [bh_f] at ea
  have ba : Bd (0 - (c.bh d).a) (L + 2) := Bd.sub (k := 1) (Bd.lit (by decide)) ((Bd.of ho.1 ho.2).mono (l := L) (by omega)) (by omega) (by omega)
  have b1 : Bd (c.f (0 - (c.bh d).a)) (L + 5 + M) := (f_bd hc ba (by omega) bc (by omega)).mono (by omega)
  have b2 := (f_bd hd b1 (by omega) bd (by omega)).mono (l := L + (2 * M + 8)) (by omega)
  rw [ea] at b2
  exact b2
theorem sp_often {S : Mem} (c : Cd) (N M L T : Nat) (h : c.good) (hN : N ≤ 1000000000000000000) (h1 : c.i + (c.i - c.j) * (N - 1) ≤ M) (h2 : c.j + (c.j - c.i) * (N - 1) ≤ M) (hM1 : M ≤ 1000) (hL : Bd c.b L) (hML : M ≤ L) (hT : N < 2 ^ T) (hT2 : T ≤ 100) (hk : L + (2 * M + 8) * (T + 1) ≤ 25000) : M_often [c.D, .int N] S = .ok (c.pw N).D S := by
  have hi := h.i
  have hj := h.j
  have hc := h.ok
  have le := fun m (hm : m ≤ N) => pw_le hc h1 h2 hm
  refine ev_out (ev_bodyI ?_)
  show EvS (g_often [.dat c.D, .dat (.int N), .no, .no, .no] S) _
  unfold g_often
  have lp : EvS (wloop (bin gtD (vr 1) (cc (.int 0))) (sq (ifs (bin eqD (bin modD (vr 1) (cc (.int 2))) (cc (.int 1))) (asg 2 (callF 2 M_behind (alc (vr 2) (alc (vr 0) al0)))) skip) (sq (aug 1 idivD (cc (.int 2))) (asg 0 (iff (bin gtD (vr 1) (cc (.int 0))) (callF 2 M_behind (alc (vr 0) (alc (vr 0) al0))) (vr 0))))) (T + 1) [.dat c.D, .dat (.int N), .dat Cd.z.D, .dat (.int c.i), .dat (.int c.j)] S) ⟨fun ρ S' => (∃ y0 y1, ρ = [y0, y1, .dat (c.pw N).D, .dat (.int c.i), .dat (.int c.j)]) ∧ S' = S, fun _ _ => False, fun _ _ => False, fun _ _ => False⟩ := by
    refine evs_wloop (fun n ρ S' => S' = S ∧ ∃ (k r t : Nat) (one : Cd), ρ = [.dat one.D, .dat (.int t), .dat (c.pw r).D, .dat (.int c.i), .dat (.int c.j)] ∧ k + n = T ∧ t < 2 ^ n ∧ r + t * 2 ^ k = N ∧ (0 < t → one = c.pw (2 ^ k) ∧ Bd one.b (L + (2 * M + 8) * k)) ∧ Bd (c.pw r).b (L + (2 * M + 8) * k)) ?_ T _ S ⟨rfl, 0, 0, N, c, rfl, by omega, hT, by simp, fun _ => ⟨(pw_1 hc).symm, hL.mono (by omega)⟩, Bd.mono (k := 0) (show (0 : Int).natAbs < 1 by decide) (by omega)⟩
    rintro n ρ S' ⟨rfl, k, r, t, one, rfl, hkn, ht, hr, ho, bf⟩
    repeat walk_at "d"
    refine x_if (fun q => ?_) (fun q => ?_)
    · have t0 : 0 < t := by omega
      obtain ⟨eo, bo⟩ := ho t0
      cases n with
      | zero => simp at ht; omega
      | succ n =>
        refine ⟨n, rfl, ?_⟩
        have kk : (2 * M + 8) * k ≤ (2 * M + 8) * (T + 1) := Nat.mul_le_mul_left _ (by omega)
        have kk1 : (2 * M + 8) * (k + 1) = (2 * M + 8) * k + (2 * M + 8) := by rw [Nat.mul_add, Nat.mul_one]
        have tk : 2 ^ k ≤ t * 2 ^ k := Nat.le_mul_of_pos_left _ t0
        have le1 := le (2 ^ k) (by omega)
        have ler := le r (by omega)
        have oo : one.ok := by rw [eo]; exact pw_ok _ _
        rw [← eo] at le1
        have half : t / 2 < 2 ^ n := by
          have : 2 ^ (n + 1) = 2 * 2 ^ n := by rw [Nat.pow_succ]; omega
          omega
        have e2 : ((t : Nat) : Int) / 2 = ((t / 2 : Nat) : Int) := by omega
        have tail : ∀ r' : Nat, r' + (t / 2) * 2 ^ (k + 1) = N → Bd (c.pw r').b (L + (2 * M + 8) * (k + 1)) → EvS (sq (aug 1 idivD (cc (.int 2))) (asg 0 (iff (bin gtD (vr 1) (cc (.int 0))) (callF 2 M_behind (alc (vr 0) (alc (vr 0) al0))) (vr 0))) [.dat one.D, .dat (.int t), .dat (c.pw r').D, .dat (.int c.i), .dat (.int c.j)] S') ⟨fun ρ S1 => S1 = S' ∧ ∃ (k r t : Nat) (one : Cd), ρ = [.dat one.D, .dat (.int t), .dat (c.pw r).D, .dat (.int c.i), .dat (.int c.j)] ∧ k + n = T ∧ t < 2 ^ n ∧ r + t * 2 ^ k = N ∧ (0 < t → one = c.pw (2 ^ k) ∧ Bd one.b (L + (2 * M + 8) * k)) ∧ Bd (c.pw r).b (L + (2 * M + 8) * k), fun _ _ => False, fun _ _ => False, fun _ _ => False⟩ := by
          intro r' hr' br'
          repeat walk_at "e"
          · decide
          · decide
          rw [e2]
          repeat walk_at "e"
          refine x_if (fun q => ?_) (fun q => ?_)
          · have t1 : 0 < t / 2 := by omega
            have tk1 : 2 ^ (k + 1) ≤ (t / 2) * 2 ^ (k + 1) := Nat.le_mul_of_pos_left _ t1
            have le2 := le (2 ^ (k + 1)) (by omega)
            have ep : one.bh one = c.pw (2 ^ (k + 1)) := by
              rw [eo, ← pw_add, Nat.pow_succ, Nat.mul_two]
            have bb := bh_bd (M := M) oo oo bo bo (by omega) (by omega) (by omega) (by omega) (by rw [ep]; omega) (by omega)
            repeat walk_at "e"
            refine ⟨rfl, ev_ok (sp_behind one one (l := 0) oo oo (by omega) (by omega) (by omega) (by omega) bo (by omega)) ?_⟩
            exact ⟨rfl, k + 1, r', t / 2, one.bh one, rfl, by omega, half, hr', fun _ => ⟨ep, bb.mono (by omega)⟩, br'⟩
          · repeat walk_at "e"
            exact ⟨rfl, k + 1, r', t / 2, one, rfl, by omega, half, hr', fun q2 => by omega, br'⟩
        generalize (sq (aug 1 idivD (cc (.int 2))) (asg 0 (iff (bin gtD (vr 1) (cc (.int 0))) (callF 2 M_behind (alc (vr 0) (alc (vr 0) al0))) (vr 0)))) = U at tail ⊢
        have p2 : 2 ^ (k + 1) = 2 * 2 ^ k := by rw [Nat.pow_succ]; omega
        have m2 : (t / 2) * 2 ^ (k + 1) = (2 * (t / 2)) * 2 ^ k := by rw [p2, Nat.mul_comm 2 (t / 2), Nat.mul_assoc]
        repeat walk_at "d"
        · decide
        repeat walk_at "d"
        refine x_if (fun q2 => ?_) (fun q2 => ?_)
        · have et : t = 2 * (t / 2) + 1 := by omega
          have m3 : t * 2 ^ k = (2 * (t / 2)) * 2 ^ k + 2 ^ k := by rw [← Nat.succ_mul]; congr 1
          have er : (c.pw r).bh one = c.pw (r + 2 ^ k) := by rw [eo, pw_add]
          have le3 := le (r + 2 ^ k) (by omega)
          have bb := bh_bd (M := M) (pw_ok c r) oo bf bo (by omega) (by omega) (by omega) (by omega) (by rw [er]; omega) (by omega)
          repeat walk_at "d"
          refine ⟨rfl, ev_ok (sp_behind (c.pw r) one (l := 0) (pw_ok c r) oo (by omega) (by omega) (by omega) (by omega) bf (by omega)) ?_⟩
          rw [er] at bb ⊢
          refine evs_nx _ (tail (r + 2 ^ k) (by rw [m2]; omega) (bb.mono (by omega))) ?_
          exact fun _ _ h => h
        · have et : t = 2 * (t / 2) := by omega
          refine .nx (evs_nx _ (tail r (by rw [m2, ← et]; exact hr) (bf.mono (by omega))) ?_)
          exact fun _ _ h => h
    · have t0 : t = 0 := by omega
      subst t0
      have : r = N := by omega
      subst this
      exact ⟨⟨_, _, rfl⟩, rfl⟩
  have lp := wloop_more (T + 1) (2999 - T) _ _ lp
  rw [show T + 1 + (2999 - T) = 3000 by omega] at lp
  generalize wloop (bin gtD (vr 1) (cc (.int 0))) (sq (ifs (bin eqD (bin modD (vr 1) (cc (.int 2))) (cc (.int 1))) (asg 2 (callF 2 M_behind (alc (vr 2) (alc (vr 0) al0)))) skip) (sq (aug 1 idivD (cc (.int 2))) (asg 0 (iff (bin gtD (vr 1) (cc (.int 0))) (callF 2 M_behind (alc (vr 0) (alc (vr 0) al0))) (vr 0))))) 3000 = U at lp ⊢
  have cnt : ∀ S, M_need_count [.int N, .int 0, .int 1000000000000000000] S = .ok .non S := by
    intro S
    refine ev_out (ev_bodyI ?_)
    show EvS (g_need_count [.dat (.int N), .dat (.int 0), .dat (.int 1000000000000000000)] S) _
    unfold g_need_count
    repeat walk_at "d"
    exact ⟨rfl, rfl⟩
  have few : ∀ (x y : Int) S, x ≤ 1000 → y ≤ 1000 → M_need_few [.tup [.int x, .int y]] S = .ok .non S := by
    intro x y S hx hy
    refine ev_out (ev_bodyI ?_)
    show EvS (g_need_few [.dat (.tup [.int x, .int y])] S) _
    unfold g_need_few
    repeat walk_at "d"
    exact ⟨rfl, rfl⟩
  have fin : ∀ S', S' = S → EvS (sq (asg 2 (cc (.tup [(.int 0), (.int 0), (.int 0), (.int 0)]))) (sq U (ret (vr 2))) [.dat c.D, .dat (.int N), .no, .dat (.int c.i), .dat (.int c.j)] S') (pb fun d S' => d = (c.pw N).D ∧ S' = S) := by
    rintro S' rfl
    repeat walk_at "e"
    refine evs_nx _ lp ?_
    rintro ρ S1 ⟨⟨y0, y1, rfl⟩, rfl⟩
    repeat walk_at "e"
    exact ⟨rfl, rfl⟩
  generalize (sq (asg 2 (cc (.tup [(.int 0), (.int 0), (.int 0), (.int 0)]))) (sq U (ret (vr 2)))) = V at fin ⊢
  repeat walk_at "e"
  refine ⟨rfl, ev_ok (sp_need_card c h) ?_⟩
  repeat walk_at "e"
  refine ⟨rfl, ev_ok (cnt _) ?_⟩
  repeat walk_at "d"
  refine x_if (fun q => ?_) (fun q => ?_)
  · obtain ⟨P, hP⟩ : ∃ P : Nat, P = N - 1 := ⟨_, rfl⟩
    rw [← hP] at h1 h2
    have eN : (N : Int) - 1 = (P : Int) := by omega
    have bP : Bd (P : Int) 64 := by
      unfold Bd
      have : (2 : Nat) ^ 64 = 18446744073709551616 := by decide
      omega
    have ei : (if (0 : Int) > (c.i : Int) - c.j then (0 : Int) else (c.i : Int) - c.j) = ((c.i - c.j : Nat) : Int) := by split <;> omega
    have ej : (if (0 : Int) > (c.j : Int) - c.i then (0 : Int) else (c.j : Int) - c.i) = ((c.j - c.i : Nat) : Int) := by split <;> omega
    have b1 : ∀ m : Nat, m ≤ 1000 → Bd (m : Int) 64 := fun m hm => by
      unfold Bd
      have : (2 : Nat) ^ 64 = 18446744073709551616 := by decide
      omega
    have m1 : ((c.i - c.j : Nat) : Int) * (P : Int) = (((c.i - c.j) * P : Nat) : Int) := (Int.natCast_mul _ _).symm
    have m2 : ((c.j - c.i : Nat) : Int) * (P : Int) = (((c.j - c.i) * P : Nat) : Int) := (Int.natCast_mul _ _).symm
    repeat walk_at "d"
    · rw [ei]
      exact (b1 _ (by omega)).big (by decide)
    · rw [eN]
      exact bP.big (by decide)
    rw [ei, eN, m1]
    repeat walk_at "d"
    · rw [ej]
      exact (b1 _ (by omega)).big (by decide)
    · rw [eN]
      exact bP.big (by decide)
    rw [ej, eN, m2]
    repeat walk_at "d"
    refine ⟨rfl, ev_ok (few _ _ _ (by omega) (by omega)) ?_⟩
    exact fin _ rfl
  · exact .nx (fin _ rfl)
/-! ### rests of powers -/
theorem sorted_eq : ∀ (l m : List Int), l.Pairwise (· < ·) → m.Pairwise (· < ·) → (∀ x, x ∈ l ↔ x ∈ m) → l = m
  | [], [], _, _, _ => rfl
  | [], b :: m, _, _, h => by have := (h b).mpr (by simp); cases this
  | a :: l, [], _, _, h => by have := (h a).mp (by simp); cases this
  | a :: l, b :: m, hl, hm, h => by
    rw [List.pairwise_cons] at hl hm
    have e : a = b := by
      have h1 := (h a).mp (by simp)
      have h2 := (h b).mpr (by simp)
      rcases List.mem_cons.mp h1 with h1 | h1
      · exact h1
      · rcases List.mem_cons.mp h2 with h2 | h2
        · exact h2.symm
        · have := hl.1 b h2
          have := hm.1 a h1
          omega
    subst e
    congr 1
    refine sorted_eq l m hl.2 hm.2 fun x => ?_
    constructor
    · intro hx
      rcases List.mem_cons.mp ((h x).mp (by simp [hx])) with e | e
      · have := hl.1 x hx
        omega
      · exact e
    · intro hx
      rcases List.mem_cons.mp ((h x).mpr (by simp [hx])) with e | e
      · have := hm.1 x hx
        omega
      · exact e
theorem zr_sorted (lo hi : Int) : (zrange lo hi).Pairwise (· < ·) := by
  unfold zrange
  rw [List.pairwise_map]
  have : ∀ n : Nat, (List.range n).Pairwise (· < ·) := fun n => List.pairwise_lt_range
  exact (this _).imp fun h => by omega
theorem xs_sorted (c : Cd) : c.xs.Pairwise (· < ·) := by
  unfold Cd.xs
  split
  · split <;> simp
  · exact zr_sorted _ _
theorem rs_sorted (c : Cd) : c.rs.Pairwise (· < ·) := by
  unfold Cd.rs
  rw [List.pairwise_map]
  refine (xs_sorted c).imp fun {a b} h => ?_
  have := Int.mul_lt_mul_of_pos_right h (p2pos c.i)
  omega
theorem it_succ {c : Cd} : ∀ (t : Nat) (x : Int), c.it (t + 1) x = c.f (c.it t x)
  | 0, x => rfl
  | t + 1, x => it_succ t (c.f x)
theorem pw_f (c : Cd) : ∀ (m : Nat) (x : Int), (c.pw m).f x = c.it m x
  | 0, x => z_f x
  | m + 1, x => by
    show ((c.pw m).bh c).f x = _
    rw [bh_f, pw_f c m, it_succ]
theorem it_up {c : Cd} : ∀ (m : Nat) {x : Int}, x ≤ c.f x → x ≤ c.it m x
  | 0, x, _ => Int.le_refl x
  | m + 1, x, h => Int.le_trans h (it_up m (f_mono h))
theorem it_down {c : Cd} : ∀ (m : Nat) {x : Int}, c.f x ≤ x → c.it m x ≤ x
  | 0, x, _ => Int.le_refl x
  | m + 1, x, h => Int.le_trans (it_down m (f_mono h)) h
theorem it_fix {c : Cd} {x : Int} (h : c.f x = x) : ∀ m : Nat, c.it m x = x
  | 0 => rfl
  | m + 1 => by
    show c.it m (c.f x) = x
    rw [h]
    exact it_fix h m
theorem pw_fix {c : Cd} {m : Nat} (hm : 0 < m) (x : Int) : (c.pw m).f x = x ↔ c.f x = x := by
  rw [pw_f]
  constructor
  · intro h
    obtain ⟨k, rfl⟩ : ∃ k, m = k + 1 := ⟨m - 1, by omega⟩
    have e : c.it k (c.f x) = x := h
    rcases Int.lt_trichotomy (c.f x) x with q | q | q
    · have := it_down (c := c) k (f_mono (c := c) (Int.le_of_lt q))
      omega
    · exact q
    · have := it_up (c := c) k (f_mono (c := c) (Int.le_of_lt q))
      omega
  · intro h
    exact it_fix h m
theorem pw_ne {c : Cd} (hc : c.ok) {m : Nat} (hm : 0 < m) (h : c.i ≠ c.j) : (c.pw m).i ≠ (c.pw m).j := by
  obtain ⟨k, rfl⟩ : ∃ k, m = k + 1 := ⟨m - 1, by omega⟩
  obtain ⟨h1, h2⟩ := pw_ij hc k
  by_cases q : c.j ≤ c.i
  · have := h1 q
    omega
  · have := h2 (by omega)
    omega
theorem pw_eq {c : Cd} (hc : c.ok) {m : Nat} (hm : 0 < m) (h : c.i = c.j) : (c.pw m).i = (c.pw m).j := by
  obtain ⟨k, rfl⟩ : ∃ k, m = k + 1 := ⟨m - 1, by omega⟩
  have := (pw_ij hc k).1 (by omega)
  rw [show c.i - c.j = 0 by omega, Nat.zero_mul] at this
  omega
theorem pw_rs {c : Cd} (hc : c.ok) {m : Nat} (hm : 0 < m) (h : c.i ≠ c.j) : (c.pw m).rs = c.rs :=
  sorted_eq _ _ (rs_sorted _) (rs_sorted _) fun x => by rw [mem_rs (pw_ne hc hm h), mem_rs h, pw_fix hm]
theorem pw_same {c : Cd} (hc : c.ok) {m : Nat} (hm : 0 < m) (h : c.i = c.j) (h0 : (c.a + c.b) / 2 ^ c.j = 0) : c.pw m = c := by
  obtain ⟨k, rfl⟩ : ∃ k, m = k + 1 := ⟨m - 1, by omega⟩
  refine cd_ext (pw_ok c _) hc fun x _ => ?_
  rw [pw_f]
  show c.it k (c.f x) = c.f x
  refine it_fix ((stay_even h _).mpr ⟨h0, ?_⟩) k
  show ((x + c.a) / 2 ^ c.j * 2 ^ c.i + c.b) % 2 ^ c.j = _
  rw [h, Int.add_comm, Int.add_mul_emod_self_right]
/-! ### objects made besides the dice -/
theorem Dice.push {rest S : Mem} {o : MO} (h : Dice rest S) : Dice (rest ++ [o]) (S ++ [o]) := by
  obtain ⟨ns, p, m, r, rfl, q⟩ := h
  exact ⟨ns, p, m, r, rfl, q⟩
theorem Dice.len {rest S : Mem} (h : Dice rest S) : S.length = rest.length + 1 := by
  obtain ⟨ns, p, m, r, rfl, q⟩ := h
  rfl
theorem Dice.at {rest S : Mem} {o : MO} (h : Dice (rest ++ [o]) S) : S[rest.length + 1]? = some o := by
  obtain ⟨ns, p, m, r, rfl, q⟩ := h
  show (rest ++ [o])[rest.length]? = _
  simp
theorem Dice.put {rest S : Mem} {o o' : MO} (h : Dice (rest ++ [o]) S) : Dice (rest ++ [o']) (S.set (rest.length + 1) o') := by
  obtain ⟨ns, p, m, r, rfl, q⟩ := h
  refine ⟨ns, p, m, r, ?_, q⟩
  show _ :: (rest ++ [o]).set rest.length o' = _
  simp
theorem ev_newM {f : Sem} {ρ : Env} {S : Mem} {Q : D → Mem → Prop} (h : Ev (f ρ S) fun d S1 => ∃ ds, d = .lst ds ∧ Q (.obj S1.length) (S1 ++ [.lst ds])) : Ev (newM f ρ S) Q := by
  unfold newM
  refine ev_bind (ev_mono h fun d S1 h => ?_)
  obtain ⟨ds, rfl, q⟩ := h
  exact .mk q
theorem ev_calM {g : Mem → List D → Option D} {fs : SemL} {ρ : Env} {S : Mem} {Q : D → Mem → Prop} (h : Ev (fs ρ S) fun xs S1 => ∃ d, g S1 xs = some d ∧ Q d S1) : Ev (calM g fs ρ S) Q := by
  unfold calM
  refine ev_bind (ev_mono h fun d S1 h => ?_)
  obtain ⟨d, e, q⟩ := h
  rw [e]
  exact .mk q
def IvR (ns : List Int) (n : Nat) (ρ : Env) (S : Mem) : Prop := ∃ (k : Sl) (xs : List Sl) (rest : Mem), ρ = .dat (.frz (ns.map .int)) :: .dat (.obj 0) :: k :: xs ∧ xs.length = n ∧ Dice rest S
def tpR (ns : List Int) (n : Nat) : Po := ⟨IvR ns n, fun d _ => d = .bl true, fun _ _ => False, IvR ns n⟩
theorem law_turnsR {n : Nat} {N : Int} {body : SemS} {ns : List Int} (h1 : -(2 ^ 62) ≤ N) (h2 : N < 2 ^ 62) (hb : ∀ (k : Sl) (xs : List Sl) (rest S : Mem), xs.length = n → Dice rest S → EvS (body (.dat (.frz (ns.map .int)) :: .dat (.obj 0) :: k :: xs) S) (tpR ns n)) :
    ∃ S', bodyI (n + 3) (sq (asgN 1 (callF 1 M_l_dice (alc (vr 0) al0))) (sq (fr (itR (alc (cc (.int N)) al0)) (tgN 2) body) (ret (cc (.bl true))))) [.frz (ns.map .int)] [] = .ok (.bl true) S' := by
  have : Ev (bodyI (n + 3) (sq (asgN 1 (callF 1 M_l_dice (alc (vr 0) al0))) (sq (fr (itR (alc (cc (.int N)) al0)) (tgN 2) body) (ret (cc (.bl true))))) [.frz (ns.map .int)] []) (fun d S' => d = .bl true) := by
    refine ev_bodyI ?_
    have e : st0 (n + 3) [D.frz (ns.map .int)] = .dat (.frz (ns.map .int)) :: .no :: .no :: List.replicate n .no := by
      show [Sl.dat _] ++ List.replicate (n + 3 - 1) .no = _
      rw [show n + 3 - 1 = (n + 1) + 1 by omega, List.replicate_succ, List.replicate_succ]
      rfl
    rw [e]
    repeat walk_at "d"
    refine ⟨rfl, ev_dice fun m m0 m1 => ⟨_, rfl, ?_⟩⟩
    repeat walk_at "d"
    · exact h1
    · exact h2
    refine evs_range (fun k ρ S' => IvR ns n ρ S') ?_ ?_ _ 0 _ _ rfl ⟨_, _, [], rfl, List.length_replicate, ⟨ns, 0, m, 0, rfl, by decide, m0, m1, by decide⟩⟩
    · rintro i ρ S' hi ⟨k, xs, rest, rfl, hx, hD⟩
      refine evs_tgb rfl ?_
      show EvS (body (.dat (.frz (ns.map .int)) :: .dat (.obj 0) :: .dat (.int i) :: xs) S') _
      have h3 := hb (.dat (.int i)) xs rest S' hx hD
      cases e : body (.dat (.frz (ns.map .int)) :: .dat (.obj 0) :: .dat (.int i) :: xs) S' <;> rw [e] at h3 <;> cases h3
      · rename_i q; exact .nx q
      · rename_i q; exact .rt q
      · rename_i q; exact q.elim
      · rename_i q; exact .ct q
    · rintro i ρ S' hi ⟨k, xs, rest, rfl, hx, hD⟩
      repeat walk_at "d"
      rfl
  obtain ⟨d, S', e, rfl⟩ := ev_get this
  exact ⟨S', e⟩
/-! ### the law's own run -/
theorem sp_l_run {S : Mem} (w : List Nat) (n : Int) {k0 : Nat} (hw : ∀ c ∈ w, sgn c) (hn : Bd n k0) (hk : k0 + w.length ≤ 50000) (hl : w.length ≤ 100000) : M_l_run [.str (tx w), .int n] S = .ok (.int (runF w n)) S := by
  refine ev_out (ev_bodyI ?_)
  show EvS (g_l_run [.dat (.str (tx w)), .dat (.int n), .no] S) _
  unfold g_l_run
  rw [t_two, t_half, t_minus]
  repeat walk_at "d"
  rw [signs_tx]
  refine evs_loop (fun ds ρ S' => ∃ v m z k, ds = (v.map fun c => D.str (tx [c])) ∧ ρ = [.dat (.str (tx w)), .dat (.int m), z] ∧ S' = S ∧ runF v m = runF w n ∧ Bd m k ∧ k + v.length ≤ 50000 ∧ ∀ c ∈ v, sgn c) ?_ ?_ _ _ S ⟨w, n, _, k0, rfl, rfl, rfl, rfl, hn, hk, hw⟩
  · rintro d ds ρ S' ⟨v, m, z, k, e, rfl, rfl, h1, h2, h3, h4⟩
    cases v with
    | nil => cases e
    | cons c v =>
      rw [List.map_cons] at e
      injection e with e1 e2
      subst e1 e2
      rw [List.length_cons] at h3
      have hv : ∀ c ∈ v, sgn c := fun x hx => h4 x (by simp [hx])
      have fin : ∀ m', m' = stf c m → ∃ v' m k, (v.map fun c => D.str (tx [c])) = (v'.map fun c => D.str (tx [c])) ∧ m' = m ∧ runF v' m = runF w n ∧ Bd m k ∧ k + v'.length ≤ 50000 ∧ ∀ c ∈ v', sgn c := fun m' hm => ⟨v, _, k + 1, rfl, hm, h1, stf_bd h2, by omega, hv⟩
      refine evs_tgb rfl ?_
      have b2 : Bd (2 : Int) 2 := Bd.lit (by decide)
      rcases h4 c (by simp) with rfl | rfl | rfl | rfl
      · have q1 : ¬ tx [43] = tx [50] := fun h => absurd (tx1.mp h) (by decide)
        have q2 : ¬ tx [43] = tx [47] := fun h => absurd (tx1.mp h) (by decide)
        have q3 : ¬ tx [43] = tx [45] := fun h => absurd (tx1.mp h) (by decide)
        repeat walk_at "d"
        · exact b2.big (by decide)
        · rw [decide_eq_false q3]
          exact (Bd.lit (x := 0) (k := 1) (by decide)).big (by decide)
        repeat walk_at "d"
        rw [decide_eq_false q3]
        obtain ⟨v', m1, k1, a1, a2, a3, a4, a5, a6⟩ := fin (m + 1 - 2 * 0) (by show m + 1 - 2 * 0 = m + 1; omega)
        exact ⟨v', m1, _, k1, a1, by rw [← a2]; rfl, rfl, a3, a4, a5, a6⟩
      · have q1 : ¬ tx [45] = tx [50] := fun h => absurd (tx1.mp h) (by decide)
        have q2 : ¬ tx [45] = tx [47] := fun h => absurd (tx1.mp h) (by decide)
        have q3 : tx [45] = tx [45] := rfl
        repeat walk_at "d"
        · exact b2.big (by decide)
        · rw [decide_eq_true q3]
          exact (Bd.lit (x := 1) (k := 1) (by decide)).big (by decide)
        repeat walk_at "d"
        rw [decide_eq_true q3]
        obtain ⟨v', m1, k1, a1, a2, a3, a4, a5, a6⟩ := fin (m + 1 - 2 * 1) (by show m + 1 - 2 * 1 = m - 1; omega)
        exact ⟨v', m1, _, k1, a1, by rw [← a2]; rfl, rfl, a3, a4, a5, a6⟩
      · have q1 : tx [50] = tx [50] := rfl
        repeat walk_at "d"
        · exact h2.big (by omega)
        · exact b2.big (by decide)
        obtain ⟨v', m1, k1, a1, a2, a3, a4, a5, a6⟩ := fin (m * 2) (by show m * 2 = 2 * m; omega)
        exact ⟨v', m1, _, k1, a1, by rw [← a2]; rfl, rfl, a3, a4, a5, a6⟩
      · have q1 : ¬ tx [47] = tx [50] := fun h => absurd (tx1.mp h) (by decide)
        have q2 : tx [47] = tx [47] := rfl
        repeat walk_at "d"
        · decide
        · exact b2.bigD (by decide)
        obtain ⟨v', m1, k1, a1, a2, a3, a4, a5, a6⟩ := fin (m / 2) rfl
        exact ⟨v', m1, _, k1, a1, by rw [← a2]; rfl, rfl, a3, a4, a5, a6⟩
  · rintro ρ S' ⟨v, m, z, k, e, rfl, rfl, h1, h2, h3, h4⟩
    cases v with
    | cons c v => cases e
    | nil =>
      repeat walk_at "d"
      have h1 : m = runF w n := h1
      exact ⟨by rw [h1], rfl⟩
/-! ### the first that differs -/
theorem zrange_cons {lo hi : Int} (h : lo < hi) : zrange lo hi = lo :: zrange (lo + 1) hi := by
  unfold zrange
  rw [show (hi - lo).toNat = (hi - (lo + 1)).toNat + 1 by omega, List.range_succ_eq_map, List.map_cons, List.map_map]
  congr 1
  · omega
  · apply List.map_congr_left
    intro i _
    show lo + ((i + 1 : Nat) : Int) = lo + 1 + i
    omega
theorem find_zr {p : Int → Bool} : ∀ (k : Nat) (lo hi t : Int), t - lo = k → t < hi → p t = true → (∀ m, lo ≤ m → m < t → p m = false) → ((zrange lo hi).filter p).head? = some t
  | 0, lo, hi, t, h1, h2, h3, h4 => by
    have e : lo = t := by omega
    subst e
    rw [zrange_cons h2, List.filter_cons_of_pos h3]
    rfl
  | k + 1, lo, hi, t, h1, h2, h3, h4 => by
    rw [zrange_cons (by omega), List.filter_cons_of_neg (by rw [h4 lo (by omega) (by omega)]; decide)]
    exact find_zr k (lo + 1) hi t (by omega) h2 h3 fun m m1 m2 => h4 m (by omega) m2
theorem part_first {c d : Cd} (hc : c.ok) (hd : d.ok) {hi : Int} (hp : ∀ t, c.part d = some t → t < hi) : ((zrange 0 hi).filter fun n => decide (c.f n ≠ d.f n)).head? = c.part d := by
  cases e : c.part d with
  | none =>
    have := (part_none hc hd).mp e
    subst this
    rw [List.filter_eq_nil_iff.mpr (fun x _ => by simp)]
    rfl
  | some t =>
    obtain ⟨t0, t1, t2⟩ := part_some hc hd e
    exact find_zr t.toNat 0 hi t (by omega) (hp t e) (by simpa using t1) fun m m1 m2 => by simpa using t2 m m1 m2
local macro_rules | `(tactic| walk_at "t") => `(tactic| (first | with_reducible refine x_btn ?_ | with_reducible refine x_bfn ?_))
local macro_rules | `(tactic| walk_at "t") => `(tactic| (first | with_reducible refine x_btn' ?_ | with_reducible refine x_bfn' ?_))
/-! ### what raises -/
theorem er_need_number {S : Mem} (n : Int) (h : ¬ goodN n) : M_need_number [.int n] S = .er ⟨1, none⟩ S := by
  unfold goodN FR at h
  refine er_bodyI ?_
  show g_need_number [.dat (.int n)] S = _
  unfold g_need_number
  refine er_ifs ?_
  by_cases h1 : 0 - 1000000000000000000000000000000000000000000000000000000000000 ≤ n
  · have h2 : ¬ n ≤ 1000000000000000000000000000000000000000000000000000000000000 := fun q => h ⟨h1, q⟩
    repeat walk_at "d"
    rfl
  · repeat walk_at "d"
    rfl
theorem er_run {S : Mem} (w : List Nat) (n : Int) (h : goodW w) (hn : ¬ goodN n) : M_run [.str (tx w), .int n] S = .er ⟨1, none⟩ S := by
  refine er_bodyI ?_
  show g_run [.dat (.str (tx w)), .dat (.int n), .no] S = _
  unfold g_run
  refine er_sq ?_
  repeat walk_at "d"
  refine ⟨rfl, ev_ok (sp_need_work w h) ?_⟩
  refine er_sq0 (er_drp (er_callF ?_))
  repeat walk_at "d"
  exact ⟨rfl, er_need_number n hn⟩
theorem er_made {S : Mem} (c : Cd) (n : Int) (h : c.good) (hn : ¬ goodN n) : M_made [c.D, .int n] S = .er ⟨1, none⟩ S := by
  refine er_bodyI ?_
  show g_made [.dat c.D, .dat (.int n)] S = _
  unfold g_made
  refine er_sq ?_
  repeat walk_at "d"
  refine ⟨rfl, ev_ok (sp_need_card c h) ?_⟩
  refine er_sq0 (er_drp (er_callF ?_))
  repeat walk_at "d"
  exact ⟨rfl, er_need_number n hn⟩
theorem t_refused : toldV ⟨1, none⟩ = some (.tup [.str "refused", .str "BadNumber"]) := rfl
theorem likes_int (n : Nat) (i : Int) : likes n (.int i) := by
  cases n <;> exact trivial
theorem like_int {S : Mem} (i : Int) : M_l_like [.int i, .int i] S = .ok (.bl true) S := like_refl 5 _ (likes_int _ _)
theorem pure_told (x : Str) (h : (py (.str x)).canLay0 = true) : pureD (.tup [.str "refused", .str x]) = true := by
  have h1 : (py (.str "refused")).canLay0 = true := by decide +kernel
  unfold pureD SeqAt.shaped
  rw [Bool.and_eq_true]
  exact ⟨by show (_ && (_ && true)) = true; rw [h1, h]; rfl, rfl⟩
theorem net_told (x : Str) (h : (py (.str x)).canLay0 = true) : neD (.tup [.str "refused", .str x]) (.tup [.str "refused", .str x]) = some (.bl false) := by
  have e : eqB (.tup [.str "refused", .str x]) (.tup [.str "refused", .str x]) = some true := by
    show (if (pureD (.tup [.str "refused", .str x]) && pureD (.tup [.str "refused", .str x])) = true then some (PyData.eqv _ _) else none) = _
    rw [pure_told x h]
    show some ((("refused" : Str) == ("refused" : Str)) && ((x == x) && true)) = _
    rw [beq_self_eq_true, beq_self_eq_true]
    rfl
  unfold neD
  rw [e]
  rfl
theorem x_refN {P : D → Prop} (h : P (.bl false)) : ∃ d, neD (.tup [.str "refused", .str "BadNumber"]) (.tup [.str "refused", .str "BadNumber"]) = some d ∧ P d := ⟨_, net_told _ (by decide +kernel), h⟩
theorem x_refM {P : D → Prop} (h : P (.bl false)) : ∃ d, neD (.tup [.str "refused", .str "TooMany"]) (.tup [.str "refused", .str "TooMany"]) = some d ∧ P d := ⟨_, net_told _ (by decide +kernel), h⟩
theorem t_many : toldV ⟨4, none⟩ = some (.tup [.str "refused", .str "TooMany"]) := rfl
theorem er_need_few {S : Mem} (x y : Int) (ds : List D) (h : 1000 < x ∨ 1000 < y) (hd : ds = [] ∨ ∃ p q, ds = [p, q] := by exact .inl rfl) : M_need_few [.tup (.int x :: .int y :: ds)] S = .er ⟨4, none⟩ S := by
  refine er_bodyI ?_
  show g_need_few [.dat (.tup (.int x :: .int y :: ds))] S = _
  unfold g_need_few
  refine er_ifs ?_
  rcases hd with rfl | ⟨p, q, rfl⟩
  all_goals
    by_cases h1 : 1000 < x
    · repeat walk_at "d"
      rfl
    · have h2 : 1000 < y := by omega
      repeat walk_at "d"
      rfl
/-! ### the seek by halves -/
theorem ev_cloS {f : Addr} {vs : List V} {ms : List Bool} {dds cds : List D} {fe : Sem} {i : Nat} {fas : SemL} {ρ : Env} {S : Mem} {Q : D → Mem → Prop} (e : ρ[i]? = some (.dat (.clo f vs ms cds))) (h : Ev (fas ρ S) fun as S1 => Ev (fe (cloEnv ms cds ++ (as ++ dds).map .dat) S1) Q) : Ev (cloS f vs ms dds fe i fas ρ S) Q := by
  unfold cloS
  rw [e]
  show Ev (if f = f ∧ vs = vs ∧ ms = ms then _ else _) Q
  rw [if_pos ⟨rfl, rfl, rfl⟩]
  exact ev_bind h
theorem found_loop {f : Addr} {vs : List V} {ms : List Bool} {dds cds : List D} {fe : Sem} {i l : Int} {j : Int} {h : Int} {S2 : Mem} (C : List D → Mem → Res D) (hC : C = fun as S => fe (cloEnv ms cds ++ (as ++ dds).map .dat) S) (ds : List D) (lo hi : Int) (S : Mem) (y3 y7 : Sl) (e0 : bisM C l ds.length lo hi S = .ok (.int h) S2) :
    EvS (loop (tgb (tgN 3) (sq (asg 7 (bin divD (bin addD (vr 4) (vr 5)) (cc (.int 2)))) (ifs (bin gtD (cloS f vs ms dds fe 2 (alc (vr 7) al0)) (vr 6)) (asg 5 (vr 7)) (asg 4 (vr 7))))) ds [.dat (.int i), .dat (.int j), .dat (.clo f vs ms cds), y3, .dat (.int lo), .dat (.int hi), .dat (.int l), y7] S)
      ⟨fun ρ S' => (∃ y3 lo y7, ρ = [.dat (.int i), .dat (.int j), .dat (.clo f vs ms cds), y3, .dat (.int lo), .dat (.int h), .dat (.int l), y7]) ∧ S' = S2, fun _ _ => False, fun _ _ => False, fun _ _ => False⟩ := by
  refine evs_loop (fun ds ρ S => ∃ y3 lo hi y7, ρ = [.dat (.int i), .dat (.int j), .dat (.clo f vs ms cds), y3, .dat (.int lo), .dat (.int hi), .dat (.int l), y7] ∧ bisM C l ds.length lo hi S = .ok (.int h) S2) ?_ ?_ ds _ S ⟨y3, lo, hi, y7, rfl, e0⟩
  · rintro d ds ρ S ⟨y3, lo, hi, y7, rfl, e⟩
    rw [List.length_cons] at e
    unfold bisM at e
    cases q : C [.int ((lo + hi) / 2)] S with
    | no => rw [q] at e; cases e
    | er => rw [q] at e; cases e
    | ok v S1 =>
      rw [q] at e
      cases v with
      | int v =>
        dsimp only at e
        refine evs_tgb rfl ?_
        have q2 : fe (cloEnv ms cds ++ ([D.int ((lo + hi) / 2)] ++ dds).map .dat) S = .ok (.int v) S1 := by rw [hC] at q; exact q
        repeat walk_at "d"
        · decide
        · decide
        repeat walk_at "d"
        refine ev_cloS rfl ?_
        repeat walk_at "d"
        refine ev_ok q2 ?_
        repeat walk_at "d"
        refine x_if (fun c => ?_) (fun c => ?_)
        · rw [if_pos c] at e
          repeat walk_at "d"
          exact ⟨_, _, _, _, rfl, e⟩
        · rw [if_neg c] at e
          repeat walk_at "d"
          exact ⟨_, _, _, _, rfl, e⟩
      | _ => cases e
  · rintro ρ S ⟨y3, lo, hi, y7, rfl, e⟩
    unfold bisM at e
    injection e with e1 e2
    injection e1 with e1
    subst e1 e2
    exact ⟨⟨_, _, _, rfl⟩, rfl⟩
theorem rng_len (k : Nat) : (rangeD 0 (k : Int)).length = k := by
  unfold rangeD
  simp
theorem foundF_eq {f : Addr} {vs : List V} {ms : List Bool} {dds cds ds : List D} {fe : Sem} {S : Mem} (h : ds.length = 2) (he : ∃ d S1, foundF (fun as S => fe (cloEnv ms cds ++ (as ++ dds).map .dat) S) ds S = .ok d S1) :
    bodyI 8 (GS_l_found f vs ms dds fe) (ds ++ [.clo f vs ms cds]) S = foundF (fun as S => fe (cloEnv ms cds ++ (as ++ dds).map .dat) S) ds S := by
  obtain ⟨d, S9, e⟩ := he
  rw [e]
  generalize hC : (fun as S => fe (cloEnv ms cds ++ (as ++ dds).map .dat) S) = C at e
  unfold foundF at e
  split at e
  · rename_i i j
    by_cases hj : 0 ≤ j ∧ j ≤ 4000
    · rw [if_pos hj] at e
      cases q : C [.int 0] S with
      | no => rw [q] at e; cases e
      | er => rw [q] at e; cases e
      | ok v S1 =>
        rw [q] at e
        cases v with
        | int l =>
          dsimp only at e
          cases q2 : bisM C l (j + 1).toNat 0 (2 ^ j.toNat) S1 with
          | no => rw [q2] at e; cases e
          | er => rw [q2] at e; cases e
          | ok v S2 =>
            rw [q2] at e
            cases v with
            | int hh =>
              dsimp only at e
              injection e with e1 e2
              subst e1 e2
              obtain ⟨m, rfl⟩ := Int.eq_ofNat_of_zero_le hj.1
              have q1 : fe (cloEnv ms cds ++ ([D.int 0] ++ dds).map .dat) S = .ok (.int l) S1 := by rw [← hC] at q; exact q
              have em : (m : Int) + 1 = ((m + 1 : Nat) : Int) := by omega
              rw [em] at q2
              show bodyI 8 _ [.int i, .int m, .clo f vs ms cds] S = _
              refine ev_out (S := S2) ?_
              refine ev_mono (ev_bodyI (Q := fun d S' => d = _ ∧ S' = S2) ?_) fun _ _ h => h
              show EvS (GS_l_found f vs ms dds fe [.dat (.int i), .dat (.int m), .dat (.clo f vs ms cds), .no, .no, .no, .no, .no] S) _
              unfold GS_l_found
              repeat walk_at "d"
              refine ⟨rfl, ev_ok (sp_l_two m (by omega)) ?_⟩
              repeat walk_at "d"
              refine ev_cloS rfl ?_
              repeat walk_at "d"
              refine ev_ok q1 ?_
              repeat walk_at "d"
              repeat walk_at "d"
              · omega
              · omega
              rw [em]
              refine evs_nx _ (found_loop C hC.symm (rangeD 0 ((m + 1 : Nat) : Int)) 0 (2 ^ m) S1 _ _ (by rw [rng_len]; exact q2)) ?_
              rintro ρ S3 ⟨⟨y3, lo, y7, rfl⟩, rfl⟩
              repeat walk_at "d"
              refine ⟨rfl, ev_ok (sp_l_two m (by omega)) ?_⟩
              repeat walk_at "d"
              exact ⟨rfl, rfl⟩
            | _ => cases e
        | _ => cases e
    · rw [if_neg hj] at e
      cases e
  · cases e
theorem bis_ok {c : Cd} (hc : c.ok) {C : List D → Mem → Res D} {S : Mem} (hC : ∀ n : Int, 0 ≤ n → n ≤ 2 ^ c.j → C [.int n] S = .ok (.int (c.f n)) S) : ∀ (k t : Nat) (lo hi : Int), t ≤ k → hi - lo = 2 ^ t → 0 ≤ lo → lo < c.jp → c.jp ≤ hi → hi ≤ 2 ^ c.j → bisM C c.b k lo hi S = .ok (.int c.jp) S
  | 0, t, lo, hi, ht, hd, h0, h1, h2, h3 => by
    have : t = 0 := by omega
    subst this
    rw [Int.pow_zero] at hd
    unfold bisM
    rw [show hi = c.jp by omega]
  | k + 1, t, lo, hi, ht, hd, h0, h1, h2, h3 => by
    have hp := p2pos t
    unfold bisM
    have q := hC ((lo + hi) / 2) (by omega) (by omega)
    rw [q]
    dsimp only
    have low : ∀ n : Int, 0 ≤ n → n < c.jp → ¬ c.b < c.f n := fun n a b => by rw [f_low hc a b]; omega
    have high : ∀ n : Int, c.jp ≤ n → c.b < c.f n := fun n a => by
      have h1 := f_mono (c := c) a
      have h2 := f_jp hc
      have h3 := p2pos c.i
      omega
    cases t with
    | zero =>
      rw [Int.pow_zero] at hd
      have em : (lo + hi) / 2 = lo := by omega
      rw [em, if_neg (low lo h0 h1)]
      exact bis_ok hc hC k 0 lo hi (by omega) (by rw [Int.pow_zero]; exact hd) h0 h1 h2 h3
    | succ t =>
      rw [p2s] at hd
      have hp := p2pos t
      have em : (lo + hi) / 2 = lo + 2 ^ t := by omega
      rw [em]
      by_cases q : c.jp ≤ lo + 2 ^ t
      · rw [if_pos (high _ q)]
        exact bis_ok hc hC k t lo _ (by omega) (by omega) h0 h1 q (by omega)
      · rw [if_neg (low _ (by omega) (by omega))]
        exact bis_ok hc hC k t _ hi (by omega) (by omega) (by omega) (by omega) h2 h3
theorem foundF_card {c : Cd} (hc : c.ok) (hj : c.j ≤ 4000) {C : List D → Mem → Res D} {S : Mem} (hC : ∀ n : Int, 0 ≤ n → n ≤ 2 ^ c.j → C [.int n] S = .ok (.int (c.f n)) S) : foundF C [.int c.i, .int c.j] S = .ok c.D S := by
  unfold foundF
  have hp := p2pos c.j
  dsimp only
  rw [if_pos ⟨by omega, by omega⟩, hC 0 (by omega) (by omega), f_zero hc]
  dsimp only
  have j1 := jp_pos hc
  have j2 : c.jp = 2 ^ c.j - c.a := rfl
  have a0 := hc.1
  rw [show ((c.j : Int) + 1).toNat = c.j + 1 by omega, Int.toNat_natCast, bis_ok hc hC (c.j + 1) c.j 0 (2 ^ c.j) (by omega) (by omega) (by omega) j1 (by omega) (by omega)]
  dsimp only
  rw [j2, show (2 : Int) ^ c.j - (2 ^ c.j - c.a) = c.a by omega]
  rfl
theorem ev_found {c : Cd} (hc : c.ok) (hj : c.j ≤ 4000) {fe : Sem} {fa fb : Sem} {ρ ρ1 : Env} {S S1 : Mem} {Q : D → Mem → Prop} (e : seeO ρ = ρ1) (ha : Ev (alc fa (alc fb al0) ρ S) fun ds S' => ds = [.int c.i, .int c.j] ∧ S' = S1) (hC : ∀ n : Int, 0 ≤ n → n ≤ 2 ^ c.j → fe (ρ1 ++ [.dat (.int n)]) S1 = .ok (.int (c.f n)) S1) (q : Q c.D S1) : Ev (lamS foundF fe [] 2 (alc fa (alc fb al0)) ρ S) Q := by
  subst e
  unfold lamS
  refine ev_bind (ev_mono ha ?_)
  rintro ds S' ⟨rfl, rfl⟩
  rw [if_pos (show [D.int c.i, D.int c.j].length = 2 from rfl)]
  have h := foundF_card hc hj (C := fun as S => fe (seeO ρ ++ (as ++ []).map .dat) S) (S := S') hC
  rw [h]
  exact .mk q
theorem likes_cd (n : Nat) (c : Cd) : likes (n + 1) c.D := ⟨by show 4 ≤ 100000; decide, fun d hd => by
  have : d ∈ [D.int c.i, D.int c.j, D.int c.a, D.int c.b] := hd
  simp only [List.mem_cons, List.not_mem_nil, or_false] at this
  rcases this with rfl | rfl | rfl | rfl <;> exact likes_int _ _⟩
theorem like_cd {S : Mem} (c : Cd) : M_l_like [c.D, c.D] S = .ok (.bl true) S := like_refl 5 _ (likes_cd 4 c)
theorem er_joined {S : Mem} (c d : Cd) (hc : c.good) (hd : d.good) (h : 1000 < (c.bh d).i ∨ 1000 < (c.bh d).j) : M_joined [c.D, d.D] S = .er ⟨4, none⟩ S := by
  have c1 := hc.i
  have c2 := hc.j
  have d1 := hd.i
  have d2 := hd.j
  refine er_bodyI ?_
  show g_joined [.dat c.D, .dat d.D, .no] S = _
  unfold g_joined
  refine er_sq ?_
  repeat walk_at "d"
  refine ⟨rfl, ev_ok (sp_need_card c hc) ?_⟩
  refine er_sq ?_
  repeat walk_at "d"
  refine ⟨rfl, ev_ok (sp_need_card d hd) ?_⟩
  refine er_sq ?_
  repeat walk_at "d"
  refine ⟨rfl, ev_ok (sp_behind c d (l := 0) hc.ok hd.ok (by omega) (by omega) (by omega) (by omega) (goodN_bd hc.b) (by omega)) ?_⟩
  refine er_sq0 (er_drp (er_callF ?_))
  repeat walk_at "d"
  exact ⟨rfl, er_need_few _ _ _ (by omega) (.inr ⟨_, _, rfl⟩)⟩
theorem sp_l_card {S : Mem} (w : List Nat) (hw : ∀ c ∈ w, sgn c) (hl : w.length ≤ 400) : M_l_card [.str (tx w)] S = .ok (cardOf w).D S := by
  refine ev_out (ev_bodyI ?_)
  show EvS (g_l_card [.dat (.str (tx w)), .no, .no, .no] S) _
  unfold g_l_card
  rw [t_two, t_half]
  generalize hR : (ret _) = R
  repeat walk_at "d"
  refine ⟨_, rfl, ?_⟩
  repeat walk_at "d"
  rw [signs_tx]
  refine evs_nx (fun ρ S' => (∃ z, ρ = [.dat (.str (tx w)), z, .dat (.int (cardOf w).i), .dat (.int (cardOf w).j)]) ∧ S' = S) (evs_loop (fun ds ρ S' => ∃ v u z, w = u ++ v ∧ ds = (v.map fun c => D.str (tx [c])) ∧ ρ = [.dat (.str (tx w)), z, .dat (.int (cardOf u).i), .dat (.int (cardOf u).j)] ∧ S' = S) ?_ ?_ _ _ S ⟨w, [], _, rfl, rfl, rfl, rfl⟩) ?_
  · rintro d ds ρ S' ⟨v, u, z, hwv, e, rfl, rfl⟩
    cases v with
    | nil => cases e
    | cons c v =>
      rw [List.map_cons] at e
      injection e with e1 e2
      subst e1 e2
      have fin : ∀ i j : Int, i = (cardOf (u ++ [c])).i → j = (cardOf (u ++ [c])).j → ∃ v' u' z, w = u' ++ v' ∧ (v.map fun c => D.str (tx [c])) = (v'.map fun c => D.str (tx [c])) ∧ [Sl.dat (.str (tx w)), .dat (.str (tx [c])), .dat (.int i), .dat (.int j)] = [.dat (.str (tx w)), z, .dat (.int (cardOf u').i), .dat (.int (cardOf u').j)] ∧ S' = S' := by
        rintro i j rfl rfl
        exact ⟨v, u ++ [c], _, by rw [hwv]; simp, rfl, rfl, rfl⟩
      have es : cardOf (u ++ [c]) = (cardOf u).st c := by unfold cardOf; rw [List.foldl_append]; rfl
      rw [es] at fin
      generalize cardOf u = k at fin ⊢
      refine evs_tgb rfl ?_
      have hc : sgn c := hw c (by rw [hwv]; simp)
      have n1 : ∀ x y : Nat, x ≠ y → ¬ tx [x] = tx [y] := fun x y h q => h (tx1.mp q)
      rcases hc with rfl | rfl | rfl | rfl
      · have q1 := n1 43 50 (by decide)
        have q2 := n1 43 47 (by decide)
        repeat walk_at "d"
        exact fin _ _ rfl rfl
      · have q1 := n1 45 50 (by decide)
        have q2 := n1 45 47 (by decide)
        repeat walk_at "d"
        exact fin _ _ rfl rfl
      · repeat walk_at "d"
        exact fin _ _ (by show _ = ((k.i + 1 : Nat) : Int); omega) rfl
      · have q1 := n1 47 50 (by decide)
        by_cases q : (0 : Int) < k.i
        · have ek : k.st 47 = ⟨k.i - 1, k.j, k.a, k.b / 2⟩ := by
            unfold Cd.st
            rw [if_neg (by decide), if_neg (by decide), if_pos (by omega)]
          rw [ek] at fin
          repeat walk_at "d"
          exact fin _ _ (by show _ = ((k.i - 1 : Nat) : Int); omega) rfl
        · have ek : k.st 47 = evn 0 (k.j + 1) (k.a + k.b * 2 ^ k.j) 0 := by
            unfold Cd.st
            rw [if_neg (by decide), if_neg (by decide), if_neg (by omega)]
          rw [ek] at fin
          repeat walk_at "d"
          exact fin _ _ (by show _ = ((0 : Nat) : Int); omega) (by show _ = ((k.j + 1 : Nat) : Int); omega)
  · rintro ρ S' ⟨v, u, z, hwv, e, rfl, rfl⟩
    cases v with
    | cons c v => cases e
    | nil =>
      rw [List.append_nil] at hwv
      subst hwv
      exact ⟨⟨_, rfl⟩, rfl⟩
  · rintro ρ S' ⟨⟨z, rfl⟩, rfl⟩
    rw [← hR]
    refine evs_ret (ev_found (cardOf_ok w) ?_ rfl ?_ (fun n h0 h1 => ?_) ⟨rfl, rfl⟩)
    · have := (cardOf_sz w).j
      omega
    · repeat walk_at "d"
      exact ⟨rfl, rfl⟩
    · refine ev_out (ev_callF ?_)
      repeat walk_at "d"
      have bn : Bd n 401 := by
        have h2 := p2le (cardOf_sz w).j
        have h3 : (2 : Int) ^ w.length ≤ 2 ^ 400 := p2le hl
        have h4 : (2 : Int) ^ 400 < 2 ^ 401 := by rw [p2s]; have := p2pos 400; omega
        have e : ((2 ^ 401 : Nat) : Int) = (2 : Int) ^ 401 := by norm_cast
        unfold Bd
        omega
      refine ⟨rfl, ev_ok (sp_l_run w n (k0 := 401) hw bn (by omega) (by omega)) ?_⟩
      rw [cardOf_f]
      exact ⟨rfl, rfl⟩
/-! ### numbers as texts -/
def ntx (n : Int) : List Nat := if n < 0 then 45 :: TL.numL n.natAbs else TL.numL n.natAbs
theorem tx_eta (s : Str) : s = tx s.cps.toList := by unfold tx; simp
theorem num_tx (m : Nat) : Str.ofString (toString ((m : Nat) : Int)) = tx (TL.numL m) := by
  rw [tx_eta (Str.ofString (toString ((m : Nat) : Int)))]
  congr 1
  exact TL.tl_num m
theorem nt_tx (n : Int) : Str.ofString (toString n) = tx (ntx n) := by
  unfold ntx
  by_cases h : n < 0
  · rw [if_pos h]
    obtain ⟨m, rfl⟩ : ∃ m : Nat, n = Int.negSucc m := Int.eq_negSucc_of_lt_zero h
    have e : toString (Int.negSucc m) = "-" ++ toString (((m + 1 : Nat)) : Int) := rfl
    rw [e]
    have e2 : ∀ a b : String, Str.ofString (a ++ b) = Str.ofString a ++ Str.ofString b := fun a b => by
      rw [tx_eta (Str.ofString (a ++ b)), tx_eta (Str.ofString a), tx_eta (Str.ofString b), tx_app, PyProof.Rows.signs_ofString, PyProof.Rows.signs_ofString, PyProof.Rows.signs_ofString, String.toList_append, List.map_append]
    rw [e2, num_tx]
    show ("-" : Str) ++ _ = _
    rw [t_minus, tx_app]
    rfl
  · rw [if_neg h]
    obtain ⟨m, rfl⟩ := Int.eq_ofNat_of_zero_le (by omega : 0 ≤ n)
    exact num_tx m
theorem x_str_int {n : Int} {P : D → Prop} (h : n.natAbs.log2 < 1920) (p : P (.str (tx (ntx n)))) : ∃ d, strD [.int n] = some d ∧ P d := by
  refine ⟨_, ?_, p⟩
  show (if n.natAbs.log2 < 1920 then some (D.str (Str.ofString (toString n))) else none) = _
  rw [if_pos h, nt_tx]
theorem nt_len {n : Int} {k : Nat} (hk : 0 < k) (h : n.natAbs < 10 ^ k) : (ntx n).length ≤ k + 1 ∧ (0 ≤ n → (ntx n).length ≤ k) := by
  have := TL.numL_len hk h
  unfold ntx
  split
  · rw [List.length_cons]
    constructor
    · omega
    · intro; omega
  · constructor
    · omega
    · intro; omega
theorem nt_ne (n : Int) : ntx n ≠ [] := by
  unfold ntx
  split
  · simp
  · exact TL.numL_ne _
theorem nt_free {n : Int} {s : Nat} (h : s ≠ 45 ∧ (s < 48 ∨ 57 < s)) : s ∉ ntx n := by
  unfold ntx
  split
  · intro q
    rcases List.mem_cons.mp q with q | q
    · exact h.1 q
    · exact TL.numL_free h.2 q
  · exact TL.numL_free h.2
theorem nt_read {n : Int} (h : (ntx n).length ≤ 640) : PySem.intText? (tx (ntx n)) = some n := by
  have ec : (tx (ntx n)).cps.toList = ntx n := by simp [tx]
  unfold ntx at *
  by_cases q : n < 0
  · rw [if_pos q] at h ec ⊢
    rw [List.length_cons] at h
    have := PySem.intText_neg (x := tx (45 :: TL.numL n.natAbs)) ec (TL.numL_digits _) (TL.numL_ne _) (by rw [tx_len, List.length_cons]; omega)
    rw [this, TL.numL_val]
    congr 1
    omega
  · rw [if_neg q] at h ec ⊢
    have := PySem.intText_digits (x := tx (TL.numL n.natAbs)) (by rw [ec]; exact TL.numL_digits _) (by rw [ec]; exact TL.numL_ne _) (by rw [tx_len]; omega)
    rw [this, ec, TL.numL_val]
    congr 1
    omega
theorem x_int_str {n : Int} {P : D → Prop} (h : (ntx n).length ≤ 640) (p : P (.int n)) : ∃ d, intD [.str (tx (ntx n))] = some d ∧ P d := by
  refine ⟨_, ?_, p⟩
  show (if (tx (ntx n)).length ≤ 640 then (PySem.intText? (tx (ntx n))).map fun n => D.int n else none) = _
  rw [if_pos (by rw [tx_len]; exact h), nt_read h]
  rfl
theorem numL_head : ∀ n : Nat, 0 < n → ∃ c cs, TL.numL n = c :: cs ∧ c ≠ 48 := by
  intro n
  induction n using Nat.strongRecOn with
  | _ n ih =>
    intro h0
    by_cases h : n < 10
    · rw [TL.numL_lt h]
      exact ⟨_, _, rfl, by omega⟩
    · obtain ⟨c, cs, e, hc⟩ := ih (n / 10) (by omega) (by omega)
      rw [TL.numL_step (by omega), e]
      exact ⟨c, _, rfl, hc⟩
/-! ### joined texts -/
theorem strsOf_txs : ∀ ls : List (List Nat), strsOf (ls.map fun l => .str (tx l)) = some (ls.map tx)
  | [] => rfl
  | l :: ls => by
    rw [List.map_cons]
    show (strsOf (ls.map fun l => .str (tx l))).map _ = _
    rw [strsOf_txs ls]
    rfl
theorem joinD_txs {s : List Nat} {ls : List (List Nat)} (h : (ls.map (·.length)).sum + ls.length * s.length ≤ 10000000) : joinD (tx s) (.lst (ls.map fun l => .str (tx l))) = some (.str (tx (TL.joinL s ls))) := by
  unfold joinD
  dsimp only
  rw [strsOf_txs]
  show (if _ then _ else _) = _
  have e : ((ls.map tx).map (·.length)) = ls.map (·.length) := by
    rw [List.map_map]
    exact List.map_congr_left fun l _ => tx_len l
  rw [if_pos (by rw [e, List.length_map, tx_len]; exact h)]
  congr 2
  rw [tx_eta (Txt.join _ _), TL.join_eq]
  congr 1
  have := TL.tl_join (tx s) (ls.map tx)
  rw [List.map_map] at this
  have e2 : ls.map (TL.tl ∘ tx) = ls := by
    conv => rhs; rw [← List.map_id ls]
    exact List.map_congr_left fun l _ => by simp [tx, TL.tl]
  rw [e2] at this
  have e3 : TL.tl (tx s) = s := by simp [tx, TL.tl]
  rw [e3] at this
  exact this
theorem splitD_join {s : Nat} {ls : List (List Nat)} (hs : s < 256) (hne : ls ≠ []) (hp : ∀ p ∈ ls, s ∉ p) (hl : (TL.joinL [s] ls).length ≤ 1000000) : splitD (tx (TL.joinL [s] ls)) (.str (tx [s])) = some (.lst (ls.map fun l => .str (tx l))) := by
  have e : tx (TL.joinL [s] ls) = Txt.join (tx [s]) (ls.map tx) := by
    rw [tx_eta (Txt.join _ _), TL.join_eq]
    congr 1
    have := TL.tl_join (tx [s]) (ls.map tx)
    rw [List.map_map] at this
    have e2 : ls.map (TL.tl ∘ tx) = ls := by
      conv => rhs; rw [← List.map_id ls]
      exact List.map_congr_left fun l _ => by simp [tx, TL.tl]
    rw [e2] at this
    have e3 : TL.tl (tx [s]) = [s] := by simp [tx, TL.tl]
    rw [e3] at this
    exact this.symm
  unfold splitD
  dsimp only
  rw [if_pos ⟨by rfl, by rw [tx_len]; exact hl⟩, e, TL.split_join (s := s) (S := []) (by simp [tx, TL.tl]) (by simp [tx]; exact hs) (by simpa using hne) (fun p hp' => by
    obtain ⟨l, hl, rfl⟩ := List.mem_map.mp hp'
    have e3 : TL.tl (tx l) = l := by simp [tx, TL.tl]
    rw [e3]
    exact hp l hl), List.map_map]
  rfl
theorem t_zero : (("0" : Str)) = tx [48] := by decide +kernel
theorem t_mzero : (("-0" : Str)) = tx [45, 48] := by decide +kernel
theorem t_figs : (("0123456789" : Str)) = tx [48, 49, 50, 51, 52, 53, 54, 55, 56, 57] := by decide +kernel
theorem t_space : ((" " : Str)) = tx [32] := by decide +kernel
theorem t_line : (("\n" : Str)) = tx [10] := by decide +kernel
theorem x_ix0 {S : Mem} {c : Nat} {cs : List Nat} {P : D → Prop} (hl : (c :: cs).length ≤ 302) (h : P (.str (tx [c]))) : ∃ d, ixM S (.str (tx (c :: cs))) (.int 0) = some d ∧ P d := by
  have e : atI (c :: cs) 0 = some c := by
    unfold atI ixN
    simp
  refine ⟨.str (tx [c]), ?_, h⟩
  show idxD (.str (tx (c :: cs))) (.int 0) = _
  unfold idxD
  dsimp only
  rw [if_pos (by rw [tx_len]; omega)]
  show (atI (c :: cs) 0).map _ = _
  rw [e]
  rfl
theorem dig_mem {c : Nat} (h : 48 ≤ c ∧ c ≤ 57) : c ∈ [48, 49, 50, 51, 52, 53, 54, 55, 56, 57] := by
  simp only [List.mem_cons, List.not_mem_nil, or_false]
  omega
theorem sp_is_number {S : Mem} (m : Nat) (h : (TL.numL m).length ≤ 302) : M_is_number [.str (tx (TL.numL m))] S = .ok (.bl true) S := by
  refine ev_out (ev_bodyI ?_)
  show EvS (g_is_number [.dat (.str (tx (TL.numL m))), .no] S) _
  unfold g_is_number
  rw [t_zero, t_figs]
  have dg := TL.numL_digits m
  have ne := TL.numL_ne m
  have hd : m = 0 ∧ TL.numL m = [48] ∨ ∃ c cs, TL.numL m = c :: cs ∧ c ≠ 48 := by
    rcases Nat.eq_zero_or_pos m with q | q
    · subst q
      exact .inl ⟨rfl, TL.numL_lt (by decide)⟩
    · exact .inr (numL_head m q)
  have l0 : 0 < (TL.numL m).length := List.length_pos_iff.mpr ne
  generalize TL.numL m = w at *
  refine evs_sq (evs_if_f (ev_orr_f ?_ ?_) (evs_skip ?_))
  · repeat walk_at "d"
    · rw [tx_len]; omega
    rw [tx_len]
    repeat walk_at "d"
    exact ⟨true, congrArg D.bl (decide_eq_true (by omega)), rfl, rfl⟩
  · repeat walk_at "d"
    rw [signs_tx]
    refine ev_comp_filter (fun _ => false) _ [] (by simp; omega) (fun d hdm => ?_) ?_
    · obtain ⟨c, hc, rfl⟩ := List.mem_map.mp hdm
      refine ev_lcStep rfl ?_
      repeat walk_at "d"
      refine x_notin1 ?_
      rw [decide_eq_true (dig_mem (dg c hc))]
      repeat walk_at "d"
      exact ⟨rfl, rfl⟩
    · rw [List.nil_append, List.filter_eq_nil_iff.mpr (by simp)]
      repeat walk_at "d"
      refine x_nel (l := []) (m := []) ?_
      exact ⟨rfl, rfl⟩
  · rcases hd with ⟨-, rfl⟩ | ⟨c, cs, rfl, hc⟩
    · repeat walk_at "d"
      exact ⟨rfl, rfl⟩
    · have e1 : ¬ tx (c :: cs) = tx [48] := fun q => hc (by
        have := congrArg (fun s : Str => s.cps.toList) q
        simp [tx] at this
        exact this.1)
      have e2 : ¬ tx [c] = tx [48] := fun q => hc (tx1.mp q)
      repeat walk_at "d"
      refine x_ix0 (by simpa using h) ?_
      repeat walk_at "d"
      exact ⟨congrArg D.bl (by rw [decide_eq_false e2]; rfl), rfl⟩
def parts (c : Cd) : List (List Nat) := [ntx c.i, ntx c.j, ntx c.a, ntx c.b]
def rowT (c : Cd) : List Nat := TL.joinL [32] (parts c)
theorem ntx_nn {n : Int} (h : 0 ≤ n) : ntx n = TL.numL n.natAbs := by
  unfold ntx
  rw [if_neg (by omega)]
theorem p1000 : (2 : Nat) ^ 1000 < 10 ^ 302 := by decide +kernel
structure PtOk (c : Cd) : Prop where
  i : (ntx c.i).length ≤ 302 ∧ (c.i : Int).natAbs.log2 < 1920
  j : (ntx c.j).length ≤ 302 ∧ (c.j : Int).natAbs.log2 < 1920
  a : (ntx c.a).length ≤ 302 ∧ c.a.natAbs.log2 < 1920
  b : (ntx c.b).length ≤ 303 ∧ (TL.numL c.b.natAbs).length ≤ 302 ∧ c.b.natAbs.log2 < 1920
theorem log_lt {n k : Nat} (h : n < 2 ^ k) (hk : k ≤ 1919) : n.log2 < 1920 := by
  by_cases q : n = 0
  · subst q; decide
  · have := (Nat.log2_lt q).mpr h
    omega
theorem pt_ok {c : Cd} (h : c.good) : PtOk c := by
  have nn : ∀ n : Int, 0 ≤ n → n.natAbs < 2 ^ 1000 → (ntx n).length ≤ 302 ∧ n.natAbs.log2 < 1920 := fun n h0 h1 =>
    ⟨(nt_len (k := 302) (by decide) (Nat.lt_trans h1 p1000)).2 h0, log_lt h1 (by decide)⟩
  have k1 : (1000 : Nat) < 2 ^ 1000 := by decide +kernel
  have hi := h.i
  have hj := h.j
  have ha := h.ok
  have a2 : c.a < 2 ^ 1000 := Int.lt_of_lt_of_le ha.2 (p2le hj)
  have a3 : c.a.natAbs < 2 ^ 1000 := by
    have e : ((2 ^ 1000 : Nat) : Int) = (2 : Int) ^ 1000 := by norm_cast
    have := ha.1
    omega
  have hb := goodN_bd h.b
  have b3 : c.b.natAbs < 2 ^ 1000 := Nat.lt_of_lt_of_le hb (Nat.pow_le_pow_right (by decide) (by decide))
  exact ⟨nn _ (by omega) (by omega), nn _ (by omega) (by omega), nn _ ha.1 a3, (nt_len (k := 302) (by decide) (Nat.lt_trans b3 p1000)).1, TL.numL_len (by decide) (Nat.lt_trans b3 p1000), log_lt b3 (by decide)⟩
theorem sp_is_row {S : Mem} (c : Cd) (h : c.good) : M_is_row [.lst ((parts c).map fun l => .str (tx l))] S = .ok (.bl true) S := by
  obtain ⟨⟨i1, i2⟩, ⟨j1, j2⟩, ⟨a1, a2⟩, ⟨b1, b2, b3⟩⟩ := pt_ok h
  have a0 := h.ok.1
  have ei := ntx_nn (n := c.i) (by omega)
  have ej := ntx_nn (n := c.j) (by omega)
  have ea := ntx_nn a0
  refine ev_out (ev_bodyI ?_)
  show EvS (g_is_row [.dat (.lst [.str (tx (ntx c.i)), .str (tx (ntx c.j)), .str (tx (ntx c.a)), .str (tx (ntx c.b))]), .no, .no] S) _
  unfold g_is_row
  rw [ei] at i1
  rw [ej] at j1
  rw [ea] at a1
  rw [ei, ej, ea]
  refine evs_sq (evs_if_f (ev_orr_f ?_ ?_) (evs_skip ?_))
  · repeat walk_at "d"
    exact ⟨rfl, rfl⟩
  · repeat walk_at "d"
    refine x_some (v := .lst [.str (tx (TL.numL (c.i : Int).natAbs)), .str (tx (TL.numL (c.j : Int).natAbs)), .str (tx (TL.numL c.a.natAbs))]) rfl ?_
    repeat walk_at "d"
    refine ev_comp_filter (fun _ => false) _ [] (by simp) (fun d hdm => ?_) ?_
    · have : ∃ m, d = .str (tx (TL.numL m)) ∧ (TL.numL m).length ≤ 302 := by
        simp only [List.mem_cons, List.not_mem_nil, or_false] at hdm
        rcases hdm with rfl | rfl | rfl
        · exact ⟨_, rfl, i1⟩
        · exact ⟨_, rfl, j1⟩
        · exact ⟨_, rfl, a1⟩
      obtain ⟨m, rfl, hm⟩ := this
      refine ev_lcStep rfl ?_
      repeat walk_at "d"
      refine ⟨rfl, ev_ok (sp_is_number m hm) ?_⟩
      repeat walk_at "d"
      exact ⟨rfl, rfl⟩
    · rw [List.nil_append, List.filter_eq_nil_iff.mpr (by simp)]
      repeat walk_at "d"
      refine x_nel (l := []) (m := []) ?_
      exact ⟨rfl, rfl⟩
  · rw [t_minus, t_mzero]
    unfold ntx at b1 ⊢
    by_cases q : c.b < 0
    · rw [if_pos q] at b1 ⊢
      obtain ⟨x, xs, ex, hx⟩ := numL_head c.b.natAbs (by omega)
      have e0 : tx (List.take (Int.toNat 1) (45 :: TL.numL c.b.natAbs)) = tx [45] := rfl
      rw [List.length_cons] at b1
      repeat walk_at "d"
      refine x_slto (cs := 45 :: TL.numL c.b.natAbs) (k := 1) (by decide) (by rw [List.length_cons]; omega) ?_
      repeat walk_at "d"
      refine x_slfr (cs := 45 :: TL.numL c.b.natAbs) (k := 1) (by decide) (by rw [List.length_cons]; omega) ?_
      repeat walk_at "d"
      refine ⟨rfl, ev_ok (sp_is_number _ b2) ?_⟩
      have e2 : ¬ tx (45 :: TL.numL c.b.natAbs) = tx [45, 48] := fun q => hx (by
        have := congrArg (fun s : Str => s.cps.toList) q
        rw [ex] at this
        simp [tx] at this
        exact this.1)
      repeat walk_at "d"
      exact ⟨congrArg D.bl (by rw [decide_eq_false e2]; rfl), rfl⟩
    · rw [if_neg q] at b1 ⊢
      have ne := TL.numL_ne c.b.natAbs
      have dg := TL.numL_digits c.b.natAbs
      have sp := fun S => sp_is_number (S := S) c.b.natAbs b2
      generalize TL.numL c.b.natAbs = w at *
      cases w with
      | nil => exact absurd rfl ne
      | cons x xs =>
        have hx := dg x (by simp)
        have e2 : ¬ tx ((x :: xs).take (Int.toNat 1)) = tx [45] := fun q => by
          have := congrArg (fun s : Str => s.cps.toList) q
          simp [tx] at this
          omega
        repeat walk_at "d"
        refine x_slto (cs := x :: xs) (k := 1) (by decide) (by omega) ?_
        repeat walk_at "d"
        refine ⟨rfl, ev_ok (sp _) ?_⟩
        exact ⟨rfl, rfl⟩
theorem joinL_len (s : Nat) : ∀ ls : List (List Nat), (TL.joinL [s] ls).length ≤ (ls.map (·.length)).sum + ls.length
  | [] => by simp [TL.joinL]
  | [p] => by simp [TL.joinL]
  | p :: q :: r => by
    have ih := joinL_len s (q :: r)
    show (p ++ ([s] ++ TL.joinL [s] (q :: r))).length ≤ _
    rw [List.length_append, List.length_append, List.map_cons, List.sum_cons, List.length_cons]
    simp only [List.length_cons, List.length_nil] at ih ⊢
    omega
theorem rowT_len {c : Cd} (h : PtOk c) : (rowT c).length ≤ 1213 := by
  have := joinL_len 32 (parts c)
  have h1 := h.i.1
  have h2 := h.j.1
  have h3 := h.a.1
  have h4 := h.b.1
  have e : ((parts c).map (·.length)).sum = (ntx c.i).length + ((ntx c.j).length + ((ntx c.a).length + ((ntx c.b).length + 0))) := rfl
  rw [e] at this
  have e2 : (parts c).length = 4 := rfl
  unfold rowT
  omega
theorem rowT_free {c : Cd} : 10 ∉ rowT c := by
  intro q
  have f : ∀ n : Int, 10 ∉ ntx n := fun n => nt_free ⟨by decide, by decide⟩
  have e : rowT c = ntx c.i ++ ([32] ++ (ntx c.j ++ ([32] ++ (ntx c.a ++ ([32] ++ ntx c.b))))) := rfl
  rw [e] at q
  simp only [List.mem_append, List.mem_singleton] at q
  rcases q with q | q | q | q | q | q | q
  · exact f _ q
  · cases q
  · exact f _ q
  · cases q
  · exact f _ q
  · cases q
  · exact f _ q
theorem rowT_ne (c : Cd) : rowT c ≠ [] := by
  have e : rowT c = ntx c.i ++ ([32] ++ (ntx c.j ++ ([32] ++ (ntx c.a ++ ([32] ++ ntx c.b))))) := rfl
  rw [e]
  simp
def textT (cs : List Cd) : List Nat := TL.joinL [10] (cs.map rowT)
theorem rows_sum : ∀ {cs : List Cd}, (∀ c ∈ cs, c.good) → ((cs.map rowT).map (·.length)).sum ≤ cs.length * 1213
  | [], _ => by simp
  | c :: cs, h => by
    have ih := rows_sum fun x hx => h x (List.mem_cons_of_mem _ hx)
    have := rowT_len (pt_ok (h c (by simp)))
    rw [List.map_cons, List.map_cons, List.sum_cons, List.length_cons, Nat.add_mul]
    omega
theorem sp_written {S : Mem} (cs : List Cd) (hg : ∀ c ∈ cs, c.good) (hl : cs.length ≤ 100) : M_written [.lst (cs.map Cd.D)] S = .ok (.str (tx (textT cs))) S := by
  refine ev_out (ev_bodyI ?_)
  show EvS (g_written [.dat (.lst (cs.map Cd.D)), .no, .no] S) _
  unfold g_written
  rw [t_line, t_space]
  refine evs_sq ?_
  repeat walk_at "d"
  refine evs_nx (fun ρ S' => ∃ y z, ρ = [.dat (.lst (cs.map Cd.D)), y, z] ∧ S' = S) (evs_loop (fun ds ρ S' => (∀ d ∈ ds, ∃ c : Cd, d = c.D ∧ c.good) ∧ ∃ y z, ρ = [.dat (.lst (cs.map Cd.D)), y, z] ∧ S' = S) ?_ ?_ _ _ S ⟨fun d hd => ?_, _, _, rfl, rfl⟩) ?_
  · rintro d ds ρ S' ⟨hd, y, z, rfl, rfl⟩
    obtain ⟨c, rfl, gc⟩ := hd d (by simp)
    refine evs_tgb rfl ?_
    repeat walk_at "d"
    refine ⟨rfl, ev_ok (sp_need_card c gc) ?_⟩
    exact ⟨fun d hd' => hd d (by simp [hd']), _, _, rfl, rfl⟩
  · rintro ρ S' ⟨hd, y, z, rfl, rfl⟩
    exact ⟨_, _, rfl, rfl⟩
  · obtain ⟨c, hc, rfl⟩ := List.mem_map.mp hd
    exact ⟨c, rfl, hg c hc⟩
  · rintro ρ S' ⟨y, z, rfl, rfl⟩
    repeat walk_at "d"
    refine evs_comp (fun ds acc S1 => ∃ u v, cs = u ++ v ∧ ds = v.map Cd.D ∧ acc = (u.map rowT).map (fun l => D.str (tx l)) ∧ S1 = S') ?_ ?_ _ _ S' ⟨[], cs, rfl, rfl, rfl, rfl⟩
    · rintro d ds acc S1 ⟨u, v, e, ev, rfl, rfl⟩
      cases v with
      | nil => cases ev
      | cons c v =>
        rw [List.map_cons] at ev
        injection ev with e1 e2
        subst e1 e2
        have gc := hg c (by rw [e]; simp)
        have pk := pt_ok gc
        refine ev_lcStep rfl ?_
        repeat walk_at "d"
        refine ⟨_, rfl, ?_⟩
        refine ev_comp_cons (by simp) ?_
        refine ev_lcStep rfl ?_
        repeat walk_at "d"
        refine x_str_int pk.i.2 ?_
        refine ⟨_, rfl, ?_⟩
        refine ev_comp_cons (by simp) ?_
        refine ev_lcStep rfl ?_
        repeat walk_at "d"
        refine x_str_int pk.j.2 ?_
        refine ⟨_, rfl, ?_⟩
        refine ev_comp_cons (by simp) ?_
        refine ev_lcStep rfl ?_
        repeat walk_at "d"
        refine x_str_int pk.a.2 ?_
        refine ⟨_, rfl, ?_⟩
        refine ev_comp_cons (by simp) ?_
        refine ev_lcStep rfl ?_
        repeat walk_at "d"
        refine x_str_int pk.b.2.2 ?_
        refine ⟨_, rfl, ?_⟩
        refine ev_comp_nil ?_
        refine ⟨_, joinD_txs (s := [32]) (ls := parts c) ?_, ?_⟩
        · have h1 := pk.i.1
          have h2 := pk.j.1
          have h3 := pk.a.1
          have h4 := pk.b.1
          show (ntx c.i).length + ((ntx c.j).length + ((ntx c.a).length + ((ntx c.b).length + 0))) + 4 * 1 ≤ 10000000
          omega
        have hu : u.length ≤ 100 := by rw [e, List.length_append] at hl; omega
        exact ⟨by simp; omega, u ++ [c], v, by rw [e]; simp, rfl, by simp [rowT], rfl⟩
    · rintro acc S1 ⟨u, v, e, ev, rfl, rfl⟩
      have : v = [] := by
        cases v with
        | nil => rfl
        | cons => cases ev
      subst this
      rw [List.append_nil] at e
      subst e
      have := rows_sum hg
      refine ⟨_, joinD_txs (s := [10]) (ls := cs.map rowT) ?_, rfl, rfl⟩
      rw [List.length_map]
      show _ + cs.length * 1 ≤ 10000000
      omega
theorem ev_itEL {f : Sem} {ρ : Env} {S : Mem} {Q : List D → Mem → Prop} (h : Ev (f ρ S) fun d S1 => ∃ ds, d = .lst ds ∧ Q (enumL ds) S1) : Ev (itEL f ρ S) Q := by
  unfold itEL
  refine ev_bind (ev_mono h ?_)
  rintro d S1 ⟨ds, rfl, q⟩
  exact .mk q
theorem evs_tryN {g : SemS} {ρ : Env} {S : Mem} {P : Po} (h : EvS (g ρ S) P) : EvS (tryN g ρ S) P := by
  unfold tryN
  cases e : g ρ S with
  | er => rw [e] at h; cases h
  | _ => rw [e] at h; exact h
theorem textT_cons (c : Cd) (cs : List Cd) : textT (c :: cs) ≠ [] := by
  unfold textT
  cases cs with
  | nil => exact rowT_ne c
  | cons d cs =>
    show rowT c ++ ([10] ++ TL.joinL [10] ((d :: cs).map rowT)) ≠ []
    simp
theorem sp_read {S : Mem} (cs : List Cd) (hg : ∀ c ∈ cs, c.good) (hl : cs.length ≤ 100) : M_read [.str (tx (textT cs))] S = .ok (.lst (cs.map Cd.D)) S := by
  refine ev_out (ev_bodyI ?_)
  show EvS (g_read [.dat (.str (tx (textT cs))), .no, .no, .no, .no, .no, .no, .no] S) _
  unfold g_read
  rw [t_line, t_space, t_empty]
  generalize hB : (sq (asg 5 _) _) = B
  refine evs_sq ?_
  repeat walk_at "d"
  refine ev_itEL ?_
  have body : ∀ (ds : List D), ds = (cs.map rowT).map (fun l => D.str (tx l)) → EvS (loop (tgb (tgT 2 (tgc (tgN 3) (tgc (tgN 4) tg0))) B) (enumL ds) [.dat (.str (tx (textT cs))), .no, .own [], .no, .no, .no, .no, .no] S) ⟨fun ρ S' => (∃ y1 y3 y4 y5 y6 y7, ρ = [.dat (.str (tx (textT cs))), y1, .own (cs.map Cd.D), y3, y4, y5, y6, y7]) ∧ S' = S, fun _ _ => False, fun _ _ => False, fun _ _ => False⟩ := by
    rintro ds rfl
    refine evs_loop (fun ds ρ S' => ∃ u v k y1 y3 y4 y5 y6 y7, cs = u ++ v ∧ ds = (((v.map rowT).map fun l => D.str (tx l)).zipIdx k).map (fun p => D.tup [.int (p.2 : Nat), p.1]) ∧ ρ = [.dat (.str (tx (textT cs))), y1, .own (u.map Cd.D), y3, y4, y5, y6, y7] ∧ S' = S) ?_ ?_ _ _ S ⟨[], cs, 0, _, _, _, _, _, _, rfl, rfl, rfl, rfl⟩
    · rintro d ds ρ S' ⟨u, v, k, y1, y3, y4, y5, y6, y7, e, ev, rfl, rfl⟩
      cases v with
      | nil => cases ev
      | cons c v =>
        rw [List.map_cons, List.map_cons, zipIdx_cons', List.map_cons] at ev
        injection ev with e1 e2
        subst e1 e2
        have gc := hg c (by rw [e]; simp)
        have pk := pt_ok gc
        have rl := rowT_len pk
        refine evs_tgb rfl ?_
        rw [← hB]
        repeat walk_at "d"
        have sp := splitD_join (s := 32) (ls := parts c) (by decide) (by simp [parts]) (fun p hp => by
          have f : ∀ n : Int, 32 ∉ ntx n := fun n => nt_free ⟨by decide, by decide⟩
          simp only [parts, List.mem_cons, List.not_mem_nil, or_false] at hp
          rcases hp with rfl | rfl | rfl | rfl <;> exact f _) (by show (rowT c).length ≤ _; omega)
        refine ⟨_, sp, ?_⟩
        repeat walk_at "d"
        refine ⟨rfl, ev_ok (sp_is_row c gc) ?_⟩
        repeat walk_at "d"
        have it : ∀ (n : Int) (rest : List D) (acc : List D) (QL : List D → Mem → Prop), (ntx n).length ≤ 303 → acc.length < 1000 → Ev (compL (lcStep [.dat (.str (tx (textT cs))), y1, .own (u.map Cd.D), .dat (.int k), .dat (.str (tx (rowT c))), .dat (.lst ((parts c).map fun l => .str (tx l))), y6, y7] (tgN 7) [7] (cc (.bl true)) (cal intD (alc (vr 7) al0))) rest (acc ++ [.int n]) S') QL → Ev (compL (lcStep [.dat (.str (tx (textT cs))), y1, .own (u.map Cd.D), .dat (.int k), .dat (.str (tx (rowT c))), .dat (.lst ((parts c).map fun l => .str (tx l))), y6, y7] (tgN 7) [7] (cc (.bl true)) (cal intD (alc (vr 7) al0))) (.str (tx (ntx n)) :: rest) acc S') QL := by
          intro n rest acc QL hn ha q
          refine ev_comp_cons (by omega) ?_
          refine ev_lcStep rfl ?_
          repeat walk_at "d"
          refine x_int_str (by omega) ?_
          exact ⟨_, rfl, q⟩
        refine it c.i _ _ _ (by have := pk.i.1; omega) (by simp) ?_
        refine it c.j _ _ _ (by have := pk.j.1; omega) (by simp) ?_
        refine it c.a _ _ _ (by have := pk.a.1; omega) (by simp) ?_
        refine it c.b _ _ _ (by have := pk.b.1; omega) (by simp) ?_
        refine ev_comp_nil ?_
        repeat walk_at "d"
        refine x_some (v := c.D) rfl ?_
        refine evs_sq (evs_tryN ?_)
        repeat walk_at "d"
        refine ⟨rfl, ev_ok (sp_need_card c gc) ?_⟩
        repeat walk_at "d"
        have hu : u.length ≤ 100 := by rw [e, List.length_append] at hl; omega
        rw [show u.map Cd.D ++ [c.D] = (u ++ [c]).map Cd.D from by simp]
        exact ⟨by rw [List.length_map]; omega, u ++ [c], v, k + 1, y1, _, _, _, _, _, by rw [e]; simp, rfl, rfl, rfl⟩
    · rintro ρ S' ⟨u, v, k, y1, y3, y4, y5, y6, y7, e, ev, rfl, rfl⟩
      have : v = [] := by
        cases v with
        | nil => rfl
        | cons => cases ev
      subst this
      rw [List.append_nil] at e
      subst e
      exact ⟨⟨_, _, _, _, _, _, rfl⟩, rfl⟩
  have fin : ∀ ds, ds = (cs.map rowT).map (fun l => D.str (tx l)) → EvS (loop (tgb (tgT 2 (tgc (tgN 3) (tgc (tgN 4) tg0))) B) (enumL ds) [.dat (.str (tx (textT cs))), .no, .own [], .no, .no, .no, .no, .no] S) ⟨fun ρ S_1 => EvS (frzS 2 (ret (vr 2)) ρ S_1) (pb fun a S' => a = D.lst (List.map Cd.D cs) ∧ S' = S), (pb fun a S' => a = D.lst (List.map Cd.D cs) ∧ S' = S).rt, (pb fun a S' => a = D.lst (List.map Cd.D cs) ∧ S' = S).bk, (pb fun a S' => a = D.lst (List.map Cd.D cs) ∧ S' = S).ct⟩ := by
    intro ds hds
    refine evs_nx _ (body ds hds) ?_
    rintro ρ S' ⟨⟨y1, y3, y4, y5, y6, y7, rfl⟩, rfl⟩
    repeat walk_at "d"
    exact ⟨rfl, rfl⟩
  by_cases hc : cs = []
  · have hb : tx (textT cs) = tx [] := by rw [hc]; rfl
    repeat walk_at "d"
    exact fin _ (by rw [hc]; rfl)
  · obtain ⟨c, cs', rfl⟩ : ∃ c cs', cs = c :: cs' := by
      cases cs with
      | nil => exact absurd rfl hc
      | cons c cs' => exact ⟨c, cs', rfl⟩
    have hb : ¬ tx (textT (c :: cs')) = tx [] := fun q => textT_cons c cs' (by
      have := congrArg (fun s : Str => s.cps.toList) q
      simpa [tx] using this)
    have rs := rows_sum hg
    have jl := joinL_len 10 ((c :: cs').map rowT)
    rw [List.length_map] at jl
    have sp := splitD_join (s := 10) (ls := (c :: cs').map rowT) (by decide) (by simp) (fun p hp => by
      obtain ⟨x, _, rfl⟩ := List.mem_map.mp hp
      exact rowT_free) (by omega)
    repeat walk_at "d"
    refine ⟨_, sp, ?_⟩
    repeat walk_at "d"
    exact fin _ rfl
theorem evs_retO {i : Nat} {ρ : Env} {S : Mem} {P : Po} {ds : List D} (e : ρ[i]? = some (.own ds)) (q : P.rt (.lst ds) S) : EvS (retO i ρ S) P := by
  unfold retO
  rw [e]
  exact .rt q
theorem ev_calP {n : Nat} {F : Fn} {fs : SemL} {ρ : Env} {S : Mem} {Q : D → Mem → Prop} (h : Ev (fs ρ S) fun ds S1 => ds.length = n ∧ noObjL ds = true ∧ ∃ d, F ds [] = .ok d [] ∧ smallD d = true ∧ Q d S1) : Ev (calP n F fs ρ S) Q := by
  unfold calP
  refine ev_bind (ev_mono h ?_)
  rintro ds S1 ⟨h1, h2, d, h3, h4, q⟩
  rw [if_pos ⟨h1, h2⟩, h3]
  dsimp only
  rw [if_pos h4]
  exact .mk q
theorem sp_read2 {S : Mem} (cs : List Cd) (hg : ∀ c ∈ cs, c.good) (hl : cs.length ≤ 100) : M_read_2 [.str (tx (textT cs))] S = .ok (.lst (cs.map Cd.D)) S := by
  refine ev_out (ev_bodyF ?_)
  show EvS (g_read_2 [.dat (.str (tx (textT cs))), .no, .no, .no, .no, .no, .no, .no] S) _
  unfold g_read_2
  rw [t_line, t_space, t_empty]
  generalize hB : (sq (asg 5 _) _) = B
  refine evs_sq ?_
  repeat walk_at "d"
  refine ev_itEL ?_
  have body : ∀ (ds : List D), ds = (cs.map rowT).map (fun l => D.str (tx l)) → EvS (loop (tgb (tgT 2 (tgc (tgN 3) (tgc (tgN 4) tg0))) B) (enumL ds) [.dat (.str (tx (textT cs))), .no, .own [], .no, .no, .no, .no, .no] S) ⟨fun ρ S' => (∃ y1 y3 y4 y5 y6 y7, ρ = [.dat (.str (tx (textT cs))), y1, .own (cs.map Cd.D), y3, y4, y5, y6, y7]) ∧ S' = S, fun _ _ => False, fun _ _ => False, fun _ _ => False⟩ := by
    rintro ds rfl
    refine evs_loop (fun ds ρ S' => ∃ u v k y1 y3 y4 y5 y6 y7, cs = u ++ v ∧ ds = (((v.map rowT).map fun l => D.str (tx l)).zipIdx k).map (fun p => D.tup [.int (p.2 : Nat), p.1]) ∧ ρ = [.dat (.str (tx (textT cs))), y1, .own (u.map Cd.D), y3, y4, y5, y6, y7] ∧ S' = S) ?_ ?_ _ _ S ⟨[], cs, 0, _, _, _, _, _, _, rfl, rfl, rfl, rfl⟩
    · rintro d ds ρ S' ⟨u, v, k, y1, y3, y4, y5, y6, y7, e, ev, rfl, rfl⟩
      cases v with
      | nil => cases ev
      | cons c v =>
        rw [List.map_cons, List.map_cons, zipIdx_cons', List.map_cons] at ev
        injection ev with e1 e2
        subst e1 e2
        have gc := hg c (by rw [e]; simp)
        have pk := pt_ok gc
        have rl := rowT_len pk
        refine evs_tgb rfl ?_
        rw [← hB]
        repeat walk_at "d"
        have sp := splitD_join (s := 32) (ls := parts c) (by decide) (by simp [parts]) (fun p hp => by
          have f : ∀ n : Int, 32 ∉ ntx n := fun n => nt_free ⟨by decide, by decide⟩
          simp only [parts, List.mem_cons, List.not_mem_nil, or_false] at hp
          rcases hp with rfl | rfl | rfl | rfl <;> exact f _) (by show (rowT c).length ≤ _; omega)
        refine ⟨_, sp, ?_⟩
        repeat walk_at "d"
        refine ⟨rfl, ev_ok (sp_is_row c gc) ?_⟩
        repeat walk_at "d"
        have it : ∀ (n : Int) (rest : List D) (acc : List D) (QL : List D → Mem → Prop), (ntx n).length ≤ 303 → acc.length < 1000 → Ev (compL (lcStep [.dat (.str (tx (textT cs))), y1, .own (u.map Cd.D), .dat (.int k), .dat (.str (tx (rowT c))), .dat (.lst ((parts c).map fun l => .str (tx l))), y6, y7] (tgN 7) [7] (cc (.bl true)) (cal intD (alc (vr 7) al0))) rest (acc ++ [.int n]) S') QL → Ev (compL (lcStep [.dat (.str (tx (textT cs))), y1, .own (u.map Cd.D), .dat (.int k), .dat (.str (tx (rowT c))), .dat (.lst ((parts c).map fun l => .str (tx l))), y6, y7] (tgN 7) [7] (cc (.bl true)) (cal intD (alc (vr 7) al0))) (.str (tx (ntx n)) :: rest) acc S') QL := by
          intro n rest acc QL hn ha q
          refine ev_comp_cons (by omega) ?_
          refine ev_lcStep rfl ?_
          repeat walk_at "d"
          refine x_int_str (by omega) ?_
          exact ⟨_, rfl, q⟩
        refine it c.i _ _ _ (by have := pk.i.1; omega) (by simp) ?_
        refine it c.j _ _ _ (by have := pk.j.1; omega) (by simp) ?_
        refine it c.a _ _ _ (by have := pk.a.1; omega) (by simp) ?_
        refine it c.b _ _ _ (by have := pk.b.1; omega) (by simp) ?_
        refine ev_comp_nil ?_
        repeat walk_at "d"
        refine x_some (v := c.D) rfl ?_
        refine evs_sq (evs_tryN ?_)
        repeat walk_at "d"
        refine ⟨rfl, ev_ok (sp_need_card c gc) ?_⟩
        repeat walk_at "d"
        have hu : u.length ≤ 100 := by rw [e, List.length_append] at hl; omega
        rw [show u.map Cd.D ++ [c.D] = (u ++ [c]).map Cd.D from by simp]
        exact ⟨by rw [List.length_map]; omega, u ++ [c], v, k + 1, y1, _, _, _, _, _, by rw [e]; simp, rfl, rfl, rfl⟩
    · rintro ρ S' ⟨u, v, k, y1, y3, y4, y5, y6, y7, e, ev, rfl, rfl⟩
      have : v = [] := by
        cases v with
        | nil => rfl
        | cons => cases ev
      subst this
      rw [List.append_nil] at e
      subst e
      exact ⟨⟨_, _, _, _, _, _, rfl⟩, rfl⟩
  have fin : ∀ ds, ds = (cs.map rowT).map (fun l => D.str (tx l)) → EvS (loop (tgb (tgT 2 (tgc (tgN 3) (tgc (tgN 4) tg0))) B) (enumL ds) [.dat (.str (tx (textT cs))), .no, .own [], .no, .no, .no, .no, .no] S) ⟨fun ρ S_1 => EvS (retO 2 ρ S_1) ⟨fun _ _ => False, fun a S' => a = D.lst (List.map Cd.D cs) ∧ S' = S, fun _ _ => False, fun _ _ => False⟩, fun a S' => a = D.lst (List.map Cd.D cs) ∧ S' = S, fun _ _ => False, fun _ _ => False⟩ := by
    intro ds hds
    refine evs_nx _ (body ds hds) ?_
    rintro ρ S' ⟨⟨y1, y3, y4, y5, y6, y7, rfl⟩, rfl⟩
    exact evs_retO rfl ⟨rfl, rfl⟩
  by_cases hc : cs = []
  · have hb : tx (textT cs) = tx [] := by rw [hc]; rfl
    repeat walk_at "d"
    exact fin _ (by rw [hc]; rfl)
  · obtain ⟨c, cs', rfl⟩ : ∃ c cs', cs = c :: cs' := by
      cases cs with
      | nil => exact absurd rfl hc
      | cons c cs' => exact ⟨c, cs', rfl⟩
    have hb : ¬ tx (textT (c :: cs')) = tx [] := fun q => textT_cons c cs' (by
      have := congrArg (fun s : Str => s.cps.toList) q
      simpa [tx] using this)
    have rs := rows_sum hg
    have jl := joinL_len 10 ((c :: cs').map rowT)
    rw [List.length_map] at jl
    have sp := splitD_join (s := 10) (ls := (c :: cs').map rowT) (by decide) (by simp) (fun p hp => by
      obtain ⟨x, _, rfl⟩ := List.mem_map.mp hp
      exact rowT_free) (by omega)
    repeat walk_at "d"
    refine ⟨_, sp, ?_⟩
    repeat walk_at "d"
    exact fin _ rfl
theorem goodN_bd90 {n : Int} (h : Bd n 90) : goodN n := by
  unfold Bd at h
  have : (2 : Nat) ^ 90 = 1237940039285380274899124224 := by decide +kernel
  unfold goodN FR
  omega
theorem noObj_cds : ∀ cs : List Cd, noObjL (cs.map Cd.D) = true
  | [] => rfl
  | c :: cs => by
    show (noObj c.D && noObjL (cs.map Cd.D)) = true
    rw [noObj_cds cs]
    rfl
theorem pyL_cds : ∀ cs : List Cd, PyData.canLayAll0 (pyL (cs.map Cd.D)) = true
  | [] => rfl
  | c :: cs => by
    have h := pyL_cds cs
    show ((py c.D).canLay0 && PyData.canLayAll0 (pyL (cs.map Cd.D))) = true
    rw [h]
    rfl
theorem depth_cds : ∀ cs : List Cd, PyData.depthAll (pyL (cs.map Cd.D)) ≤ 2
  | [] => by decide
  | c :: cs => by
    have := depth_cds cs
    simp only [List.map_cons, pyL, py, Cd.D, PyData.depthAll, PyData.depth] at this ⊢
    omega
theorem eqv_cds : ∀ cs : List Cd, PyData.eqvAll (pyL (cs.map Cd.D)) (pyL (cs.map Cd.D)) = true
  | [] => by simp only [List.map_nil, pyL, PyData.eqvAll]
  | c :: cs => by
    have := eqv_cds cs
    simp only [List.map_cons, pyL, py, Cd.D, PyData.eqvAll, PyData.eqv, beq_self_eq_true, Bool.and_self, Bool.true_and] at this ⊢
    exact this
theorem eq_cds (cs : List Cd) : eqD (.lst (cs.map Cd.D)) (.lst (cs.map Cd.D)) = some (.bl true) := by
  have p : pureD (.lst (cs.map Cd.D)) = true := by
    have h1 := pyL_cds cs
    have h2 := depth_cds cs
    unfold pureD SeqAt.shaped
    rw [Bool.and_eq_true]
    exact ⟨h1, decide_eq_true (by simp only [py, PyData.depth]; omega)⟩
  have e : eqB (.lst (cs.map Cd.D)) (.lst (cs.map Cd.D)) = some true := by
    show (if (pureD (.lst (cs.map Cd.D)) && pureD (.lst (cs.map Cd.D))) = true then some (PyData.eqv _ _) else none) = _
    rw [p]
    have := eqv_cds cs
    simp only [py, PyData.eqv, this, Bool.and_self, if_true]
  unfold eqD
  rw [e]
  rfl
theorem like_cds {S : Mem} (cs : List Cd) (h : cs.length ≤ 100) : M_l_like [.lst (cs.map Cd.D), .lst (cs.map Cd.D)] S = .ok (.bl true) S := like_refl 5 _ ⟨by rw [List.length_map]; omega, fun d hd => by
  obtain ⟨c, _, rfl⟩ := List.mem_map.mp hd
  refine ⟨by show (4 : Nat) ≤ 100000; omega, fun d hd => ?_⟩
  have : d ∈ [D.int c.i, D.int c.j, D.int c.a, D.int c.b] := hd
  simp only [List.mem_cons, List.not_mem_nil, or_false] at this
  rcases this with rfl | rfl | rfl | rfl <;> exact likes_int _ _⟩
theorem law_true (ns : List Int) (hn : ns.length ≤ 63) (hz : ∀ z ∈ ns, PySem.Builtin.Int.intBits z ≤ 1048576) : ∃ S', M_law [.frz (ns.map .int)] [] = .ok (.bl true) S' := by
  refine law_begin (n := 5) fun S hD => ?_
  rw [show List.replicate 5 Sl.no = [.no, .no, .no, .no, .no] from rfl]
  refine evs_sq (evs_asg (ev_lc (ev_itR ?_)))
  repeat walk_at "d"
  refine ⟨rfl, ev_next hD (by decide) (lbD (k := 5) (by decide) (by decide) (by decide)) fun t S1 t0 t1 hD1 => ?_⟩
  repeat walk_at "d"
  · omega
  · omega
  generalize hT : (sq (asg 2 _) _) = T
  have tail : ∀ (cs : List Cd) S (y5 y6 : Sl), (∀ c ∈ cs, c.good) → cs.length ≤ 6 → EvS (T [.dat (.frz (ns.map .int)), .dat (.obj 0), .dat (.lst (cs.map Cd.D)), .no, .no, y5, y6] S) (pb fun d _ => d = .bl true) := by
    intro cs S y5 y6 hg hl
    rw [← hT]
    clear hT
    refine evs_sq (evs_asg (ev_lc (ev_itL (ev_vr rfl ⟨_, .inl rfl, ?_⟩))))
    refine evs_comp (fun ds acc S' => ∃ u v, cs = u ++ v ∧ ds = v.map Cd.D ∧ acc = u.map Cd.D ∧ S' = S) ?_ ?_ _ _ _ ⟨[], cs, rfl, rfl, rfl, rfl⟩
    · rintro d ds acc S' ⟨u, v, e, ed, rfl, rfl⟩
      cases v with
      | nil => cases ed
      | cons c v =>
        rw [List.map_cons] at ed
        injection ed with e1 e2
        subst e1 e2
        have gb := (hg c (by rw [e]; simp)).b
        have lu : u.length ≤ 6 := by
          have := congrArg List.length e
          rw [List.length_append] at this
          omega
        refine ev_lcStep rfl ?_
        repeat walk_at "d"
        refine ⟨true, by rw [decide_eq_true (by unfold goodN FR at gb; split <;> omega)], fun _ => ?_, (fun q => by cases q)⟩
        repeat walk_at "d"
        exact ⟨by rw [List.length_map]; omega, u ++ [c], v, by rw [e]; simp, rfl, by simp, rfl⟩
    · rintro acc S' ⟨u, v, e, ed, rfl, rfl⟩
      have : v = [] := by
        cases v with
        | nil => rfl
        | cons => cases ed
      subst this
      rw [List.append_nil] at e
      subst e
      repeat walk_at "d"
      refine ⟨rfl, ev_ok (sp_written cs hg (by omega)) ?_⟩
      repeat walk_at "d"
      refine ⟨rfl, ev_ok (sp_read2 cs hg (by omega)) ?_⟩
      refine ⟨_, rfl, ?_⟩
      refine evs_sq (evs_if_f ?_ (evs_skip ?_))
      · refine ev_orr_f ?_ ?_
        · refine ev_nt (ev_calP (ev_alc (ev_vwo rfl (ev_alc (ev_vr rfl (ev_al0 ⟨rfl, ?_, _, like_cds cs (by omega), rfl, true, rfl, rfl, rfl⟩))))))
          show (noObjL (cs.map Cd.D) && (noObjL (cs.map Cd.D) && true)) = true
          rw [noObj_cds]
          rfl
        · refine ev_bin (ev_calP (ev_alc (ev_vwo rfl (ev_al0 ⟨rfl, ?_, _, sp_written cs hg (by omega), rfl, ev_vr rfl ?_⟩))))
          · show (noObjL (cs.map Cd.D) && true) = true
            rw [noObj_cds]
            rfl
          · exact ⟨.bl (!decide (tx (textT cs) = tx (textT cs))), rfl, by simp, rfl⟩
      repeat walk_at "d"
      refine ⟨by rw [List.length_map]; omega, ?_⟩
      repeat walk_at "d"
      refine ⟨rfl, ev_ok (sp_read2 cs hg (by omega)) ?_⟩
      repeat walk_at "d"
      exact ⟨_, eq_cds cs, rfl⟩
  refine evs_comp (fun ds acc S' => ∃ (cs : List Cd) (k : Int), (∀ c ∈ cs, c.good) ∧ ds = rangeD k t ∧ acc = cs.map Cd.D ∧ (cs.length : Int) = k ∧ k ≤ t ∧ Dice [] S') ?_ ?_ _ _ _ ⟨[], 0, (fun c hc => by cases hc), rfl, rfl, rfl, t0, hD1⟩
  · rintro d ds acc S' ⟨cs, k, hg, ed, rfl, hk, kt, hD2⟩
    have hkt : k < t := by
      rcases Int.lt_or_le k t with q | q
      · exact q
      · rw [rangeD_nil q] at ed
        cases ed
    rw [rangeD_cons hkt] at ed
    injection ed with e1 e2
    subst e1 e2
    refine ev_lcStep rfl ?_
    refine ev_cc ⟨true, rfl, fun _ => ?_, (fun q => by cases q)⟩
    repeat walk_at "d"
    refine ⟨rfl, ev_work (size := 90) hD2 (by decide) fun w S3 hw hwl hD3 => ?_⟩
    repeat walk_at "d"
    refine ⟨rfl, ev_ok (sp_card w ⟨by omega, hw⟩) ?_⟩
    have s := cardOf_sz w
    refine ⟨by rw [List.length_map]; omega, cs ++ [cardOf w], k + 1, fun c hc => ?_, rfl, by simp, by rw [List.length_append, List.length_singleton]; omega, by omega, hD3⟩
    rcases List.mem_append.mp hc with hc | hc
    · exact hg c hc
    · rw [List.mem_singleton.mp hc]
      exact card_good (by omega) (goodN_bd90 (s.b.mono (by omega)))
  · rintro acc S' ⟨cs, k, hg, ed, rfl, hk, kt, hD2⟩
    exact tail cs S' _ _ hg (by omega)
end Dl
namespace Dl
open PySem PySem.Spec PyProof.Rows L2
def top (i : Nat) : Stmt := PySem.Challenge.pw_halfsteps_k31_whole_written_and_read.main.body.getD i (.Pass ⟨0, 0, 0, 0⟩)
structure T (K : PySem.W.Frag) (mg : Str → Option Value) (G : Gm) : Prop where
  n_enumerate : mg "enumerate" = none
  n_range : mg "range" = none
  n_str : mg "str" = none
  n_len : mg "len" = none
  n_tuple : mg "tuple" = none
  n_int : mg "int" = none
  n_isinstance : mg "isinstance" = none
  n_list : mg "list" = none
  n_bool : mg "bool" = none
  n_abs : mg "abs" = none
  c_MOST_SIGNS : ∃ t, mg "MOST_SIGNS" = some (.int 400 t)
  c_SIGNS : ∃ t, mg "SIGNS" = some (.str "+-2/" t)
  c_MOST_BITS : ∃ t, mg "MOST_BITS" = some (.int 1000 t)
  c_FAR : ∃ t, mg "FAR" = some (.int 1000000000000000000000000000000000000000000000000000000000000 t)
  c_NOTHING : ∃ a, mg "NOTHING" = some (.ref a) ∧ TupK K a (.tup [(.int 0), (.int 0), (.int 0), (.int 0)])
  c_MOST_FIGURES : ∃ t, mg "MOST_FIGURES" = some (.int 302 t)
  c_FIGURES : ∃ t, mg "FIGURES" = some (.str "0123456789" t)
  c_PARTS : ∃ t, mg "PARTS" = some (.int 4 t)
  x_BadWork : mg "BadWork" = some (.ref (G.cl 0)) ∧ OxP K (G.cl 0) "place"
  x_BadCard : mg "BadCard" = some (.ref (G.cl 2)) ∧ OxP K (G.cl 2) "part"
  x_BadText : mg "BadText" = some (.ref (G.cl 7)) ∧ OxP K (G.cl 7) "row"
  half : mg "HalfError" = some (.ref (G.cl 8)) ∧ ClX.CRead K (G.cl 8) (.type "type") ∧ PySem.W.findCls K (.ref (G.cl 8)) (.type "type") "__init__" = some (.val (.builtin "ValueError.__init__"))
  x : True
abbrev st_BadWork___init__ : Stmt := inClass (top 2) 0
theorem sc_BadWork___init__ : FnScope ["self", "place"] ["self", "place"] (defScope st_BadWork___init__) := ⟨rfl, rfl, rfl, by decide +kernel, rfl, by decide +kernel, by decide +kernel⟩
def D_BadWork___init__ : He.DefD := ⟨("BadWork", some "__init__"), "__init__", "BadWork.__init__", defArgs st_BadWork___init__, defBody st_BadWork___init__, defScope st_BadWork___init__, [], []⟩
abbrev st_BadCard___init__ : Stmt := inClass (top 3) 0
theorem sc_BadCard___init__ : FnScope ["self", "part"] ["self", "part"] (defScope st_BadCard___init__) := ⟨rfl, rfl, rfl, by decide +kernel, rfl, by decide +kernel, by decide +kernel⟩
def D_BadCard___init__ : He.DefD := ⟨("BadCard", some "__init__"), "__init__", "BadCard.__init__", defArgs st_BadCard___init__, defBody st_BadCard___init__, defScope st_BadCard___init__, [], []⟩
abbrev st_BadText___init__ : Stmt := inClass (top 4) 0
theorem sc_BadText___init__ : FnScope ["self", "row"] ["self", "row"] (defScope st_BadText___init__) := ⟨rfl, rfl, rfl, by decide +kernel, rfl, by decide +kernel, by decide +kernel⟩
def D_BadText___init__ : He.DefD := ⟨("BadText", some "__init__"), "__init__", "BadText.__init__", defArgs st_BadText___init__, defBody st_BadText___init__, defScope st_BadText___init__, [], []⟩
abbrev st_need_work : Stmt := top 11
theorem sc_need_work : FnScope ["work", "place", "sign"] ["work"] (defScope st_need_work) := ⟨rfl, rfl, rfl, by decide +kernel, rfl, by decide +kernel, by decide +kernel⟩
def D_need_work : He.DefD := ⟨("need_work", none), "need_work", "need_work", defArgs st_need_work, defBody st_need_work, defScope st_need_work, [], []⟩
abbrev st_two : Stmt := top 12
theorem sc_two : FnScope ["many", "found", "turn"] ["many"] (defScope st_two) := ⟨rfl, rfl, rfl, by decide +kernel, rfl, by decide +kernel, by decide +kernel⟩
def D_two : He.DefD := ⟨("two", none), "two", "two", defArgs st_two, defBody st_two, defScope st_two, [], []⟩
abbrev st_need_card : Stmt := top 13
theorem sc_need_card : FnScope ["one", "i", "j", "a", "b"] ["one"] (defScope st_need_card) := ⟨rfl, rfl, rfl, by decide +kernel, rfl, by decide +kernel, by decide +kernel⟩
def D_need_card : He.DefD := ⟨("need_card", none), "need_card", "need_card", defArgs st_need_card, defBody st_need_card, defScope st_need_card, [], []⟩
abbrev st_step_on : Stmt := top 14
theorem sc_step_on : FnScope ["sign", "number"] ["sign", "number"] (defScope st_step_on) := ⟨rfl, rfl, rfl, by decide +kernel, rfl, by decide +kernel, by decide +kernel⟩
def D_step_on : He.DefD := ⟨("step_on", none), "step_on", "step_on", defArgs st_step_on, defBody st_step_on, defScope st_step_on, [], []⟩
abbrev st_even : Stmt := top 15
theorem sc_even : FnScope ["i", "j", "a", "b", "whole"] ["i", "j", "a", "b"] (defScope st_even) := ⟨rfl, rfl, rfl, by decide +kernel, rfl, by decide +kernel, by decide +kernel⟩
def D_even : He.DefD := ⟨("even", none), "even", "even", defArgs st_even, defBody st_even, defScope st_even, [], []⟩
abbrev st_stepped : Stmt := top 16
theorem sc_stepped : FnScope ["one", "sign", "i", "j", "a", "b"] ["one", "sign"] (defScope st_stepped) := ⟨rfl, rfl, rfl, by decide +kernel, rfl, by decide +kernel, by decide +kernel⟩
def D_stepped : He.DefD := ⟨("stepped", none), "stepped", "stepped", defArgs st_stepped, defBody st_stepped, defScope st_stepped, [], []⟩
abbrev st_card_of : Stmt := top 17
theorem sc_card_of : FnScope ["work", "found", "sign"] ["work"] (defScope st_card_of) := ⟨rfl, rfl, rfl, by decide +kernel, rfl, by decide +kernel, by decide +kernel⟩
def D_card_of : He.DefD := ⟨("card_of", none), "card_of", "card_of", defArgs st_card_of, defBody st_card_of, defScope st_card_of, [], []⟩
abbrev st_card : Stmt := top 18
theorem sc_card : FnScope ["work"] ["work"] (defScope st_card) := ⟨rfl, rfl, rfl, by decide +kernel, rfl, by decide +kernel, by decide +kernel⟩
def D_card : He.DefD := ⟨("card", none), "card", "card", defArgs st_card, defBody st_card, defScope st_card, [], []⟩
abbrev st_written : Stmt := top 23
theorem sc_written : FnScope ["cards", "one", "part"] ["cards"] (defScope st_written) := ⟨rfl, rfl, rfl, by decide +kernel, rfl, by decide +kernel, by decide +kernel⟩
def D_written : He.DefD := ⟨("written", none), "written", "written", defArgs st_written, defBody st_written, defScope st_written, [], []⟩
abbrev st_is_number : Stmt := top 24
theorem sc_is_number : FnScope ["word", "sign"] ["word"] (defScope st_is_number) := ⟨rfl, rfl, rfl, by decide +kernel, rfl, by decide +kernel, by decide +kernel⟩
def D_is_number : He.DefD := ⟨("is_number", none), "is_number", "is_number", defArgs st_is_number, defBody st_is_number, defScope st_is_number, [], []⟩
abbrev st_is_row : Stmt := top 25
theorem sc_is_row : FnScope ["words", "last", "word"] ["words"] (defScope st_is_row) := ⟨rfl, rfl, rfl, by decide +kernel, rfl, by decide +kernel, by decide +kernel⟩
def D_is_row : He.DefD := ⟨("is_row", none), "is_row", "is_row", defArgs st_is_row, defBody st_is_row, defScope st_is_row, [], []⟩
abbrev st_read : Stmt := top 26
theorem sc_read : FnScope ["text", "e", "found", "row", "line", "words", "one", "word"] ["text"] (defScope st_read) := ⟨rfl, rfl, rfl, by decide +kernel, rfl, by decide +kernel, by decide +kernel⟩
def D_read : He.DefD := ⟨("read", none), "read", "read", defArgs st_read, defBody st_read, defScope st_read, [], []⟩
abbrev st_l_dice : Stmt := top 28
theorem sc_l_dice : FnScope ["_law_script", "_law_mixed", "_law_cell"] ["_law_script"] (defScope st_l_dice) := ⟨rfl, rfl, rfl, by decide +kernel, rfl, by decide +kernel, by decide +kernel⟩
def D_l_dice : He.DefD := ⟨("_law_dice", none), "_law_dice", "_law_dice", defArgs st_l_dice, defBody st_l_dice, defScope st_l_dice, [], []⟩
abbrev st_l_next : Stmt := top 29
theorem sc_l_next : FnScope ["_law_dice_here", "_law_many", "_law_found", "_law_cell"] ["_law_dice_here", "_law_many"] (defScope st_l_next) := ⟨rfl, rfl, rfl, by decide +kernel, rfl, by decide +kernel, by decide +kernel⟩
def D_l_next : He.DefD := ⟨("_law_next", none), "_law_next", "_law_next", defArgs st_l_next, defBody st_l_next, defScope st_l_next, [], []⟩
abbrev st_l_like : Stmt := top 30
theorem sc_l_like : FnScope ["_law_found", "_law_due", "_law_k"] ["_law_found", "_law_due"] (defScope st_l_like) := ⟨rfl, rfl, rfl, by decide +kernel, rfl, by decide +kernel, by decide +kernel⟩
def D_l_like : He.DefD := ⟨("_law_like", none), "_law_like", "_law_like", defArgs st_l_like, defBody st_l_like, defScope st_l_like, [], []⟩
abbrev st_l_work : Stmt := top 31
theorem sc_l_work : FnScope ["_law_d", "_law_size", "_law_signs", "_law_k"] ["_law_d", "_law_size"] (defScope st_l_work) := ⟨rfl, rfl, rfl, by decide +kernel, rfl, by decide +kernel, by decide +kernel⟩
def D_l_work : He.DefD := ⟨("_law_work", none), "_law_work", "_law_work", defArgs st_l_work, defBody st_l_work, defScope st_l_work, [], []⟩
abbrev st_law : Stmt := top 32
theorem sc_law : FnScope ["_law_script", "_law_d", "_law_some", "_law_text", "_law_found", "_law_k", "_law_one"] ["_law_script"] (defScope st_law) := ⟨rfl, rfl, rfl, by decide +kernel, rfl, by decide +kernel, by decide +kernel⟩
def D_law : He.DefD := ⟨("law", none), "law", "law", defArgs st_law, defBody st_law, defScope st_law, [], []⟩
section
variable {P : Program} {w : World} {K : PySem.W.Frag} {mg : Str → Option Value} {base : Heap} {G : Gm}
theorem fl_BadWork___init__ (T : T K mg G) {f : Addr} {fd : FuncData} (F : FunD K "__init__" "BadWork.__init__" (defArgs st_BadWork___init__) (defBody st_BadWork___init__) (defScope st_BadWork___init__) [] [] f fd) (hi : PySem.W.findIn K (.ref (G.cl 0)) "__init__" = some (some (.ref f)) ∧ PySem.W.typeIn K (.ref f) = some (.type "function")) : IniO P w K mg base (G.cl 0) "place" :=
  ⟨f, fd, _, hi, F.ok (CX := L2.CX P w) sc_BadWork___init__ (fun _ _ _ _ h => ini_len rfl h) (fun _ _ _ _ _ _ _ _ _ h => ⟨_, pss_cons (ps_expr (pe_hinit (by rfl) T.half.1 T.half.2.1 T.half.2.2 (pa_cons (pv 0) (pa_cons pe_str pa_nil)))) (pss_one (ps_ost (pv 0) (pv 1))), ini_reads rfl h⟩), F.bindsN fun _ _ _ _ _ _ us hl => match us, hl with | [_, _], _ => rfl⟩
theorem fl_BadCard___init__ (T : T K mg G) {f : Addr} {fd : FuncData} (F : FunD K "__init__" "BadCard.__init__" (defArgs st_BadCard___init__) (defBody st_BadCard___init__) (defScope st_BadCard___init__) [] [] f fd) (hi : PySem.W.findIn K (.ref (G.cl 2)) "__init__" = some (some (.ref f)) ∧ PySem.W.typeIn K (.ref f) = some (.type "function")) : IniO P w K mg base (G.cl 2) "part" :=
  ⟨f, fd, _, hi, F.ok (CX := L2.CX P w) sc_BadCard___init__ (fun _ _ _ _ h => ini_len rfl h) (fun _ _ _ _ _ _ _ _ _ h => ⟨_, pss_cons (ps_expr (pe_hinit (by rfl) T.half.1 T.half.2.1 T.half.2.2 (pa_cons (pv 0) (pa_cons pe_str pa_nil)))) (pss_one (ps_ost (pv 0) (pv 1))), ini_reads rfl h⟩), F.bindsN fun _ _ _ _ _ _ us hl => match us, hl with | [_, _], _ => rfl⟩
theorem fl_BadText___init__ (T : T K mg G) {f : Addr} {fd : FuncData} (F : FunD K "__init__" "BadText.__init__" (defArgs st_BadText___init__) (defBody st_BadText___init__) (defScope st_BadText___init__) [] [] f fd) (hi : PySem.W.findIn K (.ref (G.cl 7)) "__init__" = some (some (.ref f)) ∧ PySem.W.typeIn K (.ref f) = some (.type "function")) : IniO P w K mg base (G.cl 7) "row" :=
  ⟨f, fd, _, hi, F.ok (CX := L2.CX P w) sc_BadText___init__ (fun _ _ _ _ h => ini_len rfl h) (fun _ _ _ _ _ _ _ _ _ h => ⟨_, pss_cons (ps_expr (pe_hinit (by rfl) T.half.1 T.half.2.1 T.half.2.2 (pa_cons (pv 0) (pa_cons pe_str pa_nil)))) (pss_one (ps_ost (pv 0) (pv 1))), ini_reads rfl h⟩), F.bindsN fun _ _ _ _ _ _ us hl => match us, hl with | [_, _], _ => rfl⟩
theorem fl_need_work (T : T K mg G)  (o_BadWork : IniO P w K mg base (G.cl 0) "place") {f : Addr} {fd : FuncData} (F : FunD K "need_work" "need_work" (defArgs st_need_work) (defBody st_need_work) (defScope st_need_work) [] [] f fd) : FnOk P w K mg base (L2.CX P w) 3 f fd ["work"] (spF K G 1 .i M_need_work) :=
  fn_dI F sc_need_work (fun cdv A outer s H E hr =>
    (s_one (s_for own_cx (by rfl) (i_enumS (by rfl) T.n_enumerate ((e_vr 0))) (g_tup (by rfl) (gs_cons (g_name 1 sc_need_work.nd (by rfl) (.inl (by rfl))) (gs_cons (g_name 2 sc_need_work.nd (by rfl) (.inl (by rfl))) gs_nil))) (s_one (s_if (t_w (w_or (t_cmp (op_eqA hr.units) (OpD.iv eq_ok) ((SE.iv ((e_vr 1)))) ((SE.iv ((e_glbI (by rfl) T.c_MOST_SIGNS)))) (nomark _)) (w_or1 (t_cmp op_notInA (OpD.iv notIn_ok) ((SE.iv ((e_vr 2)))) ((SE.iv ((e_glbS (by rfl) T.c_SIGNS)))) (by rfl))))) (s_one (s_rsi2 (by rfl) (takes_of rfl rfl rfl rfl) (by rfl) T.x_BadWork o_BadWork (hr.mono (by decide)) pass_en ((e_vr 1)))) s_nil)))))
theorem o_need_work (T : T K mg G)  (o_BadWork : IniO P w K mg base (G.cl 0) "place") {f : Addr} {fd : FuncData} (F : FunD K "need_work" "need_work" (defArgs st_need_work) (defBody st_need_work) (defScope st_need_work) [] [] f fd) (gl : mg "need_work" = some (.ref f)) : Fo P w K mg base G 3 "need_work" 1 .i M_need_work :=
  ⟨f, fd, ["work"], fl_need_work T o_BadWork F, gl, F.kp, F.bindsN fun _ _ _ _ _ _ us hl => match us, hl with | [_], _ => rfl⟩
theorem fl_two (T : T K mg G)  {f : Addr} {fd : FuncData} (F : FunD K "two" "two" (defArgs st_two) (defBody st_two) (defScope st_two) [] [] f fd) : FnOk P w K mg base (L2.CX P w) 1 f fd ["many"] (spF K G 1 .i M_two) :=
  fn_dI F sc_two (fun cdv A outer s H E hr =>
    (s_cons (s_asg sc_two.nd (by rfl) (.inl (by rfl)) (e_int))
    (s_cons (s_for own_cx (by rfl) (i_r1 (by rfl) T.n_range ((SE.iv ((e_vr 0))))) (g_name 2 sc_two.nd (by rfl) (.inl (by rfl))) (s_one (s_aug sc_two.nd (by rfl) (.inl (by rfl)) iop_mul imul_ok ((SE.iv (e_int))))))
    (s_one (s_ret ((e_vr 1)))))))
theorem o_two (T : T K mg G)  {f : Addr} {fd : FuncData} (F : FunD K "two" "two" (defArgs st_two) (defBody st_two) (defScope st_two) [] [] f fd) (gl : mg "two" = some (.ref f)) : Fo P w K mg base G 1 "two" 1 .i M_two :=
  ⟨f, fd, ["many"], fl_two T  F, gl, F.kp, F.bindsN fun _ _ _ _ _ _ us hl => match us, hl with | [_], _ => rfl⟩
theorem fl_need_card (T : T K mg G) (o_two : Fo P w K mg base G 1 "two" 1 .i M_two) (o_BadCard : IniO P w K mg base (G.cl 2) "part") {f : Addr} {fd : FuncData} (F : FunD K "need_card" "need_card" (defArgs st_need_card) (defBody st_need_card) (defScope st_need_card) [] [] f fd) : FnOk P w K mg base (L2.CX P w) 3 f fd ["one"] (spF K G 1 .i M_need_card) :=
  fn_dI F sc_need_card (fun cdv A outer s H E hr =>
    (s_cons (s_asgT (g_tup (by rfl) (gs_cons (g_name 1 sc_need_card.nd (by rfl) (.inl (by rfl))) (gs_cons (g_name 2 sc_need_card.nd (by rfl) (.inl (by rfl))) (gs_cons (g_name 3 sc_need_card.nd (by rfl) (.inl (by rfl))) (gs_cons (g_name 4 sc_need_card.nd (by rfl) (.inl (by rfl))) gs_nil))))) ((e_vr 0)))
    (s_cons (s_if (t_not (t_chn op_leA (OpD.iv le_ok) op_leA (OpD.iv le_ok) ((SE.iv (e_int))) ((SE.iv ((e_vr 1)))) ((SE.iv ((e_glbI (by rfl) T.c_MOST_BITS)))))) (s_one (s_rsi2 (by rfl) (takes_of rfl rfl rfl rfl) (by rfl) T.x_BadCard o_BadCard (hr.mono (by decide)) pass_en (e_int))) s_nil)
    (s_cons (s_if (t_not (t_chn op_leA (OpD.iv le_ok) op_leA (OpD.iv le_ok) ((SE.iv (e_int))) ((SE.iv ((e_vr 2)))) ((SE.iv ((e_glbI (by rfl) T.c_MOST_BITS)))))) (s_one (s_rsi2 (by rfl) (takes_of rfl rfl rfl rfl) (by rfl) T.x_BadCard o_BadCard (hr.mono (by decide)) pass_en (e_int))) s_nil)
    (s_cons (s_if (t_not (t_chn op_leA (OpD.iv le_ok) op_lt (OpD.iv lt_ok) ((SE.iv (e_int))) ((SE.iv ((e_vr 3)))) ((SE.iv (e_call o_two hr (by decide) (by rfl) pass_cx (a_cons ((e_vr 2)) a_nil)))))) (s_one (s_rsi2 (by rfl) (takes_of rfl rfl rfl rfl) (by rfl) T.x_BadCard o_BadCard (hr.mono (by decide)) pass_en (e_int))) s_nil)
    (s_one (s_if (t_not (t_chn op_leA (OpD.iv le_ok) op_leA (OpD.iv le_ok) ((SE.iv (e_bin op_sub sub_ok ((SE.iv (e_int))) ((SE.iv ((e_glbI (by rfl) T.c_FAR))))))) ((SE.iv ((e_vr 4)))) ((SE.iv ((e_glbI (by rfl) T.c_FAR)))))) (s_one (s_rsi2 (by rfl) (takes_of rfl rfl rfl rfl) (by rfl) T.x_BadCard o_BadCard (hr.mono (by decide)) pass_en (e_int))) s_nil)))))))
theorem o_need_card (T : T K mg G) (o_two : Fo P w K mg base G 1 "two" 1 .i M_two) (o_BadCard : IniO P w K mg base (G.cl 2) "part") {f : Addr} {fd : FuncData} (F : FunD K "need_card" "need_card" (defArgs st_need_card) (defBody st_need_card) (defScope st_need_card) [] [] f fd) (gl : mg "need_card" = some (.ref f)) : Fo P w K mg base G 3 "need_card" 1 .i M_need_card :=
  ⟨f, fd, ["one"], fl_need_card T o_two o_BadCard F, gl, F.kp, F.bindsN fun _ _ _ _ _ _ us hl => match us, hl with | [_], _ => rfl⟩
theorem fl_step_on (T : T K mg G)  {f : Addr} {fd : FuncData} (F : FunD K "step_on" "step_on" (defArgs st_step_on) (defBody st_step_on) (defScope st_step_on) [] [] f fd) : FnOk P w K mg base (L2.CX P w) 1 f fd ["sign", "number"] (spF K G 2 .i M_step_on) :=
  fn_dI F sc_step_on (fun cdv A outer s H E hr =>
    (s_cons (s_if (t_cmp (op_eqA hr.units) (OpD.iv eq_ok) ((SE.iv ((e_vr 0)))) ((SE.iv (e_str))) (nomark _)) (s_one (s_ret (e_bin op_mulA mulA_ok ((SE.iv (e_int))) ((SE.iv ((e_vr 1))))))) s_nil)
    (s_cons (s_if (t_cmp (op_eqA hr.units) (OpD.iv eq_ok) ((SE.iv ((e_vr 0)))) ((SE.iv (e_str))) (nomark _)) (s_one (s_ret (e_bin op_fdivW div_ok ((SE.iv ((e_vr 1)))) ((SE.iv (e_int)))))) s_nil)
    (s_one (s_ret (e_if (t_cmp (op_eqA hr.units) (OpD.iv eq_ok) ((SE.iv ((e_vr 0)))) ((SE.iv (e_str))) (nomark _)) (e_bin op_addA add_ok ((SE.iv ((e_vr 1)))) ((SE.iv (e_int)))) (e_bin op_sub sub_ok ((SE.iv ((e_vr 1)))) ((SE.iv (e_int))))))))))
theorem o_step_on (T : T K mg G)  {f : Addr} {fd : FuncData} (F : FunD K "step_on" "step_on" (defArgs st_step_on) (defBody st_step_on) (defScope st_step_on) [] [] f fd) (gl : mg "step_on" = some (.ref f)) : Fo P w K mg base G 1 "step_on" 2 .i M_step_on :=
  ⟨f, fd, ["sign", "number"], fl_step_on T  F, gl, F.kp, F.bindsN fun _ _ _ _ _ _ us hl => match us, hl with | [_, _], _ => rfl⟩
theorem fl_even (T : T K mg G) (o_two : Fo P w K mg base G 1 "two" 1 .i M_two) {f : Addr} {fd : FuncData} (F : FunD K "even" "even" (defArgs st_even) (defBody st_even) (defScope st_even) [] [] f fd) : FnOk P w K mg base (L2.CX P w) 2 f fd ["i", "j", "a", "b"] (spF K G 4 .i M_even) :=
  fn_dI F sc_even (fun cdv A outer s H E hr =>
    (s_cons (s_asg sc_even.nd (by rfl) (.inl (by rfl)) (e_call o_two hr (by decide) (by rfl) pass_cx (a_cons ((e_vr 1)) a_nil)))
    (s_one (s_ret (e_tup (a_cons ((e_vr 0)) (a_cons ((e_vr 1)) (a_cons (e_bin op_mod mod_ok ((SE.iv ((e_vr 2)))) ((SE.iv ((e_vr 4))))) (a_cons (e_bin op_addA add_ok ((SE.iv ((e_vr 3)))) ((SE.iv (e_bin op_mulA mulA_ok ((SE.iv (e_bin op_fdivW div_ok ((SE.iv ((e_vr 2)))) ((SE.iv ((e_vr 4))))))) ((SE.iv (e_call o_two hr (by decide) (by rfl) pass_cx (a_cons ((e_vr 0)) a_nil)))))))) a_nil)))))))))
theorem o_even (T : T K mg G) (o_two : Fo P w K mg base G 1 "two" 1 .i M_two) {f : Addr} {fd : FuncData} (F : FunD K "even" "even" (defArgs st_even) (defBody st_even) (defScope st_even) [] [] f fd) (gl : mg "even" = some (.ref f)) : Fo P w K mg base G 2 "even" 4 .i M_even :=
  ⟨f, fd, ["i", "j", "a", "b"], fl_even T o_two F, gl, F.kp, F.bindsN fun _ _ _ _ _ _ us hl => match us, hl with | [_, _, _, _], _ => rfl⟩
theorem fl_stepped (T : T K mg G) (o_step_on : Fo P w K mg base G 1 "step_on" 2 .i M_step_on) (o_two : Fo P w K mg base G 1 "two" 1 .i M_two) (o_even : Fo P w K mg base G 2 "even" 4 .i M_even) {f : Addr} {fd : FuncData} (F : FunD K "stepped" "stepped" (defArgs st_stepped) (defBody st_stepped) (defScope st_stepped) [] [] f fd) : FnOk P w K mg base (L2.CX P w) 3 f fd ["one", "sign"] (spF K G 2 .i M_stepped) :=
  fn_dI F sc_stepped (fun cdv A outer s H E hr =>
    (s_cons (s_asgT (g_tup (by rfl) (gs_cons (g_name 2 sc_stepped.nd (by rfl) (.inl (by rfl))) (gs_cons (g_name 3 sc_stepped.nd (by rfl) (.inl (by rfl))) (gs_cons (g_name 4 sc_stepped.nd (by rfl) (.inl (by rfl))) (gs_cons (g_name 5 sc_stepped.nd (by rfl) (.inl (by rfl))) gs_nil))))) ((e_vr 0)))
    (s_cons (s_if (t_cmp (op_eqA hr.units) (OpD.iv eq_ok) ((SE.iv ((e_vr 1)))) ((SE.iv (e_str))) (nomark _)) (s_one (s_ret (e_tup (a_cons (e_bin op_addA add_ok ((SE.iv ((e_vr 2)))) ((SE.iv (e_int)))) (a_cons ((e_vr 3)) (a_cons ((e_vr 4)) (a_cons (e_bin op_mulA mulA_ok ((SE.iv (e_int))) ((SE.iv ((e_vr 5))))) a_nil))))))) s_nil)
    (s_cons (s_if (t_cmp (op_neA hr.units) (OpD.iv ne_ok) ((SE.iv ((e_vr 1)))) ((SE.iv (e_str))) (nomark _)) (s_one (s_ret (e_tup (a_cons ((e_vr 2)) (a_cons ((e_vr 3)) (a_cons ((e_vr 4)) (a_cons (e_call o_step_on hr (by decide) (by rfl) pass_cx (a_cons ((e_vr 1)) (a_cons ((e_vr 5)) a_nil))) a_nil))))))) s_nil)
    (s_cons (s_if (t_cmp op_gt (OpD.iv gt_ok) ((SE.iv ((e_vr 2)))) ((SE.iv (e_int))) (nomark _)) (s_one (s_ret (e_tup (a_cons (e_bin op_sub sub_ok ((SE.iv ((e_vr 2)))) ((SE.iv (e_int)))) (a_cons ((e_vr 3)) (a_cons ((e_vr 4)) (a_cons (e_bin op_fdivW div_ok ((SE.iv ((e_vr 5)))) ((SE.iv (e_int)))) a_nil))))))) s_nil)
    (s_one (s_ret (e_call o_even hr (by decide) (by rfl) pass_cx (a_cons (e_int) (a_cons (e_bin op_addA add_ok ((SE.iv ((e_vr 3)))) ((SE.iv (e_int)))) (a_cons (e_bin op_addA add_ok ((SE.iv ((e_vr 4)))) ((SE.iv (e_bin op_mulA mulA_ok ((SE.iv ((e_vr 5)))) ((SE.iv (e_call o_two hr (by decide) (by rfl) pass_cx (a_cons ((e_vr 3)) a_nil)))))))) (a_cons (e_int) a_nil))))))))))))
theorem o_stepped (T : T K mg G) (o_step_on : Fo P w K mg base G 1 "step_on" 2 .i M_step_on) (o_two : Fo P w K mg base G 1 "two" 1 .i M_two) (o_even : Fo P w K mg base G 2 "even" 4 .i M_even) {f : Addr} {fd : FuncData} (F : FunD K "stepped" "stepped" (defArgs st_stepped) (defBody st_stepped) (defScope st_stepped) [] [] f fd) (gl : mg "stepped" = some (.ref f)) : Fo P w K mg base G 3 "stepped" 2 .i M_stepped :=
  ⟨f, fd, ["one", "sign"], fl_stepped T o_step_on o_two o_even F, gl, F.kp, F.bindsN fun _ _ _ _ _ _ us hl => match us, hl with | [_, _], _ => rfl⟩
theorem fl_card_of (T : T K mg G) (o_stepped : Fo P w K mg base G 3 "stepped" 2 .i M_stepped) {f : Addr} {fd : FuncData} (F : FunD K "card_of" "card_of" (defArgs st_card_of) (defBody st_card_of) (defScope st_card_of) [] [] f fd) : FnOk P w K mg base (L2.CX P w) 4 f fd ["work"] (spF K G 1 .i M_card_of) :=
  fn_dI F sc_card_of (fun cdv A outer s H E hr =>
    (s_cons (s_asg sc_card_of.nd (by rfl) (.inl (by rfl)) ((e_glbT (by rfl) T.c_NOTHING)))
    (s_cons (s_for own_cx (by rfl) (i_str ((e_vr 0))) (g_name 2 sc_card_of.nd (by rfl) (.inl (by rfl))) (s_one (s_asg sc_card_of.nd (by rfl) (.inl (by rfl)) (e_call o_stepped hr (by decide) (by rfl) pass_cx (a_cons ((e_vr 1)) (a_cons ((e_vr 2)) a_nil))))))
    (s_one (s_ret ((e_vr 1)))))))
theorem o_card_of (T : T K mg G) (o_stepped : Fo P w K mg base G 3 "stepped" 2 .i M_stepped) {f : Addr} {fd : FuncData} (F : FunD K "card_of" "card_of" (defArgs st_card_of) (defBody st_card_of) (defScope st_card_of) [] [] f fd) (gl : mg "card_of" = some (.ref f)) : Fo P w K mg base G 4 "card_of" 1 .i M_card_of :=
  ⟨f, fd, ["work"], fl_card_of T o_stepped F, gl, F.kp, F.bindsN fun _ _ _ _ _ _ us hl => match us, hl with | [_], _ => rfl⟩
theorem fl_card (T : T K mg G) (o_need_work : Fo P w K mg base G 3 "need_work" 1 .i M_need_work) (o_card_of : Fo P w K mg base G 4 "card_of" 1 .i M_card_of) {f : Addr} {fd : FuncData} (F : FunD K "card" "card" (defArgs st_card) (defBody st_card) (defScope st_card) [] [] f fd) : FnOk P w K mg base (L2.CX P w) 5 f fd ["work"] (spF K G 1 .i M_card) :=
  fn_dI F sc_card (fun cdv A outer s H E hr =>
    (s_cons (s_drp (e_call o_need_work hr (by decide) (by rfl) pass_cx (a_cons ((e_vr 0)) a_nil)))
    (s_one (s_ret (e_call o_card_of hr (by decide) (by rfl) pass_cx (a_cons ((e_vr 0)) a_nil))))))
theorem o_card (T : T K mg G) (o_need_work : Fo P w K mg base G 3 "need_work" 1 .i M_need_work) (o_card_of : Fo P w K mg base G 4 "card_of" 1 .i M_card_of) {f : Addr} {fd : FuncData} (F : FunD K "card" "card" (defArgs st_card) (defBody st_card) (defScope st_card) [] [] f fd) (gl : mg "card" = some (.ref f)) : Fo P w K mg base G 5 "card" 1 .i M_card :=
  ⟨f, fd, ["work"], fl_card T o_need_work o_card_of F, gl, F.kp, F.bindsN fun _ _ _ _ _ _ us hl => match us, hl with | [_], _ => rfl⟩
theorem fl_written (T : T K mg G) (o_need_card : Fo P w K mg base G 3 "need_card" 1 .i M_need_card) {f : Addr} {fd : FuncData} (F : FunD K "written" "written" (defArgs st_written) (defBody st_written) (defScope st_written) [] [] f fd) : FnOk P w K mg base (L2.CX P w) 4 f fd ["cards"] (spF K G 1 .i M_written) :=
  fn_dI F sc_written (fun cdv A outer s H E hr =>
    (s_cons (s_for own_cx (by rfl) (i_lst ((e_vr 0))) (g_name 1 sc_written.nd (by rfl) (.inl (by rfl))) (s_one (s_drp (e_call o_need_card hr (by decide) (by rfl) pass_cx (a_cons ((e_vr 1)) a_nil)))))
    (s_one (s_ret (e_join ((SE.iv (e_str))) ((SE.fv (e_lc (by rfl) sc_written.nd (i_lst ((e_vr 0))) (blk_of sc_written (own := [("one", 1)]) (by kernel_rfl)) (by decide) (fun _ _ _ _ _ => (g_name 1 sc_written.nd (by rfl) (.inl (by rfl)))) (fun _ _ _ _ _ => ts_nil) (fun _ _ _ _ _ => e_join ((SE.iv (e_str))) ((SE.fv (e_lc (by rfl) sc_written.nd (i_tup ((e_vr 1))) (blkOk_by (own := [("part", 2)]) (by kernel_rfl)) (by decide) (fun _ _ _ _ _ => (g_name 2 sc_written.nd (by rfl) (.inl (by rfl)))) (fun _ _ _ _ _ => ts_nil) (fun _ _ _ _ _ => e_cty call_str_int str_ok (by rfl) T.n_str PyProof.Rows.boot_str (a_consv ((SE.iv ((e_vr 2)))) a_nil))))))))))))))
theorem o_written (T : T K mg G) (o_need_card : Fo P w K mg base G 3 "need_card" 1 .i M_need_card) {f : Addr} {fd : FuncData} (F : FunD K "written" "written" (defArgs st_written) (defBody st_written) (defScope st_written) [] [] f fd) (gl : mg "written" = some (.ref f)) : Fo P w K mg base G 4 "written" 1 .i M_written :=
  ⟨f, fd, ["cards"], fl_written T o_need_card F, gl, F.kp, F.bindsN fun _ _ _ _ _ _ us hl => match us, hl with | [_], _ => rfl⟩
theorem fl_is_number (T : T K mg G)  {f : Addr} {fd : FuncData} (F : FunD K "is_number" "is_number" (defArgs st_is_number) (defBody st_is_number) (defScope st_is_number) [] [] f fd) : FnOk P w K mg base (L2.CX P w) 1 f fd ["word"] (spF K G 1 .i M_is_number) :=
  fn_dI F sc_is_number (fun cdv A outer s H E hr =>
    (s_cons (s_if (t_w (w_or (t_not (t_chn op_leA (OpD.iv le_ok) op_leA (OpD.iv le_ok) ((SE.iv (e_int))) ((SE.iv (e_cb call_len len_ok (by rfl) T.n_len PySem.boot_len (a_consv ((SE.iv ((e_vr 0)))) a_nil)))) ((SE.iv ((e_glbI (by rfl) T.c_MOST_FIGURES)))))) (w_or1 (t_cmp (op_neA hr.units) (OpD.iv ne_ok) ((SE.fv (e_lc (by rfl) sc_is_number.nd (i_str ((e_vr 0))) (blk_of sc_is_number (own := [("sign", 1)]) (by kernel_rfl)) (by decide) (fun _ _ _ _ _ => (g_name 1 sc_is_number.nd (by rfl) (.inl (by rfl)))) (fun _ _ _ _ _ => ts_one (t_cmp op_notInA (OpD.iv notIn_ok) ((SE.iv ((e_vr 1)))) ((SE.iv ((e_glbS (by rfl) T.c_FIGURES)))) (by rfl))) (fun _ _ _ _ _ => (e_vr 1))))) ((SE.fv (e_lst a_nil))) (nomark _))))) (s_one (s_ret (e_bl))) s_nil)
    (s_one (s_ret (e_or (e_cmp (op_eqA hr.units) eq_ok ((SE.iv ((e_vr 0)))) ((SE.iv (e_str))) (nomark _)) (e_one (e_cmp (op_neA hr.units) ne_ok ((SE.iv (e_ixm ((SE.iv ((e_vr 0)))) ((SE.iv (e_int)))))) ((SE.iv (e_str))) (nomark _))))))))
theorem o_is_number (T : T K mg G)  {f : Addr} {fd : FuncData} (F : FunD K "is_number" "is_number" (defArgs st_is_number) (defBody st_is_number) (defScope st_is_number) [] [] f fd) (gl : mg "is_number" = some (.ref f)) : Fo P w K mg base G 1 "is_number" 1 .i M_is_number :=
  ⟨f, fd, ["word"], fl_is_number T  F, gl, F.kp, F.bindsN fun _ _ _ _ _ _ us hl => match us, hl with | [_], _ => rfl⟩
theorem fl_is_row (T : T K mg G) (o_is_number : Fo P w K mg base G 1 "is_number" 1 .i M_is_number) {f : Addr} {fd : FuncData} (F : FunD K "is_row" "is_row" (defArgs st_is_row) (defBody st_is_row) (defScope st_is_row) [] [] f fd) : FnOk P w K mg base (L2.CX P w) 2 f fd ["words"] (spF K G 1 .i M_is_row) :=
  fn_dI F sc_is_row (fun cdv A outer s H E hr =>
    (s_cons (s_if (t_w (w_or (t_cmp (op_neA hr.units) (OpD.iv ne_ok) ((SE.iv (e_cb call_len len_ok (by rfl) T.n_len PySem.boot_len (a_consv ((SE.iv ((e_vr 0)))) a_nil)))) ((SE.iv ((e_glbI (by rfl) T.c_PARTS)))) (nomark _)) (w_or1 (t_cmp (op_neA hr.units) (OpD.iv ne_ok) ((SE.fv (e_lc (by rfl) sc_is_row.nd (i_lst (e_sl ((SE.iv ((e_vr 0)))) p_none (p_some ((SE.iv (e_un un_neg neg_ok ((SE.iv (e_int))))))))) (blk_of sc_is_row (own := [("word", 2)]) (by kernel_rfl)) (by decide) (fun _ _ _ _ _ => (g_name 2 sc_is_row.nd (by rfl) (.inl (by rfl)))) (fun _ _ _ _ _ => ts_one (t_not (t_val ((SE.iv (e_call o_is_number hr (by decide) (by rfl) pass_en (a_cons ((e_vr 2)) a_nil))))))) (fun _ _ _ _ _ => (e_vr 2))))) ((SE.fv (e_lst a_nil))) (nomark _))))) (s_one (s_ret (e_bl))) s_nil)
    (s_cons (s_asg sc_is_row.nd (by rfl) (.inl (by rfl)) (e_ixm ((SE.iv ((e_vr 0)))) ((SE.iv (e_un un_neg neg_ok ((SE.iv (e_int))))))))
    (s_one (s_ret (e_if (t_cmp (op_eqA hr.units) (OpD.iv eq_ok) ((SE.iv (e_sl ((SE.iv ((e_vr 1)))) p_none (p_some ((SE.iv (e_int))))))) ((SE.iv (e_str))) (nomark _)) (e_and (e_call o_is_number hr (by decide) (by rfl) pass_cx (a_cons (e_sl ((SE.iv ((e_vr 1)))) (p_some ((SE.iv (e_int)))) p_none) a_nil)) (e_one (e_cmp (op_neA hr.units) ne_ok ((SE.iv ((e_vr 1)))) ((SE.iv (e_str))) (nomark _)))) (e_call o_is_number hr (by decide) (by rfl) pass_cx (a_cons ((e_vr 1)) a_nil))))))))
theorem o_is_row (T : T K mg G) (o_is_number : Fo P w K mg base G 1 "is_number" 1 .i M_is_number) {f : Addr} {fd : FuncData} (F : FunD K "is_row" "is_row" (defArgs st_is_row) (defBody st_is_row) (defScope st_is_row) [] [] f fd) (gl : mg "is_row" = some (.ref f)) : Fo P w K mg base G 2 "is_row" 1 .i M_is_row :=
  ⟨f, fd, ["words"], fl_is_row T o_is_number F, gl, F.kp, F.bindsN fun _ _ _ _ _ _ us hl => match us, hl with | [_], _ => rfl⟩
theorem fl_read (T : T K mg G) (o_is_row : Fo P w K mg base G 2 "is_row" 1 .i M_is_row) (o_need_card : Fo P w K mg base G 3 "need_card" 1 .i M_need_card) (o_BadText : IniO P w K mg base (G.cl 7) "row") {f : Addr} {fd : FuncData} (F : FunD K "read" "read" (defArgs st_read) (defBody st_read) (defScope st_read) [] [] f fd) : FnOk P w K mg base (L2.CX P w) 4 f fd ["text"] (spF K G 1 .f M_read_2) :=
  fn_dF F sc_read (fun cdv A outer s H E hr =>
    (s_cons (s_asgO sc_read.nd (by rfl) (.inl (by rfl)) (e_lst a_nil))
    (s_cons (s_for own_cx (by rfl) (i_enumL (by rfl) T.n_enumerate (e_if (t_cmp (op_neA hr.units) (OpD.iv ne_ok) ((SE.iv ((e_vr 0)))) ((SE.iv (e_str))) (nomark _)) ((SE.fi (e_split ((SE.iv ((e_vr 0)))) ((SE.iv (e_str)))))) ((SE.fi (e_lst a_nil))))) (g_tup (by rfl) (gs_cons (g_name 3 sc_read.nd (by rfl) (.inl (by rfl))) (gs_cons (g_name 4 sc_read.nd (by rfl) (.inl (by rfl))) gs_nil))) (s_cons (s_asg sc_read.nd (by rfl) (.inl (by rfl)) ((SE.fi (e_split ((SE.iv ((e_vr 4)))) ((SE.iv (e_str)))))))
    (s_cons (s_if (t_not (t_val ((SE.iv (e_call o_is_row hr (by decide) (by rfl) pass_cx (a_cons ((e_vr 5)) a_nil)))))) (s_one (s_rsi2 (by rfl) (takes_of rfl rfl rfl rfl) (by rfl) T.x_BadText o_BadText (hr.mono (by decide)) pass_en ((e_vr 3)))) s_nil)
    (s_cons (s_asg sc_read.nd (by rfl) (.inl (by rfl)) (e_cty call_tuple_of tup_ok (by rfl) T.n_tuple PyProof.Rows.boot_tuple (a_consv ((SE.fv (e_lc (by rfl) sc_read.nd (i_lst ((e_vr 5))) (blk_of sc_read (own := [("word", 7)]) (by kernel_rfl)) (by decide) (fun _ _ _ _ _ => (g_name 7 sc_read.nd (by rfl) (.inl (by rfl)))) (fun _ _ _ _ _ => ts_nil) (fun _ _ _ _ _ => e_cty call_intA int_ok (by rfl) T.n_int PyProof.Rows.boot_int (a_consv ((SE.iv ((e_vr 7)))) a_nil))))) a_nil)))
    (s_cons (s_try0 ((s_one (s_drp (e_call o_need_card hr (by decide) (by rfl) pass_en (a_cons ((e_vr 6)) a_nil))))))
    (s_one (s_app (i := 2) (by rfl) (.inl (by rfl)) ((e_vr 6)))))))))
    (s_one (s_retO 2)))))
theorem o_read (T : T K mg G) (o_is_row : Fo P w K mg base G 2 "is_row" 1 .i M_is_row) (o_need_card : Fo P w K mg base G 3 "need_card" 1 .i M_need_card) (o_BadText : IniO P w K mg base (G.cl 7) "row") {f : Addr} {fd : FuncData} (F : FunD K "read" "read" (defArgs st_read) (defBody st_read) (defScope st_read) [] [] f fd) (gl : mg "read" = some (.ref f)) : Fo P w K mg base G 4 "read" 1 .f M_read_2 :=
  ⟨f, fd, ["text"], fl_read T o_is_row o_need_card o_BadText F, gl, F.kp, F.bindsN fun _ _ _ _ _ _ us hl => match us, hl with | [_], _ => rfl⟩
theorem fl_l_dice (T : T K mg G)  {f : Addr} {fd : FuncData} (F : FunD K "_law_dice" "_law_dice" (defArgs st_l_dice) (defBody st_l_dice) (defScope st_l_dice) [] [] f fd) : FnOk P w K mg base (L2.CX P w) 1 f fd ["_law_script"] (spF K G 1 .f M_l_dice) :=
  fn_dF F sc_l_dice (fun cdv A outer s H E hr =>
    (s_cons (s_asg sc_l_dice.nd (by rfl) (.inl (by rfl)) (e_int))
    (s_cons (s_for own_cx (by rfl) (i_lst ((e_vr 0))) (g_name 2 sc_l_dice.nd (by rfl) (.inl (by rfl))) (s_one (s_asg sc_l_dice.nd (by rfl) (.inl (by rfl)) (e_bin op_mod mod_ok ((SE.iv (e_bin op_addA add_ok ((SE.iv (e_bin op_addA add_ok ((SE.iv (e_bin op_mulA mulA_ok ((SE.iv ((e_vr 1)))) ((SE.iv (e_int)))))) ((SE.iv (e_bin op_mulA mulA_ok ((SE.iv (e_bin op_mod mod_ok ((SE.iv ((e_vr 2)))) ((SE.iv (e_int)))))) ((SE.iv (e_int))))))))) ((SE.iv (e_int)))))) ((SE.iv (e_int)))))))
    (s_one (s_ret (e_lst (a_cons ((e_vr 0)) (a_cons (e_int) (a_cons (e_bin op_mulA mulA_ok ((SE.iv ((e_vr 1)))) ((SE.iv (e_cty call_intA int_ok (by rfl) T.n_int PyProof.Rows.boot_int (a_consv ((SE.iv (e_cmp op_gt gt_ok ((SE.iv (e_cb call_len len_ok (by rfl) T.n_len PySem.boot_len (a_consv ((SE.iv ((e_vr 0)))) a_nil)))) ((SE.iv (e_int))) (nomark _)))) a_nil))))) (a_cons (e_int) a_nil))))))))))
theorem o_l_dice (T : T K mg G)  {f : Addr} {fd : FuncData} (F : FunD K "_law_dice" "_law_dice" (defArgs st_l_dice) (defBody st_l_dice) (defScope st_l_dice) [] [] f fd) (gl : mg "_law_dice" = some (.ref f)) : Fo P w K mg base G 1 "_law_dice" 1 .f M_l_dice :=
  ⟨f, fd, ["_law_script"], fl_l_dice T  F, gl, F.kp, F.bindsN fun _ _ _ _ _ _ us hl => match us, hl with | [_], _ => rfl⟩
theorem fl_l_next (T : T K mg G)  {f : Addr} {fd : FuncData} (F : FunD K "_law_next" "_law_next" (defArgs st_l_next) (defBody st_l_next) (defScope st_l_next) [] [] f fd) : FnOk P w K mg base (L2.CX P w) 1 f fd ["_law_dice_here", "_law_many"] (spF K G 2 .i M_l_next) :=
  fn_dI F sc_l_next (fun cdv A outer s H E hr =>
    (s_cons (s_if (t_cmp op_gt (OpD.iv gt_ok) ((SE.iv (e_ixm ((SE.iv ((e_vr 0)))) ((SE.iv (e_int)))))) ((SE.iv (e_int))) (nomark _)) (s_cons (s_asg sc_l_next.nd (by rfl) (.inl (by rfl)) (e_bin op_mod mod_ok ((SE.iv (e_ixm ((SE.iv ((e_vr 0)))) ((SE.iv (e_int)))))) ((SE.iv ((e_vr 1))))))
    (s_cons (s_put (e_bin op_fdivW div_ok ((SE.iv (e_ixm ((SE.iv ((e_vr 0)))) ((SE.iv (e_int)))))) ((SE.iv ((e_vr 1))))) ((e_vr 0)) (e_int))
    (s_one (s_ret ((e_vr 2)))))) s_nil)
    (s_cons (s_put (e_bin op_addA add_ok ((SE.iv (e_ixm ((SE.iv ((e_vr 0)))) ((SE.iv (e_int)))))) ((SE.iv (e_int)))) ((e_vr 0)) (e_int))
    (s_cons (s_if (t_cmp op_leA (OpD.iv le_ok) ((SE.iv (e_ixm ((SE.iv ((e_vr 0)))) ((SE.iv (e_int)))))) ((SE.iv (e_cb call_len len_ok (by rfl) T.n_len PySem.boot_len (a_consv ((SE.iv (e_ixm ((SE.iv ((e_vr 0)))) ((SE.iv (e_int)))))) a_nil)))) (nomark _)) (s_cons (s_asg sc_l_next.nd (by rfl) (.inl (by rfl)) (e_ixm ((SE.iv (e_ixm ((SE.iv ((e_vr 0)))) ((SE.iv (e_int)))))) ((SE.iv (e_bin op_sub sub_ok ((SE.iv (e_ixm ((SE.iv ((e_vr 0)))) ((SE.iv (e_int)))))) ((SE.iv (e_int))))))))
    (s_cons (s_put (e_if (t_cmp op_ge (OpD.iv ge_ok) ((SE.iv ((e_vr 3)))) ((SE.iv (e_bin op_pow pow_ok ((SE.iv (e_int))) ((SE.iv (e_int)))))) (nomark _)) (e_bin op_fdivW div_ok ((SE.iv ((e_vr 3)))) ((SE.iv ((e_vr 1))))) (e_int)) ((e_vr 0)) (e_int))
    (s_one (s_ret (e_bin op_mod mod_ok ((SE.iv ((e_vr 3)))) ((SE.iv ((e_vr 1))))))))) s_nil)
    (s_cons (s_put (e_bin op_mod mod_ok ((SE.iv (e_bin op_mulA mulA_ok ((SE.iv (e_ixm ((SE.iv ((e_vr 0)))) ((SE.iv (e_int)))))) ((SE.iv (e_int)))))) ((SE.iv (e_int)))) ((e_vr 0)) (e_int))
    (s_one (s_ret (e_bin op_mod mod_ok ((SE.iv (e_bin op_fdivW div_ok ((SE.iv (e_ixm ((SE.iv ((e_vr 0)))) ((SE.iv (e_int)))))) ((SE.iv (e_int)))))) ((SE.iv ((e_vr 1))))))))))))
theorem o_l_next (T : T K mg G)  {f : Addr} {fd : FuncData} (F : FunD K "_law_next" "_law_next" (defArgs st_l_next) (defBody st_l_next) (defScope st_l_next) [] [] f fd) (gl : mg "_law_next" = some (.ref f)) : Fo P w K mg base G 1 "_law_next" 2 .i M_l_next :=
  ⟨f, fd, ["_law_dice_here", "_law_many"], fl_l_next T  F, gl, F.kp, F.bindsN fun _ _ _ _ _ _ us hl => match us, hl with | [_, _], _ => rfl⟩
theorem fl_l_like_n (T : T K mg G)  {f : Addr} {fd : FuncData} (F : FunD K "_law_like" "_law_like" (defArgs st_l_like) (defBody st_l_like) (defScope st_l_like) [] [] f fd) (gl : mg "_law_like" = some (.ref f)) : ∀ n : Nat, FnOk P w K mg base (L2.CX P w) (n + 1) f fd ["_law_found", "_law_due"] (spF K G 2 .i (M_l_like_n n))
  | 0 => F.ok (CX := L2.CX P w) sc_l_like (fun vs H Q E h => h.1) (fun cdv A outer s H vs Q E hr h => by
    obtain ⟨_, _, _, _, _, _, h⟩ := h
    exact h.elim)
  | n + 1 => by
    have o_rec : Fo P w K mg base G (n + 1) "_law_like" 2 .i (M_l_like_n n) := ⟨f, fd, ["_law_found", "_law_due"], fl_l_like_n T  F gl n, gl, F.kp, F.bindsN fun _ _ _ _ _ _ us hl => match us, hl with | [_, _], _ => rfl⟩
    exact fn_dI F sc_l_like (fun cdv A outer s H E hr =>
    (s_cons (s_if (t_w (w_or (t_val ((SE.iv (e_isi (T := "tuple") (by rfl) T.n_isinstance (by rfl) T.n_tuple PyProof.Rows.boot_tuple ((SE.iv ((e_vr 1)))))))) (w_or1 (t_val ((SE.iv (e_isi (T := "list") (by rfl) T.n_isinstance (by rfl) T.n_list PyProof.Rows.boot_list ((SE.iv ((e_vr 1))))))))))) (s_cons (s_if (t_cmp (op_neA hr.units) (OpD.iv ne_ok) ((SE.iv (e_isi (T := "tuple") (by rfl) T.n_isinstance (by rfl) T.n_tuple PyProof.Rows.boot_tuple ((SE.iv ((e_vr 0))))))) ((SE.iv (e_isi (T := "tuple") (by rfl) T.n_isinstance (by rfl) T.n_tuple PyProof.Rows.boot_tuple ((SE.iv ((e_vr 1))))))) (nomark _)) (s_one (s_ret (e_bl))) s_nil)
    (s_cons (s_if (t_w (w_or (t_cmp (op_neA hr.units) (OpD.iv ne_ok) ((SE.iv (e_isi (T := "list") (by rfl) T.n_isinstance (by rfl) T.n_list PyProof.Rows.boot_list ((SE.iv ((e_vr 0))))))) ((SE.iv (e_isi (T := "list") (by rfl) T.n_isinstance (by rfl) T.n_list PyProof.Rows.boot_list ((SE.iv ((e_vr 1))))))) (nomark _)) (w_or1 (t_cmp (op_neA hr.units) (OpD.iv ne_ok) ((SE.iv (e_cb call_len len_ok (by rfl) T.n_len PySem.boot_len (a_consv ((SE.iv ((e_vr 0)))) a_nil)))) ((SE.iv (e_cb call_len len_ok (by rfl) T.n_len PySem.boot_len (a_consv ((SE.iv ((e_vr 1)))) a_nil)))) (nomark _))))) (s_one (s_ret (e_bl))) s_nil)
    (s_one (s_ret (e_cmp (op_eqA hr.units) eq_ok ((SE.fv (e_lc (by rfl) sc_l_like.nd (i_r1 (by rfl) T.n_range ((SE.iv (e_cb call_len len_ok (by rfl) T.n_len PySem.boot_len (a_consv ((SE.iv ((e_vr 1)))) a_nil))))) (blk_of sc_l_like (own := [("_law_k", 2)]) (by kernel_rfl)) (by decide) (fun _ _ _ _ _ => (g_name 2 sc_l_like.nd (by rfl) (.inl (by rfl)))) (fun _ _ _ _ _ => ts_one (t_not (t_val ((SE.iv (e_call o_rec hr (Nat.le_refl _) (by rfl) pass_en (a_cons (e_ixm ((SE.iv ((e_vr 0)))) ((SE.iv ((e_vr 2))))) (a_cons (e_ixm ((SE.iv ((e_vr 1)))) ((SE.iv ((e_vr 2))))) a_nil)))))))) (fun _ _ _ _ _ => (e_vr 2))))) ((SE.fv (e_lst a_nil))) (nomark _)))))) s_nil)
    (s_cons (s_if (t_cmp (op_neA hr.units) (OpD.iv ne_ok) ((SE.iv (e_isi (T := "bool") (by rfl) T.n_isinstance (by rfl) T.n_bool PyProof.Rows.boot_bool ((SE.iv ((e_vr 0))))))) ((SE.iv (e_isi (T := "bool") (by rfl) T.n_isinstance (by rfl) T.n_bool PyProof.Rows.boot_bool ((SE.iv ((e_vr 1))))))) (nomark _)) (s_one (s_ret (e_bl))) s_nil)
    (s_cons (s_if (t_w (w_or (t_cmp (op_neA hr.units) (OpD.iv ne_ok) ((SE.iv (e_isi (T := "int") (by rfl) T.n_isinstance (by rfl) T.n_int PyProof.Rows.boot_int ((SE.iv ((e_vr 0))))))) ((SE.iv (e_isi (T := "int") (by rfl) T.n_isinstance (by rfl) T.n_int PyProof.Rows.boot_int ((SE.iv ((e_vr 1))))))) (nomark _)) (w_or1 (t_cmp (op_neA hr.units) (OpD.iv ne_ok) ((SE.iv (e_isi (T := "str") (by rfl) T.n_isinstance (by rfl) T.n_str PyProof.Rows.boot_str ((SE.iv ((e_vr 0))))))) ((SE.iv (e_isi (T := "str") (by rfl) T.n_isinstance (by rfl) T.n_str PyProof.Rows.boot_str ((SE.iv ((e_vr 1))))))) (nomark _))))) (s_one (s_ret (e_bl))) s_nil)
    (s_one (s_ret (e_cmp (op_eqA hr.units) eq_ok ((SE.iv ((e_vr 0)))) ((SE.iv ((e_vr 1)))) (nomark _))))))))
theorem o_l_like (T : T K mg G)  {f : Addr} {fd : FuncData} (F : FunD K "_law_like" "_law_like" (defArgs st_l_like) (defBody st_l_like) (defScope st_l_like) [] [] f fd) (gl : mg "_law_like" = some (.ref f)) : Fo P w K mg base G 7 "_law_like" 2 .i M_l_like :=
  ⟨f, fd, ["_law_found", "_law_due"], fl_l_like_n T  F gl 6, gl, F.kp, F.bindsN fun _ _ _ _ _ _ us hl => match us, hl with | [_, _], _ => rfl⟩
theorem fl_l_work (T : T K mg G) (o_l_next : Fo P w K mg base G 1 "_law_next" 2 .i M_l_next) {f : Addr} {fd : FuncData} (F : FunD K "_law_work" "_law_work" (defArgs st_l_work) (defBody st_l_work) (defScope st_l_work) [] [] f fd) : FnOk P w K mg base (L2.CX P w) 2 f fd ["_law_d", "_law_size"] (spF K G 2 .i M_l_work) :=
  fn_dI F sc_l_work (fun cdv A outer s H E hr =>
    (s_cons (s_asg sc_l_work.nd (by rfl) (.inr (by rfl)) (e_ixm ((SE.fv (e_lst (a_cons (e_str) (a_cons (e_str) (a_cons (e_str) (a_cons (e_str) a_nil))))))) ((SE.iv (e_call o_l_next hr (by decide) (by rfl) pass_cx (a_cons ((e_vr 0)) (a_cons (e_int) a_nil)))))))
    (s_one (s_ret (e_join ((SE.iv (e_str))) ((SE.fv (e_lc (by rfl) sc_l_work.nd (i_r1 (by rfl) T.n_range ((SE.iv (e_call o_l_next hr (by decide) (by rfl) pass_cx (a_cons ((e_vr 0)) (a_cons (e_bin op_addA add_ok ((SE.iv ((e_vr 1)))) ((SE.iv (e_int)))) a_nil)))))) (blk_of sc_l_work (own := [("_law_k", 3)]) (by kernel_rfl)) (by decide) (fun _ _ _ _ _ => (g_name 3 sc_l_work.nd (by rfl) (.inl (by rfl)))) (fun _ _ _ _ _ => ts_nil) (fun _ _ _ _ _ => e_ixm ((SE.iv ((e_vr 2)))) ((SE.iv (e_call o_l_next hr (by decide) (by rfl) pass_en (a_cons ((e_vr 0)) (a_cons (e_cb call_len len_ok (by rfl) T.n_len PySem.boot_len (a_consv ((SE.iv ((e_vr 2)))) a_nil)) a_nil))))))))))))))
theorem o_l_work (T : T K mg G) (o_l_next : Fo P w K mg base G 1 "_law_next" 2 .i M_l_next) {f : Addr} {fd : FuncData} (F : FunD K "_law_work" "_law_work" (defArgs st_l_work) (defBody st_l_work) (defScope st_l_work) [] [] f fd) (gl : mg "_law_work" = some (.ref f)) : Fo P w K mg base G 2 "_law_work" 2 .i M_l_work :=
  ⟨f, fd, ["_law_d", "_law_size"], fl_l_work T o_l_next F, gl, F.kp, F.bindsN fun _ _ _ _ _ _ us hl => match us, hl with | [_, _], _ => rfl⟩
theorem fl_law (T : T K mg G) (o_l_dice : Fo P w K mg base G 1 "_law_dice" 1 .f M_l_dice) (o_l_next : Fo P w K mg base G 1 "_law_next" 2 .i M_l_next) (o_l_work : Fo P w K mg base G 2 "_law_work" 2 .i M_l_work) (o_card : Fo P w K mg base G 5 "card" 1 .i M_card) (o_written : Fo P w K mg base G 4 "written" 1 .i M_written) (o_read : Fo P w K mg base G 4 "read" 1 .f M_read_2) (o_l_like : Fo P w K mg base G 7 "_law_like" 2 .i M_l_like) {f : Addr} {fd : FuncData} (F : FunD K "law" "law" (defArgs st_law) (defBody st_law) (defScope st_law) [] [] f fd) : FnOk P w K mg base (L2.CX P w) 8 f fd ["_law_script"] (spF K G 1 .i M_law) :=
  fn_dI F sc_law (fun cdv A outer s H E hr =>
    (s_cons (s_asgN sc_law.nd (by rfl) (.inr (by rfl)) (e_call o_l_dice hr (by decide) (by rfl) pass_cx (a_cons ((e_vr 0)) a_nil)))
    (s_cons (s_lci (by rfl) sc_law.nd (by rfl) (by rfl) (sw_true rfl rfl rfl (by decide +kernel)) (i_r1 (by rfl) T.n_range ((SE.iv (e_call o_l_next hr (by decide) (by rfl) pass_cx (a_cons ((e_vr 1)) (a_cons (e_int) a_nil)))))) (blk_of sc_law (own := [("_law_k", 5)]) (by kernel_rfl)) (by decide) (fun _ _ _ _ _ => (g_name 5 sc_law.nd (by rfl) (.inl (by rfl)))) (fun _ _ _ _ _ => ts_nil) (fun _ _ _ _ _ => e_call o_card hr (by decide) (by rfl) pass_en (a_cons (e_call o_l_work hr (by decide) (by rfl) pass_en (a_cons ((e_vr 1)) (a_cons (e_int) a_nil))) a_nil)))
    (s_cons (s_lci (by rfl) sc_law.nd (by rfl) (by rfl) (sw_true rfl rfl rfl (by decide +kernel)) (i_lst ((e_vr 2))) (blk_of sc_law (own := [("_law_one", 6)]) (by kernel_rfl)) (by decide) (fun _ _ _ _ _ => (g_name 6 sc_law.nd (by rfl) (.inl (by rfl)))) (fun _ _ _ _ _ => ts_one (t_cmp op_leA (OpD.iv le_ok) ((SE.iv (e_cb call_abs abs_ok (by rfl) T.n_abs PyProof.Rows.boot_abs (a_consv ((SE.iv (e_ixm ((SE.iv ((e_vr 6)))) ((SE.iv (e_int)))))) a_nil)))) ((SE.iv (e_bin op_pow pow_ok ((SE.iv (e_int))) ((SE.iv (e_int)))))) (nomark _))) (fun _ _ _ _ _ => (e_vr 6)))
    (s_cons (s_asg sc_law.nd (by rfl) (.inl (by rfl)) (e_call o_written hr (by decide) (by rfl) pass_cx (a_cons ((e_vr 2)) a_nil)))
    (s_cons (s_asgO sc_law.nd (by rfl) (.inl (by rfl)) (e_call o_read hr (by decide) (by rfl) pass_cx (a_cons ((e_vr 3)) a_nil)))
    (s_cons (s_if (t_w (w_or (t_not (t_val ((SE.iv (e_callP o_l_like hr (by decide) (by rfl) pass_cx (a_consv ((e_vw 4)) (a_consv ((SE.iv ((e_vr 2)))) a_nil))))))) (w_or1 (t_cmp (op_neA hr.units) (OpD.iv ne_ok) ((SE.iv (e_callP o_written hr (by decide) (by rfl) pass_cx (a_consv ((e_vw 4)) a_nil)))) ((SE.iv ((e_vr 3)))) (nomark _))))) (s_one (s_ret (e_bl))) s_nil)
    (s_cons (s_app (i := 4) (by rfl) (.inl (by rfl)) (e_tup (a_cons (e_int) (a_cons (e_int) (a_cons (e_int) (a_cons (e_int) a_nil))))))
    (s_one (s_ret (e_cmp (op_eqA hr.units) eq_ok ((SE.fv (e_call o_read hr (by decide) (by rfl) pass_cx (a_cons ((e_vr 3)) a_nil)))) ((SE.iv ((e_vr 2)))) (nomark _))))))))))))
theorem o_law (T : T K mg G) (o_l_dice : Fo P w K mg base G 1 "_law_dice" 1 .f M_l_dice) (o_l_next : Fo P w K mg base G 1 "_law_next" 2 .i M_l_next) (o_l_work : Fo P w K mg base G 2 "_law_work" 2 .i M_l_work) (o_card : Fo P w K mg base G 5 "card" 1 .i M_card) (o_written : Fo P w K mg base G 4 "written" 1 .i M_written) (o_read : Fo P w K mg base G 4 "read" 1 .f M_read_2) (o_l_like : Fo P w K mg base G 7 "_law_like" 2 .i M_l_like) {f : Addr} {fd : FuncData} (F : FunD K "law" "law" (defArgs st_law) (defBody st_law) (defScope st_law) [] [] f fd) (gl : mg "law" = some (.ref f)) : Fo P w K mg base G 8 "law" 1 .i M_law :=
  ⟨f, fd, ["_law_script"], fl_law T o_l_dice o_l_next o_l_work o_card o_written o_read o_l_like F, gl, F.kp, F.bindsN fun _ _ _ _ _ _ us hl => match us, hl with | [_], _ => rfl⟩
end
def fn : List He.DefD := [D_need_work, D_two, D_need_card, D_step_on, D_even, D_stepped, D_card_of, D_card, D_written, D_is_number, D_is_row, D_read, D_l_dice, D_l_next, D_l_like, D_l_work, D_law, D_BadWork___init__, D_BadCard___init__, D_BadText___init__]
def fa : List He.Fa := [.glo "need_work", .glo "two", .glo "need_card", .glo "step_on", .glo "even", .glo "stepped", .glo "card_of", .glo "card", .glo "written", .glo "is_number", .glo "is_row", .glo "read", .glo "_law_dice", .glo "_law_next", .glo "_law_like", .glo "_law_work", .glo "law", .glo "BadWork", .glo "BadCard", .glo "BadText", .glo "HalfError", .free "enumerate", .free "range", .free "str", .free "len", .free "tuple", .free "int", .free "isinstance", .free "list", .free "bool", .free "abs", .int "MOST_SIGNS" 400, .str "SIGNS" "+-2/", .int "MOST_BITS" 1000, .int "FAR" 1000000000000000000000000000000000000000000000000000000000000, .int "MOST_FIGURES" 302, .str "FIGURES" "0123456789", .int "PARTS" 4, .glo "NOTHING", .meth "BadWork" "__init__", .meth "BadCard" "__init__", .meth "BadText" "__init__"]
def ex : PySem.W.Frag → Bool := fun K => He.tupB K "NOTHING" [.int 0, .int 0, .int 0, .int 0] && oxB K (exCl K 0) "place" && oxB K (exCl K 2) "part" && oxB K (exCl K 7) "row" && halfB K (exCl K 8)
def tf : List He.Defn := []
def TT (K : PySem.W.Frag) : List (Addr × Str) := []
abbrev R : PySem.W.OpenRow := PySem.W.OpenLaw.row PySem.Challenge.rw_halfsteps_k31_whole_written_and_read
abbrev hk : PySem.W.Hook := hookS 6 fa fn [] tf ex
def ob (s : PySem.W.SharedT) : He.AlX := obsS 6 fa fn [] tf ex (HandSHeadRun.getT s)
theorem ob_eq (s : PySem.W.SharedT) : ob s = hk.obs s.abs := obsS_eq (HandSHeadRun.getT_eq s)
def loose : List Str := (["HalfError", "BadWork", "BadCard", "BadText", "SIGNS", "MOST_SIGNS", "FAR", "MOST_BITS", "NOTHING", "need_work", "two", "need_card", "step_on", "even", "stepped", "card_of", "card", "FIGURES", "MOST_FIGURES", "PARTS"] : List Str) ++ (["written", "is_number", "is_row", "read", "_law_dice", "_law_next", "_law_like", "_law_work"] : List Str)
theorem run (w : World) : HandSHeadRun.RunEq R (PySem.W.view R.prog [32]) hk ob 3000 loose w := by
  intro os
  kernel_rfl
section
variable {w : World} {K : PySem.W.Frag} {mg : Str → Option Value} {h : Heap} {fa0 : Addr}
theorem mkT (X : K.In h) (G : h.Ns PySem.mainGlobals mg) (c : He.SaysD fa fn K) (e : ex K = true) : T K mg ⟨TT K, exCl K⟩ where
  n_enumerate := He.free_ok X G (c.fact 21 (f := .free "enumerate") rfl)
  n_range := He.free_ok X G (c.fact 22 (f := .free "range") rfl)
  n_str := He.free_ok X G (c.fact 23 (f := .free "str") rfl)
  n_len := He.free_ok X G (c.fact 24 (f := .free "len") rfl)
  n_tuple := He.free_ok X G (c.fact 25 (f := .free "tuple") rfl)
  n_int := He.free_ok X G (c.fact 26 (f := .free "int") rfl)
  n_isinstance := He.free_ok X G (c.fact 27 (f := .free "isinstance") rfl)
  n_list := He.free_ok X G (c.fact 28 (f := .free "list") rfl)
  n_bool := He.free_ok X G (c.fact 29 (f := .free "bool") rfl)
  n_abs := He.free_ok X G (c.fact 30 (f := .free "abs") rfl)
  c_MOST_SIGNS := He.int_ok X G (c.fact 31 (f := .int "MOST_SIGNS" 400) rfl)
  c_SIGNS := He.str_ok X G (c.fact 32 (f := .str "SIGNS" "+-2/") rfl)
  c_MOST_BITS := He.int_ok X G (c.fact 33 (f := .int "MOST_BITS" 1000) rfl)
  c_FAR := He.int_ok X G (c.fact 34 (f := .int "FAR" 1000000000000000000000000000000000000000000000000000000000000) rfl)
  c_NOTHING := ⟨_, He.glo_ok X G (c.fact 38 (f := .glo "NOTHING") rfl), fun ad h => .tup (He.tupB_ok ((Bool.and_eq_true_iff.mp (Bool.and_eq_true_iff.mp (Bool.and_eq_true_iff.mp (Bool.and_eq_true_iff.mp e).1).1).1).1) h) (.cons (.int _) (.cons (.int _) (.cons (.int _) (.cons (.int _) (.nil)))))⟩
  c_MOST_FIGURES := He.int_ok X G (c.fact 35 (f := .int "MOST_FIGURES" 302) rfl)
  c_FIGURES := He.str_ok X G (c.fact 36 (f := .str "FIGURES" "0123456789") rfl)
  c_PARTS := He.int_ok X G (c.fact 37 (f := .int "PARTS" 4) rfl)
  x_BadWork := ⟨He.glo_ok X G (c.fact 17 (f := .glo "BadWork") rfl), oxB_ok ((Bool.and_eq_true_iff.mp (Bool.and_eq_true_iff.mp (Bool.and_eq_true_iff.mp (Bool.and_eq_true_iff.mp e).1).1).1).2)⟩
  x_BadCard := ⟨He.glo_ok X G (c.fact 18 (f := .glo "BadCard") rfl), oxB_ok ((Bool.and_eq_true_iff.mp (Bool.and_eq_true_iff.mp (Bool.and_eq_true_iff.mp e).1).1).2)⟩
  x_BadText := ⟨He.glo_ok X G (c.fact 19 (f := .glo "BadText") rfl), oxB_ok ((Bool.and_eq_true_iff.mp (Bool.and_eq_true_iff.mp e).1).2)⟩
  half := ⟨He.glo_ok X G (c.fact 20 (f := .glo "HalfError") rfl), halfB_ok ((Bool.and_eq_true_iff.mp e).2)⟩
  x := trivial
theorem facts (X : K.In h) (G : h.Ns PySem.mainGlobals mg) (hfa : mg "law" = some (.ref fa0)) (c : He.SaysX fa fn [] tf ex w h K) (hM : ∀ ns : List Int, ns.length ≤ 63 → (∀ z ∈ ns, Builtin.Int.intBits z ≤ 1048576) → ∃ S', M_law [.frz (ns.map .int)] [] = .ok (.bl true) S') :
    LamX.LawAtS PySem.Challenge.rw_halfsteps_k31_whole_written_and_read w K (L2.CX (PySem.Challenge.rw_halfsteps_k31_whole_written_and_read).prog w) 8 63 "_law_script" mg fa0 h := by
  have T := mkT X G c.t.d c.more
  obtain ⟨fd_need_work, F_need_work⟩ := c.t.d.def_ 0 (d := D_need_work) rfl
  have g_need_work := He.glo_ok X G (c.t.d.fact 0 (f := .glo "need_work") rfl)
  obtain ⟨fd_two, F_two⟩ := c.t.d.def_ 1 (d := D_two) rfl
  have g_two := He.glo_ok X G (c.t.d.fact 1 (f := .glo "two") rfl)
  obtain ⟨fd_need_card, F_need_card⟩ := c.t.d.def_ 2 (d := D_need_card) rfl
  have g_need_card := He.glo_ok X G (c.t.d.fact 2 (f := .glo "need_card") rfl)
  obtain ⟨fd_step_on, F_step_on⟩ := c.t.d.def_ 3 (d := D_step_on) rfl
  have g_step_on := He.glo_ok X G (c.t.d.fact 3 (f := .glo "step_on") rfl)
  obtain ⟨fd_even, F_even⟩ := c.t.d.def_ 4 (d := D_even) rfl
  have g_even := He.glo_ok X G (c.t.d.fact 4 (f := .glo "even") rfl)
  obtain ⟨fd_stepped, F_stepped⟩ := c.t.d.def_ 5 (d := D_stepped) rfl
  have g_stepped := He.glo_ok X G (c.t.d.fact 5 (f := .glo "stepped") rfl)
  obtain ⟨fd_card_of, F_card_of⟩ := c.t.d.def_ 6 (d := D_card_of) rfl
  have g_card_of := He.glo_ok X G (c.t.d.fact 6 (f := .glo "card_of") rfl)
  obtain ⟨fd_card, F_card⟩ := c.t.d.def_ 7 (d := D_card) rfl
  have g_card := He.glo_ok X G (c.t.d.fact 7 (f := .glo "card") rfl)
  obtain ⟨fd_written, F_written⟩ := c.t.d.def_ 8 (d := D_written) rfl
  have g_written := He.glo_ok X G (c.t.d.fact 8 (f := .glo "written") rfl)
  obtain ⟨fd_is_number, F_is_number⟩ := c.t.d.def_ 9 (d := D_is_number) rfl
  have g_is_number := He.glo_ok X G (c.t.d.fact 9 (f := .glo "is_number") rfl)
  obtain ⟨fd_is_row, F_is_row⟩ := c.t.d.def_ 10 (d := D_is_row) rfl
  have g_is_row := He.glo_ok X G (c.t.d.fact 10 (f := .glo "is_row") rfl)
  obtain ⟨fd_read, F_read⟩ := c.t.d.def_ 11 (d := D_read) rfl
  have g_read := He.glo_ok X G (c.t.d.fact 11 (f := .glo "read") rfl)
  obtain ⟨fd_l_dice, F_l_dice⟩ := c.t.d.def_ 12 (d := D_l_dice) rfl
  have g_l_dice := He.glo_ok X G (c.t.d.fact 12 (f := .glo "_law_dice") rfl)
  obtain ⟨fd_l_next, F_l_next⟩ := c.t.d.def_ 13 (d := D_l_next) rfl
  have g_l_next := He.glo_ok X G (c.t.d.fact 13 (f := .glo "_law_next") rfl)
  obtain ⟨fd_l_like, F_l_like⟩ := c.t.d.def_ 14 (d := D_l_like) rfl
  have g_l_like := He.glo_ok X G (c.t.d.fact 14 (f := .glo "_law_like") rfl)
  obtain ⟨fd_l_work, F_l_work⟩ := c.t.d.def_ 15 (d := D_l_work) rfl
  have g_l_work := He.glo_ok X G (c.t.d.fact 15 (f := .glo "_law_work") rfl)
  obtain ⟨fd_law, F_law⟩ := c.t.d.def_ 16 (d := D_law) rfl
  have g_law := He.glo_ok X G (c.t.d.fact 16 (f := .glo "law") rfl)
  obtain ⟨fd_BadWork___init__, F_BadWork___init__⟩ := c.t.d.def_ 17 (d := D_BadWork___init__) rfl
  have i_BadWork := He.meth_ok (c.t.d.fact 39 (f := .meth "BadWork" "__init__") rfl)
  obtain ⟨fd_BadCard___init__, F_BadCard___init__⟩ := c.t.d.def_ 18 (d := D_BadCard___init__) rfl
  have i_BadCard := He.meth_ok (c.t.d.fact 40 (f := .meth "BadCard" "__init__") rfl)
  obtain ⟨fd_BadText___init__, F_BadText___init__⟩ := c.t.d.def_ 19 (d := D_BadText___init__) rfl
  have i_BadText := He.meth_ok (c.t.d.fact 41 (f := .meth "BadText" "__init__") rfl)
  have e := hfa.symm.trans g_law
  cases e
  refine law_says (cs := []) (T := TT K) (cl := exCl K) (F := M_law) (fun _ h => nomatch h) (fun _ h => nomatch h) (fun _ h => nomatch h) (fun _ h => nomatch h) (fun s u => FunD.bindsA (ps := ["_law_script"]) F_law (fun _ _ _ _ _ _ us hl => match us, hl with | [_], _ => rfl) s [u] rfl) (fun base _ _ _ => ?_) hM
  have q_BadWork := fl_BadWork___init__ (P := PySem.Challenge.pw_halfsteps_k31_whole_written_and_read) (w := w) (base := base) (G := ⟨TT K, exCl K⟩) T F_BadWork___init__ ⟨i_BadWork.1, beq_iff_eq.mp i_BadWork.2⟩
  have q_BadCard := fl_BadCard___init__ (P := PySem.Challenge.pw_halfsteps_k31_whole_written_and_read) (w := w) (base := base) (G := ⟨TT K, exCl K⟩) T F_BadCard___init__ ⟨i_BadCard.1, beq_iff_eq.mp i_BadCard.2⟩
  have q_BadText := fl_BadText___init__ (P := PySem.Challenge.pw_halfsteps_k31_whole_written_and_read) (w := w) (base := base) (G := ⟨TT K, exCl K⟩) T F_BadText___init__ ⟨i_BadText.1, beq_iff_eq.mp i_BadText.2⟩
  have q_need_work := o_need_work (P := PySem.Challenge.pw_halfsteps_k31_whole_written_and_read) (w := w) (base := base) (G := ⟨TT K, exCl K⟩) T q_BadWork F_need_work g_need_work
  have q_two := o_two (P := PySem.Challenge.pw_halfsteps_k31_whole_written_and_read) (w := w) (base := base) (G := ⟨TT K, exCl K⟩) T  F_two g_two
  have q_need_card := o_need_card (P := PySem.Challenge.pw_halfsteps_k31_whole_written_and_read) (w := w) (base := base) (G := ⟨TT K, exCl K⟩) T q_two q_BadCard F_need_card g_need_card
  have q_step_on := o_step_on (P := PySem.Challenge.pw_halfsteps_k31_whole_written_and_read) (w := w) (base := base) (G := ⟨TT K, exCl K⟩) T  F_step_on g_step_on
  have q_even := o_even (P := PySem.Challenge.pw_halfsteps_k31_whole_written_and_read) (w := w) (base := base) (G := ⟨TT K, exCl K⟩) T q_two F_even g_even
  have q_stepped := o_stepped (P := PySem.Challenge.pw_halfsteps_k31_whole_written_and_read) (w := w) (base := base) (G := ⟨TT K, exCl K⟩) T q_step_on q_two q_even F_stepped g_stepped
  have q_card_of := o_card_of (P := PySem.Challenge.pw_halfsteps_k31_whole_written_and_read) (w := w) (base := base) (G := ⟨TT K, exCl K⟩) T q_stepped F_card_of g_card_of
  have q_card := o_card (P := PySem.Challenge.pw_halfsteps_k31_whole_written_and_read) (w := w) (base := base) (G := ⟨TT K, exCl K⟩) T q_need_work q_card_of F_card g_card
  have q_written := o_written (P := PySem.Challenge.pw_halfsteps_k31_whole_written_and_read) (w := w) (base := base) (G := ⟨TT K, exCl K⟩) T q_need_card F_written g_written
  have q_is_number := o_is_number (P := PySem.Challenge.pw_halfsteps_k31_whole_written_and_read) (w := w) (base := base) (G := ⟨TT K, exCl K⟩) T  F_is_number g_is_number
  have q_is_row := o_is_row (P := PySem.Challenge.pw_halfsteps_k31_whole_written_and_read) (w := w) (base := base) (G := ⟨TT K, exCl K⟩) T q_is_number F_is_row g_is_row
  have q_read := o_read (P := PySem.Challenge.pw_halfsteps_k31_whole_written_and_read) (w := w) (base := base) (G := ⟨TT K, exCl K⟩) T q_is_row q_need_card q_BadText F_read g_read
  have q_l_dice := o_l_dice (P := PySem.Challenge.pw_halfsteps_k31_whole_written_and_read) (w := w) (base := base) (G := ⟨TT K, exCl K⟩) T  F_l_dice g_l_dice
  have q_l_next := o_l_next (P := PySem.Challenge.pw_halfsteps_k31_whole_written_and_read) (w := w) (base := base) (G := ⟨TT K, exCl K⟩) T  F_l_next g_l_next
  have q_l_like := o_l_like (P := PySem.Challenge.pw_halfsteps_k31_whole_written_and_read) (w := w) (base := base) (G := ⟨TT K, exCl K⟩) T  F_l_like g_l_like
  have q_l_work := o_l_work (P := PySem.Challenge.pw_halfsteps_k31_whole_written_and_read) (w := w) (base := base) (G := ⟨TT K, exCl K⟩) T q_l_next F_l_work g_l_work
  exact fl_law T q_l_dice q_l_next q_l_work q_card q_written q_read q_l_like F_law
end
end Dl
open PySem PySem.W PySem.Calls PyProof.Rows
set_option maxHeartbeats 0 in
theorem PySem.Challenge.cw_halfsteps_k31_whole_written_and_read_holds : PySem.Challenge.rw_halfsteps_k31_whole_written_and_read.Holds := by
  w_on; o_law
  refine HandSHeadRun.head_any (r := OpenLaw.row PySem.Challenge.rw_halfsteps_k31_whole_written_and_read) (q := view (OpenLaw.row PySem.Challenge.rw_halfsteps_k31_whole_written_and_read).prog [32]) (H := Dl.hk) (ob := Dl.ob) (M := 3000) (loose := Dl.loose) (d := HandSHeadRun.topDef (OpenLaw.row PySem.Challenge.rw_halfsteps_k31_whole_written_and_read).prog 32) (kwd := []) Dl.ob_eq
    (by kernel_rfl) (fun s => by kernel_rfl) Dl.run (by kernel_rfl) (by kernel_rfl) (by kernel_rfl) (by rfl) (by first | assumption | decide +kernel) (by decide +kernel) ⟨rfl, rfl, rfl, rfl, rfl, by decide +kernel⟩ ?hw ?hc
  case hw => w_witness2
  case hc =>
    refine LamX.walk_ofTsE (l := PySem.Challenge.rw_halfsteps_k31_whole_written_and_read) (n := 63) (k := 8) (x := "_law_script") (CX := fun w => L2.CX (PySem.Challenge.rw_halfsteps_k31_whole_written_and_read).prog w) rfl (by decide) (by kernel_rfl) ⟨rfl, by decide, by decide⟩ ?F (fun _ _ _ _ _ ⟨_, _, _, _, _, _, _, _, _, _, _, _, z⟩ => z)
    intro w mg fa h Y G hmg0
    obtain ⟨K, KX, c⟩ := Y
    have hmg : mg ("law" : PySem.Str) = some (.ref fa) := by
      have e : (HandSHeadRun.topDef (OpenLaw.row PySem.Challenge.rw_halfsteps_k31_whole_written_and_read).prog 32).name = ("law" : PySem.Str) := by kernel_rfl
      rw [← e]
      exact hmg0
    exact ⟨K, KX, Dl.facts KX G hmg c Dl.law_true⟩
