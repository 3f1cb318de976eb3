import PyProof.Rows.All
import Wide.All
import OpenK.AllK
import Wide.FinOn
import HandS.ForMost
import HandS.ForExc
import HandS.ExcInit
import HandS.ExcField
import HandS.ExcIs
import HandS.Steps
import HandS.HeadHook2
import HandS.TryOnly
import HandS.Iter
import HandS.Wide
import HandS.WideBits
import HandS.IsInst
import HandS.Deep
import HandS.Text
import HandS.SortInts
import HandS.SortRule
import HandS.TupAny
import HandS.AnyAll
import HandS.RaiseMore
import HandS.Star
import HandS.Defaults
import HandS.WordsExc
import HandS.EndBits
import HandS.HeadEnd
import HandS.Head0
import HandS.Head1
import HandS.Head2
import HandS.HeadHook1
import KE.KStateDown
import KE.KIsAll
import KE.KTryMore
import HandS.ExcOwn
import HandS.HeadHook4
import HandS.Dict
import PyProof.CallFns
import PyProof.StrBlock2
import KE.KBits
import KE.IntBitsLaws
import PySem.Challenge.RW_logtrees_k48_errors_made
set_option Elab.async false
set_option linter.all false
set_option maxRecDepth 100000
set_option maxHeartbeats 0
/-! DLa: data, worlds, what stands for what. -/
namespace DL
open PySem PySem.Spec PyProof.Rows L2
/-- data; lab l: the l-th object of the store -/
inductive D where
  | non | bl (b : Bool) | int (i : Int) | str (x : Str) | tup (ds : List D) | lst (ds : List D) | fz (ds : List D) | lab (l : Nat) | emp | exc (c f : Str) (ds : List D)
/-- a slot: empty, a datum, a list of its own -/
inductive SL where
  | no | im (d : D) | own (ds : List D)
abbrev Ev := List SL
/-- an object of the store -/
inductive MO where
  | dead | lst (ds : List D) | ins (c : Str) (fs : List (Str × D))
abbrev Sto := List MO
structure Exn where
  c : Str
  f : Option (Str × D)
inductive Out (α : Type) where
  | ok (a : α) (S : Sto) | ex (x : Exn) (S : Sto) | bad
inductive OS where
  | nx (g : Ev) (S : Sto) | rt (s : SL) (S : Sto) | bk (g : Ev) (S : Sto) | ct (g : Ev) (S : Sto) | ex (x : Exn) (g : Ev) (S : Sto) | bad
abbrev DE := Ev → Sto → Out D
abbrev DT := Ev → Sto → Out Bool
abbrev DA := Ev → Sto → Out (List D)
abbrev DS := Ev → Sto → OS
abbrev DF := List D → Sto → Out SL
/-- labels' places -/
abbrev Rh := Nat → Option Addr
/-- an exception that was caught: its class, its own dict -/
def ExL (cls : Value) (d : Option Addr) (a : Addr) : HO := .ext fun h => ∃ (oe : Obj) (vs : Array Value), h.get? a = some oe ∧ Zc cls d oe ∧ oe.data = .fields vs
mutual
inductive Rep (K : PySem.W.Frag) (r : Rh) (G : Hp) : D → V → Prop
  | non : Rep K r G .non .non
  | bl (b : Bool) : Rep K r G (.bl b) (.bl b)
  | int (i : Int) : Rep K r G (.int i) (.int i)
  | str (x : Str) : Rep K r G (.str x) (.str x)
  | tup {a : Addr} {xs : List V} {ds : List D} : SqT K G a xs → Reps K r G ds xs → Rep K r G (.tup ds) (.ref a)
  | lst {a : Addr} {xs : List V} {ds : List D} : G a = some (.lst xs) → Reps K r G ds xs → Rep K r G (.lst ds) (.ref a)
  | fz {a : Addr} {xs : List V} {ds : List D} : SqL K G a xs → Reps K r G ds xs → Rep K r G (.fz ds) (.ref a)
  | lab {l : Nat} {a : Addr} : r l = some a → Rep K r G (.lab l) (.ref a)
  | emp {a : Addr} : G a = some (.dK []) → Rep K r G .emp (.ref a)
  | exc {a : Addr} {c f : Str} : G a = some (ExL (.ref (He.ga K c)) none a) → Rep K r G (.exc c f []) (.ref a)
  | excF {a dd : Addr} {c f : Str} {v : V} {ds : List D} : G a = some (ExL (.ref (He.ga K c)) (some dd) a) → G dd = some (.xd [(f, v)]) → Reps K r G ds [v] → Rep K r G (.exc c f ds) (.ref a)
inductive Reps (K : PySem.W.Frag) (r : Rh) (G : Hp) : List D → List V → Prop
  | nil : Reps K r G [] []
  | cons {d : D} {v : V} {ds : List D} {vs : List V} : Rep K r G d v → Reps K r G ds vs → Reps K r G (d :: ds) (v :: vs)
end
section
variable {K : PySem.W.Frag} {r r' : Rh} {G G' H : Hp}
theorem sqT_mono (h : ∀ a o, G a = some o → G' a = some o) {a : Addr} {xs : List V} (s : SqT K G a xs) : SqT K G' a xs := by
  rcases s with (s | ⟨o, s⟩) | s
  · exact .inl (.inl (h _ _ s))
  · exact .inl (.inr ⟨o, h _ _ s⟩)
  · exact .inr s
theorem sqL_mono (h : ∀ a o, G a = some o → G' a = some o) {a : Addr} {xs : List V} (s : SqL K G a xs) : SqL K G' a xs := by
  rcases s with (s | ⟨o, s⟩) | s
  · exact .inl (.inl (h _ _ s))
  · exact .inl (.inr ⟨o, h _ _ s⟩)
  · exact .inr s
theorem Rep.mono (hr : ∀ l a, r l = some a → r' l = some a) (h : ∀ a o, G a = some o → G' a = some o) {d : D} {v : V} (x : Rep K r G d v) : Rep K r' G' d v :=
  Rep.rec (motive_1 := fun d v _ => Rep K r' G' d v) (motive_2 := fun ds vs _ => Reps K r' G' ds vs) .non .bl .int .str
    (fun s _ q => .tup (sqT_mono h s) q) (fun s _ q => .lst (h _ _ s) q) (fun s _ q => .fz (sqL_mono h s) q) (fun e => .lab (hr _ _ e)) (fun e => .emp (h _ _ e)) (fun e => .exc (h _ _ e)) (fun e e2 _ q => .excF (h _ _ e) (h _ _ e2) q) .nil (fun _ _ p q => .cons p q) x
theorem Reps.mono (hr : ∀ l a, r l = some a → r' l = some a) (h : ∀ a o, G a = some o → G' a = some o) {ds : List D} {vs : List V} (x : Reps K r G ds vs) : Reps K r' G' ds vs :=
  Reps.rec (motive_1 := fun d v _ => Rep K r' G' d v) (motive_2 := fun ds vs _ => Reps K r' G' ds vs) .non .bl .int .str
    (fun s _ q => .tup (sqT_mono h s) q) (fun s _ q => .lst (h _ _ s) q) (fun s _ q => .fz (sqL_mono h s) q) (fun e => .lab (hr _ _ e)) (fun e => .emp (h _ _ e)) (fun e => .exc (h _ _ e)) (fun e e2 _ q => .excF (h _ _ e) (h _ _ e2) q) .nil (fun _ _ p q => .cons p q) x
theorem Reps.length {ds : List D} {vs : List V} : Reps K r G ds vs → ds.length = vs.length := by
  induction ds generalizing vs with
  | nil => intro h; cases h; rfl
  | cons d ds ih => intro h; cases h with | cons p q => simp [ih q]
theorem Reps.get {ds : List D} {vs : List V} {i : Nat} {d : D} : Reps K r G ds vs → ds[i]? = some d → ∃ v, vs[i]? = some v ∧ Rep K r G d v := by
  induction ds generalizing vs i with
  | nil => intro _ e; simp at e
  | cons c ds ih =>
    intro h e
    cases h with
    | cons p q =>
      cases i with
      | zero => simp at e; subst e; exact ⟨_, rfl, p⟩
      | succ i => exact ih (i := i) q (by simpa using e)
theorem Reps.get' {ds : List D} {vs : List V} {i : Nat} {v : V} : Reps K r G ds vs → vs[i]? = some v → ∃ d, ds[i]? = some d ∧ Rep K r G d v := by
  induction ds generalizing vs i with
  | nil => intro h e; cases h; simp at e
  | cons c ds ih =>
    intro h e
    cases h with
    | cons p q =>
      cases i with
      | zero => simp at e; subst e; exact ⟨_, rfl, p⟩
      | succ i => exact ih (i := i) q (by simpa using e)
theorem Reps.append {ds es : List D} {vs us : List V} : Reps K r G ds vs → Reps K r G es us → Reps K r G (ds ++ es) (vs ++ us) := by
  induction ds generalizing vs with
  | nil => intro h q; cases h; exact q
  | cons d ds ih => intro h q; cases h with | cons p t => exact .cons p (ih t q)
theorem Reps.take {ds : List D} {vs : List V} (n : Nat) : Reps K r G ds vs → Reps K r G (ds.take n) (vs.take n) := by
  induction ds generalizing vs n with
  | nil => intro h; cases h; simpa using Reps.nil
  | cons d ds ih => intro h; cases h with | cons p t => cases n with
    | zero => exact .nil
    | succ n => exact .cons p (ih n t)
theorem Reps.drop {ds : List D} {vs : List V} (n : Nat) : Reps K r G ds vs → Reps K r G (ds.drop n) (vs.drop n) := by
  induction ds generalizing vs n with
  | nil => intro h; cases h; simpa using Reps.nil
  | cons d ds ih => intro h; cases h with | cons p t => cases n with
    | zero => exact .cons p t
    | succ n => exact ih n t
theorem Reps.set {ds : List D} {vs : List V} {d : D} {v : V} (i : Nat) (x : Rep K r G d v) : Reps K r G ds vs → Reps K r G (ds.set i d) (vs.set i v) := by
  induction ds generalizing vs i with
  | nil => intro h; cases h; exact .nil
  | cons e ds ih => intro h; cases h with | cons p t => cases i with
    | zero => exact .cons x t
    | succ i => exact .cons p (ih i t)
theorem Reps.rev {ds : List D} {vs : List V} : Reps K r G ds vs → Reps K r G ds.reverse vs.reverse := by
  induction ds generalizing vs with
  | nil => intro h; cases h; exact .nil
  | cons d ds ih => intro h; cases h with | cons p t => rw [List.reverse_cons, List.reverse_cons]; exact (ih t).append (.cons p .nil)
theorem Reps.ints {ns : List Int} {vs : List V} : Reps K r G (ns.map D.int) vs → vs = ns.map V.int := by
  induction ns generalizing vs with
  | nil => intro h; cases h; rfl
  | cons n ns ih => intro h; cases h with | cons p q => cases p; rw [ih q]; rfl
theorem Reps.ofInts {ns : List Int} : Reps K r G (ns.map D.int) (ns.map V.int) := by
  induction ns with
  | nil => exact .nil
  | cons n ns ih => exact .cons (.int n) ih
theorem Reps.bls {ns : List Bool} {vs : List V} : Reps K r G (ns.map D.bl) vs → vs = ns.map V.bl := by
  induction ns generalizing vs with
  | nil => intro h; cases h; rfl
  | cons n ns ih => intro h; cases h with | cons p q => cases p; rw [ih q]; rfl
theorem Reps.strs {ns : List Str} {vs : List V} : Reps K r G (ns.map D.str) vs → vs = ns.map V.str := by
  induction ns generalizing vs with
  | nil => intro h; cases h; rfl
  | cons n ns ih => intro h; cases h with | cons p q => cases p; rw [ih q]; rfl
theorem Reps.ofStrs {ns : List Str} : Reps K r G (ns.map D.str) (ns.map V.str) := by
  induction ns with
  | nil => exact .nil
  | cons n ns ih => exact .cons (.str n) ih
end
/-! ### worlds -/
structure Wd where
  r : Rh
  G : Hp
  H : Hp
  S : Sto
def Alive (S : Sto) (l : Nat) : Prop := ∃ o, S[l]? = some o ∧ o ≠ .dead
def Own (r : Rh) (S : Sto) (a : Addr) : Prop := ∃ l, Alive S l ∧ r l = some a
structure Step (w w' : Wd) : Prop where
  rho : ∀ l a, w.r l = some a → w'.r l = some a
  ext : ∀ a o, w.G a = some o → w'.G a = some o
  fr : ∀ a o, w.H a = some o → ¬ Own w.r w.S a → w'.H a = some o
  own : ∀ a, Own w'.r w'.S a → Own w.r w.S a ∨ w.H a = none
  gn : ∀ a o, w'.G a = some o → w.G a = some o ∨ w.H a = none ∨ Own w.r w.S a
  tr : ∀ a o, w.H a = some o → ∃ o', w'.H a = some o'
theorem Step.refl (w : Wd) : Step w w := ⟨fun _ _ h => h, fun _ _ h => h, fun _ _ h _ => h, fun _ h => .inl h, fun _ _ h => .inl h, fun _ o h => ⟨o, h⟩⟩
theorem Step.free {w w' : Wd} (s : Step w w') {a : Addr} (h : w'.H a = none) : w.H a = none := by
  cases e : w.H a with
  | none => rfl
  | some o => obtain ⟨o', e'⟩ := s.tr a o e; rw [h] at e'; cases e'
theorem Step.trans {w w1 w2 : Wd} (s : Step w w1) (t : Step w1 w2) : Step w w2 := by
  have nown : ∀ a o, w.H a = some o → ¬ Own w.r w.S a → ¬ Own w1.r w1.S a := fun a o h n q => by
    rcases s.own a q with z | z
    · exact n z
    · rw [h] at z; cases z
  have back : ∀ a, w1.H a = none → w.H a = none ∨ Own w.r w.S a := fun a h => by
    cases e : w.H a with
    | none => exact .inl rfl
    | some o =>
      refine .inr (Classical.byContradiction fun n => ?_)
      rw [s.fr a o e n] at h
      cases h
  refine ⟨fun l a h => t.rho l a (s.rho l a h), fun a o h => t.ext a o (s.ext a o h), fun a o h n => t.fr a o (s.fr a o h n) (nown a o h n), fun a h => ?_, fun a o h => ?_, fun a o h => by obtain ⟨o', e⟩ := s.tr a o h; exact t.tr a o' e⟩
  · rcases t.own a h with z | z
    · exact s.own a z
    · rcases back a z with q | q
      · exact .inr q
      · exact .inl q
  · rcases t.gn a o h with z | z | z
    · exact s.gn a o z
    · rcases back a z with q | q
      · exact .inr (.inl q)
      · exact .inr (.inr q)
    · rcases s.own a z with q | q
      · exact .inr (.inr q)
      · exact .inr (.inl q)
/-- what stands at an object of the store -/
def MRep (K : PySem.W.Frag) (r : Rh) (G : Hp) (ho : Option HO) : MO → Prop
  | .dead => True
  | .lst ds => ∃ xs, ho = some (.lst xs) ∧ Reps K r G ds xs
  | .ins c fs => ∃ dx xs, ho = some (.ins (He.ga K c) dx (fs.zipWith (fun p v => (p.1, v)) xs)) ∧ Reps K r G (fs.map (·.2)) xs
theorem MRep.mono {K : PySem.W.Frag} {r r' : Rh} {G G' : Hp} {ho : Option HO} (hr : ∀ l a, r l = some a → r' l = some a) (h : ∀ a o, G a = some o → G' a = some o) : ∀ {o : MO}, MRep K r G ho o → MRep K r' G' ho o
  | .dead, _ => trivial
  | .lst _, ⟨xs, e, x⟩ => ⟨xs, e, x.mono hr h⟩
  | .ins _ _, ⟨dx, xs, e, x⟩ => ⟨dx, xs, e, x.mono hr h⟩
theorem MRep.there {K : PySem.W.Frag} {r : Rh} {G : Hp} {ho : Option HO} {o : MO} (x : MRep K r G ho o) (n : o ≠ .dead) : ∃ u, ho = some u := by
  cases o with
  | dead => exact absurd rfl n
  | lst ds => obtain ⟨xs, e, _⟩ := x; exact ⟨_, e⟩
  | ins c fs => obtain ⟨dx, xs, e, _⟩ := x; exact ⟨_, e⟩
structure Rel (K : PySem.W.Frag) (w : Wd) : Prop where
  sub : ∀ a o, w.G a = some o → w.H a = some o
  obj : ∀ l o, w.S[l]? = some o → o ≠ .dead → ∃ a, w.r l = some a ∧ w.G a = none ∧ MRep K w.r w.G (w.H a) o
  inj : ∀ l l' a, Alive w.S l → Alive w.S l' → w.r l = some a → w.r l' = some a → l = l'
  dom : ∀ l, w.S.length ≤ l → w.r l = none
/-! ### roots -/
abbrev Rt := SL × Option V
def SlOk (K : PySem.W.Frag) (w0 w : Wd) : SL → Option V → Prop
  | .no, _ => True
  | .im d, v => ∃ u, v = some u ∧ Rep K w.r w.G d u
  | .own ds, v => ∃ a xs, v = some (.ref a) ∧ w.H a = some (.lst xs) ∧ Reps K w.r w.G ds xs ∧ w.G a = none ∧ ¬ Own w.r w.S a ∧ w0.H a = none
/-- two roots hold one own list -/
def OwnAt (q : Rt) (a : Addr) : Prop := ∃ ds, q.1 = .own ds ∧ q.2 = some (.ref a)
def Apart (q q' : Rt) : Prop := ∀ a, OwnAt q a → OwnAt q' a → False
structure Roots (K : PySem.W.Frag) (w0 w : Wd) (R : List Rt) : Prop where
  ok : ∀ q ∈ R, SlOk K w0 w q.1 q.2
  ap : R.Pairwise Apart
/-- R holds at H and S, w0 the world at the def's entry -/
def At (K : PySem.W.Frag) (w0 : Wd) (R : List Rt) (H : Hp) (S : Sto) : Prop :=
  ∃ r G, Step w0 ⟨r, G, H, S⟩ ∧ Rel K ⟨r, G, H, S⟩ ∧ Roots K w0 ⟨r, G, H, S⟩ R
section
variable {K : PySem.W.Frag} {w0 w w' : Wd} {R R' : List Rt} {H H' : Hp} {S S' : Sto} {r r' : Rh} {G G' : Hp}
theorem Own.there (x : Rel K w) {a : Addr} (h : Own w.r w.S a) : ∃ o, w.H a = some o := by
  obtain ⟨l, ⟨o, e, n⟩, ea⟩ := h
  obtain ⟨b, eb, _, m⟩ := x.obj l o e n
  rw [ea] at eb
  cases eb
  exact m.there n
theorem Own.free (x : Rel K w) {a : Addr} (h : Own w.r w.S a) : w.G a = none := by
  obtain ⟨l, ⟨o, e, n⟩, ea⟩ := h
  obtain ⟨b, eb, f, m⟩ := x.obj l o e n
  rw [ea] at eb
  cases eb
  exact f
/-- over a step every root holds -/
theorem SlOk.step (st : Step w w') {s : SL} {v : Option V} (h : SlOk K w0 w s v) : SlOk K w0 w' s v := by
  cases s with
  | no => trivial
  | im d => obtain ⟨u, e, x⟩ := h; exact ⟨u, e, x.mono st.rho st.ext⟩
  | own ds =>
    obtain ⟨a, xs, e, h1, h2, h3, h4, h5⟩ := h
    refine ⟨a, xs, e, st.fr a _ h1 h4, h2.mono st.rho st.ext, ?_, fun q => ?_, h5⟩
    · cases e2 : w'.G a with
      | none => rfl
      | some o =>
        rcases st.gn a o e2 with z | z | z
        · rw [h3] at z; cases z
        · rw [h1] at z; cases z
        · exact absurd z h4
    · rcases st.own a q with z | z
      · exact h4 z
      · rw [h1] at z; cases z
theorem Roots.step (st : Step w w') (x : Roots K w0 w R) : Roots K w0 w' R := ⟨fun q hq => (x.ok q hq).step st, x.ap⟩
theorem Roots.sub (x : Roots K w0 w R) (h : R'.Sublist R) : Roots K w0 w R' := ⟨fun q hq => x.ok q (h.subset hq), x.ap.sublist h⟩
/-- fewer roots -/
theorem At.sub (x : At K w0 R H S) (h : R'.Sublist R) : At K w0 R' H S := by
  obtain ⟨r, G, s, rl, ro⟩ := x
  exact ⟨r, G, s, rl, ro.sub h⟩
theorem apart_im {d : D} {v : Option V} (q : Rt) : Apart (.im d, v) q := fun a ⟨ds, e, _⟩ _ => by cases e
theorem apart_no {v : Option V} (q : Rt) : Apart (.no, v) q := fun a ⟨ds, e, _⟩ _ => by cases e
/-- one more datum -/
theorem Roots.push (x : Roots K w0 w R) {d : D} {v : V} (h : Rep K w.r w.G d v) : Roots K w0 w ((.im d, some v) :: R) :=
  ⟨fun q hq => by
    rcases List.mem_cons.mp hq with e | hq
    · subst e; exact ⟨v, rfl, h⟩
    · exact x.ok q hq, List.pairwise_cons.mpr ⟨fun q _ => apart_im q, x.ap⟩⟩
theorem Roots.at0 {d : D} {v : Option V} (x : Roots K w0 w ((.im d, v) :: R)) : ∃ u, v = some u ∧ Rep K w.r w.G d u := x.ok _ List.mem_cons_self
theorem Roots.tail {q : Rt} (x : Roots K w0 w (q :: R)) : Roots K w0 w R := x.sub (List.sublist_cons_self _ _)
theorem At.push (x : At K w0 R H S) {d : D} {v : V} (h : ∀ r G, Rep K r G d v) : At K w0 ((.im d, some v) :: R) H S := by
  obtain ⟨r, G, s, rl, ro⟩ := x
  exact ⟨r, G, s, rl, ro.push (h r G)⟩
theorem At.tail {q : Rt} (x : At K w0 (q :: R) H S) : At K w0 R H S := x.sub (List.sublist_cons_self _ _)
/-! ### steps -/
/-- a new immutable object -/
theorem step_new (x : Rel K w) {p : Addr} (hp : w.H p = none) (o : HO) :
    Step w ⟨w.r, upd w.G p o, upd w.H p o, w.S⟩ ∧ Rel K ⟨w.r, upd w.G p o, upd w.H p o, w.S⟩ := by
  have gp : ∀ a u, w.G a = some u → a ≠ p := fun a u e z => by
    have q := x.sub a u e
    rw [z, hp] at q
    cases q
  have hpn : ∀ a u, w.H a = some u → a ≠ p := fun a u e z => by rw [z, hp] at e; cases e
  have ext : ∀ a u, w.G a = some u → (upd w.G p o) a = some u := fun a u e => by rw [upd_ne (gp a u e)]; exact e
  refine ⟨⟨fun _ _ h => h, ext, fun a u e _ => ?_, fun _ h => .inl h, fun a u e => ?_, fun a u e => ⟨u, by show (upd w.H p o) a = some u; rw [upd_ne (hpn a u e)]; exact e⟩⟩, ⟨fun a u e => ?_, fun l u e n => ?_, x.inj, x.dom⟩⟩
  · show (upd w.H p o) a = some u
    rw [upd_ne (hpn a u e)]
    exact e
  · by_cases z : a = p
    · subst z; exact .inr (.inl hp)
    · have e : (upd w.G p o) a = some u := e
      rw [upd_ne z] at e
      exact .inl e
  · show (upd w.H p o) a = some u
    have e : (upd w.G p o) a = some u := e
    by_cases z : a = p
    · subst z
      rw [upd_same] at e ⊢
      exact e
    · rw [upd_ne z] at e ⊢
      exact x.sub a u e
  · obtain ⟨a, ea, ga, m⟩ := x.obj l u e n
    obtain ⟨ho, eh⟩ := m.there n
    have na := hpn a ho eh
    refine ⟨a, ea, ?_, ?_⟩
    · show (upd w.G p o) a = none
      rw [upd_ne na]
      exact ga
    · show MRep K w.r (upd w.G p o) ((upd w.H p o) a) u
      rw [upd_ne na]
      exact m.mono (fun _ _ h => h) ext
/-- an immutable object comes that is not tracked by G -/
theorem step_own (x : Rel K w) {p : Addr} (hp : w.H p = none) (o : HO) :
    Step w ⟨w.r, w.G, upd w.H p o, w.S⟩ ∧ Rel K ⟨w.r, w.G, upd w.H p o, w.S⟩ := by
  have hpn : ∀ a u, w.H a = some u → a ≠ p := fun a u e z => by rw [z, hp] at e; cases e
  refine ⟨⟨fun _ _ h => h, fun _ _ h => h, fun a u e _ => ?_, fun _ h => .inl h, fun a u e => .inl e, fun a u e => ⟨u, by show (upd w.H p o) a = some u; rw [upd_ne (hpn a u e)]; exact e⟩⟩, ⟨fun a u e => ?_, fun l u e n => ?_, x.inj, x.dom⟩⟩
  · show (upd w.H p o) a = some u
    rw [upd_ne (hpn a u e)]
    exact e
  · show (upd w.H p o) a = some u
    have q := x.sub a u e
    rw [upd_ne (hpn a u q)]
    exact q
  · obtain ⟨a, ea, ga, m⟩ := x.obj l u e n
    obtain ⟨ho, eh⟩ := m.there n
    refine ⟨a, ea, ga, ?_⟩
    show MRep K w.r w.G ((upd w.H p o) a) u
    rw [upd_ne (hpn a ho eh)]
    exact m
/-! ### roots by places -/
theorem Apart.symm {q q' : Rt} (h : Apart q q') : Apart q' q := fun a x y => h a y x
theorem pw_at {L : List Rt} {j k : Nat} {q q' : Rt} (h : L.Pairwise Apart) (hj : L[j]? = some q) (hk : L[k]? = some q') (n : j ≠ k) : Apart q q' := by
  induction L generalizing j k with
  | nil => simp at hj
  | cons c L ih =>
    obtain ⟨h1, h2⟩ := List.pairwise_cons.mp h
    cases j with
    | zero =>
      cases k with
      | zero => exact absurd rfl n
      | succ k =>
        have e1 : c = q := by simpa using hj
        subst e1
        exact h1 q' (List.mem_of_getElem? (by simpa using hk))
    | succ j =>
      cases k with
      | zero =>
        have e1 : c = q' := by simpa using hk
        subst e1
        exact (h1 q (List.mem_of_getElem? (by simpa using hj))).symm
      | succ k => exact ih h2 (by simpa using hj) (by simpa using hk) (fun e => n (by rw [e]))
theorem pw_set {L : List Rt} {j : Nat} {q' : Rt} (h : L.Pairwise Apart) (hn : ∀ k q, k ≠ j → L[k]? = some q → Apart q' q) : (L.set j q').Pairwise Apart := by
  induction L generalizing j with
  | nil => exact h
  | cons c L ih =>
    obtain ⟨h1, h2⟩ := List.pairwise_cons.mp h
    cases j with
    | zero =>
      refine List.pairwise_cons.mpr ⟨fun q hq => ?_, h2⟩
      obtain ⟨k, hk⟩ := List.getElem?_of_mem hq
      exact hn (k + 1) q (by omega) (by simpa using hk)
    | succ j =>
      refine List.pairwise_cons.mpr ⟨fun q hq => ?_, ih h2 fun k q nk e => hn (k + 1) q (by omega) (by simpa using e)⟩
      rcases List.mem_or_eq_of_mem_set hq with z | z
      · exact h1 q z
      · subst z
        exact (hn 0 c (by omega) rfl).symm
theorem mem_set {L : List Rt} {j : Nat} {q' q : Rt} (h : q ∈ L.set j q') : q = q' ∨ ∃ k, k ≠ j ∧ L[k]? = some q := by
  obtain ⟨k, hk⟩ := List.getElem?_of_mem h
  by_cases e : j = k
  · subst e
    by_cases hl : j < L.length
    · rw [List.getElem?_set_self hl] at hk
      exact .inl (Option.some.inj hk).symm
    · rw [List.getElem?_eq_none (by simpa using hl)] at hk
      cases hk
  · rw [List.getElem?_set_ne e] at hk
    exact .inr ⟨k, Ne.symm e, hk⟩
/-- an own list is written -/
theorem own_set {L : List Rt} {j : Nat} {ds ds' : List D} {a : Addr} {xs' : List V} (s : Step w0 w) (rl : Rel K w) (ro : Roots K w0 w L) (hj : L[j]? = some (.own ds, some (.ref a))) (h : Reps K w.r w.G ds' xs') :
    Step w0 ⟨w.r, w.G, upd w.H a (.lst xs'), w.S⟩ ∧ Rel K ⟨w.r, w.G, upd w.H a (.lst xs'), w.S⟩ ∧ Roots K w0 ⟨w.r, w.G, upd w.H a (.lst xs'), w.S⟩ (L.set j (.own ds', some (.ref a))) := by
  obtain ⟨a', xs, e, h1, h2, h3, h4, h5⟩ := ro.ok _ (List.mem_of_getElem? hj)
  have ea : a' = a := by injection e with e; injection e with e; exact e.symm
  subst ea
  refine ⟨⟨s.rho, s.ext, fun b o q n => ?_, s.own, s.gn, fun b o q => by
    obtain ⟨o', e'⟩ := s.tr b o q
    exact ⟨o', by show (upd w.H a' (.lst xs')) b = some o'; rw [upd_ne (fun z => by rw [z, h5] at q; cases q)]; exact e'⟩⟩, ⟨fun b o q => ?_, fun l o e1 n => ?_, rl.inj, rl.dom⟩, ⟨fun q hq => ?_, pw_set ro.ap fun k q nk e1 => ?_⟩⟩
  · show (upd w.H a' (.lst xs')) b = some o
    rw [upd_ne (fun z => by rw [z, h5] at q; cases q)]
    exact s.fr b o q n
  · show (upd w.H a' (.lst xs')) b = some o
    rw [upd_ne (fun z => by
      have q : w.G b = some o := q
      rw [z, h3] at q; cases q)]
    exact rl.sub b o q
  · obtain ⟨b, eb, gb, m⟩ := rl.obj l o e1 n
    refine ⟨b, eb, gb, ?_⟩
    show MRep K w.r w.G ((upd w.H a' (.lst xs')) b) o
    rw [upd_ne (fun z => h4 ⟨l, ⟨o, e1, n⟩, by rw [← z]; exact eb⟩)]
    exact m
  · rcases mem_set hq with z | ⟨k, nk, ek⟩
    · subst z
      exact ⟨a', xs', rfl, upd_same, h, h3, h4, h5⟩
    · have ok := ro.ok q (List.mem_of_getElem? ek)
      obtain ⟨sl, v⟩ := q
      cases sl with
      | no => trivial
      | im d => exact ok
      | own es =>
        obtain ⟨b, ys, eb, k1, k2, k3, k4, k5⟩ := ok
        refine ⟨b, ys, eb, ?_, k2, k3, k4, k5⟩
        have nb : b ≠ a' := fun z => by
          have := pw_at ro.ap ek hj nk a' ⟨es, rfl, by rw [← z]; exact eb⟩ ⟨ds, rfl, rfl⟩
          exact this
        show (upd w.H a' (.lst xs')) b = some (.lst ys)
        rw [upd_ne nb]
        exact k1
  · exact fun b ⟨es, z1, z2⟩ z3 => pw_at ro.ap hj e1 (Ne.symm nk) b ⟨ds, rfl, z2⟩ z3
/-- an own list is frozen -/
theorem own_freeze {L : List Rt} {j : Nat} {ds : List D} {v : Option V} (s : Step w0 w) (rl : Rel K w) (ro : Roots K w0 w L) (hj : L[j]? = some (.own ds, v)) :
    ∃ G', Step w0 ⟨w.r, G', w.H, w.S⟩ ∧ Rel K ⟨w.r, G', w.H, w.S⟩ ∧ Roots K w0 ⟨w.r, G', w.H, w.S⟩ (L.set j (.im (.lst ds), v)) := by
  obtain ⟨a, xs, e, h1, h2, h3, h4, h5⟩ := ro.ok _ (List.mem_of_getElem? hj)
  have ext : ∀ b o, w.G b = some o → (upd w.G a (.lst xs)) b = some o := fun b o q => by
    rw [upd_ne (fun z => by rw [z, h3] at q; cases q)]
    exact q
  refine ⟨upd w.G a (.lst xs), ⟨s.rho, fun b o q => ext b o (s.ext b o q), s.fr, s.own, fun b o q => ?_, s.tr⟩, ⟨fun b o q => ?_, fun l o e1 n => ?_, rl.inj, rl.dom⟩, ⟨fun q hq => ?_, pw_set ro.ap fun k q nk e1 => ?_⟩⟩
  · by_cases z : b = a
    · rw [z]; exact .inr (.inl h5)
    · have q : (upd w.G a (.lst xs)) b = some o := q
      rw [upd_ne z] at q
      exact s.gn b o q
  · by_cases z : b = a
    · subst z
      have q : (upd w.G b (.lst xs)) b = some o := q
      rw [upd_same] at q
      cases q
      exact h1
    · have q : (upd w.G a (.lst xs)) b = some o := q
      rw [upd_ne z] at q
      exact rl.sub b o q
  · obtain ⟨b, eb, gb, m⟩ := rl.obj l o e1 n
    refine ⟨b, eb, ?_, m.mono (fun _ _ h => h) ext⟩
    show (upd w.G a (.lst xs)) b = none
    rw [upd_ne (fun z => h4 ⟨l, ⟨o, e1, n⟩, by rw [← z]; exact eb⟩)]
    exact gb
  · rcases mem_set hq with z | ⟨k, nk, ek⟩
    · subst z
      exact ⟨.ref a, e, .lst upd_same (h2.mono (fun _ _ h => h) ext)⟩
    · have ok := ro.ok q (List.mem_of_getElem? ek)
      obtain ⟨sl, u⟩ := q
      cases sl with
      | no => trivial
      | im d => obtain ⟨u', e', x⟩ := ok; exact ⟨u', e', x.mono (fun _ _ h => h) ext⟩
      | own es =>
        obtain ⟨b, ys, eb, k1, k2, k3, k4, k5⟩ := ok
        refine ⟨b, ys, eb, k1, k2.mono (fun _ _ h => h) ext, ?_, k4, k5⟩
        have nb : b ≠ a := fun z => pw_at ro.ap ek hj nk a ⟨es, rfl, by rw [← z]; exact eb⟩ ⟨ds, rfl, e⟩
        show (upd w.G a (.lst xs)) b = none
        rw [upd_ne nb]
        exact k3
  · exact apart_im q
/-! ### objects of the store -/
theorem alive_set {S : Sto} {l : Nat} {o' : MO} {k : Nat} (h : Alive (S.set l o') k) (hl : Alive S l) : Alive S k := by
  obtain ⟨o, e, n⟩ := h
  by_cases z : l = k
  · subst z; exact hl
  · rw [List.getElem?_set_ne z] at e
    exact ⟨o, e, n⟩
/-- an object of the store is written -/
theorem lab_set {l : Nat} {o o' : MO} {a : Addr} {ho' : HO} (rl : Rel K w) (hl : w.S[l]? = some o) (ho : o ≠ .dead) (ha : w.r l = some a) (h : MRep K w.r w.G (some ho') o') :
    Step w ⟨w.r, w.G, upd w.H a ho', w.S.set l o'⟩ ∧ Rel K ⟨w.r, w.G, upd w.H a ho', w.S.set l o'⟩ := by
  have al : Alive w.S l := ⟨o, hl, ho⟩
  have oa : Own w.r w.S a := ⟨l, al, ha⟩
  refine ⟨⟨fun _ _ h => h, fun _ _ h => h, fun b u e n => ?_, fun b ⟨k, hk, ek⟩ => .inl ⟨k, alive_set hk al, ek⟩, fun b u e => .inl e, fun b u e => by
    by_cases z : b = a
    · exact ⟨ho', by rw [z]; exact upd_same⟩
    · exact ⟨u, by show (upd w.H a ho') b = some u; rw [upd_ne z]; exact e⟩⟩, ⟨fun b u e => ?_, fun k u e n => ?_, fun k k' b h1 h2 e1 e2 => rl.inj k k' b (alive_set h1 al) (alive_set h2 al) e1 e2, fun k hk => rl.dom k (by simpa using hk)⟩⟩
  · show (upd w.H a ho') b = some u
    rw [upd_ne (fun z => n (by rw [z]; exact oa))]
    exact e
  · show (upd w.H a ho') b = some u
    have e : w.G b = some u := e
    rw [upd_ne (fun z => by rw [z, Own.free rl oa] at e; cases e)]
    exact rl.sub b u e
  · have e : (w.S.set l o')[k]? = some u := e
    by_cases z : l = k
    · subst z
      rw [List.getElem?_set_self (List.getElem?_eq_some_iff.mp hl).1] at e
      cases e
      refine ⟨a, ha, Own.free rl oa, ?_⟩
      show MRep K w.r w.G ((upd w.H a ho') a) o'
      rw [upd_same]
      exact h
    · rw [List.getElem?_set_ne z] at e
      obtain ⟨b, eb, gb, m⟩ := rl.obj k u e n
      refine ⟨b, eb, gb, ?_⟩
      show MRep K w.r w.G ((upd w.H a ho') b) u
      rw [upd_ne (fun q => z (rl.inj l k a al ⟨u, e, n⟩ ha (by rw [← q]; exact eb)))]
      exact m
def rup (r : Rh) (n : Nat) (a : Addr) : Rh := fun l => if l = n then some a else r l
theorem rup_ext {r : Rh} {n : Nat} {a : Addr} (h : r n = none) : ∀ l b, r l = some b → rup r n a l = some b := fun l b e => by
  unfold rup
  rw [if_neg (fun z => by rw [z, h] at e; cases e)]
  exact e
theorem rup_same {r : Rh} {n : Nat} {a : Addr} : rup r n a n = some a := by unfold rup; rw [if_pos rfl]
theorem alive_app {S : Sto} {o : MO} {l : Nat} (h : Alive (S ++ [o]) l) : Alive S l ∨ l = S.length := by
  obtain ⟨u, e, n⟩ := h
  by_cases z : l < S.length
  · rw [List.getElem?_append_left z] at e
    exact .inl ⟨u, e, n⟩
  · rw [List.getElem?_append_right (by omega)] at e
    have : l - S.length < 1 := by
      have := (List.getElem?_eq_some_iff.mp e).1
      simpa using this
    exact .inr (by omega)
theorem alive_lt {S : Sto} {l : Nat} (h : Alive S l) : l < S.length := by
  obtain ⟨u, e, n⟩ := h
  exact (List.getElem?_eq_some_iff.mp e).1
/-- a new label: the object stands already at a, which nothing else holds -/
theorem lab_new {o : MO} {a : Addr} (rl : Rel K w) (hf : w.G a = none) (hn : ¬ Own w.r w.S a) (hd : o ≠ .dead) (h : MRep K w.r w.G (w.H a) o) :
    Rel K ⟨rup w.r w.S.length a, w.G, w.H, w.S ++ [o]⟩ ∧ (∀ b, Own (rup w.r w.S.length a) (w.S ++ [o]) b → Own w.r w.S b ∨ b = a) ∧ (∀ l b, w.r l = some b → rup w.r w.S.length a l = some b) := by
  have rx := rup_ext (a := a) (rl.dom w.S.length (Nat.le_refl _))
  have rn : ∀ l b, l < w.S.length → rup w.r w.S.length a l = some b → w.r l = some b := fun l b hl e => by
    unfold rup at e
    rw [if_neg (by omega)] at e
    exact e
  refine ⟨⟨rl.sub, fun l u e n => ?_, fun l l' b h1 h2 e1 e2 => ?_, fun l hl => ?_⟩, fun b ⟨l, hl, e⟩ => ?_, rx⟩
  · have e : (w.S ++ [o])[l]? = some u := e
    by_cases z : l < w.S.length
    · rw [List.getElem?_append_left z] at e
      obtain ⟨b, eb, gb, m⟩ := rl.obj l u e n
      exact ⟨b, rx l b eb, gb, m.mono rx fun _ _ h => h⟩
    · rw [List.getElem?_append_right (by omega)] at e
      have h1 : l - w.S.length < 1 := by
        have := (List.getElem?_eq_some_iff.mp e).1
        simpa using this
      have e2 : l = w.S.length := by omega
      subst e2
      rw [Nat.sub_self] at e
      have e3 : o = u := by simpa using e
      subst e3
      exact ⟨a, rup_same, hf, h.mono rx fun _ _ h => h⟩
  · have e1 : rup w.r w.S.length a l = some b := e1
    have e2 : rup w.r w.S.length a l' = some b := e2
    rcases alive_app h1 with q1 | q1 <;> rcases alive_app h2 with q2 | q2
    · exact rl.inj l l' b q1 q2 (rn l b (alive_lt q1) e1) (rn l' b (alive_lt q2) e2)
    · subst q2
      rw [rup_same] at e2
      cases e2
      exact absurd ⟨l, q1, rn l a (alive_lt q1) e1⟩ hn
    · subst q1
      rw [rup_same] at e1
      cases e1
      exact absurd ⟨l', q2, rn l' a (alive_lt q2) e2⟩ hn
    · rw [q1, q2]
  · have hl : w.S.length + 1 ≤ l := by simpa using hl
    show rup w.r w.S.length a l = none
    unfold rup
    rw [if_neg (by omega)]
    exact rl.dom l (by omega)
  · rcases alive_app hl with q | q
    · exact .inl ⟨l, q, rn l b (alive_lt q) e⟩
    · subst q
      rw [rup_same] at e
      cases e
      exact .inr rfl
/-- an own list comes into the store -/
theorem own_lab {L : List Rt} {j : Nat} {ds : List D} {v : Option V} (s : Step w0 w) (rl : Rel K w) (ro : Roots K w0 w L) (hj : L[j]? = some (.own ds, v)) :
    ∃ r', Step w0 ⟨r', w.G, w.H, w.S ++ [.lst ds]⟩ ∧ Rel K ⟨r', w.G, w.H, w.S ++ [.lst ds]⟩ ∧ Roots K w0 ⟨r', w.G, w.H, w.S ++ [.lst ds]⟩ (L.set j (.im (.lab w.S.length), v)) := by
  obtain ⟨a, xs, e, h1, h2, h3, h4, h5⟩ := ro.ok _ (List.mem_of_getElem? hj)
  obtain ⟨rl', ow, rx⟩ := lab_new (o := .lst ds) rl h3 h4 (fun q => by cases q) ⟨xs, h1, h2⟩
  refine ⟨rup w.r w.S.length a, ⟨fun l b q => rx l b (s.rho l b q), s.ext, s.fr, fun b q => ?_, s.gn, s.tr⟩, rl', ⟨fun q hq => ?_, pw_set ro.ap fun k q nk e1 => apart_im q⟩⟩
  · rcases ow b q with z | z
    · exact s.own b z
    · rw [z]; exact .inr h5
  · rcases mem_set hq with z | ⟨k, nk, ek⟩
    · subst z
      exact ⟨.ref a, e, .lab rup_same⟩
    · have ok := ro.ok q (List.mem_of_getElem? ek)
      obtain ⟨sl, u⟩ := q
      cases sl with
      | no => trivial
      | im d => obtain ⟨u', e', x⟩ := ok; exact ⟨u', e', x.mono rx fun _ _ h => h⟩
      | own es =>
        obtain ⟨b, ys, eb, k1, k2, k3, k4, k5⟩ := ok
        refine ⟨b, ys, eb, k1, k2.mono rx fun _ _ h => h, k3, fun q => ?_, k5⟩
        rcases ow b q with z | z
        · exact k4 z
        · exact pw_at ro.ap ek hj nk a ⟨es, rfl, by rw [← z]; exact eb⟩ ⟨ds, rfl, e⟩
/-- a new instance -/
theorem ins_new {c : Str} {x dx : Addr} (rl : Rel K w) (hx : w.H x = none) (hd : w.H dx = none) (hn : dx ≠ x) :
    Step w ⟨rup w.r w.S.length x, w.G, upd (upd w.H dx (.own x)) x (.ins (He.ga K c) dx []), w.S ++ [.ins c []]⟩ ∧ Rel K ⟨rup w.r w.S.length x, w.G, upd (upd w.H dx (.own x)) x (.ins (He.ga K c) dx []), w.S ++ [.ins c []]⟩ := by
  obtain ⟨s1, r1⟩ := step_own rl hd (.own x)
  have hx1 : (upd w.H dx (.own x)) x = none := by rw [upd_ne hn.symm]; exact hx
  obtain ⟨s2, r2⟩ := step_own r1 (p := x) hx1 (.ins (He.ga K c) dx [])
  have s3 := s1.trans s2
  have gx : w.G x = none := by
    cases e : w.G x with
    | none => rfl
    | some o => rw [rl.sub x o e] at hx; cases hx
  have nx : ¬ Own w.r w.S x := fun q => by
    obtain ⟨o, e⟩ := Own.there rl q
    rw [hx] at e; cases e
  obtain ⟨rl', ow, rx⟩ := lab_new (o := .ins c []) (a := x) r2 gx nx (fun q => by cases q) ⟨dx, [], upd_same, .nil⟩
  exact ⟨⟨fun l b q => rx l b q, s3.ext, s3.fr, fun b q => by
    rcases ow b q with z | z
    · exact .inl z
    · rw [z]; exact .inr hx, s3.gn, s3.tr⟩, rl'⟩
end
end DL
/-! DLb: readings over data; expressions. -/
namespace DL
open PySem PySem.Spec PyProof.Rows L2
abbrev Fg := PySem.W.Frag
def Out.bind {α β : Type} : Out α → (α → Sto → Out β) → Out β
  | .ok a S, k => k a S
  | .ex x S, _ => .ex x S
  | .bad, _ => .bad
def Out.of {α : Type} : Option α → Sto → Out α
  | some a, S => .ok a S
  | none, _ => .bad
abbrev zs (g : Ev) (σ : L2.St) : List Rt := g.zip σ
/-- an exception at H: its class, its own dict -/
def XAt (K : Fg) (w0 : Wd) (R : List Rt) (H : Hp) (S : Sto) (x : Exn) (cls : Value) (dd : Option Addr) : Prop :=
  cls = .ref (He.ga K x.c) ∧ match x.f with
    | none => dd = none ∧ At K w0 R H S
    | some (f, d) => ∃ a v r G, dd = some a ∧ Step w0 ⟨r, G, H, S⟩ ∧ Rel K ⟨r, G, H, S⟩ ∧ Roots K w0 ⟨r, G, H, S⟩ R ∧ G a = some (.xd [(f, v)]) ∧ Rep K r G d v
theorem XAt.sub {K : Fg} {w0 : Wd} {R R' : List Rt} {H : Hp} {S : Sto} {x : Exn} {cls : Value} {dd : Option Addr} (h : XAt K w0 R H S x cls dd) (s : R'.Sublist R) : XAt K w0 R' H S x cls dd := by
  obtain ⟨e, h⟩ := h
  refine ⟨e, ?_⟩
  obtain ⟨c, f⟩ := x
  cases f with
  | none => exact ⟨h.1, h.2.sub s⟩
  | some p =>
    obtain ⟨f, d⟩ := p
    obtain ⟨a, v, r, G, h1, h2, h3, h4, h5, h6⟩ := h
    exact ⟨a, v, r, G, h1, h2, h3, h4.sub s, h5, h6⟩
section
variable {α β γ δ : Type}
/-- what is wanted behind an evaluation: rt the roots of what came, ok how it came -/
def Post (rt : α → β → List Rt) (ok : α → β → Prop) (K : Fg) (W : WX) (w0 : Wd) (σ : L2.St) (R : List Rt) (Q : β → Hp → Prop) : Out α → Prop
  | .ok a S => ∀ b H', ok a b → At K w0 (rt a b ++ R) H' S → Q b H'
  | .ex x S => ∀ cls dd H', XAt K w0 R H' S x cls dd → W cls dd σ H'
  | .bad => False
/-- the reading of a data function -/
def rd (rt : α → β → List Rt) (ok : α → β → Prop) (K : Fg) (W : WX) (w0 : Wd) (f : Ev → Sto → Out α) : L2.St → Hp → (β → Hp → Prop) → Prop :=
  fun σ H Q => ∃ g S R, g.length = σ.length ∧ At K w0 (R ++ zs g σ) H S ∧ Post rt ok K W w0 σ (R ++ zs g σ) Q (f g S)
theorem Post.bind {rt : α → β → List Rt} {ok : α → β → Prop} {rt1 : γ → δ → List Rt} {ok1 : γ → δ → Prop} {K : Fg} {W : WX} {w0 : Wd} {σ : L2.St} {R R1 : List Rt} {Q : β → Hp → Prop} {Q1 : δ → Hp → Prop} {o : Out γ} {k : γ → Sto → Out α}
    (h : Post rt ok K W w0 σ R Q (o.bind k)) (s : R.Sublist R1) (hk : ∀ a S b H', ok1 a b → At K w0 (rt1 a b ++ R1) H' S → Post rt ok K W w0 σ R Q (k a S) → Q1 b H') : Post rt1 ok1 K W w0 σ R1 Q1 o := by
  cases o with
  | ok a S => exact fun b H' e x => hk a S b H' e x h
  | ex x S => exact fun cls dd H' e => h cls dd H' (e.sub s)
  | bad => exact h
theorem Post.of {rt : α → β → List Rt} {ok : α → β → Prop} {K : Fg} {W : WX} {w0 : Wd} {σ : L2.St} {R : List Rt} {Q : β → Hp → Prop} {o : Option α} {S : Sto} (h : Post rt ok K W w0 σ R Q (Out.of o S)) :
    ∃ a, o = some a ∧ ∀ b H', ok a b → At K w0 (rt a b ++ R) H' S → Q b H' := by
  cases o with
  | none => exact h.elim
  | some a => exact ⟨a, rfl, h⟩
end
def rtE (d : D) (v : V) : List Rt := [(.im d, some v)]
def okE (_ : D) (_ : V) : Prop := True
def rtT (_ : Bool) (_ : Bool) : List Rt := []
def okT (a b : Bool) : Prop := a = b
def ims (ds : List D) (vs : List V) : List Rt := List.zipWith (fun d v => (SL.im d, some v)) ds vs
def okA (ds : List D) (vs : List V) : Prop := ds.length = vs.length
def rtO (ds : List D) (v : V) : List Rt := [(.own ds, some v)]
def okO (_ : List D) (_ : V) : Prop := True
abbrev PD (X : Cx) (W : WX) (w0 : Wd) (e : Expr) (f : DE) : Prop := PE X e (rd rtE okE X.K W w0 f)
abbrev PDT (X : Cx) (W : WX) (w0 : Wd) (e : Expr) (f : DT) : Prop := PT X e (rd rtT okT X.K W w0 f)
abbrev PDA (X : Cx) (W : WX) (w0 : Wd) (es : List Expr) (f : DA) : Prop := PA X es (rd ims okA X.K W w0 f)
abbrev PDO (X : Cx) (W : WX) (w0 : Wd) (e : Expr) (f : DA) : Prop := PE X e (rd rtO okO X.K W w0 f)
theorem PE.weak {X : Cx} {e : Expr} {t t' : TE} (h : PE X e t) (w : ∀ σ H Q, t' σ H Q → t σ H Q) : PE X e t' := ⟨fun pins s σ H Q I q => h.run pins s σ H Q I (w σ H Q q)⟩
theorem PT.weak {X : Cx} {e : Expr} {t t' : TT} (h : PT X e t) (w : ∀ σ H Q, t' σ H Q → t σ H Q) : PT X e t' := ⟨fun pins s σ H Q I q => h.run pins s σ H Q I (w σ H Q q)⟩
theorem PW.weak {X : Cx} {e : Expr} {t t' : TT} (h : PW X e t) (w : ∀ σ H Q, t' σ H Q → t σ H Q) : PW X e t' := ⟨fun wh pins s σ H Q I q => h.run wh pins s σ H Q I (w σ H Q q)⟩
theorem PA.weak {X : Cx} {e : List Expr} {t t' : TA} (h : PA X e t) (w : ∀ σ H Q, t' σ H Q → t σ H Q) : PA X e t' := ⟨fun pos pins s σ H Q I q => h.run pos pins s σ H Q I (w σ H Q q)⟩
/-! ### what roots say -/
section
variable {K : Fg} {w0 : Wd} {R : List Rt} {H : Hp} {S : Sto} {v : V}
theorem At.int {i : Int} (x : At K w0 ((.im (.int i), some v) :: R) H S) : v = .int i := by
  obtain ⟨r, G, s, rl, ro⟩ := x
  obtain ⟨u, e, h⟩ := ro.at0
  cases e; cases h; rfl
theorem At.bl {i : Bool} (x : At K w0 ((.im (.bl i), some v) :: R) H S) : v = .bl i := by
  obtain ⟨r, G, s, rl, ro⟩ := x
  obtain ⟨u, e, h⟩ := ro.at0
  cases e; cases h; rfl
theorem At.str {i : Str} (x : At K w0 ((.im (.str i), some v) :: R) H S) : v = .str i := by
  obtain ⟨r, G, s, rl, ro⟩ := x
  obtain ⟨u, e, h⟩ := ro.at0
  cases e; cases h; rfl
theorem At.non (x : At K w0 ((.im .non, some v) :: R) H S) : v = .non := by
  obtain ⟨r, G, s, rl, ro⟩ := x
  obtain ⟨u, e, h⟩ := ro.at0
  cases e; cases h; rfl
/-- the list that a datum is, as it stands -/
def viewL (S : Sto) : D → Option (List D)
  | .lst ds => some ds
  | .fz ds => some ds
  | .lab l => match S[l]? with
    | some (.lst ds) => some ds
    | _ => none
  | _ => none
theorem view_ok {w : Wd} (rl : Rel K w) {d : D} {ds : List D} (h : Rep K w.r w.G d v) (e : viewL w.S d = some ds) : ∃ a xs, v = .ref a ∧ SqL K w.H a xs ∧ Reps K w.r w.G ds xs := by
  cases h with
  | lst g x => cases e; exact ⟨_, _, rfl, .inl (.inl (rl.sub _ _ g)), x⟩
  | fz g x => cases e; exact ⟨_, _, rfl, sqL_mono rl.sub g, x⟩
  | @lab l a ra =>
    have e : (match w.S[l]? with | some (.lst ds) => some ds | _ => none) = some ds := e
    cases q : w.S[l]? with
    | none => rw [q] at e; cases e
    | some o =>
      rw [q] at e
      cases o with
      | lst es =>
        cases e
        obtain ⟨b, eb, _, xs, m, x⟩ := rl.obj l _ q (fun z => by cases z)
        rw [ra] at eb
        cases eb
        exact ⟨_, _, rfl, .inl (.inl m), x⟩
      | _ => cases e
  | _ => cases e
/-- .. that may be joined -/
def viewM (S : Sto) : D → Option (List D)
  | .lst ds => some ds
  | .lab l => match S[l]? with
    | some (.lst ds) => some ds
    | _ => none
  | _ => none
theorem viewM_ok {w : Wd} (rl : Rel K w) {d : D} {ds : List D} (h : Rep K w.r w.G d v) (e : viewM w.S d = some ds) : ∃ a xs, v = .ref a ∧ w.H a = some (.lst xs) ∧ Reps K w.r w.G ds xs := by
  cases h with
  | lst g x => cases e; exact ⟨_, _, rfl, rl.sub _ _ g, x⟩
  | @lab l a ra =>
    have e : (match w.S[l]? with | some (.lst ds) => some ds | _ => none) = some ds := e
    cases q : w.S[l]? with
    | none => rw [q] at e; cases e
    | some o =>
      rw [q] at e
      cases o with
      | lst es =>
        cases e
        obtain ⟨b, eb, _, xs, m, x⟩ := rl.obj l _ q (fun z => by cases z)
        rw [ra] at eb
        cases eb
        exact ⟨_, _, rfl, m, x⟩
      | _ => cases e
  | _ => cases e
/-- a new object -/
theorem at_newL {r : Rh} {G : Hp} {xs : List V} {ds : List D} (s : Step w0 ⟨r, G, H, S⟩) (rl : Rel K ⟨r, G, H, S⟩) (ro : Roots K w0 ⟨r, G, H, S⟩ R) (h : Reps K r G ds xs) {p : Addr} (hp : H p = none) :
    At K w0 ((.im (.lst ds), some (.ref p)) :: R) (upd H p (.lst xs)) S := by
  obtain ⟨s2, rl2⟩ := step_new rl hp (.lst xs)
  exact ⟨r, _, s.trans s2, rl2, (ro.step s2).push (.lst upd_same (h.mono (fun _ _ h => h) s2.ext))⟩
theorem at_newT {r : Rh} {G : Hp} {xs : List V} {ds : List D} (s : Step w0 ⟨r, G, H, S⟩) (rl : Rel K ⟨r, G, H, S⟩) (ro : Roots K w0 ⟨r, G, H, S⟩ R) (h : Reps K r G ds xs) {p : Addr} (hp : H p = none) :
    At K w0 ((.im (.tup ds), some (.ref p)) :: R) (upd H p (.tup xs)) S := by
  obtain ⟨s2, rl2⟩ := step_new rl hp (.tup xs)
  exact ⟨r, _, s.trans s2, rl2, (ro.step s2).push (.tup (.inl (.inl upd_same)) (h.mono (fun _ _ h => h) s2.ext))⟩
theorem at_newO {r : Rh} {G : Hp} {xs : List V} {ds : List D} (s : Step w0 ⟨r, G, H, S⟩) (rl : Rel K ⟨r, G, H, S⟩) (ro : Roots K w0 ⟨r, G, H, S⟩ R) (h : Reps K r G ds xs) {p : Addr} (hp : H p = none) :
    At K w0 ((.own ds, some (.ref p)) :: R) (upd H p (.lst xs)) S := by
  obtain ⟨s2, rl2⟩ := step_own rl hp (.lst xs)
  have gp : G p = none := by
    cases e : G p with
    | none => rfl
    | some o => have q : H p = some o := rl.sub p o e
                rw [q] at hp; cases hp
  have np : ¬ Own r S p := fun q => by
    obtain ⟨o, e⟩ := Own.there rl q
    have e : H p = some o := e
    rw [hp] at e; cases e
  refine ⟨r, G, s.trans s2, rl2, ⟨fun q hq => ?_, List.pairwise_cons.mpr ⟨fun q hq => ?_, ro.ap⟩⟩⟩
  · rcases List.mem_cons.mp hq with e | hq
    · subst e
      exact ⟨p, xs, rfl, upd_same, h, gp, np, s.free hp⟩
    · exact (ro.step s2).ok q hq
  · intro a ⟨es, z1, z2⟩ ⟨fs, y1, y2⟩
    have ok := ro.ok q hq
    obtain ⟨sl, u⟩ := q
    have y1 : sl = .own fs := y1
    subst y1
    obtain ⟨b, ys, eb, k1, _⟩ := ok
    have y2 : u = some (.ref a) := y2
    have z2 : (some (V.ref p) : Option V) = some (.ref a) := z2
    rw [y2] at eb
    cases eb
    cases z2
    have k1 : H p = some (.lst ys) := k1
    rw [hp] at k1
    cases k1
theorem ims_cons {d : D} {ds : List D} {v : V} {vs : List V} : ims (d :: ds) (v :: vs) = (.im d, some v) :: ims ds vs := rfl
theorem Roots.reps {w : Wd} : ∀ {ds : List D} {vs : List V}, ds.length = vs.length → Roots K w0 w (ims ds vs ++ R) → Reps K w.r w.G ds vs
  | [], [], _, _ => .nil
  | [], _ :: _, e, _ => by cases e
  | _ :: _, [], e, _ => by cases e
  | d :: ds, v :: vs, e, ro => by
    rw [ims_cons] at ro
    obtain ⟨u, eu, h⟩ := Roots.at0 (R := ims ds vs ++ R) ro
    cases eu
    exact .cons h (Roots.reps (by simpa using e) (Roots.tail (R := ims ds vs ++ R) ro))
theorem sub_app (A R : List Rt) : R.Sublist (A ++ R) := List.sublist_append_right A R
end
/-! ### names, constants -/
section
variable {X : Cx} {W : WX} {w0 : Wd} {pos : Pos}
def dVar (i : Nat) : DE := fun g S => match g[i]? with
  | some (.im d) => .ok d S
  | _ => .bad
def dC (d : D) : DE := fun _ S => .ok d S
theorem slot_root {g : Ev} {σ : L2.St} {i : Nat} {s : SL} (hl : g.length = σ.length) (h : g[i]? = some s) : ∃ v, σ[i]? = some v ∧ (zs g σ)[i]? = some (s, v) := by
  obtain ⟨hi, e⟩ := List.getElem?_eq_some_iff.mp h
  have h2 : i < σ.length := by omega
  refine ⟨σ[i], List.getElem?_eq_getElem h2, ?_⟩
  rw [List.getElem?_zip_eq_some]
  exact ⟨h, List.getElem?_eq_getElem h2⟩
theorem slot_mem {g : Ev} {σ : L2.St} {i : Nat} {s : SL} {v : Option V} {R : List Rt} (h : (zs g σ)[i]? = some (s, v)) : (s, v) ∈ R ++ zs g σ := List.mem_append_right _ (List.mem_of_getElem? h)
theorem pd_vis (i : Nat) {x : Str} (hN : X.N[i]? = some x) (hv : Vis X.env.scope x) (hd : (x == ("__debug__" : Str)) = false := by decide) (hcd : (x == ("__classdict__" : Str)) = false := by decide) : PD X W w0 (.Name x pos) (dVar i) := by
  refine PE.weak (pe_var hN hv hd hcd) fun σ H Q h => ?_
  obtain ⟨g, S, R, hl, hA, hP⟩ := h
  unfold dVar at hP
  split at hP
  · rename_i d e
    obtain ⟨v, e2, e3⟩ := slot_root hl e
    obtain ⟨r, G, s, rl, ro⟩ := hA
    obtain ⟨u, e4, h4⟩ := ro.ok _ (slot_mem e3)
    cases (show v = some u from e4)
    exact ⟨u, e2, hP u H trivial ⟨r, G, s, rl, ro.push h4⟩⟩
  · exact hP.elim
theorem pd_int {i : Int} {j : Nat} : PD X W w0 (.Constant (.int i) j pos) (dC (.int i)) := PE.weak pe_int fun σ H Q ⟨g, S, R, hl, hA, hP⟩ => hP _ _ trivial (hA.push fun _ _ => .int i)
theorem pd_bl {i : Bool} {j : Nat} : PD X W w0 (.Constant (.bool i) j pos) (dC (.bl i)) := PE.weak pe_bl fun σ H Q ⟨g, S, R, hl, hA, hP⟩ => hP _ _ trivial (hA.push fun _ _ => .bl i)
theorem pd_non {j : Nat} : PD X W w0 (.Constant .none j pos) (dC .non) := PE.weak pe_non fun σ H Q ⟨g, S, R, hl, hA, hP⟩ => hP _ _ trivial (hA.push fun _ _ => .non)
theorem pd_str {i : Str} {j : Nat} : PD X W w0 (.Constant (.str i) j pos) (dC (.str i)) := PE.weak pe_str fun σ H Q ⟨g, S, R, hl, hA, hP⟩ => hP _ _ trivial (hA.push fun _ _ => .str i)
/-- a module's int -/
theorem pd_gint {x : Str} {i : Int} (hg : Gl X x) (hm : ∃ t, X.mg x = some (.int i t)) (hd : (x == ("__debug__" : Str)) = false := by decide) : PD X W w0 (.Name x pos) (dC (.int i)) := by
  obtain ⟨t, hm⟩ := hm
  exact PE.weak (pe_glob (v := .int i) hg hm ⟨t, rfl⟩ hd) fun σ H Q ⟨g, S, R, hl, hA, hP⟩ => hP _ _ trivial (hA.push fun _ _ => .int i)
end
/-! ### two values in, one out -/
section
variable {X : Cx} {W : WX} {w0 : Wd} {pos : Pos} {a b c : Expr} {f g' h' : DE}
abbrev O2 := D → D → Sto → Option D
def rV2 (K : Fg) (o : O2) : R2 := fun x y H Q => ∃ w0 S R a b, At K w0 ((.im b, some y) :: (.im a, some x) :: R) H S ∧ ∃ d, o a b S = some d ∧ ∀ v H', At K w0 ((.im d, some v) :: R) H' S → Q v H'
def dOp (o : O2) (f f' : DE) : DE := fun g S => (f g S).bind fun a S1 => (f' g S1).bind fun b S2 => Out.of (o a b S2) S2
theorem rd_op {K : Fg} {o : O2} {σ : L2.St} {H : Hp} {Q : VK} (h : rd rtE okE K W w0 (dOp o f g') σ H Q) : tOp (rV2 K o) (rd rtE okE K W w0 f) (rd rtE okE K W w0 g') σ H Q := by
  obtain ⟨g, S, R, hl, hA, hP⟩ := h
  refine ⟨g, S, R, hl, hA, hP.bind (List.Sublist.refl _) fun a S1 v1 H1 _ hA1 hP1 => ?_⟩
  refine ⟨g, S1, (.im a, some v1) :: R, hl, hA1, hP1.bind (List.sublist_cons_self _ _) fun b S2 v2 H2 _ hA2 hP2 => ?_⟩
  obtain ⟨d, e, hQ⟩ := hP2.of
  exact ⟨w0, S2, R ++ zs g σ, a, b, hA2, d, e, fun v H' x => hQ v H' trivial x⟩
theorem pd_op {op : Operator} {o : O2} (ho : OpR X (binaryOp op) (rV2 X.K o)) (ha : PD X W w0 a f) (hb : PD X W w0 b g') : PD X W w0 (.BinOp a op b pos) (dOp o f g') :=
  PE.weak (pe_op ho ha hb) fun _ _ _ h => rd_op h
theorem pd_ix {o : O2} (hr : IxR X (rV2 X.K o)) (ha : PD X W w0 a f) (hb : PD X W w0 b g') (hs : PlainIx b := by intro _ _; rfl) : PD X W w0 (.Subscript a b pos) (dOp o f g') :=
  PE.weak (pe_ix hr ha hb hs) fun _ _ _ h => rd_op h
theorem pd_cmp {op : CmpOp} {o : O2} (ho : OpR X (compareOp op) (rV2 X.K o)) (ha : PD X W w0 a f) (hb : PD X W w0 b g') (hm : behindInMarks op b = false) : PD X W w0 (.Compare a [op] [b] pos) (dOp o f g') :=
  PE.weak (pe_cmpR ho ha hb hm) fun _ _ _ h => rd_op h
/-- a value as a test -/
def dT (f : DE) : DT := fun g S => (f g S).bind fun d S1 => match d with
  | .bl b => .ok b S1
  | _ => .bad
theorem rd_T {K : Fg} {t : TE} {σ : L2.St} {H : Hp} {Q : Bool → Hp → Prop} (w : ∀ σ H Q, rd rtE okE K W w0 f σ H Q → t σ H Q) (h : rd rtT okT K W w0 (dT f) σ H Q) : tTest t σ H Q := by
  obtain ⟨g, S, R, hl, hA, hP⟩ := h
  refine w σ H _ ⟨g, S, R, hl, hA, hP.bind (List.Sublist.refl _) fun a S1 v1 H1 _ hA1 hP1 => ?_⟩
  cases a with
  | bl b => exact ⟨b, At.bl hA1, hP1 b H1 rfl hA1.tail⟩
  | _ => exact (show False from hP1).elim
theorem pt_cmp {op : CmpOp} {o : O2} (ho : OpR X (compareOp op) (rV2 X.K o)) (ha : PD X W w0 a f) (hb : PD X W w0 b g') (hm : behindInMarks op b = false) : PDT X W w0 (.Compare a [op] [b] pos) (dT (dOp o f g')) :=
  PT.weak (pt_cmpR ho ha hb hm) fun _ _ _ h => rd_T (fun _ _ _ => rd_op) h
theorem pdt_val (ha : PD X W w0 a f) (he : ∀ whole, isTrue a X.env whole = (do let v ← whole; standAt a.pos; holding [v] (truthy v)) := by intro _; rfl) : PDT X W w0 a (dT f) :=
  PT.weak (pt_val ha he) fun _ _ _ h => rd_T (fun _ _ _ h => h) h
def dChain (o o' : O2) (f f' f'' : DE) : DE := fun g S => (f g S).bind fun a S1 => (f' g S1).bind fun b S2 => match o a b S2 with
  | some (.bl true) => (f'' g S2).bind fun c S3 => Out.of (o' b c S3) S3
  | some (.bl false) => .ok (.bl false) S2
  | _ => .bad
theorem rd_chain {K : Fg} {o o' : O2} {σ : L2.St} {H : Hp} {Q : VK} (h : rd rtE okE K W w0 (dChain o o' f g' h') σ H Q) : tChain (rV2 K o) (rV2 K o') (rd rtE okE K W w0 f) (rd rtE okE K W w0 g') (rd rtE okE K W w0 h') σ H Q := by
  obtain ⟨g, S, R, hl, hA, hP⟩ := h
  refine ⟨g, S, R, hl, hA, hP.bind (List.Sublist.refl _) fun a S1 v1 H1 _ hA1 hP1 => ?_⟩
  refine ⟨g, S1, (.im a, some v1) :: R, hl, hA1, hP1.bind (List.sublist_cons_self _ _) fun b S2 v2 H2 _ hA2 hP2 => ?_⟩
  have hA2' : At K w0 ((.im b, some v2) :: (.im a, some v1) :: (R ++ zs g σ)) H2 S2 := hA2
  have hA3 : At K w0 ((.im b, some v2) :: (.im a, some v1) :: ((.im b, some v2) :: (R ++ zs g σ))) H2 S2 := by
    obtain ⟨r, G, s, rl, ro⟩ := hA2'
    obtain ⟨u1, e1, k1⟩ := ro.at0
    obtain ⟨u2, e2, k2⟩ := ro.tail.at0
    cases e1
    cases e2
    exact ⟨r, G, s, rl, ((ro.tail.tail.push k1).push k2).push k1⟩
  have key : ∃ d, o a b S2 = some d ∧ ((d = .bl true ∧ Post rtE okE K W w0 σ (R ++ zs g σ) Q ((h' g S2).bind fun c S3 => Out.of (o' b c S3) S3)) ∨ (d = .bl false ∧ ∀ v H', okE (.bl false) v → At K w0 (rtE (.bl false) v ++ (R ++ zs g σ)) H' S2 → Q v H')) := by
    cases e : o a b S2 with
    | none => rw [e] at hP2; exact (show False from hP2).elim
    | some d =>
      rw [e] at hP2
      refine ⟨d, rfl, ?_⟩
      cases d with
      | bl k => cases k with
        | true => exact .inl ⟨rfl, hP2⟩
        | false => exact .inr ⟨rfl, hP2⟩
      | _ => exact (show False from hP2).elim
  obtain ⟨d, e, key⟩ := key
  refine ⟨w0, S2, (.im b, some v2) :: (R ++ zs g σ), a, b, hA3, d, e, fun v H3 x3 => ?_⟩
  rcases key with ⟨rfl, hP3⟩ | ⟨rfl, hQ⟩
  · refine ⟨true, x3.bl, iteT ⟨g, S2, (.im b, some v2) :: R, hl, x3.tail, hP3.bind (List.sublist_cons_self _ _) fun c S3 v3 H4 _ hA4 hP4 => ?_⟩⟩
    obtain ⟨d', e', hQ⟩ := hP4.of
    exact ⟨w0, S3, R ++ zs g σ, b, c, hA4, d', e', fun v H' x => hQ v H' trivial x⟩
  · refine ⟨false, x3.bl, iteF (hQ _ _ trivial ?_)⟩
    have e := x3.bl
    subst e
    exact x3.sub (List.Sublist.cons_cons _ (List.sublist_cons_self _ _))
theorem pd_chain {op op' : CmpOp} {o o' : O2} (ho : OpR X (compareOp op) (rV2 X.K o)) (ho' : OpR X (compareOp op') (rV2 X.K o')) (ha : PD X W w0 a f) (hb : PD X W w0 b g') (hc : PD X W w0 c h')
    (hm : lastMarks [op, op'] [b, c] = false := by with_unfolding_all rfl) : PD X W w0 (.Compare a [op, op'] [b, c] pos) (dChain o o' f g' h') := PE.weak (pe_chain ho ho' ha hb hc hm) fun _ _ _ h => rd_chain h
theorem pdt_chain {op op' : CmpOp} {o o' : O2} (ho : OpR X (compareOp op) (rV2 X.K o)) (ho' : OpR X (compareOp op') (rV2 X.K o')) (ha : PD X W w0 a f) (hb : PD X W w0 b g') (hc : PD X W w0 c h')
    (hm : lastMarks [op, op'] [b, c] = false := by with_unfolding_all rfl) : PDT X W w0 (.Compare a [op, op'] [b, c] pos) (dT (dChain o o' f g' h')) := PT.weak (pt_chain ho ho' ha hb hc hm) fun _ _ _ h => rd_T (fun _ _ _ => rd_chain) h
/-! ### and, or, not, if -/
def dAnd (t u : DT) : DT := fun g S => (t g S).bind fun b S1 => if b = true then u g S1 else .ok false S1
def dOr (t u : DT) : DT := fun g S => (t g S).bind fun b S1 => if b = true then .ok true S1 else u g S1
def dNot (t : DT) : DT := fun g S => (t g S).bind fun b S1 => .ok (!b) S1
def dAndV (f f' : DE) : DE := fun g S => (dT f g S).bind fun b S1 => if b = true then f' g S1 else .ok (.bl false) S1
def dOrV (f f' : DE) : DE := fun g S => (dT f g S).bind fun b S1 => if b = true then .ok (.bl true) S1 else f' g S1
def dNotV (f : DE) : DE := fun g S => (dT f g S).bind fun b S1 => .ok (.bl (!b)) S1
def dIf (t : DT) (f f' : DE) : DE := fun g S => (t g S).bind fun b S1 => if b = true then f g S1 else f' g S1
variable {t u : DT} {rest : List Expr}
abbrev PDW (X : Cx) (W : WX) (w0 : Wd) (e : Expr) (f : DT) : Prop := PW X e (rd rtT okT X.K W w0 f)
theorem pdw_and1 (h : PDT X W w0 a t) : PDW X W w0 (.BoolOp .And [a] pos) t := pw_and1 h
theorem pdw_or1 (h : PDT X W w0 a t) : PDW X W w0 (.BoolOp .Or [a] pos) t := pw_or1 h
theorem rdT_bind {K : Fg} {α β : Type} {rt : α → β → List Rt} {ok : α → β → Prop} {k : Bool → Ev → Sto → Out α} {σ : L2.St} {H : Hp} {Q : β → Hp → Prop} {Q1 : Bool → Hp → Prop} (h : rd rt ok K W w0 (fun g S => (t g S).bind fun b S1 => k b g S1) σ H Q)
    (hk : ∀ b H1, rd rt ok K W w0 (k b) σ H1 Q → Q1 b H1) : rd rtT okT K W w0 t σ H Q1 := by
  obtain ⟨g, S, R, hl, hA, hP⟩ := h
  exact ⟨g, S, R, hl, hA, hP.bind (List.Sublist.refl _) fun b S1 b' H1 e hA1 hP1 => by
    cases (show b = b' from e)
    exact hk b H1 ⟨g, S1, R, hl, hA1, hP1⟩⟩
theorem pdw_and (h : PDT X W w0 a t) (h2 : PDW X W w0 (.BoolOp .And (b :: rest) pos) u) : PDW X W w0 (.BoolOp .And (a :: b :: rest) pos) (dAnd t u) := PW.weak (pw_and h h2) fun σ H Q q => by
  refine rdT_bind (k := fun b g S1 => if b = true then u g S1 else .ok false S1) q fun b H1 ⟨g, S, R, hl, hA, hP⟩ => ?_
  cases b with
  | true => exact iteT ⟨g, S, R, hl, hA, hP⟩
  | false => exact iteF (hP false H1 rfl hA)
theorem pdw_or (h : PDT X W w0 a t) (h2 : PDW X W w0 (.BoolOp .Or (b :: rest) pos) u) : PDW X W w0 (.BoolOp .Or (a :: b :: rest) pos) (dOr t u) := PW.weak (pw_or h h2) fun σ H Q q => by
  refine rdT_bind (k := fun b g S1 => if b = true then .ok true S1 else u g S1) q fun b H1 ⟨g, S, R, hl, hA, hP⟩ => ?_
  cases b with
  | true => exact iteT (hP true H1 rfl hA)
  | false => exact iteF ⟨g, S, R, hl, hA, hP⟩
theorem pdt_w (h : PDW X W w0 a t) : PDT X W w0 a t := h.pt
theorem pdt_not (h : PDT X W w0 a t) : PDT X W w0 (.UnaryOp .Not a pos) (dNot t) := PT.weak (pt_not h) fun σ H Q q => by
  refine rdT_bind (k := fun b g S1 => .ok (!b) S1) q fun b H1 ⟨g, S, R, hl, hA, hP⟩ => hP (!b) H1 rfl hA
theorem rdV_bind {K : Fg} {α β : Type} {rt : α → β → List Rt} {ok : α → β → Prop} {k : Bool → Ev → Sto → Out α} {σ : L2.St} {H : Hp} {Q : β → Hp → Prop} {Q1 : Bool → Hp → Prop} (h : rd rt ok K W w0 (fun g S => (dT f g S).bind fun b S1 => k b g S1) σ H Q)
    (hk : ∀ b H1, rd rt ok K W w0 (k b) σ H1 Q → Q1 b H1) : rd rtE okE K W w0 f σ H fun x H1 => ∃ c, x = .bl c ∧ Q1 c H1 := by
  have h2 := rdT_bind (t := dT f) (Q1 := Q1) h hk
  obtain ⟨g, S, R, hl, hA, hP⟩ := h2
  refine ⟨g, S, R, hl, hA, hP.bind (List.Sublist.refl _) fun a S1 v1 H1 _ hA1 hP1 => ?_⟩
  cases a with
  | bl b => exact ⟨b, At.bl hA1, hP1 b H1 rfl hA1.tail⟩
  | _ => exact (show False from hP1).elim
theorem pd_one {op : BoolOp} (h : PD X W w0 a f) : PD X W w0 (.BoolOp op [a] pos) f := pe_one h
theorem pd_and (h : PD X W w0 a f) (h2 : PD X W w0 (.BoolOp .And (b :: rest) pos) g') : PD X W w0 (.BoolOp .And (a :: b :: rest) pos) (dAndV f g') := PE.weak (pe_and h h2) fun σ H Q q => by
  refine rdV_bind (k := fun b g S1 => if b = true then g' g S1 else .ok (.bl false) S1) q fun b H1 ⟨g, S, R, hl, hA, hP⟩ => ?_
  cases b with
  | true => exact iteT ⟨g, S, R, hl, hA, hP⟩
  | false => exact iteF (hP _ H1 trivial (hA.push fun _ _ => .bl false))
theorem pd_or (h : PD X W w0 a f) (h2 : PD X W w0 (.BoolOp .Or (b :: rest) pos) g') : PD X W w0 (.BoolOp .Or (a :: b :: rest) pos) (dOrV f g') := PE.weak (pe_or h h2) fun σ H Q q => by
  refine rdV_bind (k := fun b g S1 => if b = true then .ok (.bl true) S1 else g' g S1) q fun b H1 ⟨g, S, R, hl, hA, hP⟩ => ?_
  cases b with
  | true => exact iteT (hP _ H1 trivial (hA.push fun _ _ => .bl true))
  | false => exact iteF ⟨g, S, R, hl, hA, hP⟩
theorem pd_not (h : PD X W w0 a f) : PD X W w0 (.UnaryOp .Not a pos) (dNotV f) := PE.weak (pe_not h) fun σ H Q q => by
  refine rdV_bind (rt := rtE) (ok := okE) (k := fun b _ S1 => Out.ok (D.bl (!b)) S1) q fun b H1 ⟨g, S, R, hl, hA, hP⟩ => hP _ H1 trivial (hA.push fun _ _ => .bl (!b))
theorem pd_ifExp (hc : PDT X W w0 c t) (ha : PD X W w0 a f) (hb : PD X W w0 b g') : PD X W w0 (.IfExp c a b pos) (dIf t f g') := PE.weak (pe_ifExp hc ha hb) fun σ H Q q => by
  refine rdT_bind (k := fun b g S1 => if b = true then f g S1 else g' g S1) q fun b H1 ⟨g, S, R, hl, hA, hP⟩ => ?_
  cases b with
  | true => exact iteT ⟨g, S, R, hl, hA, hP⟩
  | false => exact iteF ⟨g, S, R, hl, hA, hP⟩
/-! ### argument lists, displays -/
variable {es : List Expr} {fa : DA}
def dNil : DA := fun _ S => .ok [] S
def dCons (f : DE) (fs : DA) : DA := fun g S => (f g S).bind fun d S1 => (fs g S1).bind fun ds S2 => .ok (d :: ds) S2
theorem pda_nil : PDA X W w0 [] dNil := PA.weak pa_nil fun σ H Q ⟨g, S, R, hl, hA, hP⟩ => hP [] H rfl hA
theorem pda_cons (h : PD X W w0 a f) (h2 : PDA X W w0 es fa) (hs : starEach (a :: es) X.env = (false, eval a X.env) :: starEach es X.env := by rfl) : PDA X W w0 (a :: es) (dCons f fa) := PA.weak (pa_cons h h2 hs) fun σ H Q ⟨g, S, R, hl, hA, hP⟩ => by
  refine ⟨g, S, R, hl, hA, hP.bind (List.Sublist.refl _) fun d S1 v H1 _ hA1 hP1 => ?_⟩
  refine ⟨g, S1, (.im d, some v) :: R, hl, hA1, hP1.bind (List.sublist_cons_self _ _) fun ds S2 vs H2 e hA2 hP2 => ?_⟩
  refine hP2 (v :: vs) H2 (by show (d :: ds).length = (v :: vs).length; rw [List.length_cons, List.length_cons, show ds.length = vs.length from e]) ?_
  obtain ⟨r, G, s, rl, ro⟩ := hA2
  have ro' : Roots X.K w0 ⟨r, G, H2, S2⟩ (ims ds vs ++ ((.im d, some v) :: (R ++ zs g σ))) := ro
  have q : Rep X.K r G d v := by
    obtain ⟨u, e, h⟩ := ro'.ok (.im d, some v) (List.mem_append_right _ List.mem_cons_self)
    cases e
    exact h
  exact ⟨r, G, s, rl, (ro'.sub ((List.Sublist.refl _).append (List.sublist_cons_self _ _))).push q⟩
def dTup (fs : DA) : DE := fun g S => (fs g S).bind fun ds S1 => if ds.length ≤ sizeLine then .ok (.tup ds) S1 else .bad
def dLst (fs : DA) : DE := fun g S => (fs g S).bind fun ds S1 => if ds.length ≤ sizeLine then .ok (.lst ds) S1 else .bad
def oLst (fs : DA) : DA := fun g S => (fs g S).bind fun ds S1 => if ds.length ≤ sizeLine then .ok ds S1 else .bad
theorem pd_tup {x1} (h : PDA X W w0 es fa) : PD X W w0 (.Tuple es x1 pos) (dTup fa) := PE.weak (pe_tup h) fun σ H Q ⟨g, S, R, hl, hA, hP⟩ => by
  refine ⟨g, S, R, hl, hA, hP.bind (List.Sublist.refl _) fun ds S1 vs H1 e hA1 hP1 => ?_⟩
  split at hP1
  · rename_i hz
    refine ⟨by rw [← show ds.length = vs.length from e]; exact hz, fun p hp => hP1 _ _ trivial ?_⟩
    obtain ⟨r, G, s, rl, ro⟩ := hA1
    exact at_newT s rl (ro.sub (sub_app _ _)) (ro.reps e) hp
  · exact hP1.elim
theorem pd_lst (h : PDA X W w0 es fa) : PD X W w0 (.List es pos) (dLst fa) := PE.weak (pe_lst h) fun σ H Q ⟨g, S, R, hl, hA, hP⟩ => by
  refine ⟨g, S, R, hl, hA, hP.bind (List.Sublist.refl _) fun ds S1 vs H1 e hA1 hP1 => ?_⟩
  split at hP1
  · rename_i hz
    refine ⟨by rw [← show ds.length = vs.length from e]; exact hz, fun p hp => hP1 _ _ trivial ?_⟩
    obtain ⟨r, G, s, rl, ro⟩ := hA1
    exact at_newL s rl (ro.sub (sub_app _ _)) (ro.reps e) hp
  · exact hP1.elim
theorem po_lst (h : PDA X W w0 es fa) : PDO X W w0 (.List es pos) (oLst fa) := PE.weak (pe_lst h) fun σ H Q ⟨g, S, R, hl, hA, hP⟩ => by
  refine ⟨g, S, R, hl, hA, hP.bind (List.Sublist.refl _) fun ds S1 vs H1 e hA1 hP1 => ?_⟩
  split at hP1
  · rename_i hz
    refine ⟨by rw [← show ds.length = vs.length from e]; exact hz, fun p hp => hP1 _ _ trivial ?_⟩
    obtain ⟨r, G, s, rl, ro⟩ := hA1
    exact at_newO s rl (ro.sub (sub_app _ _)) (ro.reps e) hp
  · exact hP1.elim
/-- an own list, frozen at once -/
def dFrz (f : DA) : DE := fun g S => (f g S).bind fun ds S1 => .ok (.lst ds) S1
theorem pd_frz {fo : DA} (h : PDO X W w0 a fo) : PD X W w0 a (dFrz fo) := PE.weak h fun σ H Q ⟨g, S, R, hl, hA, hP⟩ => by
  refine ⟨g, S, R, hl, hA, hP.bind (List.Sublist.refl _) fun ds S1 v H1 _ hA1 hP1 => hP1 v H1 trivial ?_⟩
  obtain ⟨r, G, s, rl, ro⟩ := hA1
  obtain ⟨G', s', rl', ro'⟩ := own_freeze (j := 0) s rl ro rfl
  exact ⟨r, G', s', rl', ro'⟩
/-! ### calls of builtins, by values -/
abbrev ON := List D → Sto → Option D
def rVN (K : Fg) (o : ON) : List V → Hp → VK → Prop := fun xs H Q => ∃ w0 S R ds, ds.length = xs.length ∧ At K w0 (ims ds xs ++ R) H S ∧ ∃ d, o ds S = some d ∧ ∀ v H', At K w0 ((.im d, some v) :: R) H' S → Q v H'
def dFn (o : ON) (fs : DA) : DE := fun g S => (fs g S).bind fun ds S1 => Out.of (o ds S1) S1
theorem rd_fn {K : Fg} {o : ON} {σ : L2.St} {H : Hp} {Q : VK} (h : rd rtE okE K W w0 (dFn o fa) σ H Q) : tCB (rVN K o) (rd ims okA K W w0 fa) σ H Q := by
  obtain ⟨g, S, R, hl, hA, hP⟩ := h
  refine ⟨g, S, R, hl, hA, hP.bind (List.Sublist.refl _) fun ds S1 vs H1 e hA1 hP1 => ?_⟩
  obtain ⟨d, e2, hQ⟩ := hP1.of
  exact ⟨w0, S1, R ++ zs g σ, ds, e, hA1, d, e2, fun v H' x => hQ v H' trivial x⟩
theorem pd_callB {x : Str} {p : Pos} {id : String} {o : ON} (hc : CallR X (.builtin id) (rVN X.K o)) (hg : Gl X x) (hm : X.mg x = none) (hv : bootBuiltins x = some (.builtin id)) (ha : PDA X W w0 (a :: es) fa) (hn : x ≠ "__name__" := by decide) (hdb : (x == ("__debug__" : Str)) = false := by decide)
    (he : starEach (a :: es) X.env = (false, eval a X.env) :: starEach es X.env := by rfl) (hpl : (backTo pos (starEach es X.env)).any (·.1) = false := by rfl) : PD X W w0 (.Call (.Name x p) (a :: es) [] pos) (dFn o fa) :=
  PE.weak (pe_callB hc hg hm hv ha hn hdb he hpl) fun _ _ _ h => rd_fn h
theorem pd_callTy {x : Str} {p : Pos} {id : String} {o : ON} (hc : CallR X (.type id) (rVN X.K o)) (hg : Gl X x) (hm : X.mg x = none) (hv : bootBuiltins x = some (.type id)) (ha : PDA X W w0 (a :: es) fa) (hn : x ≠ "__name__" := by decide) (hdb : (x == ("__debug__" : Str)) = false := by decide)
    (he : starEach (a :: es) X.env = (false, eval a X.env) :: starEach es X.env := by rfl) (hpl : (backTo pos (starEach es X.env)).any (·.1) = false := by rfl) : PD X W w0 (.Call (.Name x p) (a :: es) [] pos) (dFn o fa) :=
  PE.weak (pe_callTy hc hg hm hv ha hn hdb he hpl) fun _ _ _ h => rd_fn h
end
end DL
/-! DLc: statements, loops, comprehensions over data. -/
namespace DL
open PySem PySem.Spec PyProof.Rows L2
/-- what is wanted behind a statement -/
def PostS (K : Fg) (W : WX) (w0 : Wd) (R : List Rt) (n : Nat) (D : Ends) : OS → Prop
  | .nx g S => ∀ σ' H', σ'.length = n → g.length = n → At K w0 (R ++ zs g σ') H' S → D.nx σ' H'
  | .rt s S => ∀ v H', At K w0 [(s, some v)] H' S → D.rt v H'
  | .bk g S => ∀ σ' H', σ'.length = n → g.length = n → At K w0 (R ++ zs g σ') H' S → D.bk σ' H'
  | .ct g S => ∀ σ' H', σ'.length = n → g.length = n → At K w0 (R ++ zs g σ') H' S → D.ct σ' H'
  | .ex x g S => ∀ σ' cls dd H', σ'.length = n → g.length = n → XAt K w0 (R ++ zs g σ') H' S x cls dd → W cls dd σ' H'
  | .bad => False
def rdS (K : Fg) (W : WX) (w0 : Wd) (f : DS) : TS := fun D σ H => ∃ g S R, g.length = σ.length ∧ At K w0 (R ++ zs g σ) H S ∧ PostS K W w0 R σ.length D (f g S)
abbrev PSD (X : Cx) (W : WX) (w0 : Wd) (st : Stmt) (f : DS) : Prop := PS X st (rdS X.K W w0 f)
abbrev PSDs (X : Cx) (W : WX) (w0 : Wd) (st : List Stmt) (f : DS) : Prop := PSs X st (rdS X.K W w0 f)
theorem PS.weak {X : Cx} {st : Stmt} {t t' : TS} (h : PS X st t) (w : ∀ D σ H, t' D σ H → t D σ H) : PS X st t' := ⟨fun pins s σ H D I q => h.run pins s σ H D I (w D σ H q)⟩
theorem PSs.weak {X : Cx} {st : List Stmt} {t t' : TS} (h : PSs X st t) (w : ∀ D σ H, t' D σ H → t D σ H) : PSs X st t' := ⟨fun pins s σ H D I q => h.run pins s σ H D I (w D σ H q)⟩
/-! ### slots set -/
theorem zip_set2 {g : Ev} {σ : L2.St} {i : Nat} {s : SL} {v : Option V} : zs (g.set i s) (σ.set i v) = (zs g σ).set i (s, v) := by
  unfold zs
  induction g generalizing σ i with
  | nil => simp
  | cons c g ih =>
    cases σ with
    | nil => cases i <;> simp
    | cons d σ =>
      cases i with
      | zero => simp
      | succ i => simp [ih]
theorem zip_set1 {g : Ev} {σ : L2.St} {i : Nat} {s : SL} {v : Option V} (h : σ[i]? = some v) : zs (g.set i s) σ = (zs g σ).set i (s, v) := by
  have e : σ.set i v = σ := by
    apply List.ext_getElem?
    intro j
    by_cases z : i = j
    · subst z
      rw [List.getElem?_set_self (List.getElem?_eq_some_iff.mp h).1]
      exact h.symm
    · rw [List.getElem?_set_ne z]
  have q := zip_set2 (g := g) (σ := σ) (i := i) (s := s) (v := v)
  rw [e] at q
  exact q
theorem app_set (R : List Rt) {L : List Rt} {i : Nat} {q : Rt} : R ++ L.set i q = (R ++ L).set (R.length + i) q := by
  rw [List.set_append]
  rw [if_neg (by omega), Nat.add_sub_cancel_left]
theorem app_get (R : List Rt) {L : List Rt} {i : Nat} : (R ++ L)[R.length + i]? = L[i]? := by
  rw [List.getElem?_append_right (by omega), Nat.add_sub_cancel_left]
section
variable {K : Fg} {w0 w : Wd} {R L : List Rt} {H : Hp} {S : Sto}
/-- the front root moves to place j -/
theorem Roots.move {q : Rt} (ro : Roots K w0 w (q :: L)) (j : Nat) : Roots K w0 w (L.set j q) := by
  have h := List.pairwise_cons.mp ro.ap
  refine ⟨fun p hp => ?_, pw_set h.2 fun k p _ e => h.1 p (List.mem_of_getElem? e)⟩
  rcases mem_set hp with z | ⟨k, _, e⟩
  · rw [z]; exact ro.ok q List.mem_cons_self
  · exact ro.ok p (List.mem_cons_of_mem _ (List.mem_of_getElem? e))
theorem At.move {q : Rt} (x : At K w0 (q :: L) H S) (j : Nat) : At K w0 (L.set j q) H S := by
  obtain ⟨r, G, s, rl, ro⟩ := x
  exact ⟨r, G, s, rl, ro.move j⟩
theorem At.setSlot {g : Ev} {σ : L2.St} {i : Nat} {s : SL} {v : V} (x : At K w0 ((s, some v) :: (R ++ zs g σ)) H S) : At K w0 (R ++ zs (g.set i s) (σ.set i (some v))) H S := by
  rw [zip_set2, app_set]
  exact x.move _
end
section
variable {X : Cx} {W : WX} {w0 : Wd} {pos : Pos} {st : Stmt} {rest a b : List Stmt} {e : Expr} {f : DE} {fo : DA} {u u' : DS} {t : DT}
/-! ### blocks -/
def dNext : DS := fun g S => .nx g S
def dSeq (u u' : DS) : DS := fun g S => match u g S with
  | .nx g' S' => u' g' S'
  | o => o
theorem psd_nil : PSDs X W w0 [] dNext := PSs.weak pss_nil fun D σ H ⟨g, S, R, hl, hA, hP⟩ => hP σ H rfl hl hA
theorem psd_one (h : PSD X W w0 st u) : PSDs X W w0 [st] u := pss_one h
theorem psd_cons (h : PSD X W w0 st u) (h2 : PSDs X W w0 rest u') : PSDs X W w0 (st :: rest) (dSeq u u') := PSs.weak (pss_cons h h2) fun D σ H ⟨g, S, R, hl, hA, hP⟩ => by
  refine ⟨g, S, R, hl, hA, ?_⟩
  unfold dSeq at hP
  generalize u g S = o at hP
  cases o with
  | nx g' S' => exact fun σ' H' e1 e2 hA' => ⟨g', S', R, by rw [e1, e2], hA', by rw [e1]; exact hP⟩
  | rt s S => exact hP
  | bk g S => exact hP
  | ct g S => exact hP
  | ex x g S => exact hP
  | bad => exact hP
theorem psd_pass : PSD X W w0 (.Pass pos) dNext := PS.weak ps_pass fun D σ H ⟨g, S, R, hl, hA, hP⟩ => hP σ H rfl hl hA
def dBrk : DS := fun g S => .bk g S
def dCont : DS := fun g S => .ct g S
theorem psd_break : PSD X W w0 (.Break pos) dBrk := PS.weak ps_break fun D σ H ⟨g, S, R, hl, hA, hP⟩ => hP σ H rfl hl hA
theorem psd_continue : PSD X W w0 (.Continue pos) dCont := PS.weak ps_continue fun D σ H ⟨g, S, R, hl, hA, hP⟩ => hP σ H rfl hl hA
/-- an evaluation, then the rest of a statement -/
def dWith {α : Type} (o : Out α) (g : Ev) (k : α → Sto → OS) : OS := match o with
  | .ok d S => k d S
  | .ex x S => .ex x g S
  | .bad => .bad
theorem PostS.with {α β : Type} {rt : α → β → List Rt} {ok : α → β → Prop} {K : Fg} {σ : L2.St} {R : List Rt} {D : Ends} {g : Ev} {o : Out α} {k : α → Sto → OS} {Q : β → Hp → Prop} (hl : g.length = σ.length) (h : PostS K W w0 R σ.length D (dWith o g k))
    (hk : ∀ a S b H', ok a b → At K w0 (rt a b ++ (R ++ zs g σ)) H' S → PostS K W w0 R σ.length D (k a S) → Q b H') : Post rt ok K W w0 σ (R ++ zs g σ) Q o := by
  cases o with
  | ok a S => exact fun b H' e x => hk a S b H' e x h
  | ex x S => exact fun cls dd H' q => h σ cls dd H' rfl hl q
  | bad => exact h
def dRet (f : DE) : DS := fun g S => dWith (f g S) g fun d S' => .rt (.im d) S'
theorem psd_ret (h : PD X W w0 e f) : PSD X W w0 (.Return (some e) pos) (dRet f) := PS.weak (ps_ret h) fun D σ H ⟨g, S, R, hl, hA, hP⟩ =>
  ⟨g, S, R, hl, hA, hP.with hl fun d S' v H' _ hA' hP' => hP' v H' (hA'.sub (List.Sublist.cons_cons _ (List.nil_sublist _)))⟩
def oRet (f : DA) : DS := fun g S => dWith (f g S) g fun d S' => .rt (.own d) S'
theorem psd_retO (h : PDO X W w0 e fo) : PSD X W w0 (.Return (some e) pos) (oRet fo) := PS.weak (ps_ret h) fun D σ H ⟨g, S, R, hl, hA, hP⟩ =>
  ⟨g, S, R, hl, hA, hP.with hl fun d S' v H' _ hA' hP' => hP' v H' (hA'.sub (List.Sublist.cons_cons _ (List.nil_sublist _)))⟩
def dRetN : DS := fun g S => .rt (.im .non) S
theorem psd_retN : PSD X W w0 (.Return none pos) dRetN := PS.weak ps_retN fun D σ H ⟨g, S, R, hl, hA, hP⟩ => hP .non H ((hA.sub (List.nil_sublist _)).push fun _ _ => .non)
/-- return name, its slot given away -/
def dRetV (i : Nat) : DS := fun g S => match g[i]? with
  | some (.no) => .bad
  | some s => .rt s S
  | none => .bad
theorem psd_retV (i : Nat) {x : Str} {p : Pos} (hN : X.N[i]? = some x) (hv : Vis X.env.scope x) (hd : (x == ("__debug__" : Str)) = false := by decide) (hcd : (x == ("__classdict__" : Str)) = false := by decide) : PSD X W w0 (.Return (some (.Name x p)) pos) (dRetV i) :=
  PS.weak (ps_ret (pe_var hN hv hd hcd)) fun D σ H ⟨g, S, R, hl, hA, hP⟩ => by
    unfold dRetV at hP
    split at hP
    · exact hP.elim
    · rename_i s hs e
      obtain ⟨v, e2, e3⟩ := slot_root hl e
      have hs1 : [(s, v)].Sublist (R ++ zs g σ) := List.singleton_sublist.mpr (slot_mem e3)
      have q := hA.sub hs1
      obtain ⟨u, eu⟩ : ∃ u, v = some u := by
        obtain ⟨r, G, st, rl, ro⟩ := q
        have k := ro.ok (s, v) List.mem_cons_self
        cases s with
        | no => exact (hs rfl).elim
        | im d => obtain ⟨u, e, _⟩ := k; exact ⟨u, e⟩
        | own ds => obtain ⟨a, xs, e, _⟩ := k; exact ⟨_, e⟩
      subst eu
      exact ⟨u, e2, hP u H q⟩
    · exact hP.elim
def dDrop (f : DE) : DS := fun g S => dWith (f g S) g fun _ S' => .nx g S'
theorem psd_expr (h : PD X W w0 e f) (hs : swapsWith e none pos.line X.env = pure false := by rfl) : PSD X W w0 (.Expr e pos) (dDrop f) := PS.weak (ps_expr h hs) fun D σ H ⟨g, S, R, hl, hA, hP⟩ =>
  ⟨g, S, R, hl, hA, hP.with hl fun d S' v H' _ hA' hP' => hP' σ H' rfl hl hA'.tail⟩
def dIfS (t : DT) (u u' : DS) : DS := fun g S => dWith (t g S) g fun b S' => if b = true then u g S' else u' g S'
theorem psd_if {c : Expr} (hc : PDT X W w0 c t) (ha : PSDs X W w0 a u) (hb : PSDs X W w0 b u') : PSD X W w0 (.If c a b pos) (dIfS t u u') := PS.weak (ps_if hc ha hb) fun D σ H ⟨g, S, R, hl, hA, hP⟩ => by
  refine ⟨g, S, R, hl, hA, hP.with hl fun c S' b H' e hA' hP' => ?_⟩
  cases (show c = b from e)
  cases c with
  | true => exact iteT ⟨g, S', R, hl, hA', hP'⟩
  | false => exact iteF ⟨g, S', R, hl, hA', hP'⟩
def dNever : DS := fun _ _ => .bad
theorem psd_never : PSD X W w0 st dNever := PS.weak ps_never fun D σ H ⟨g, S, R, hl, hA, hP⟩ => hP
theorem psds_never : PSDs X W w0 rest dNever := PSs.weak pss_never fun D σ H ⟨g, S, R, hl, hA, hP⟩ => hP
/-- a slot frozen ahead of a statement -/
def dFz (i : Nat) (u : DS) : DS := fun g S => match g[i]? with
  | some (.own ds) => u (g.set i (.im (.lst ds))) S
  | _ => u g S
theorem rdS_fz {K : Fg} {i : Nat} {D : Ends} {σ : L2.St} {H : Hp} (h : rdS K W w0 (dFz i u) D σ H) : rdS K W w0 u D σ H := by
  obtain ⟨g, S, R, hl, hA, hP⟩ := h
  unfold dFz at hP
  split at hP
  · rename_i ds e
    obtain ⟨v, e2, e3⟩ := slot_root hl e
    obtain ⟨r, G, s, rl, ro⟩ := hA
    obtain ⟨G', s', rl', ro'⟩ := own_freeze (j := R.length + i) (v := v) s rl ro (by rw [app_get]; exact e3)
    refine ⟨g.set i (.im (.lst ds)), S, R, by rw [List.length_set]; exact hl, ⟨r, G', s', rl', ?_⟩, hP⟩
    rw [zip_set1 e2, app_set]
    exact ro'
  · exact ⟨g, S, R, hl, hA, hP⟩
theorem psd_fz (i : Nat) (h : PSD X W w0 st u) : PSD X W w0 st (dFz i u) := PS.weak h fun _ _ _ => rdS_fz
theorem psds_fz (i : Nat) (h : PSDs X W w0 rest u) : PSDs X W w0 rest (dFz i u) := PSs.weak h fun _ _ _ => rdS_fz
/-! ### stores -/
def dSet (i : Nat) (f : DE) : DS := fun g S => dWith (f g S) g fun d S' => .nx (g.set i (.im d)) S'
def oSet (i : Nat) (f : DA) : DS := fun g S => dWith (f g S) g fun d S' => .nx (g.set i (.own d)) S'
theorem psd_set {i : Nat} {x : Str} {pos' : Pos} (hN : X.N.Nodup) (hi : X.N[i]? = some x) (hx : Loc X.env.scope x) (h : PD X W w0 e f) (hs : swapsWith e (some (.Name x pos')) pos.line X.env = pure false := by rfl) (hf : X.fn x = true ∨ X.env.scope.names.lookup x = some .local := by first | exact .inl rfl | exact .inr rfl | assumption) :
    PSD X W w0 (.Assign [.Name x pos'] e pos) (dSet i f) := PS.weak (ps_set hN hi hx h hs hf) fun D σ H ⟨g, S, R, hl, hA, hP⟩ =>
  ⟨g, S, R, hl, hA, hP.with hl fun d S' v H' _ hA' hP' => hP' _ H' (by simp) (by simpa using hl) (At.setSlot hA')⟩
theorem psd_setO {i : Nat} {x : Str} {pos' : Pos} (hN : X.N.Nodup) (hi : X.N[i]? = some x) (hx : Loc X.env.scope x) (h : PDO X W w0 e fo) (hs : swapsWith e (some (.Name x pos')) pos.line X.env = pure false := by rfl) (hf : X.fn x = true ∨ X.env.scope.names.lookup x = some .local := by first | exact .inl rfl | exact .inr rfl | assumption) :
    PSD X W w0 (.Assign [.Name x pos'] e pos) (oSet i fo) := PS.weak (ps_set hN hi hx h hs hf) fun D σ H ⟨g, S, R, hl, hA, hP⟩ =>
  ⟨g, S, R, hl, hA, hP.with hl fun d S' v H' _ hA' hP' => hP' _ H' (by simp) (by simpa using hl) (At.setSlot hA')⟩
/-! ### targets -/
/-- h: what a datum stored does to the slots; vs: the slots that it sets -/
abbrev DG := D → Ev → Option Ev
def rdG (K : Fg) (w0 : Wd) (vs : List Nat) (h : DG) : TG := fun v σ H Q => ∃ g S R d g', g.length = σ.length ∧ At K w0 ((.im d, some v) :: (R ++ zs g σ)) H S ∧ h d g = some g' ∧
  ∀ σ', σ'.length = σ.length → g'.length = σ.length → (∀ j, j ∉ vs → σ'[j]? = σ[j]?) → At K w0 (R ++ zs g' σ') H S → Q σ' H
abbrev PGD (X : Cx) (w0 : Wd) (tg : Expr) (vs : List Nat) (h : DG) : Prop := PG X tg (rdG X.K w0 vs h)
theorem PG.weak {X : Cx} {tg : Expr} {t t' : TG} (h : PG X tg t) (w : ∀ v σ H Q, t' v σ H Q → t v σ H Q) : PG X tg t' := ⟨fun pins s σ H v u Q I r q => h.run pins s σ H v u Q I r (w v σ H Q q)⟩
def hName (i : Nat) : DG := fun d g => some (g.set i (.im d))
theorem pgd_name {i : Nat} {x : Str} {p : Pos} (hN : X.N.Nodup) (hi : X.N[i]? = some x) (hx : Loc X.env.scope x) (hf : X.fn x = true ∨ X.env.scope.names.lookup x = some .local := by first | exact .inl rfl | exact .inr rfl | assumption) :
    PGD X w0 (.Name x p) [i] (hName i) := PG.weak (pg_name hN hi hx hf) fun v σ H Q ⟨g, S, R, d, g', hl, hA, e, hQ⟩ => by
  cases (show some (g.set i (.im d)) = some g' from e)
  refine hQ _ (by simp) (by simpa using hl) (fun j hj => ?_) (At.setSlot hA)
  rw [List.getElem?_set_ne (fun z => hj (by simp [z]))]
/-- several names, one datum each -/
def hNames : List Nat → List D → Ev → Option Ev
  | [], [], g => some g
  | i :: is, d :: ds, g => hNames is ds (g.set i (.im d))
  | _, _, _ => none
def rdGs (K : Fg) (w0 : Wd) (is : List Nat) : TGs := fun vs σ H Q => ∃ g S R ds g', g.length = σ.length ∧ ds.length = vs.length ∧ At K w0 (ims ds vs ++ (R ++ zs g σ)) H S ∧ hNames is ds g = some g' ∧
  ∀ σ', σ'.length = σ.length → g'.length = σ.length → (∀ j, j ∉ is → σ'[j]? = σ[j]?) → At K w0 (R ++ zs g' σ') H S → Q σ' H
abbrev PGDs (X : Cx) (w0 : Wd) (ts : List Expr) (is : List Nat) : Prop := PGs X ts (rdGs X.K w0 is)
theorem PGs.weak {X : Cx} {tg : List Expr} {t t' : TGs} (h : PGs X tg t) (w : ∀ v σ H Q, t' v σ H Q → t v σ H Q) : PGs X tg t' := ⟨fun pins s σ H v u Q I r q => h.run pins s σ H v u Q I r (w v σ H Q q)⟩
theorem pgds_nil : PGDs X w0 [] [] := PGs.weak pgs_nil fun vs σ H Q ⟨g, S, R, ds, g', hl, hd, hA, e, hQ⟩ => by
  cases ds with
  | nil =>
    cases vs with
    | nil => cases e; exact ⟨rfl, hQ σ rfl hl (fun _ _ => rfl) hA⟩
    | cons _ _ => cases hd
  | cons _ _ => cases e
theorem pgds_cons {i : Nat} {is : List Nat} {x : Str} {p : Pos} {es : List Expr} (hN : X.N.Nodup) (hi : X.N[i]? = some x) (hx : Loc X.env.scope x) (h2 : PGDs X w0 es is) (hf : X.fn x = true ∨ X.env.scope.names.lookup x = some .local := by first | exact .inl rfl | exact .inr rfl | assumption)
    (hs : (assignEach ((.Name x p) :: es) X.env).map (·.2) = assign (.Name x p) X.env :: (assignEach es X.env).map (·.2) := by rfl) : PGDs X w0 (.Name x p :: es) (i :: is) :=
  PGs.weak (pgs_cons (pg_name hN hi hx hf) h2 hs) fun vs σ H Q ⟨g, S, R, ds, g', hl, hd, hA, e, hQ⟩ => by
    cases ds with
    | nil => cases e
    | cons d ds =>
      cases vs with
      | nil => cases hd
      | cons v vs =>
        refine ⟨v, vs, rfl, ?_⟩
        have e : hNames is ds (g.set i (.im d)) = some g' := e
        have hd : ds.length = vs.length := by simpa using hd
        have hA : At X.K w0 ((.im d, some v) :: (ims ds vs ++ (R ++ zs g σ))) H S := hA
        refine ⟨g.set i (.im d), S, R, ds, g', by simpa using hl, hd, ?_, e, fun σ' l1 l2 l3 x => hQ σ' (by simpa using l1) (by simpa using l2) (fun j hj => ?_) x⟩
        · have q := At.setSlot (R := ims ds vs ++ R) (i := i) (s := .im d) (v := v) (g := g) (σ := σ) (by rw [List.append_assoc]; exact hA)
          rw [List.append_assoc] at q
          exact q
        · rw [List.mem_cons, not_or] at hj
          rw [l3 j hj.2, List.getElem?_set_ne (fun z => hj.1 z.symm)]
def hTup (is : List Nat) : DG := fun d g => match d with
  | .tup ds => hNames is ds g
  | .lst ds => hNames is ds g
  | .fz ds => hNames is ds g
  | _ => none
theorem PG.or {tg : Expr} {t t' : TG} (h : PG X tg t) (h' : PG X tg t') : PG X tg (fun v σ H Q => t v σ H Q ∨ t' v σ H Q) := ⟨fun pins s σ H v u Q I r q => by
  rcases q with q | q
  · exact h.run pins s σ H v u Q I r q
  · exact h'.run pins s σ H v u Q I r q⟩
theorem Roots.pushs0 {K : Fg} {w : Wd} {L : List Rt} (ro : Roots K w0 w L) : ∀ {ds : List D} {xs : List V}, Reps K w.r w.G ds xs → Roots K w0 w (ims ds xs ++ L)
  | _, _, .nil => ro
  | _, _, .cons p t => (Roots.pushs0 ro t).push p
theorem hNames_len : ∀ {is : List Nat} {ds : List D} {g g' : Ev}, hNames is ds g = some g' → ds.length = is.length
  | [], [], _, _, _ => rfl
  | [], _ :: _, _, _, h => by cases h
  | _ :: _, [], _, _, h => by cases h
  | i :: is, d :: ds, g, g', h => by
    have h : hNames is ds (g.set i (.im d)) = some g' := h
    rw [List.length_cons, List.length_cons, hNames_len h]
theorem pgd_tup {es : List Expr} {k : Nat} {is : List Nat} {p : Pos} (hc : X.calm = true) (h : PGDs X w0 es is)
    (hn : (assignEach es X.env).length = is.length := by rfl) (hst : (assignEach es X.env).findIdx? (·.1) = none := by rfl) : PGD X w0 (.Tuple es k p) is (hTup is) :=
  PG.weak (PG.or (pg_tup hc h hn hst) (pg_lst hc h hn hst)) fun v σ H Q ⟨g, S, R, d, g', hl, hA, e, hQ⟩ => by
    obtain ⟨r, G, s, rl, ro⟩ := hA
    obtain ⟨u, eu, k⟩ := ro.at0
    cases eu
    have ro2 : Roots X.K w0 ⟨r, G, H, S⟩ (R ++ zs g σ) := ro.tail
    have fin : ∀ (ds : List D) (xs : List V), hNames is ds g = some g' → Reps X.K r G ds xs → xs.length = is.length ∧ rdGs X.K w0 is xs σ H Q := fun ds xs e rs => by
      have el := rs.length
      exact ⟨by rw [← el]; exact hNames_len e, g, S, R, ds, g', hl, el, ⟨r, G, s, rl, ro2.pushs0 rs⟩, e, hQ⟩
    cases k with
    | tup sq rs =>
      obtain ⟨h1, h2⟩ := fin _ _ e rs
      exact .inl ⟨_, _, rfl, sqT_mono rl.sub sq, h1, h2⟩
    | lst g0 rs =>
      obtain ⟨h1, h2⟩ := fin _ _ e rs
      exact .inr ⟨_, _, rfl, .inl (.inl (rl.sub _ _ g0)), h1, h2⟩
    | fz sq rs =>
      obtain ⟨h1, h2⟩ := fin _ _ e rs
      exact .inr ⟨_, _, rfl, sqL_mono rl.sub sq, h1, h2⟩
    | _ => cases e
def dAsg (f : DE) (h : DG) : DS := fun g S => dWith (f g S) g fun d S' => match h d g with
  | some g' => .nx g' S'
  | none => .bad
theorem psd_asg {tg : Expr} {vs : List Nat} {h : DG} (he : PD X W w0 e f) (hg : PGD X w0 tg vs h) (hs : swapsWithSole [tg] e pos.line X.env = pure false := by rfl) (hw : swappedStores [tg] e X.env = pure none := by rfl)
    (h1 : (assignEach [tg] X.env).map (·.2) = [assign tg X.env] := by rfl) : PSD X W w0 (.Assign [tg] e pos) (dAsg f h) := PS.weak (ps_asg he hg hs hw h1) fun D σ H ⟨g, S, R, hl, hA, hP⟩ => by
  refine ⟨g, S, R, hl, hA, hP.with hl fun d S' v H' _ hA' hP' => ?_⟩
  split at hP'
  · rename_i g' e
    exact ⟨g, S', R, d, g', hl, hA', e, fun σ' l1 l2 _ x => hP' σ' H' l1 l2 x⟩
  · exact hP'.elim
/-- a, b = e1, e2 -/
def dPar (i j : Nat) (f f' : DE) : DS := fun g S => dWith (f g S) g fun d S1 => dWith (f' g S1) g fun d' S2 => .nx ((g.set i (.im d)).set j (.im d')) S2
theorem psd_par {i j : Nat} {x y : Str} {a b : Expr} {f' : DE} {px py pt : Pos} {kt k2 pt2} (hc : X.calm = true) (hN : X.N.Nodup) (hi : X.N[i]? = some x) (hj : X.N[j]? = some y) (hij : i ≠ j)
    (hx : X.env.scope.names.lookup x = some .local) (hy : X.env.scope.names.lookup y = some .local) (ha : PD X W w0 a f) (hb : PD X W w0 b f')
    (hw : swappedStores [.Tuple [.Name x px, .Name y py] kt pt] (.Tuple [a, b] k2 pt2) X.env = pure (some [x, y]))
    (hs : swapsWithSole [.Tuple [.Name x px, .Name y py] kt pt] (.Tuple [a, b] k2 pt2) pos.line X.env = pure false := by rfl)
    (h1 : starEach [a, b] X.env = (false, eval a X.env) :: starEach [b] X.env := by rfl) (h2 : starEach [b] X.env = (false, eval b X.env) :: starEach [] X.env := by rfl) :
    PSD X W w0 (.Assign [.Tuple [.Name x px, .Name y py] kt pt] (.Tuple [a, b] k2 pt2) pos) (dPar i j f f') :=
  PS.weak (ps_par hc hN hi hj hij hx hy (pa_cons ha (pa_cons hb pa_nil h2) h1) hw hs) fun D σ H ⟨g, S, R, hl, hA, hP⟩ => by
    refine ⟨g, S, R, hl, hA, hP.with hl fun d S1 v H1 _ hA1 hP1 => ?_⟩
    refine ⟨g, S1, (.im d, some v) :: R, hl, hA1, ?_⟩
    have q : PostS X.K W w0 R σ.length D (dWith (f' g S1) g fun d' S2 => .nx ((g.set i (.im d)).set j (.im d')) S2) := hP1
    generalize f' g S1 = o at q
    cases o with
    | ok d' S2 =>
      intro v' H2 _ hA2
      refine ⟨v, v', rfl, q _ _ (by simp) (by simpa using hl) ?_⟩
      have z : At X.K w0 ((.im d', some v') :: (.im d, some v) :: (R ++ zs g σ)) H2 S2 := hA2
      obtain ⟨r, G, s, rl, ro⟩ := z
      obtain ⟨u, eu, k⟩ := ro.at0
      cases eu
      have ro2 := ro.tail.move (R.length + i)
      have z2 : At X.K w0 ((.im d', some v') :: (R ++ zs (g.set i (.im d)) (σ.set i (some v)))) H2 S2 := ⟨r, G, s, rl, by
        rw [zip_set2, app_set]
        exact ro2.push k⟩
      exact At.setSlot z2
    | ex x S2 => exact fun cls dd H' z => q σ cls dd H' rfl hl (z.sub (List.sublist_cons_self _ _))
    | bad => exact q
/-- name op= e -/
def dAug (i : Nat) (o : O2) (f : DE) : DS := fun g S => match g[i]? with
  | some (.im a) => dWith (f g S) g fun b S1 => match o a b S1 with
    | some d => .nx (g.set i (.im d)) S1
    | none => .bad
  | _ => .bad
theorem psd_aug {i : Nat} {x : Str} {op : Operator} {o : O2} {pos' : Pos} (hN : X.N.Nodup) (hi : X.N[i]? = some x) (hx : Loc X.env.scope x) (he : PD X W w0 e f) (ho : PIp X op (rV2 X.K o)) (hf : X.fn x = true ∨ X.env.scope.names.lookup x = some .local := by first | exact .inl rfl | exact .inr rfl | assumption) :
    PSD X W w0 (.AugAssign (.Name x pos') op e pos) (dAug i o f) := PS.weak (ps_aug hN hi hx he ho hf) fun D σ H ⟨g, S, R, hl, hA, hP⟩ => by
  unfold dAug at hP
  split at hP
  · rename_i a ea
    obtain ⟨v, e2, e3⟩ := slot_root hl ea
    obtain ⟨r, G, s, rl, ro⟩ := hA
    obtain ⟨u, e4, h4⟩ := ro.ok _ (slot_mem e3)
    cases (show v = some u from e4)
    refine ⟨u, e2, g, S, (.im a, some u) :: R, hl, ⟨r, G, s, rl, ro.push h4⟩, ?_⟩
    generalize f g S = oo at hP
    cases oo with
    | ok b S1 =>
      intro v' H2 _ hA2
      have hP : PostS X.K W w0 R σ.length D (match o a b S1 with | some d => .nx (g.set i (.im d)) S1 | none => .bad) := hP
      split at hP
      · rename_i d ed
        exact ⟨w0, S1, R ++ zs g σ, a, b, hA2, d, ed, fun v2 H3 x3 => hP _ _ (by simp) (by simpa using hl) (At.setSlot x3)⟩
      · exact hP.elim
    | ex x S2 => exact fun cls dd H' z => hP σ cls dd H' rfl hl (z.sub (List.sublist_cons_self _ _))
    | bad => exact hP
  · exact hP.elim
/-- name.append(e), the name's list its own -/
def dApp (i : Nat) (f : DE) : DS := fun g S => match g[i]? with
  | some (.own ds) => dWith (f g S) g fun d S1 => if ds.length < sizeLine then .nx (g.set i (.own (ds ++ [d]))) S1 else .bad
  | _ => .bad
theorem psd_app (i : Nat) {x : Str} {p apos cpos : Pos} (hN : X.N[i]? = some x) (hv : Vis X.env.scope x) (he : PD X W w0 e f) (hd : (x == ("__debug__" : Str)) = false := by decide) (hcd : (x == ("__classdict__" : Str)) = false := by decide)
    (hbase : attributeBase (.Name x p) "append" X.env (eval (.Name x p) X.env) = eval (.Name x p) X.env := by rfl)
    (hfew : ((backTo cpos (starEach [e] X.env)).all (fun x => !x.1) && (backToKw cpos (keywordEach [] X.env)).all (fun x => x.1.isSome)
      && decide ([e].length + ([] : List Keyword).length + (if ([] : List Keyword).isEmpty then 0 else 1) < 30)) = true := by rfl)
    (hline : (apos.endLine == cpos.line) = true := by rfl) (hs : starEach [e] X.env = (false, eval e X.env) :: starEach [] X.env := by rfl) (hplain : (backTo cpos (starEach [] X.env)).any (·.1) = false := by rfl)
    (hsw : swapsWith (.Call (.Attribute (.Name x p) "append" apos) [e] [] cpos) none pos.line X.env = pure false := by rfl) :
    PSD X W w0 (.Expr (.Call (.Attribute (.Name x p) "append" apos) [e] [] cpos) pos) (dApp i f) :=
  PS.weak (ps_expr (pe_bm PySem.F.plainAttrs_list PySem.F.slot_list_append PySem.F.type_list_append mt_append (pe_var hN hv hd hcd) (pa_cons he pa_nil hs) hbase hfew hline hs hplain) hsw) fun D σ H ⟨g, S, R, hl, hA, hP⟩ => by
    unfold dApp at hP
    split at hP
    · rename_i ds ea
      obtain ⟨v, e2, e3⟩ := slot_root hl ea
      have hv0 : ∃ a xs, v = some (V.ref a) ∧ H a = some (.lst xs) := by
        obtain ⟨r, G, s, rl, ro⟩ := hA
        obtain ⟨a, xs, e, h1, _⟩ := ro.ok _ (slot_mem e3)
        exact ⟨a, xs, e, h1⟩
      obtain ⟨a, xs0, ev, h0⟩ := hv0
      subst ev
      refine ⟨.ref a, e2, .inl ⟨rfl, xs0, .inl (.inl h0)⟩, g, S, R, hl, hA, ?_⟩
      generalize f g S = oo at hP
      cases oo with
      | ok d S1 =>
        intro v' H2 _ hA2
        have hP : PostS X.K W w0 R σ.length D (if ds.length < sizeLine then .nx (g.set i (.own (ds ++ [d]))) S1 else .bad) := hP
        split at hP
        · rename_i hz
          obtain ⟨r, G, s, rl, ro⟩ := hA2
          have ro : Roots X.K w0 ⟨r, G, H2, S1⟩ ((.im d, some v') :: (R ++ zs g σ)) := ro
          obtain ⟨u, eu, kd⟩ := ro.at0
          cases eu
          have ro1 := ro.tail
          obtain ⟨b, xs, eb, h1, h2, h3, h4, h5⟩ := ro1.ok _ (slot_mem e3)
          cases eb
          have el := h2.length
          refine ⟨a, xs, v', rfl, rfl, h1, by rw [← el]; exact hz, hP σ _ rfl (by simpa using hl) ?_⟩
          obtain ⟨s', rl', ro'⟩ := own_set (j := R.length + i) (ds := ds) (ds' := ds ++ [d]) (a := a) (xs' := xs ++ [v']) s rl ro1 (by rw [app_get]; exact e3) (h2.append (.cons kd .nil))
          refine ⟨r, G, s', rl', ?_⟩
          rw [zip_set1 e2, app_set]
          exact ro'
        · exact hP.elim
      | ex x S2 => exact fun cls dd H' z => hP σ cls dd H' rfl hl z
      | bad => exact hP
    · exact hP.elim
end
end DL
/-! DLd: what is walked; for, while, comprehensions. -/
namespace DL
open PySem PySem.Spec PyProof.Rows L2
/-- J yields the data ds as long as A stands -/
structure Yields (K : Fg) (w0 : Wd) (J : It) (ds : List D) (A : List Rt) : Prop where
  go : ∀ R H S i, At K w0 (A ++ R) H S → i < ds.length → J.go i H
  stop : ∀ R H S i, At K w0 (A ++ R) H S → ds.length ≤ i → J.stop i H
  yld : ∀ R H S i d x H', At K w0 (A ++ R) H S → ds[i]? = some d → J.yld i H x H' → At K w0 ((.im d, some x) :: (A ++ R)) H' S
def PostI (K : Fg) (W : WX) (w0 : Wd) (σ : L2.St) (R : List Rt) (Q : It → Hp → Prop) : Out (List D) → Prop
  | .ok ds S => ∀ J A H', Yields K w0 J ds A → At K w0 (A ++ R) H' S → Q J H'
  | .ex x S => ∀ cls dd H', XAt K w0 R H' S x cls dd → W cls dd σ H'
  | .bad => False
def rdI (K : Fg) (W : WX) (w0 : Wd) (f : DA) : TI := fun σ H Q => ∃ g S R, g.length = σ.length ∧ At K w0 (R ++ zs g σ) H S ∧ PostI K W w0 σ (R ++ zs g σ) Q (f g S)
abbrev PID (X : Cx) (W : WX) (w0 : Wd) (tg it : Expr) (f : DA) : Prop := PI X tg it (rdI X.K W w0 f)
theorem PI.weak {X : Cx} {tg it : Expr} {t t' : TI} (h : PI X tg it t) (w : ∀ σ H Q, t' σ H Q → t σ H Q) : PI X tg it t' := ⟨fun pins s σ H R I q => h.run pins s σ H R I (w σ H R q)⟩
theorem PostI.bind {γ δ : Type} {rt1 : γ → δ → List Rt} {ok1 : γ → δ → Prop} {K : Fg} {W : WX} {w0 : Wd} {σ : L2.St} {R R1 : List Rt} {Q : It → Hp → Prop} {Q1 : δ → Hp → Prop} {o : Out γ} {k : γ → Sto → Out (List D)}
    (h : PostI K W w0 σ R Q (o.bind k)) (s : R.Sublist R1) (hk : ∀ a S b H', ok1 a b → At K w0 (rt1 a b ++ R1) H' S → PostI K W w0 σ R Q (k a S) → Q1 b H') : Post rt1 ok1 K W w0 σ R1 Q1 o := by
  cases o with
  | ok a S => exact fun b H' e x => hk a S b H' e x h
  | ex x S => exact fun cls dd H' e => h cls dd H' (e.sub s)
  | bad => exact h
section
variable {X : Cx} {W : WX} {w0 : Wd} {tg e e2 : Expr} {f f' : DE} {p pos : Pos}
/-- a list or a tuple that stays -/
def seqOf : D → Option (List D)
  | .lst ds => some ds
  | .fz ds => some ds
  | _ => none
def tupOf : D → Option (List D)
  | .tup ds => some ds
  | _ => none
theorem seq_ok {K : Fg} {w : Wd} {d : D} {ds : List D} {v : V} (rl : Rel K w) (h : Rep K w.r w.G d v) (e : seqOf d = some ds) : ∃ a xs, v = .ref a ∧ SqL K w.H a xs ∧ Reps K w.r w.G ds xs := by
  cases h with
  | lst g x => cases e; exact ⟨_, _, rfl, .inl (.inl (rl.sub _ _ g)), x⟩
  | fz g x => cases e; exact ⟨_, _, rfl, sqL_mono rl.sub g, x⟩
  | _ => cases e
theorem tup_ok {K : Fg} {w : Wd} {d : D} {ds : List D} {v : V} (rl : Rel K w) (h : Rep K w.r w.G d v) (e : tupOf d = some ds) : ∃ a xs, v = .ref a ∧ SqT K w.H a xs ∧ Reps K w.r w.G ds xs := by
  cases h with
  | tup g x => cases e; exact ⟨_, _, rfl, sqT_mono rl.sub g, x⟩
  | _ => cases e
def iSeq (f : DE) : DA := fun g S => (f g S).bind fun d S1 => Out.of (seqOf d) S1
def iTupl (f : DE) : DA := fun g S => (f g S).bind fun d S1 => Out.of (tupOf d) S1
theorem PostI.of {K : Fg} {W : WX} {w0 : Wd} {σ : L2.St} {R : List Rt} {Q : It → Hp → Prop} {o : Option (List D)} {S : Sto} (h : PostI K W w0 σ R Q (Out.of o S)) :
    ∃ ds, o = some ds ∧ ∀ J A H', Yields K w0 J ds A → At K w0 (A ++ R) H' S → Q J H' := by
  cases o with
  | none => exact h.elim
  | some a => exact ⟨a, rfl, h⟩
theorem at_seq {K : Fg} {R : List Rt} {H : Hp} {S : Sto} {d : D} {ds : List D} {a : Addr} (hA : At K w0 ((.im d, some (.ref a)) :: R) H S) (e : seqOf d = some ds) : ∃ xs r G, Step w0 ⟨r, G, H, S⟩ ∧ Rel K ⟨r, G, H, S⟩ ∧ Roots K w0 ⟨r, G, H, S⟩ ((.im d, some (.ref a)) :: R) ∧ SqL K H a xs ∧ Reps K r G ds xs := by
  obtain ⟨r, G, s, rl, ro⟩ := hA
  obtain ⟨u, eu, k⟩ := ro.at0
  cases eu
  obtain ⟨b, xs, eb, sq, rs⟩ := seq_ok rl k e
  cases eb
  exact ⟨xs, r, G, s, rl, ro, sq, rs⟩
theorem yields_seq {K : Fg} {d : D} {ds : List D} {a : Addr} (e : seqOf d = some ds) : Yields K w0 (Itl K a) ds [(.im d, some (.ref a))] where
  go := fun R H S i hA hi => by
    obtain ⟨xs, r, G, s, rl, ro, sq, rs⟩ := at_seq hA e
    have hx : i < xs.length := by rw [← rs.length]; exact hi
    exact ⟨xs, xs[i], sq, List.getElem?_eq_getElem hx⟩
  stop := fun R H S i hA hi => by
    obtain ⟨xs, r, G, s, rl, ro, sq, rs⟩ := at_seq hA e
    exact ⟨xs, sq, by rw [← rs.length]; exact hi⟩
  yld := fun R H S i c x H' hA hi y => by
    obtain ⟨xs, r, G, s, rl, ro, sq, rs⟩ := at_seq hA e
    obtain ⟨rfl, hx⟩ := y
    obtain ⟨v, hv, k⟩ := rs.get hi
    rw [hx xs sq] at hv
    cases hv
    exact ⟨r, G, s, rl, ro.push k⟩
theorem at_tup {K : Fg} {R : List Rt} {H : Hp} {S : Sto} {d : D} {ds : List D} {a : Addr} (hA : At K w0 ((.im d, some (.ref a)) :: R) H S) (e : tupOf d = some ds) : ∃ xs r G, Step w0 ⟨r, G, H, S⟩ ∧ Rel K ⟨r, G, H, S⟩ ∧ Roots K w0 ⟨r, G, H, S⟩ ((.im d, some (.ref a)) :: R) ∧ SqT K H a xs ∧ Reps K r G ds xs := by
  obtain ⟨r, G, s, rl, ro⟩ := hA
  obtain ⟨u, eu, k⟩ := ro.at0
  cases eu
  obtain ⟨b, xs, eb, sq, rs⟩ := tup_ok rl k e
  cases eb
  exact ⟨xs, r, G, s, rl, ro, sq, rs⟩
theorem yields_tup {K : Fg} {d : D} {ds : List D} {a : Addr} (e : tupOf d = some ds) : Yields K w0 (Itt K a) ds [(.im d, some (.ref a))] where
  go := fun R H S i hA hi => by
    obtain ⟨xs, r, G, s, rl, ro, sq, rs⟩ := at_tup hA e
    have hx : i < xs.length := by rw [← rs.length]; exact hi
    exact ⟨xs, xs[i], sq, List.getElem?_eq_getElem hx⟩
  stop := fun R H S i hA hi => by
    obtain ⟨xs, r, G, s, rl, ro, sq, rs⟩ := at_tup hA e
    exact ⟨xs, sq, by rw [← rs.length]; exact hi⟩
  yld := fun R H S i c x H' hA hi y => by
    obtain ⟨xs, r, G, s, rl, ro, sq, rs⟩ := at_tup hA e
    obtain ⟨rfl, hx⟩ := y
    obtain ⟨v, hv, k⟩ := rs.get hi
    rw [hx xs sq] at hv
    cases hv
    exact ⟨r, G, s, rl, ro.push k⟩
theorem pid_list (h : PD X W w0 e f) : PID X W w0 tg e (iSeq f) := PI.weak (pi_list h) fun σ H Q ⟨g, S, R, hl, hA, hP⟩ => by
  refine ⟨g, S, R, hl, hA, hP.bind (List.Sublist.refl _) fun d S1 v H1 _ hA1 hP1 => ?_⟩
  obtain ⟨ds, ed, hQ⟩ := hP1.of
  have z : ∃ a xs, v = V.ref a ∧ SqL X.K H1 a xs := by
    obtain ⟨r, G, s, rl, ro⟩ := id hA1
    obtain ⟨u, eu, k⟩ := Roots.at0 (R := R ++ zs g σ) ro
    cases eu
    obtain ⟨b, xs, eb, sq, rs⟩ := seq_ok rl k ed
    exact ⟨b, xs, eb, sq⟩
  obtain ⟨a, xs, ev, sq⟩ := z
  subst ev
  exact ⟨a, rfl, ⟨xs, sq⟩, hQ _ _ H1 (yields_seq ed) hA1⟩
theorem pid_tup (h : PD X W w0 e f) : PID X W w0 tg e (iTupl f) := PI.weak (pi_tup h) fun σ H Q ⟨g, S, R, hl, hA, hP⟩ => by
  refine ⟨g, S, R, hl, hA, hP.bind (List.Sublist.refl _) fun d S1 v H1 _ hA1 hP1 => ?_⟩
  obtain ⟨ds, ed, hQ⟩ := hP1.of
  have z : ∃ a xs, v = V.ref a ∧ SqT X.K H1 a xs := by
    obtain ⟨r, G, s, rl, ro⟩ := id hA1
    obtain ⟨u, eu, k⟩ := Roots.at0 (R := R ++ zs g σ) ro
    cases eu
    obtain ⟨b, xs, eb, sq, rs⟩ := tup_ok rl k ed
    exact ⟨b, xs, eb, sq⟩
  obtain ⟨a, xs, ev, sq⟩ := z
  subst ev
  exact ⟨a, rfl, ⟨xs, sq⟩, hQ _ _ H1 (yields_tup ed) hA1⟩
/-- lo, lo + c, .. -/
def rangeD (lo c : Int) (n : Nat) : List D := (List.range n).map fun i => D.int (lo + (i : Nat) * c)
theorem rangeD_len {lo c : Int} {n : Nat} : (rangeD lo c n).length = n := by simp [rangeD]
theorem rangeD_get {lo c : Int} {n i : Nat} {d : D} (h : (rangeD lo c n)[i]? = some d) : i < n ∧ d = .int (lo + (i : Nat) * c) := by
  unfold rangeD at h
  rw [List.getElem?_map] at h
  by_cases hi : i < n
  · rw [List.getElem?_range hi] at h
    exact ⟨hi, (Option.some.inj h).symm⟩
  · rw [List.getElem?_eq_none (by simpa using hi)] at h
    cases h
theorem yields_range {K : Fg} {lo : Int} {n : Nat} : Yields K w0 (Itr lo n) (rangeD lo 1 n) [] where
  go := fun R H S i _ hi => by rw [rangeD_len] at hi; exact hi
  stop := fun R H S i _ hi => by rw [rangeD_len] at hi; exact hi
  yld := fun R H S i d x H' hA hi y => by
    obtain ⟨h1, rfl⟩ := rangeD_get hi
    obtain ⟨rfl, rfl⟩ := y
    have e : lo + (i : Nat) * (1 : Int) = lo + (i : Nat) := by omega
    rw [e]
    exact hA.push fun _ _ => .int _
theorem yields_rangeC {K : Fg} {lo c : Int} {n : Nat} : Yields K w0 (Itc lo c n) (rangeD lo c n) [] where
  go := fun R H S i _ hi => by rw [rangeD_len] at hi; exact hi
  stop := fun R H S i _ hi => by rw [rangeD_len] at hi; exact hi
  yld := fun R H S i d x H' hA hi y => by
    obtain ⟨h1, rfl⟩ := rangeD_get hi
    obtain ⟨rfl, rfl⟩ := y
    exact hA.push fun _ _ => .int _
def smallB (i : Int) : Bool := decide (-(2 ^ 62) ≤ i) && decide (i < 2 ^ 62)
theorem smallB_ok {i : Int} (h : smallB i = true) : -(2 ^ 62) ≤ i ∧ i < 2 ^ 62 := by
  unfold smallB at h
  rw [Bool.and_eq_true, decide_eq_true_iff, decide_eq_true_iff] at h
  exact h
def iRange1 (f : DE) : DA := fun g S => (f g S).bind fun d S1 => match d with
  | .int j => if smallB j then .ok (rangeD 0 1 j.toNat) S1 else .bad
  | _ => .bad
def iRange2 (f f' : DE) : DA := fun g S => (f g S).bind fun d S1 => (f' g S1).bind fun d' S2 => match d, d' with
  | .int i, .int j => if smallB i && smallB j then .ok (rangeD i 1 (j - i).toNat) S2 else .bad
  | _, _ => .bad
/-- range(a, b, -1) -/
def iRangeD (f f' : DE) : DA := fun g S => (f g S).bind fun d S1 => (f' g S1).bind fun d' S2 => match d, d' with
  | .int i, .int j => if smallB i && smallB j then .ok (rangeD i (-1) (i - j).toNat) S2 else .bad
  | _, _ => .bad
theorem pid_range1 {a : Expr} (hg : Gl X "range") (hm : X.mg "range" = none) (ha : PD X W w0 a f) (hs : starEach [a] X.env = [(false, eval a X.env)] := by rfl) : PID X W w0 tg (.Call (.Name "range" p) [a] [] pos) (iRange1 f) :=
  PI.weak (pi_range1 hg hm (pa_cons ha pa_nil hs) hs) fun σ H Q ⟨g, S, R, hl, hA, hP⟩ => by
    refine ⟨g, S, R, hl, hA, hP.bind (List.Sublist.refl _) fun d S1 v H1 _ hA1 hP1 => ?_⟩
    cases d with
    | int j =>
      have ev := At.int hA1
      subst ev
      have hP1 : PostI X.K W w0 σ (R ++ zs g σ) Q (if smallB j then .ok (rangeD 0 1 j.toNat) S1 else .bad) := hP1
      split at hP1
      · rename_i hb
        obtain ⟨h1, h2⟩ := smallB_ok hb
        exact ⟨j, rfl, h1, h2, hP1 _ [] H1 yields_range hA1.tail⟩
      · exact hP1.elim
    | _ => exact hP1.elim
theorem pid_range2 {a b : Expr} (hg : Gl X "range") (hm : X.mg "range" = none) (ha : PD X W w0 a f) (hb : PD X W w0 b f') (hs : starEach [a, b] X.env = [(false, eval a X.env), (false, eval b X.env)] := by rfl) (hs2 : starEach [b] X.env = [(false, eval b X.env)] := by rfl) (hs3 : starEach [a, b] X.env = (false, eval a X.env) :: starEach [b] X.env := by rfl) :
    PID X W w0 tg (.Call (.Name "range" p) [a, b] [] pos) (iRange2 f f') :=
  PI.weak (pi_range2 hg hm (pa_cons ha (pa_cons hb pa_nil hs2) hs3) hs hs2) fun σ H Q ⟨g, S, R, hl, hA, hP⟩ => by
    refine ⟨g, S, R, hl, hA, hP.bind (List.Sublist.refl _) fun d S1 v H1 _ hA1 hP1 => ?_⟩
    refine ⟨g, S1, (.im d, some v) :: R, hl, hA1, hP1.bind (List.sublist_cons_self _ _) fun d' S2 v2 H2 _ hA2 hP2 => ?_⟩
    cases d with
    | int i =>
      cases d' with
      | int j =>
        have ev2 := At.int hA2
        have ev := At.int (R := R ++ zs g σ) (At.tail (R := (.im (.int i), some v) :: (R ++ zs g σ)) hA2)
        subst ev ev2
        have hP2 : PostI X.K W w0 σ (R ++ zs g σ) Q (if smallB i && smallB j then .ok (rangeD i 1 (j - i).toNat) S2 else .bad) := hP2
        split at hP2
        · rename_i hb
          rw [Bool.and_eq_true] at hb
          obtain ⟨h1, h2⟩ := smallB_ok hb.1
          obtain ⟨h3, h4⟩ := smallB_ok hb.2
          exact ⟨i, j, rfl, ⟨h1, h2, h3, h4⟩, hP2 _ [] H2 yields_range (At.tail (R := R ++ zs g σ) (At.tail (R := (.im (.int i), some (.int i)) :: (R ++ zs g σ)) hA2))⟩
        · exact hP2.elim
      | _ => exact hP2.elim
    | _ => exact hP2.elim
theorem pid_rangeD {a b c : Expr} (hg : Gl X "range") (hm : X.mg "range" = none) (ha : PD X W w0 a f) (hb : PD X W w0 b f') (hc : PD X W w0 c (dC (.int (-1))))
    (hs : starEach [a, b, c] X.env = (false, eval a X.env) :: starEach [b, c] X.env := by rfl) (hs2 : starEach [b, c] X.env = (false, eval b X.env) :: starEach [c] X.env := by rfl) (hs3 : starEach [c] X.env = (false, eval c X.env) :: starEach [] X.env := by rfl) (hpl : (backTo pos (starEach [b, c] X.env)).any (·.1) = false := by rfl) :
    PID X W w0 tg (.Call (.Name "range" p) [a, b, c] [] pos) (iRangeD f f') :=
  PI.weak (pi_range3 hg hm (pa_cons ha (pa_cons hb (pa_cons hc pa_nil hs3) hs2) hs) hs hpl) fun σ H Q ⟨g, S, R, hl, hA, hP⟩ => by
    refine ⟨g, S, R, hl, hA, hP.bind (List.Sublist.refl _) fun d S1 v H1 _ hA1 hP1 => ?_⟩
    refine ⟨g, S1, (.im d, some v) :: R, hl, hA1, hP1.bind (List.sublist_cons_self _ _) fun d' S2 v2 H2 _ hA2 hP2 => ?_⟩
    refine ⟨g, S2, (.im d', some v2) :: (.im d, some v) :: R, hl, hA2, fun v3 H3 _ hA3 => ?_⟩
    have hA3 : At X.K w0 ((.im (.int (-1)), some v3) :: (.im d', some v2) :: (.im d, some v) :: (R ++ zs g σ)) H3 S2 := hA3
    have ev3 := hA3.int
    have hA4 := hA3.tail
    cases d with
    | int i =>
      cases d' with
      | int j =>
        have ev2 := At.int hA4
        have ev := At.int hA4.tail
        subst ev ev2 ev3
        have hP2 : PostI X.K W w0 σ (R ++ zs g σ) Q (if smallB i && smallB j then .ok (rangeD i (-1) (i - j).toNat) S2 else .bad) := hP2
        split at hP2
        · rename_i hb
          rw [Bool.and_eq_true] at hb
          obtain ⟨h1, h2⟩ := smallB_ok hb.1
          obtain ⟨h3, h4⟩ := smallB_ok hb.2
          exact ⟨i, j, -1, (i - j).toNat, rfl, RgC.neg h1 h2 h3 h4, hP2 _ [] H3 yields_rangeC hA4.tail.tail⟩
        · exact hP2.elim
      | _ => exact hP2.elim
    | _ => exact hP2.elim
/-- enumerate -/
def enumD (ds : List D) : List D := (List.range ds.length).map fun i => D.tup [.int (i : Nat), ds.getD i .non]
theorem enumD_get {ds : List D} {i : Nat} {c : D} (h : (enumD ds)[i]? = some c) : ∃ d, ds[i]? = some d ∧ c = .tup [.int (i : Nat), d] := by
  unfold enumD at h
  rw [List.getElem?_map] at h
  by_cases hi : i < ds.length
  · rw [List.getElem?_range hi] at h
    refine ⟨ds[i], List.getElem?_eq_getElem hi, ?_⟩
    have e := Option.some.inj h
    rw [← e]
    show D.tup [D.int (i : Nat), ds.getD i D.non] = D.tup [D.int (i : Nat), ds[i]]
    rw [List.getD_eq_getElem?_getD, List.getElem?_eq_getElem hi]
    rfl
  · rw [List.getElem?_eq_none (by simpa using hi)] at h
    cases h
theorem enumD_len {ds : List D} : (enumD ds).length = ds.length := by simp [enumD]
theorem yields_enum {K : Fg} {d : D} {ds : List D} {a : Addr} (e : seqOf d = some ds) : Yields K w0 (Ite K a) (enumD ds) [(.im d, some (.ref a))] where
  go := fun R H S i hA hi => by
    obtain ⟨xs, r, G, s, rl, ro, sq, rs⟩ := at_seq hA e
    have hx : i < xs.length := by rw [← rs.length, ← enumD_len]; exact hi
    exact ⟨xs, xs[i], sq, List.getElem?_eq_getElem hx⟩
  stop := fun R H S i hA hi => by
    obtain ⟨xs, r, G, s, rl, ro, sq, rs⟩ := at_seq hA e
    exact ⟨xs, sq, by rw [← rs.length, ← enumD_len]; exact hi⟩
  yld := fun R H S i c x H' hA hi y => by
    obtain ⟨xs, r, G, s, rl, ro, sq, rs⟩ := at_seq hA e
    obtain ⟨T, x0, rfl, hT, rfl, hx⟩ := y
    obtain ⟨c0, hc, rfl⟩ := enumD_get hi
    obtain ⟨v, hv, k⟩ := rs.get hc
    rw [hx xs sq] at hv
    cases hv
    exact at_newT s rl ro (.cons (.int _) (.cons k .nil)) hT
def iEnumD (f : DE) : DA := fun g S => (f g S).bind fun d S1 => Out.of ((seqOf d).map enumD) S1
theorem pid_enum {elts : List Expr} {kk : Nat} {tpos : Pos} (hg : Gl X "enumerate") (hm : X.mg "enumerate" = none) (h : PD X W w0 e f) (hs : starEach [e] X.env = [(false, eval e X.env)] := by rfl) : PID X W w0 (.Tuple elts kk tpos) (.Call (.Name "enumerate" p) [e] [] pos) (iEnumD f) :=
  PI.weak (pi_enum hg hm (pa_cons h pa_nil hs) hs) fun σ H Q ⟨g, S, R, hl, hA, hP⟩ => by
    refine ⟨g, S, R, hl, hA, hP.bind (List.Sublist.refl _) fun d S1 v H1 _ hA1 hP1 => ?_⟩
    obtain ⟨es, ee, hQ⟩ := hP1.of
    obtain ⟨ds, ed, e2⟩ := Option.map_eq_some_iff.mp ee
    subst e2
    have z : ∃ a xs, v = V.ref a ∧ SqL X.K H1 a xs := by
      obtain ⟨r, G, s, rl, ro⟩ := id hA1
      obtain ⟨u, eu, k⟩ := Roots.at0 (R := R ++ zs g σ) ro
      cases eu
      obtain ⟨b, xs, eb, sq, rs⟩ := seq_ok rl k ed
      exact ⟨b, xs, eb, sq⟩
    obtain ⟨a, xs, ev, sq⟩ := z
    subst ev
    exact ⟨a, xs, rfl, sq, hQ _ _ H1 (yields_enum ed) hA1⟩
/-- zip of two lists -/
def zipD : List D → List D → List D
  | a :: as, b :: bs => .tup [a, b] :: zipD as bs
  | _, _ => []
theorem zipD_get : ∀ {as bs : List D} {i : Nat} {c : D}, (zipD as bs)[i]? = some c → ∃ a b, as[i]? = some a ∧ bs[i]? = some b ∧ c = .tup [a, b]
  | a :: as, b :: bs, 0, c, h => ⟨a, b, rfl, rfl, (Option.some.inj h).symm⟩
  | a :: as, b :: bs, i + 1, c, h => zipD_get (as := as) (bs := bs) (i := i) h
  | [], _, _, _, h => by simp [zipD] at h
  | _ :: _, [], _, _, h => by simp [zipD] at h
theorem zipD_len : ∀ {as bs : List D}, (zipD as bs).length = min as.length bs.length
  | a :: as, b :: bs => by
    show (zipD as bs).length + 1 = min (as.length + 1) (bs.length + 1)
    rw [zipD_len]
    omega
  | [], _ => by simp [zipD]
  | _ :: _, [] => by simp [zipD]
theorem at_seq2 {K : Fg} {R : List Rt} {H : Hp} {S : Sto} {d d' : D} {ds ds' : List D} {a b : Addr} (hA : At K w0 ((.im d', some (.ref b)) :: (.im d, some (.ref a)) :: R) H S) (e : seqOf d = some ds) (e' : seqOf d' = some ds') :
    ∃ xs ys r G, Step w0 ⟨r, G, H, S⟩ ∧ Rel K ⟨r, G, H, S⟩ ∧ Roots K w0 ⟨r, G, H, S⟩ ((.im d', some (.ref b)) :: (.im d, some (.ref a)) :: R) ∧ SqL K H a xs ∧ Reps K r G ds xs ∧ SqL K H b ys ∧ Reps K r G ds' ys := by
  obtain ⟨r, G, s, rl, ro⟩ := hA
  obtain ⟨u, eu, k⟩ := ro.at0
  cases eu
  obtain ⟨u, eu, k2⟩ := ro.tail.at0
  cases eu
  obtain ⟨b, ys, eb, sq, rs⟩ := seq_ok rl k e'
  cases eb
  obtain ⟨b, xs, eb, sq2, rs2⟩ := seq_ok rl k2 e
  cases eb
  exact ⟨xs, ys, r, G, s, rl, ro, sq2, rs2, sq, rs⟩
theorem yields_zip {K : Fg} {d d' : D} {ds ds' : List D} {a b : Addr} (e : seqOf d = some ds) (e' : seqOf d' = some ds') : Yields K w0 (Itz K a b) (zipD ds ds') [(.im d', some (.ref b)), (.im d, some (.ref a))] where
  go := fun R H S i hA hi => by
    obtain ⟨xs, ys, r, G, s, rl, ro, sq, rs, sq2, rs2⟩ := at_seq2 hA e e'
    rw [zipD_len, rs.length, rs2.length] at hi
    exact ⟨xs, ys, xs[i], ys[i], sq, sq2, List.getElem?_eq_getElem (by omega), List.getElem?_eq_getElem (by omega)⟩
  stop := fun R H S i hA hi => by
    obtain ⟨xs, ys, r, G, s, rl, ro, sq, rs, sq2, rs2⟩ := at_seq2 hA e e'
    rw [zipD_len, rs.length, rs2.length] at hi
    exact ⟨xs, ys, sq, sq2, by omega⟩
  yld := fun R H S i c x H' hA hi y => by
    obtain ⟨xs, ys, r, G, s, rl, ro, sq, rs, sq2, rs2⟩ := at_seq2 hA e e'
    obtain ⟨T, x0, y0, rfl, hT, rfl, hx, hy⟩ := y
    obtain ⟨c0, c1, hc, hc', rfl⟩ := zipD_get hi
    obtain ⟨v, hv, k⟩ := rs.get hc
    obtain ⟨v', hv', k'⟩ := rs2.get hc'
    rw [hx xs sq] at hv
    rw [hy ys sq2] at hv'
    cases hv
    cases hv'
    exact at_newT s rl ro (.cons k (.cons k' .nil)) hT
def iZipD (f f' : DE) : DA := fun g S => (f g S).bind fun d S1 => (f' g S1).bind fun d' S2 => match seqOf d, seqOf d' with
  | some ds, some ds' => .ok (zipD ds ds') S2
  | _, _ => .bad
theorem pid_zip {elts : List Expr} {kk : Nat} {tpos : Pos} (hg : Gl X "zip") (hm : X.mg "zip" = none) (h : PD X W w0 e f) (h2 : PD X W w0 e2 f') (hs : starEach [e, e2] X.env = (false, eval e X.env) :: starEach [e2] X.env := by rfl) (hs2 : starEach [e2] X.env = (false, eval e2 X.env) :: starEach [] X.env := by rfl) (hpl : (backTo pos (starEach [e2] X.env)).any (·.1) = false := by rfl) :
    PID X W w0 (.Tuple elts kk tpos) (.Call (.Name "zip" p) [e, e2] [] pos) (iZipD f f') :=
  PI.weak (pi_zip hg hm (pa_cons h (pa_cons h2 pa_nil hs2) hs) hs hpl) fun σ H Q ⟨g, S, R, hl, hA, hP⟩ => by
    refine ⟨g, S, R, hl, hA, hP.bind (List.Sublist.refl _) fun d S1 v H1 _ hA1 hP1 => ?_⟩
    refine ⟨g, S1, (.im d, some v) :: R, hl, hA1, hP1.bind (List.sublist_cons_self _ _) fun d' S2 v2 H2 _ hA2 hP2 => ?_⟩
    split at hP2
    · rename_i ds ds' e1 e2
      have hA2 : At X.K w0 ((.im d', some v2) :: (.im d, some v) :: (R ++ zs g σ)) H2 S2 := hA2
      have z : ∃ a b xs ys, v = V.ref a ∧ v2 = V.ref b ∧ SqL X.K H2 a xs ∧ SqL X.K H2 b ys := by
        obtain ⟨r, G, s, rl, ro⟩ := id hA2
        obtain ⟨u, eu, k⟩ := ro.at0
        cases eu
        obtain ⟨u, eu, k2⟩ := ro.tail.at0
        cases eu
        obtain ⟨b, ys, eb, sq, rs⟩ := seq_ok rl k e2
        obtain ⟨a, xs, ea, sq2, rs2⟩ := seq_ok rl k2 e1
        exact ⟨a, b, xs, ys, ea, eb, sq2, sq⟩
      obtain ⟨a, b, xs, ys, ev, ev2, sq, sq2⟩ := z
      subst ev ev2
      exact ⟨a, b, xs, ys, rfl, sq, sq2, hP2 _ _ H2 (yields_zip e1 e2) hA2⟩
    · exact hP2.elim
end
/-! ### for -/
def forL (h : DG) (body : DS) : List D → Ev → Sto → OS
  | [], g, S => .nx g S
  | d :: ds, g, S => match h d g with
    | none => .bad
    | some g1 => match body g1 S with
      | .nx g2 S2 => forL h body ds g2 S2
      | .ct g2 S2 => forL h body ds g2 S2
      | .bk g2 S2 => .nx g2 S2
      | o => o
def dFor (fi : DA) (h : DG) (body : DS) : DS := fun g S => dWith (fi g S) g fun ds S1 => forL h body ds g S1
section
variable {X : Cx} {W : WX} {w0 : Wd} {tg iter : Expr} {fi : DA} {vs : List Nat} {h : DG} {body : List Stmt} {u : DS} {pos : Pos} {t : DT} {c : Expr}
theorem PostS.roots {K : Fg} {W : WX} {w0 : Wd} {R A : List Rt} {n : Nat} {D : Ends} {o : OS} (h : PostS K W w0 R n D o) : PostS K W w0 (A ++ R) n D o := by
  have s : ∀ L : List Rt, (R ++ L).Sublist ((A ++ R) ++ L) := fun L => by rw [List.append_assoc]; exact List.sublist_append_right _ _
  cases o with
  | nx g S => exact fun σ' H' l1 l2 x => h σ' H' l1 l2 (x.sub (s _))
  | rt q S => exact h
  | bk g S => exact fun σ' H' l1 l2 x => h σ' H' l1 l2 (x.sub (s _))
  | ct g S => exact fun σ' H' l1 l2 x => h σ' H' l1 l2 (x.sub (s _))
  | ex x g S => exact fun σ' cls dd H' l1 l2 q => h σ' cls dd H' l1 l2 (q.sub (s _))
  | bad => exact h
theorem psd_for (hp : PassesOwn (model X.prog X.w) X.A X.env X.xe) (hc : X.calm = true) (hi : PID X W w0 tg iter fi) (hg : PGD X w0 tg vs h) (hb : PSDs X W w0 body u)
    (hs : ∀ x, foldedSetIterable iter X.env x = pure x := by intro _; rfl) : PSD X W w0 (.For tg iter body [] pos) (dFor fi h u) := PS.weak (ps_for hp hc hi hg hb hs) fun D σ H ⟨g, S, R, hl, hA, hP⟩ => by
  refine ⟨g, S, R, hl, hA, ?_⟩
  unfold dFor at hP
  generalize fi g S = o at hP
  cases o with
  | bad => exact hP
  | ex x S1 => exact fun cls dd H' q => hP σ cls dd H' rfl hl q
  | ok ds S1 =>
    intro J A H1 hY hA1
    have hP : PostS X.K W w0 R σ.length D (forL h u ds g S1) := hP
    refine ⟨fun i m σ' H' => ∃ g' S', σ'.length = σ.length ∧ g'.length = σ.length ∧ m = ds.length - i ∧ i ≤ ds.length ∧ At X.K w0 (A ++ (R ++ zs g' σ')) H' S' ∧ PostS X.K W w0 R σ.length D (forL h u (ds.drop i) g' S'),
      ⟨ds.length, g, S1, rfl, hl, rfl, Nat.zero_le _, hA1, hP⟩, ?_⟩
    rintro i m σ' H' ⟨g', S', l1, l2, rfl, hle, hA', hP'⟩
    by_cases hi : i < ds.length
    · refine .inr ⟨hY.go _ H' S' i hA' hi, ?_⟩
      have ed : ds.drop i = ds[i] :: ds.drop (i + 1) := List.drop_eq_getElem_cons hi
      rw [ed] at hP'
      have hP' : PostS X.K W w0 R σ.length D (match h ds[i] g' with
        | none => .bad
        | some g1 => match u g1 S' with
          | .nx g2 S2 => forL h u (ds.drop (i + 1)) g2 S2
          | .ct g2 S2 => forL h u (ds.drop (i + 1)) g2 S2
          | .bk g2 S2 => .nx g2 S2
          | o => o) := hP'
      split at hP'
      · exact hP'.elim
      · rename_i g1 eg
        refine ⟨fun σ2 H2 => ∃ g2 S2, σ2.length = σ.length ∧ g2.length = σ.length ∧ At X.K w0 (A ++ (R ++ zs g2 σ2)) H2 S2 ∧ PostS X.K W w0 R σ.length D (forL h u (ds.drop (i + 1)) g2 S2), ?_, ?_⟩
        · rintro σ2 H2 ⟨g2, S2, k1, k2, k3, k4⟩
          exact ⟨ds.length - (i + 1), by omega, g2, S2, k1, k2, rfl, by omega, k3, k4⟩
        · intro x H2 hy
          have hA2 := hY.yld _ H' S' i ds[i] x H2 hA' (List.getElem?_eq_getElem hi) hy
          refine ⟨g', S', A ++ R, ds[i], g1, by rw [l1, l2], by rw [List.append_assoc]; exact hA2, eg, fun σ3 m1 m2 _ hA3 => ?_⟩
          refine ⟨g1, S', A ++ R, by rw [m1, m2], hA3, ?_⟩
          have e1 : σ3.length = σ.length := by rw [m1, l1]
          rw [e1]
          generalize u g1 S' = o at hP'
          have fin : ∀ g2 S2, PostS X.K W w0 R σ.length D (forL h u (ds.drop (i + 1)) g2 S2) → ∀ σ' H', σ'.length = σ.length → g2.length = σ.length → At X.K w0 ((A ++ R) ++ zs g2 σ') H' S2 →
              ∃ g2 S2, σ'.length = σ.length ∧ g2.length = σ.length ∧ At X.K w0 (A ++ (R ++ zs g2 σ')) H' S2 ∧ PostS X.K W w0 R σ.length D (forL h u (ds.drop (i + 1)) g2 S2) :=
            fun g2 S2 q σ' H' k1 k2 k3 => ⟨g2, S2, k1, k2, by rw [← List.append_assoc]; exact k3, q⟩
          cases o with
          | nx g2 S2 => exact fin g2 S2 hP'
          | ct g2 S2 => exact fin g2 S2 hP'
          | bk g2 S2 => exact fun σ' H' k1 k2 k3 => hP' σ' H' k1 k2 (k3.sub (by rw [List.append_assoc]; exact List.sublist_append_right _ _))
          | rt s S2 => exact hP'
          | ex x g2 S2 => exact fun σ' cls dd H' k1 k2 k3 => hP' σ' cls dd H' k1 k2 (k3.sub (by rw [List.append_assoc]; exact List.sublist_append_right _ _))
          | bad => exact hP'
    · have e : i = ds.length := by omega
      subst e
      rw [List.drop_length] at hP'
      exact .inl ⟨hY.stop _ H' S' _ hA' (Nat.le_refl _), hP' σ' H' l1 l2 (hA'.sub (List.sublist_append_right _ _))⟩
/-! ### while -/
@[irreducible] def fuel : Nat := 1000000
def whileN (t : DT) (body : DS) : Nat → Ev → Sto → OS
  | 0, _, _ => .bad
  | m + 1, g, S => dWith (t g S) g fun b S1 => if b = true then (match body g S1 with
      | .nx g2 S2 => whileN t body m g2 S2
      | .ct g2 S2 => whileN t body m g2 S2
      | .bk g2 S2 => .nx g2 S2
      | o => o) else .nx g S1
def dWhile (t : DT) (body : DS) : DS := fun g S => whileN t body fuel g S
theorem psd_while (hp : PassesOwn (model X.prog X.w) X.A X.env X.xe) (hc : PDT X W w0 c t) (hb : PSDs X W w0 body u) : PSD X W w0 (.While c body [] pos) (dWhile t u) := PS.weak (ps_while hp hc hb) fun D σ H ⟨g, S, R, hl, hA, hP⟩ => by
  refine ⟨fun m σ' H' => ∃ g' S', σ'.length = σ.length ∧ g'.length = σ.length ∧ At X.K w0 (R ++ zs g' σ') H' S' ∧ PostS X.K W w0 R σ.length D (whileN t u m g' S'), ⟨fuel, g, S, rfl, hl, hA, hP⟩, ?_⟩
  rintro m σ' H' ⟨g', S', l1, l2, hA', hP'⟩
  cases m with
  | zero => exact hP'.elim
  | succ m =>
    have hP' : PostS X.K W w0 R σ.length D (dWith (t g' S') g' fun b S1 => if b = true then (match u g' S1 with
      | .nx g2 S2 => whileN t u m g2 S2
      | .ct g2 S2 => whileN t u m g2 S2
      | .bk g2 S2 => .nx g2 S2
      | o => o) else .nx g' S1) := hP'
    rw [← l1] at hP'
    refine ⟨g', S', R, by rw [l1, l2], hA', hP'.with (by rw [l1, l2]) fun b S1 b' H1 e hA1 hP1 => ?_⟩
    cases (show b = b' from e)
    cases b with
    | false =>
      exact iteF (hP1 σ' H1 rfl (by rw [l1, l2]) hA1)
    | true =>
      rw [if_pos rfl] at hP1
      refine iteT ⟨fun σ2 H2 => ∃ g2 S2, σ2.length = σ.length ∧ g2.length = σ.length ∧ At X.K w0 (R ++ zs g2 σ2) H2 S2 ∧ PostS X.K W w0 R σ.length D (whileN t u m g2 S2), fun σ2 H2 ⟨g2, S2, k1, k2, k3, k4⟩ => ⟨m, Nat.lt_succ_self _, g2, S2, k1, k2, k3, k4⟩, ?_⟩
      refine ⟨g', S1, R, by rw [l1, l2], hA1, ?_⟩
      rw [l1] at hP1 ⊢
      generalize u g' S1 = o at hP1
      cases o with
      | nx g2 S2 => exact fun σ2 H2 k1 k2 k3 => ⟨g2, S2, k1, k2, k3, hP1⟩
      | ct g2 S2 => exact fun σ2 H2 k1 k2 k3 => ⟨g2, S2, k1, k2, k3, hP1⟩
      | bk g2 S2 => exact hP1
      | rt s S2 => exact hP1
      | ex x g2 S2 => exact hP1
      | bad => exact hP1
end
end DL
/-! DLe: comprehensions; defs and their calls. -/
namespace DL
open PySem PySem.Spec PyProof.Rows L2
/-! ### comprehensions -/
abbrev WF : WX := fun _ _ _ _ => False
/-- the slots that a block sees -/
def seen : SL → SL
  | .own _ => .no
  | s => s
def blkG (vs : List Nat) (g : Ev) : Ev := g.zipIdx.map fun p => if p.2 ∈ vs then .no else seen p.1
theorem blkG_len {vs : List Nat} {g : Ev} : (blkG vs g).length = g.length := by simp [blkG]
theorem blkG_get {vs : List Nat} {g : Ev} {i : Nat} {s : SL} (h : (blkG vs g)[i]? = some s) : s = .no ∨ (i ∉ vs ∧ g[i]? = some s ∧ ∃ d, s = .im d) := by
  unfold blkG at h
  rw [List.getElem?_map, List.getElem?_zipIdx] at h
  cases e : g[i]? with
  | none => rw [e] at h; cases h
  | some q =>
    rw [e] at h
    have h : (if 0 + i ∈ vs then SL.no else seen q) = s := Option.some.inj h
    rw [Nat.zero_add] at h
    by_cases hi : i ∈ vs
    · rw [if_pos hi] at h
      exact .inl h.symm
    · rw [if_neg hi] at h
      cases q with
      | no => exact .inl h.symm
      | own ds => exact .inl h.symm
      | im d => exact .inr ⟨hi, congrArg some h, d, h.symm⟩
theorem wipe_get {σ : L2.St} {j : Nat} : ∀ {vs : List Nat}, (wipe σ vs)[j]? = if j ∈ vs ∧ j < σ.length then some none else σ[j]?
  | [] => by simp [wipe]
  | v :: vs => by
    unfold wipe
    by_cases e : v = j
    · subst e
      by_cases hl : v < σ.length
      · rw [List.getElem?_set_self (by rw [wipe_length]; exact hl), if_pos ⟨List.mem_cons_self, hl⟩]
      · rw [List.getElem?_eq_none (by rw [List.length_set, wipe_length]; omega), if_neg (fun z => hl z.2), List.getElem?_eq_none (by omega)]
    · rw [List.getElem?_set_ne e, wipe_get]
      have q : (j ∈ v :: vs ∧ j < σ.length) ↔ (j ∈ vs ∧ j < σ.length) := by
        rw [List.mem_cons]
        constructor
        · rintro ⟨h1 | h1, h2⟩
          · exact absurd h1.symm e
          · exact ⟨h1, h2⟩
        · rintro ⟨h1, h2⟩
          exact ⟨.inr h1, h2⟩
      by_cases h : j ∈ vs ∧ j < σ.length
      · rw [if_pos h, if_pos (q.mpr h)]
      · rw [if_neg h, if_neg (fun z => h (q.mp z))]
theorem wipe_back {σ σ2 : L2.St} {vs us : List Nat} (hl : σ2.length = (wipe σ vs).length) (h : ∀ j, j ∉ us → σ2[j]? = (wipe σ vs)[j]?) (hs : ∀ j ∈ us, j ∈ vs) : wipe σ2 vs = wipe σ vs := by
  rw [wipe_length] at hl
  apply List.ext_getElem?
  intro j
  rw [wipe_get, wipe_get, hl]
  by_cases q : j ∈ vs ∧ j < σ.length
  · rw [if_pos q, if_pos q]
  · rw [if_neg q, if_neg q]
    by_cases hj : j ∈ us
    · have hv := hs j hj
      have : ¬ j < σ.length := fun z => q ⟨hv, z⟩
      rw [List.getElem?_eq_none (by omega), List.getElem?_eq_none (by omega)]
    · rw [h j hj, wipe_get, if_neg q]
theorem Roots.more {K : Fg} {w0 w : Wd} {L L' : List Rt} (ro : Roots K w0 w L) (h : ∀ q ∈ L', q.1 = .no ∨ (q ∈ L ∧ ∃ d, q.1 = .im d)) : Roots K w0 w (L ++ L') := by
  have notOwn : ∀ q ∈ L', ∀ a, ¬ OwnAt q a := fun q hq a ⟨ds, e, _⟩ => by
    rcases h q hq with z | ⟨_, d, z⟩
    · rw [z] at e; cases e
    · rw [z] at e; cases e
  refine ⟨fun q hq => ?_, List.pairwise_append.mpr ⟨ro.ap, ?_, fun p _ q hq a _ z => notOwn q hq a z⟩⟩
  · rcases List.mem_append.mp hq with z | z
    · exact ro.ok q z
    · rcases h q z with y | ⟨y, _⟩
      · obtain ⟨s, v⟩ := q
        cases (show s = .no from y)
        trivial
      · exact ro.ok q y
  · have key : ∀ l : List Rt, (∀ q ∈ l, ∀ a, ¬ OwnAt q a) → l.Pairwise Apart := by
      intro l
      induction l with
      | nil => intro _; exact .nil
      | cons c l ih => intro hl; exact List.pairwise_cons.mpr ⟨fun q _ a z _ => hl c List.mem_cons_self a z, ih fun q hq => hl q (List.mem_cons_of_mem _ hq)⟩
    exact key L' notOwn
theorem blk_roots {K : Fg} {w0 w : Wd} {B : List Rt} {g : Ev} {σ : L2.St} {vs : List Nat} (hl : g.length = σ.length) (ro : Roots K w0 w (B ++ zs g σ)) : Roots K w0 w ((B ++ zs g σ) ++ zs (blkG vs g) (wipe σ vs)) := by
  refine ro.more fun q hq => ?_
  obtain ⟨i, hi⟩ := List.getElem?_of_mem hq
  obtain ⟨s, v⟩ := q
  rw [List.getElem?_zip_eq_some] at hi
  obtain ⟨h1, h2⟩ := hi
  rcases blkG_get h1 with z | ⟨hv, hg, d, z⟩
  · exact .inl z
  · refine .inr ⟨List.mem_append_right _ ?_, d, z⟩
    rw [wipe_get, if_neg (fun y => hv y.1)] at h2
    exact List.mem_of_getElem? (List.getElem?_zip_eq_some.mpr ⟨hg, h2⟩)
def lcL (h : DG) (t : DT) (fe : DE) (gw : Ev) : List D → Sto → List D → Out (List D)
  | [], S, acc => .ok acc S
  | d :: ds, S, acc => match h d gw with
    | none => .bad
    | some g1 => match t g1 S with
      | .ok true S1 => (match fe g1 S1 with
        | .ok e S2 => if acc.length < sizeLine then lcL h t fe gw ds S2 (acc ++ [e]) else .bad
        | _ => .bad)
      | .ok false S1 => lcL h t fe gw ds S1 acc
      | _ => .bad
def oLc (vs : List Nat) (fi : DA) (h : DG) (t : DT) (fe : DE) : DA := fun g S => (fi g S).bind fun ds S1 => lcL h t fe (blkG vs g) ds S1 []
abbrev PDTs (X : Cx) (W : WX) (w0 : Wd) (ifs : List Expr) (f : DT) : Prop := PTs X ifs (rd rtT okT X.K W w0 f)
theorem PTs.weak {X : Cx} {e : List Expr} {t t' : TT} (h : PTs X e t) (w : ∀ σ H Q, t' σ H Q → t σ H Q) : PTs X e t' := ⟨fun pins s σ H Q I q => h.run pins s σ H Q I (w σ H Q q)⟩
def dYes : DT := fun _ S => .ok true S
theorem pdts_nil {X : Cx} {W : WX} {w0 : Wd} : PDTs X W w0 [] dYes := PTs.weak pts_nil fun σ H Q ⟨g, S, R, hl, hA, hP⟩ => hP true H rfl hA
theorem pdts_one {X : Cx} {W : WX} {w0 : Wd} {c : Expr} {t : DT} (h : PDT X W w0 c t) : PDTs X W w0 [c] t := pts_one h
section
variable {X : Cx} {W : WX} {w0 : Wd} {elt tg iter : Expr} {ifs : List Expr} {scope : Scope} {own : List (Str × Nat)} {pos : Pos} {fi : DA} {us : List Nat} {h : DG} {t : DT} {fe : DE}
theorem rd_lc {K : Fg} {vs : List Nat} {σ : L2.St} {H : Hp} {Q : VK} (hs : ∀ j ∈ us, j ∈ vs) (hr : rd rtO okO K W w0 (oLc vs fi h t fe) σ H Q) :
    tLc (rdI K W w0 fi) (rdG K w0 us h) (rd rtT okT K WF w0 t) (rd rtE okE K WF w0 fe) vs σ H Q := by
  obtain ⟨g, S, R, hl, hA, hP⟩ := hr
  refine ⟨g, S, R, hl, hA, ?_⟩
  unfold oLc at hP
  generalize fi g S = o at hP
  cases o with
  | bad => exact hP
  | ex x S1 => exact hP
  | ok ds S1 =>
    intro J A H1 hY hA1 D0 hD
    have hP : Post rtO okO K W w0 σ (R ++ zs g σ) Q (lcL h t fe (blkG vs g) ds S1 []) := hP
    have start : At K w0 ((.own [], some (.ref D0)) :: (A ++ (R ++ zs g σ))) (upd H1 D0 (.lst [])) S1 := by
      obtain ⟨r, G, s, rl, ro⟩ := hA1
      exact at_newO s rl ro .nil hD
    refine ⟨fun i m H' => ∃ S' acc, m = ds.length - i ∧ i ≤ ds.length ∧ At K w0 ((.own acc, some (.ref D0)) :: (A ++ (R ++ zs g σ))) H' S' ∧ Post rtO okO K W w0 σ (R ++ zs g σ) Q (lcL h t fe (blkG vs g) (ds.drop i) S' acc),
      ⟨ds.length, S1, [], rfl, Nat.zero_le _, start, hP⟩, ?_⟩
    rintro i m H' ⟨S', acc, rfl, hle, hA', hP'⟩
    by_cases hi : i < ds.length
    · have hAJ : At K w0 (A ++ (R ++ zs g σ)) H' S' := hA'.tail
      refine .inr ⟨hY.go _ H' S' i hAJ hi, ?_⟩
      have ed : ds.drop i = ds[i] :: ds.drop (i + 1) := List.drop_eq_getElem_cons hi
      rw [ed] at hP'
      have hP' : Post rtO okO K W w0 σ (R ++ zs g σ) Q (match h ds[i] (blkG vs g) with
        | none => .bad
        | some g1 => match t g1 S' with
          | .ok true S1 => (match fe g1 S1 with
            | .ok e S2 => if acc.length < sizeLine then lcL h t fe (blkG vs g) (ds.drop (i + 1)) S2 (acc ++ [e]) else .bad
            | _ => .bad)
          | .ok false S1 => lcL h t fe (blkG vs g) (ds.drop (i + 1)) S1 acc
          | _ => .bad) := hP'
      split at hP'
      · exact hP'.elim
      · rename_i g1 eg
        refine ⟨fun H2 => ∃ S2 acc2, At K w0 ((.own acc2, some (.ref D0)) :: (A ++ (R ++ zs g σ))) H2 S2 ∧ Post rtO okO K W w0 σ (R ++ zs g σ) Q (lcL h t fe (blkG vs g) (ds.drop (i + 1)) S2 acc2), ?_, ?_⟩
        · rintro H2 ⟨S2, acc2, k1, k2⟩
          exact ⟨ds.length - (i + 1), by omega, S2, acc2, rfl, by omega, k1, k2⟩
        · intro x H2 hy
          -- the item, with all roots
          have perm : At K w0 (A ++ ((.own acc, some (.ref D0)) :: (R ++ zs g σ))) H' S' := by
            obtain ⟨r, G, s, rl, ro⟩ := hA'
            refine ⟨r, G, s, rl, ⟨fun q hq => ro.ok q ?_, ?_⟩⟩
            · simp only [List.mem_append, List.mem_cons] at hq ⊢
              rcases hq with z | z | z
              · exact .inr (.inl z)
              · exact .inl z
              · exact .inr (.inr z)
            · refine List.Pairwise.perm ro.ap ?_ (fun h => Apart.symm h)
              exact (List.perm_middle (a := ((SL.own acc, some (V.ref D0)) : Rt)) (l₁ := A) (l₂ := R ++ zs g σ)).symm
          have hx := hY.yld _ H' S' i ds[i] x H2 perm (List.getElem?_eq_getElem hi) hy
          have hx2 : At K w0 ((.im ds[i], some x) :: ((A ++ ((.own acc, some (.ref D0)) :: (R ++ zs g σ))) ++ zs (blkG vs g) (wipe σ vs))) H2 S' := by
            obtain ⟨r, G, s, rl, ro⟩ := hx
            refine ⟨r, G, s, rl, ?_⟩
            have e1 : (SL.im ds[i], some x) :: (A ++ ((SL.own acc, some (V.ref D0)) :: (R ++ zs g σ))) = ((SL.im ds[i], some x) :: (A ++ ((SL.own acc, some (V.ref D0)) :: R))) ++ zs g σ := by simp
            rw [e1] at ro
            have q := blk_roots (vs := vs) hl ro
            have e2 : ((SL.im ds[i], some x) :: (A ++ ((SL.own acc, some (V.ref D0)) :: R))) ++ zs g σ ++ zs (blkG vs g) (wipe σ vs) = (SL.im ds[i], some x) :: ((A ++ ((SL.own acc, some (V.ref D0)) :: (R ++ zs g σ))) ++ zs (blkG vs g) (wipe σ vs)) := by simp
            rw [e2] at q
            exact q
          refine ⟨blkG vs g, S', A ++ ((.own acc, some (.ref D0)) :: (R ++ zs g σ)), ds[i], g1, by rw [blkG_len, wipe_length]; exact hl, hx2, eg, fun σ2 l1 l2 l3 hA2 => ⟨wipe_back l1 l3 hs, ?_⟩⟩
          refine ⟨g1, S', A ++ ((.own acc, some (.ref D0)) :: (R ++ zs g σ)), by rw [l1, l2], hA2, ?_⟩
          have back : ∀ {H3 : Hp} {S3 : Sto} {L : List Rt}, At K w0 (L ++ ((A ++ ((.own acc, some (.ref D0)) :: (R ++ zs g σ))) ++ zs g1 σ2)) H3 S3 → At K w0 ((.own acc, some (.ref D0)) :: (A ++ (R ++ zs g σ))) H3 S3 := fun {H3 S3 L} z => by
            have z2 := (z.sub (sub_app L _)).sub (List.sublist_append_left (A ++ ((.own acc, some (.ref D0)) :: (R ++ zs g σ))) (zs g1 σ2))
            obtain ⟨r, G, s, rl, ro⟩ := z2
            refine ⟨r, G, s, rl, ⟨fun q hq => ro.ok q ?_, ?_⟩⟩
            · simp only [List.mem_append, List.mem_cons] at hq ⊢
              rcases hq with z | z | z
              · exact .inr (.inl z)
              · exact .inl z
              · exact .inr (.inr z)
            · exact List.Pairwise.perm ro.ap (List.perm_middle (a := ((SL.own acc, some (V.ref D0)) : Rt)) (l₁ := A) (l₂ := R ++ zs g σ)) (fun h => Apart.symm h)
          generalize t g1 S' = ot at hP'
          cases ot with
          | bad => exact hP'.elim
          | ex y S3 => exact hP'.elim
          | ok b S3 =>
            intro b' H3 eb hA3
            cases (show b = b' from eb)
            cases b with
            | false => exact iteF ⟨S3, acc, back (L := []) hA3, hP'⟩
            | true =>
              refine iteT ⟨g1, S3, A ++ ((.own acc, some (.ref D0)) :: (R ++ zs g σ)), by rw [l1, l2], hA3, ?_⟩
              have hP' : Post rtO okO K W w0 σ (R ++ zs g σ) Q (match fe g1 S3 with
                | .ok e S2 => if acc.length < sizeLine then lcL h t fe (blkG vs g) (ds.drop (i + 1)) S2 (acc ++ [e]) else .bad
                | _ => .bad) := hP'
              generalize fe g1 S3 = oe at hP'
              cases oe with
              | bad => exact hP'.elim
              | ex y S4 => exact hP'.elim
              | ok d S4 =>
                intro y H4 _ hA4
                have hP' : Post rtO okO K W w0 σ (R ++ zs g σ) Q (if acc.length < sizeLine then lcL h t fe (blkG vs g) (ds.drop (i + 1)) S4 (acc ++ [d]) else .bad) := hP'
                split at hP'
                · rename_i hz
                  have hA5 : At K w0 ((.im d, some y) :: (.own acc, some (.ref D0)) :: (A ++ (R ++ zs g σ))) H4 S4 := by
                    obtain ⟨r, G, s, rl, ro⟩ := hA4
                    obtain ⟨u, eu, k⟩ := Roots.at0 (R := (A ++ ((.own acc, some (.ref D0)) :: (R ++ zs g σ))) ++ zs g1 σ2) ro
                    cases eu
                    have q0 := back (L := [(.im d, some y)]) ⟨r, G, s, rl, ro⟩
                    have ro1 : Roots K w0 ⟨r, G, H4, S4⟩ ((.own acc, some (.ref D0)) :: (A ++ (R ++ zs g σ))) := by
                      have z2 := (ro.sub (sub_app [(.im d, some y)] _)).sub (List.sublist_append_left (A ++ ((.own acc, some (.ref D0)) :: (R ++ zs g σ))) (zs g1 σ2))
                      refine ⟨fun q hq => z2.ok q ?_, List.Pairwise.perm z2.ap (List.perm_middle (a := ((SL.own acc, some (V.ref D0)) : Rt)) (l₁ := A) (l₂ := R ++ zs g σ)) (fun h => Apart.symm h)⟩
                      simp only [List.mem_append, List.mem_cons] at hq ⊢
                      rcases hq with z | z | z
                      · exact .inr (.inl z)
                      · exact .inl z
                      · exact .inr (.inr z)
                    exact ⟨r, G, s, rl, ro1.push k⟩
                  obtain ⟨r, G, s, rl, ro⟩ := hA5
                  obtain ⟨u, eu, k⟩ := ro.at0
                  cases eu
                  obtain ⟨b, xs, eb, h1, h2, h3, h4, h5⟩ := ro.tail.ok _ List.mem_cons_self
                  cases eb
                  have el := h2.length
                  refine ⟨xs, h1, by rw [← el]; exact hz, S4, acc ++ [d], ?_, hP'⟩
                  obtain ⟨s', rl', ro'⟩ := own_set (j := 0) (ds := acc) (ds' := acc ++ [d]) (a := D0) (xs' := xs ++ [y]) s rl ro.tail rfl (h2.append (.cons k .nil))
                  exact ⟨r, G, s', rl', ro'⟩
                · exact hP'.elim
    · have e : i = ds.length := by omega
      subst e
      rw [List.drop_length] at hP'
      refine .inl ⟨hY.stop _ H' S' _ hA'.tail (Nat.le_refl _), hP' (.ref D0) H' trivial ?_⟩
      exact hA'.sub (List.Sublist.cons_cons _ (List.sublist_append_right _ _))
theorem po_lc (hc : X.calm = true) (hN : X.N.Nodup) (hi : PID X W w0 tg iter fi) (ok : BlkOk X.N X.env.scope scope own)
    (hg : ∀ (s : Shared) (H : Hp) (C : Addr) (cl : List (Str × Addr)) (fp : List Addr), PGD (X.blk s H scope (compEnvC scope cl C X.env) fp) w0 tg us h)
    (ht : ∀ (s : Shared) (H : Hp) (C : Addr) (cl : List (Str × Addr)) (fp : List Addr), PDTs (X.blk s H scope (compEnvC scope cl C X.env) fp) WF w0 ifs t)
    (he : ∀ (s : Shared) (H : Hp) (C : Addr) (cl : List (Str × Addr)) (fp : List Addr), PD (X.blk s H scope (compEnvC scope cl C X.env) fp) WF w0 elt fe)
    (hsub : ∀ j ∈ us, j ∈ own.map (·.2)) (hs : ∀ x, foldedSetIterable iter X.env x = pure x := by intro _; rfl) :
    PDO X W w0 (.ListComp elt [⟨tg, iter, ifs, 0⟩] scope pos) (oLc (own.map (·.2)) fi h t fe) := PE.weak (pe_lc hc hN hi ok hg ht he hs) fun σ H Q q => rd_lc hsub q
/-- name = [..], frozen -/
theorem psd_setLcO {i : Nat} {y : Str} {py spos : Pos} (hc : X.calm = true) (hN : X.N.Nodup) (hy : X.N[i]? = some y) (hyl : X.env.scope.names.lookup y = some .local)
    (hsw : swapsWith (.ListComp elt [⟨tg, iter, ifs, 0⟩] scope pos) (some (.Name y py)) spos.line X.env = pure true) (hi : PID X W w0 tg iter fi) (ok : BlkOk X.N X.env.scope scope own)
    (hg : ∀ (s : Shared) (H : Hp) (C : Addr) (cl : List (Str × Addr)) (fp : List Addr), PGD (X.blk s H scope (compEnvC scope cl C X.env) fp) w0 tg us h)
    (ht : ∀ (s : Shared) (H : Hp) (C : Addr) (cl : List (Str × Addr)) (fp : List Addr), PDTs (X.blk s H scope (compEnvC scope cl C X.env) fp) WF w0 ifs t)
    (he : ∀ (s : Shared) (H : Hp) (C : Addr) (cl : List (Str × Addr)) (fp : List Addr), PD (X.blk s H scope (compEnvC scope cl C X.env) fp) WF w0 elt fe)
    (hsub : ∀ j ∈ us, j ∈ own.map (·.2)) (hs : ∀ x, foldedSetIterable iter X.env x = pure x := by intro _; rfl) :
    PSD X W w0 (.Assign [.Name y py] (.ListComp elt [⟨tg, iter, ifs, 0⟩] scope pos) spos) (oSet i (oLc (own.map (·.2)) fi h t fe)) :=
  PS.weak (ps_setLc hc hN hy hyl hsw hi ok hg ht he hs) fun D σ H ⟨g, S, R, hl, hA, hP⟩ => by
    refine rd_lc hsub ⟨g, S, R, hl, hA, hP.with hl fun d S' v H' _ hA' hP' => hP' _ H' (by simp) (by simpa using hl) (At.setSlot hA')⟩
theorem psd_setLc {i : Nat} {y : Str} {py spos : Pos} (hc : X.calm = true) (hN : X.N.Nodup) (hy : X.N[i]? = some y) (hyl : X.env.scope.names.lookup y = some .local)
    (hsw : swapsWith (.ListComp elt [⟨tg, iter, ifs, 0⟩] scope pos) (some (.Name y py)) spos.line X.env = pure true) (hi : PID X W w0 tg iter fi) (ok : BlkOk X.N X.env.scope scope own)
    (hg : ∀ (s : Shared) (H : Hp) (C : Addr) (cl : List (Str × Addr)) (fp : List Addr), PGD (X.blk s H scope (compEnvC scope cl C X.env) fp) w0 tg us h)
    (ht : ∀ (s : Shared) (H : Hp) (C : Addr) (cl : List (Str × Addr)) (fp : List Addr), PDTs (X.blk s H scope (compEnvC scope cl C X.env) fp) WF w0 ifs t)
    (he : ∀ (s : Shared) (H : Hp) (C : Addr) (cl : List (Str × Addr)) (fp : List Addr), PD (X.blk s H scope (compEnvC scope cl C X.env) fp) WF w0 elt fe)
    (hsub : ∀ j ∈ us, j ∈ own.map (·.2)) (hs : ∀ x, foldedSetIterable iter X.env x = pure x := by intro _; rfl) :
    PSD X W w0 (.Assign [.Name y py] (.ListComp elt [⟨tg, iter, ifs, 0⟩] scope pos) spos) (dSet i (dFrz (oLc (own.map (·.2)) fi h t fe))) :=
  PS.weak (ps_setLc hc hN hy hyl hsw hi ok hg ht he hs) fun D σ H ⟨g, S, R, hl, hA, hP⟩ => by
    refine rd_lc (h := h) (t := t) (fe := fe) hsub ⟨g, S, R, hl, hA, ?_⟩
    have hP : PostS X.K W w0 R σ.length D (dWith (dFrz (oLc (own.map (·.2)) fi h t fe) g S) g fun d S' => .nx (g.set i (.im d)) S') := hP
    have e : dFrz (oLc (own.map (·.2)) fi h t fe) g S = (oLc (own.map (·.2)) fi h t fe g S).bind fun ds S1 => .ok (.lst ds) S1 := rfl
    rw [e] at hP
    generalize oLc (own.map (·.2)) fi h t fe g S = o at hP
    cases o with
    | bad => exact hP
    | ex x S1 => exact fun cls dd H' q => hP σ cls dd H' rfl hl q
    | ok ds S1 =>
      intro v H' _ hA'
      refine hP _ H' (by simp) (by simpa using hl) (At.setSlot (i := i) (s := .im (.lst ds)) (v := v) ?_)
      obtain ⟨r, G, s, rl, ro⟩ := hA'
      obtain ⟨G', s', rl', ro'⟩ := own_freeze (j := 0) s rl ro rfl
      exact ⟨r, G', s', rl', ro'⟩
end
/-! ### defs -/
def PostF (K : Fg) (w : Wd) (Q : VK) (E : XK) : Out SL → Prop
  | .ok s S' => ∀ v H', At K w [(s, some v)] H' S' → Q v H'
  | .ex x S' => ∀ cls dd H', XAt K w [] H' S' x cls dd → E cls dd H'
  | .bad => False
/-- a def of n parameters does what F says -/
def spF (K : Fg) (n : Nat) (F : DF) : Sp := fun vs H Q E => ∃ r G S ds, ds.length = n ∧ Rel K ⟨r, G, H, S⟩ ∧ Reps K r G ds vs ∧ PostF K ⟨r, G, H, S⟩ Q E (F ds S)
/-- a body's function -/
def runB (n : Nat) (u : DS) : DF := fun ds S => match u (ds.map SL.im ++ List.replicate (n - ds.length) .no) S with
  | .rt s S' => .ok s S'
  | .nx _ S' => .ok (.im .non) S'
  | .ex x _ S' => .ex x S'
  | _ => .bad
theorem roots_start {K : Fg} {w : Wd} {n : Nat} : ∀ {ds : List D} {vs : List V}, Reps K w.r w.G ds vs → Roots K w w (zs (ds.map SL.im ++ List.replicate n .no) (vs.map some ++ List.replicate n none))
  | [], [], _ => by
    refine ⟨fun q hq => ?_, ?_⟩
    · obtain ⟨i, hi⟩ := List.getElem?_of_mem hq
      obtain ⟨s, v⟩ := q
      rw [List.getElem?_zip_eq_some] at hi
      have h1 := hi.1
      simp only [List.map_nil, List.nil_append, List.getElem?_replicate] at h1
      split at h1
      · cases h1; trivial
      · cases h1
    · refine List.pairwise_iff_getElem.mpr fun i j hi hj _ a ⟨ds, e, _⟩ _ => ?_
      have h1 : (zs (([] : List D).map SL.im ++ List.replicate n .no) (([] : List V).map some ++ List.replicate n none))[i]? = some ((zs (([] : List D).map SL.im ++ List.replicate n .no) (([] : List V).map some ++ List.replicate n none))[i]) := List.getElem?_eq_getElem hi
      generalize (zs (([] : List D).map SL.im ++ List.replicate n .no) (([] : List V).map some ++ List.replicate n none))[i] = q at h1 e
      obtain ⟨s, v⟩ := q
      rw [List.getElem?_zip_eq_some] at h1
      have h2 := h1.1
      simp only [List.map_nil, List.nil_append, List.getElem?_replicate] at h2
      split at h2
      · cases h2; cases e
      · cases h2
  | [], _ :: _, h => by cases h
  | _ :: _, [], h => by cases h
  | d :: ds, v :: vs, h => by
    cases h with
    | cons p q => exact (roots_start q).push p
section
variable {P : Program} {w : World} {K : Fg} {mg : Str → Option Value} {base : Heap}
theorem fn_def {x qual : Str} {st : Stmt} {f : Addr} {fd : FuncData} {N ps : List Str} {k : Nat} {u : DS} (F : L2.Fun K x qual st f fd) (S : FnScope N ps (defScope st))
    (hb : ∀ (cdv : Value) (A : Around) (outer : List Env) (s : Shared) (H : Hp) (E : XK) (w0 : Wd), Room k (A.deeper (envOfC qual (defScope st) s.heap.objs.size f cdv)) →
      PSDs (cxOf (L2.CX P w) P w K mg base N qual (defScope st) f cdv A outer s H E) (fun cls d _ H => E cls d H) w0 (defBody st) u) :
    FnOk P w K mg base (L2.CX P w) (k + 1) f fd ps (spF K ps.length (runB N.length u)) := by
  refine F.okX S (fun vs H Q E ⟨r, G, S', ds, hl, _, hr, _⟩ => by rw [← hr.length]; exact hl) fun cdv A outer s H vs Q E hr ⟨r, G, S', ds, hl, rl, rs, hP⟩ => ?_
  have hpl : ps.length ≤ N.length := by have := congrArg List.length S.pre; rw [List.length_take] at this; omega
  have el := rs.length
  refine ⟨_, hb cdv A outer s H E ⟨r, G, H, S'⟩ hr, ds.map SL.im ++ List.replicate (N.length - ds.length) .no, S', [], ?_, ?_, ?_⟩
  · unfold L2.start
    rw [List.length_append, List.length_map, List.length_replicate, List.length_append, List.length_map, List.length_replicate]
    omega
  · refine ⟨r, G, Step.refl _, rl, ?_⟩
    unfold L2.start
    rw [← el]
    exact roots_start rs
  · unfold runB at hP
    generalize u (ds.map SL.im ++ List.replicate (N.length - ds.length) .no) S' = o at hP
    cases o with
    | nx g S2 => exact fun σ' H' _ _ x => hP .non H' ((x.sub (List.nil_sublist _)).push fun _ _ => .non)
    | rt q S2 => exact hP
    | ex x g S2 => exact fun σ' cls dd H' _ _ q => hP cls dd H' (q.sub (List.nil_sublist _))
    | bk g S2 => exact hP.elim
    | ct g S2 => exact hP.elim
    | bad => exact hP.elim
end
/-- a result as a datum -/
def frz : SL → Option D
  | .im d => some d
  | .own ds => some (.lst ds)
  | .no => none
def dCall (F : DF) (fs : DA) : DE := fun g S => (fs g S).bind fun ds S1 => (F ds S1).bind fun s S2 => Out.of (frz s) S2
def oCall (F : DF) (fs : DA) : DA := fun g S => (fs g S).bind fun ds S1 => (F ds S1).bind fun s S2 => match s with
  | .own es => .ok es S2
  | _ => .bad
section
variable {X : Cx} {W : WX} {w0 : Wd} {k : Nat} {f : Addr} {fd : FuncData} {ps : List Str} {F : DF} {x : Str} {p pos : Pos} {e : Expr} {es : List Expr} {fs : DA}
/-- the roots of a caller behind a call -/
theorem call_roots {K : Fg} {w w' : Wd} {R : List Rt} {s : SL} {v : V} (s0 : Step w0 w) (ro : Roots K w0 w R) (h : At K w [(s, some v)] w'.H w'.S) (hs : s ≠ .no) : At K w0 ((s, some v) :: R) w'.H w'.S := by
  obtain ⟨r', G', st, rl', ro'⟩ := h
  have ok := ro'.ok (s, some v) List.mem_cons_self
  have ro2 := ro.step st
  refine ⟨r', G', s0.trans st, rl', ⟨fun q hq => ?_, List.pairwise_cons.mpr ⟨fun q hq => ?_, ro2.ap⟩⟩⟩
  · rcases List.mem_cons.mp hq with z | z
    · subst z
      cases s with
      | no => trivial
      | im d => exact ok
      | own ds =>
        obtain ⟨a, xs, e, h1, h2, h3, h4, h5⟩ := ok
        exact ⟨a, xs, e, h1, h2, h3, h4, s0.free h5⟩
    · exact ro2.ok q z
  · intro a ⟨ds, z1, z2⟩ ⟨es, y1, y2⟩
    have z1 : s = .own ds := z1
    subst z1
    obtain ⟨b, xs, e, h1, h2, h3, h4, h5⟩ := ok
    have q1 := ro.ok q hq
    obtain ⟨sl, u⟩ := q
    have y1 : sl = .own es := y1
    subst y1
    obtain ⟨c, ys, e', k1, _⟩ := q1
    have y2 : u = some (.ref a) := y2
    have z2 : (some v : Option V) = some (.ref a) := z2
    rw [y2] at e'
    rw [z2] at e
    cases e
    cases e'
    rw [h5] at k1
    cases k1
theorem rd_call {K : Fg} {n : Nat} {σ : L2.St} {H : Hp} {Q : VK} {α : Type} {rt : α → V → List Rt} {ok : α → V → Prop} {kk : SL → Sto → Out α}
    (h : rd rt ok K W w0 (fun g S => (fs g S).bind fun ds S1 => if ds.length = n then (F ds S1).bind kk else .bad) σ H Q)
    (hk : ∀ (R : List Rt) (s : SL) (S : Sto) (v : V) (H' : Hp), At K w0 ((s, some v) :: R) H' S → Post rt ok K W w0 σ R Q (kk s S) → Q v H') (hno : ∀ S, kk .no S = .bad) :
    tCallS (spF K n F) (WE W) (rd ims okA K W w0 fs) σ H Q := by
  obtain ⟨g, S, R, hl, hA, hP⟩ := h
  refine ⟨g, S, R, hl, hA, hP.bind (List.Sublist.refl _) fun ds S1 vs H1 e hA1 hP1 => ?_⟩
  split at hP1
  · rename_i hn
    obtain ⟨r, G, s, rl, ro⟩ := hA1
    have rs : Reps K r G ds vs := ro.reps e
    have ro2 : Roots K w0 ⟨r, G, H1, S1⟩ (R ++ zs g σ) := ro.sub (sub_app _ _)
    refine ⟨r, G, S1, ds, hn, rl, rs, ?_⟩
    generalize F ds S1 = o at hP1
    cases o with
    | bad => exact hP1
    | ex x S2 =>
      intro cls dd H2 hx
      refine hP1 cls dd H2 ?_
      obtain ⟨ec, hx⟩ := hx
      refine ⟨ec, ?_⟩
      obtain ⟨c, xf⟩ := x
      cases xf with
      | none =>
        obtain ⟨ed, r', G', st, rl', ro'⟩ := hx
        exact ⟨ed, r', G', s.trans st, rl', ro2.step st⟩
      | some fd =>
        obtain ⟨f, d⟩ := fd
        obtain ⟨a, v, r', G', h1, st, rl', ro', h5, h6⟩ := hx
        exact ⟨a, v, r', G', h1, s.trans st, rl', ro2.step st, h5, h6⟩
    | ok sl S2 =>
      intro v H2 hx
      by_cases hs : sl = .no
      · subst hs
        have q : Post rt ok K W w0 σ (R ++ zs g σ) Q (kk .no S2) := hP1
        rw [hno] at q
        exact q.elim
      · exact hk _ sl S2 v H2 (call_roots (w' := ⟨fun _ => none, fun _ => none, H2, S2⟩) s ro2 hx hs) hP1
  · exact hP1.elim
theorem pd_call {n : Nat} (hF : FnOk X.prog X.w X.K X.mg X.base (L2.CX X.prog X.w) k f fd ps (spF X.K n F)) (hr : Room k X.A) (hg : Gl X x) (hm : X.mg x = some (.ref f)) (hk : PySem.W.keepIn X.K (.ref f) = true) (hb : Binds X.K fd ps []) (tk : Takes X W)
    (ha : PDA X W w0 (e :: es) fs) (hdb : (x == ("__debug__" : Str)) = false := by decide) (he : starEach (e :: es) X.env = (false, eval e X.env) :: starEach es X.env := by rfl) (hpl : (backTo pos (starEach es X.env)).any (·.1) = false := by rfl) :
    PD X W w0 (.Call (.Name x p) (e :: es) [] pos) (fun g S => (fs g S).bind fun ds S1 => if ds.length = n then (F ds S1).bind fun s S2 => Out.of (frz s) S2 else .bad) :=
  PE.weak (pe_callS (E := WE W) hF hr hg hm hk hb (fun σ => passAt tk σ) ha hdb he hpl) fun σ H Q h => rd_call h (fun R s S v H' hA hP => by
    obtain ⟨d, ed, hQ⟩ := hP.of
    refine hQ v H' trivial ?_
    cases s with
    | no => cases ed
    | im d' => cases ed; exact hA
    | own ds =>
      cases ed
      obtain ⟨r, G, s, rl, ro⟩ := hA
      obtain ⟨G', s', rl', ro'⟩ := own_freeze (j := 0) s rl ro rfl
      exact ⟨r, G', s', rl', ro'⟩) fun _ => rfl
theorem po_call {n : Nat} (hF : FnOk X.prog X.w X.K X.mg X.base (L2.CX X.prog X.w) k f fd ps (spF X.K n F)) (hr : Room k X.A) (hg : Gl X x) (hm : X.mg x = some (.ref f)) (hk : PySem.W.keepIn X.K (.ref f) = true) (hb : Binds X.K fd ps []) (tk : Takes X W)
    (ha : PDA X W w0 (e :: es) fs) (hdb : (x == ("__debug__" : Str)) = false := by decide) (he : starEach (e :: es) X.env = (false, eval e X.env) :: starEach es X.env := by rfl) (hpl : (backTo pos (starEach es X.env)).any (·.1) = false := by rfl) :
    PDO X W w0 (.Call (.Name x p) (e :: es) [] pos) (fun g S => (fs g S).bind fun ds S1 => if ds.length = n then (F ds S1).bind fun s S2 => (match s with
      | .own es => Out.ok es S2
      | _ => .bad) else .bad) :=
  PE.weak (pe_callS (E := WE W) hF hr hg hm hk hb (fun σ => passAt tk σ) ha hdb he hpl) fun σ H Q h => rd_call (α := List D) (rt := rtO) (ok := okO) (kk := fun s S2 => match s with
      | .own es => Out.ok es S2
      | _ => .bad) h (fun R s S v H' hA hP => by
    cases s with
    | no => exact hP.elim
    | im d' => exact hP.elim
    | own ds => exact hP v H' trivial hA) fun _ => rfl
end
end DL
/-! DLf: operators, comparisons, builtins over data. -/
namespace DL
open PySem PySem.Spec PyProof.Rows L2
section
variable {X : Cx}
/-! ### ints -/
def oI (C : Int → Int → Bool) (g : Int → Int → Int) : O2 := fun a b _ => match a, b with
  | .int i, .int j => if C i j = true then some (.int (g i j)) else none
  | _, _ => none
def oB (g : Int → Int → Bool) : O2 := fun a b _ => match a, b with
  | .int i, .int j => some (.bl (g i j))
  | _, _ => none
theorem At.int1 {K : Fg} {w0 : Wd} {R : List Rt} {H : Hp} {S : Sto} {a : D} {x y : V} {i : Int} (h : At K w0 ((.im a, some y) :: (.im (.int i), some x) :: R) H S) : x = .int i := h.tail.int
theorem ov_int {f : Value → Value → Sem Value} {C : Int → Int → Prop} {c : Int → Int → Bool} {g : Int → Int → Int} (h : OpR X f (rI C fun i j => .int (g i j))) (hc : ∀ i j, c i j = true → C i j) : OpR X f (rV2 X.K (oI c g)) := by
  intro pins s σ H x y v u Q I rx ry ⟨w0, S, R, a, b, hA, d, e, hQ⟩
  unfold oI at e
  split at e
  · rename_i i j
    split at e
    · rename_i hij
      cases e
      have ey := hA.int
      have ex := hA.tail.int
      exact h pins s σ H x y v u Q I rx ry ⟨i, j, ex, ey, hc i j hij, hQ _ H (hA.tail.tail.push fun _ _ => .int _)⟩
    · cases e
  · cases e
theorem ov_int0 {f : Value → Value → Sem Value} {g : Int → Int → Int} (h : OpR X f (rI0 fun i j => .int (g i j))) : OpR X f (rV2 X.K (oI (fun _ _ => true) g)) := by
  intro pins s σ H x y v u Q I rx ry ⟨w0, S, R, a, b, hA, d, e, hQ⟩
  unfold oI at e
  split at e
  · rename_i i j
    cases e
    exact h pins s σ H x y v u Q I rx ry ⟨i, j, hA.tail.int, hA.int, hQ _ H (hA.tail.tail.push fun _ _ => .int _)⟩
  · cases e
theorem ov_cmp {f : Value → Value → Sem Value} {g : Int → Int → Bool} (h : OpR X f (rI0 fun i j => .bl (g i j))) : OpR X f (rV2 X.K (oB g)) := by
  intro pins s σ H x y v u Q I rx ry ⟨w0, S, R, a, b, hA, d, e, hQ⟩
  unfold oB at e
  split at e
  · rename_i i j
    cases e
    exact h pins s σ H x y v u Q I rx ry ⟨i, j, hA.tail.int, hA.int, hQ _ H (hA.tail.tail.push fun _ _ => .bl _)⟩
  · cases e
abbrev cT : Int → Int → Bool := fun _ _ => true
def cMul (i j : Int) : Bool := decide (i.natAbs.log2 + j.natAbs.log2 < 1000000)
def cDiv (_ j : Int) : Bool := decide (0 < j) && decide (j.natAbs.log2 < 9000)
def cPos (_ j : Int) : Bool := decide (0 < j)
def cPow (i j : Int) : Bool := decide (0 ≤ j) && (decide (j ≤ 1000000) && decide (i.natAbs < 2 ^ 64))
def cShl (i j : Int) : Bool := decide (0 ≤ j) && decide ((Builtin.Int.intBits i : Int) + j ≤ 2 ^ 27)
def cNn (_ j : Int) : Bool := decide (0 ≤ j)
abbrev oSub : O2 := oI cT fun i j => i - j
abbrev oMul : O2 := oI cMul fun i j => i * j
abbrev oDiv : O2 := oI cDiv fun i j => i / j
abbrev oMod : O2 := oI cPos fun i j => i % j
abbrev oPow : O2 := oI cPow fun i j => i ^ j.toNat
abbrev oShl : O2 := oI cShl fun i j => i * 2 ^ j.toNat
abbrev oShr : O2 := oI cNn fun i j => i / 2 ^ j.toNat
abbrev oAnd : O2 := oI cT fun i j => Builtin.bitAnd i j
abbrev oOr : O2 := oI cT fun i j => Builtin.bitOr i j
abbrev oXor : O2 := oI cT fun i j => Builtin.bitXor i j
abbrev oLt : O2 := oB fun i j => decide (i < j)
abbrev oLe : O2 := oB fun i j => decide (i ≤ j)
abbrev oGt : O2 := oB fun i j => decide (j < i)
abbrev oGe : O2 := oB fun i j => decide (j ≤ i)
theorem ov_sub : OpR X (binaryOp .Sub) (rV2 X.K oSub) := ov_int0 op_sub
theorem ov_mul : OpR X (binaryOp .Mult) (rV2 X.K oMul) := ov_int op_mulW fun i j h => by
  have q : i.natAbs.log2 + j.natAbs.log2 < 1000000 := of_decide_eq_true h
  exact q
theorem ov_div : OpR X (binaryOp .FloorDiv) (rV2 X.K oDiv) := ov_int op_fdivW fun i j h => by
  unfold cDiv at h
  rw [Bool.and_eq_true, decide_eq_true_iff, decide_eq_true_iff] at h
  exact h
theorem ov_mod : OpR X (binaryOp .Mod) (rV2 X.K oMod) := ov_int op_mod fun i j h => of_decide_eq_true h
theorem ov_pow : OpR X (binaryOp .Pow) (rV2 X.K oPow) := ov_int op_pow fun i j h => by
  unfold cPow at h
  rw [Bool.and_eq_true, Bool.and_eq_true, decide_eq_true_iff, decide_eq_true_iff, decide_eq_true_iff] at h
  exact h
theorem ov_shl : OpR X (binaryOp .LShift) (rV2 X.K oShl) := ov_int op_shlW fun i j h => by
  unfold cShl at h
  rw [Bool.and_eq_true, decide_eq_true_iff, decide_eq_true_iff] at h
  exact h
theorem ov_shr : OpR X (binaryOp .RShift) (rV2 X.K oShr) := ov_int op_shr fun i j h => of_decide_eq_true h
theorem ov_and : OpR X (binaryOp .BitAnd) (rV2 X.K oAnd) := ov_int0 op_and
theorem ov_or : OpR X (binaryOp .BitOr) (rV2 X.K oOr) := ov_int0 op_or
theorem ov_xor : OpR X (binaryOp .BitXor) (rV2 X.K oXor) := ov_int0 op_xor
theorem iv_sub : PIp X .Sub (rV2 X.K oSub) := ov_int0 iop_sub
theorem iv_and : PIp X .BitAnd (rV2 X.K oAnd) := ov_int0 iop_and
theorem ov_lt : OpR X (compareOp .Lt) (rV2 X.K oLt) := ov_cmp (opB0 fun _ _ _ _ _ _ _ q => lt_int q)
theorem ov_le : OpR X (compareOp .LtE) (rV2 X.K oLe) := ov_cmp (opB0 fun _ _ _ _ _ _ _ q => le_int q)
theorem ov_gt : OpR X (compareOp .Gt) (rV2 X.K oGt) := ov_cmp (opB0 fun _ _ _ _ _ _ _ q => gt_int q)
theorem ov_ge : OpR X (compareOp .GtE) (rV2 X.K oGe) := ov_cmp (opB0 fun _ _ _ _ _ _ _ q => ge_int q)
/-! ### + -/
/-- two lists of any kind that is read, joined -/
def rCatQ (K : Fg) : R2 := fun x y H Q => ∃ l b xs zs, x = .ref l ∧ y = .ref b ∧ SqL K H l xs ∧ SqL K H b zs ∧ xs.length + zs.length ≤ sizeLine ∧ ∀ p, H p = none → Q (.ref p) (upd H p (.lst (xs ++ zs)))
theorem op_catQ : OpR X (binaryOp .Add) (rCatQ X.K) := by
  intro pins s σ H x y v u Q I rx ry ⟨l, b, xs, zs, e1, e2, h1, h2, hz, q⟩
  subst e1 e2
  cases rx
  cases ry
  obtain ⟨its, r, ⟨⟨cls, dd, data, sl⟩, n, ho, hc, _, hd⟩, _⟩ := I.list h1
  obtain ⟨its2, r2, ⟨⟨cls2, dd2, data2, sl2⟩, n2, ho2, hc2, _, hd2⟩, _⟩ := I.list h2
  simp only at hc hd hc2 hd2
  subst hc hd hc2 hd2
  have ea : its.toArray ++ its2.toArray = (its ++ its2).toArray := by simp
  refine concat_meets ⟨_, ho, rfl⟩ ⟨_, ho2, rfl⟩ noFill_list_add seq_list_add PySem.F.slot_list_add PySem.F.entry_list_add (PySem.F.args_list_add_2 _ _) (list_addW l b its.toArray its2.toArray n n2 dd dd2 sl sl2 (by
    have k1 := r.length
    have k2 := r2.length
    rw [List.size_toArray, List.size_toArray]; omega)) ⟨ho, ho2, ?_⟩
  rw [ea]
  exact ⟨.ref _, _, I.lnew (t' := s.toks) (r.append r2) (by rw [List.length_append]; omega), rfl, q _ I.fresh⟩
def oAdd : O2 := fun a b S => match a, b with
  | .int i, .int j => some (.int (i + j))
  | .int i, .bl k => some (.int (i + b2i k))
  | .str x, .str y => if x.length + y.length ≤ sizeLine then some (.str (x ++ y)) else none
  | .tup _, _ => none
  | a, b => match viewL S a, viewL S b with
    | some xs, some ys => if xs.length + ys.length ≤ sizeLine then some (.lst (xs ++ ys)) else none
    | _, _ => none
theorem add_lists {pins : List (Addr × Obj)} {s : Shared} {σ : L2.St} {H : Hp} {x y : V} {v u : Value} {Q : VK} {w0 : Wd} {S : Sto} {R : List Rt} {a b d : D} (I : Inv X pins σ H s) (rx : RelV x v) (ry : RelV y u) (hA : At X.K w0 ((.im b, some y) :: (.im a, some x) :: R) H S)
    (e : (match viewL S a, viewL S b with
    | some xs, some ys => if xs.length + ys.length ≤ sizeLine then some (D.lst (xs ++ ys)) else none
    | _, _ => none) = some d) (hQ : ∀ v H', At X.K w0 ((.im d, some v) :: R) H' S → Q v H') : wpAny (model X.prog X.w) X.A (binaryOp .Add v u) (EP X pins σ Q) X.xe s := by
  split at e
  · rename_i xs ys e1 e2
    split at e
    · rename_i hz
      cases e
      obtain ⟨r, G, st, rl, ro⟩ := hA
      obtain ⟨u1, q1, k1⟩ := ro.at0
      cases q1
      obtain ⟨u2, q2, k2⟩ := ro.tail.at0
      cases q2
      obtain ⟨p, us, rfl, hp, r1⟩ := view_ok rl k2 e1
      obtain ⟨p2, us2, rfl, hp2, r2⟩ := view_ok rl k1 e2
      exact op_catQ pins s σ H _ _ v u Q I rx ry ⟨p, p2, us, us2, rfl, rfl, hp, hp2, by rw [← r1.length, ← r2.length]; exact hz, fun q hq => hQ _ _ (at_newL st rl ro.tail.tail (r1.append r2) hq)⟩
    · cases e
  · cases e
theorem ov_add : OpR X (binaryOp .Add) (rV2 X.K oAdd) := by
  intro pins s σ H x y v u Q I rx ry ⟨w0, S, R, a, b, hA, d, e, hQ⟩
  unfold oAdd at e
  split at e
  · cases e
    exact op_add pins s σ H x y v u Q I rx ry ⟨_, _, hA.tail.int, hA.int, hQ _ H (hA.tail.tail.push fun _ _ => .int _)⟩
  · cases e
    exact op_add_ib pins s σ H x y v u Q I rx ry ⟨_, _, hA.tail.int, hA.bl, hQ _ H (hA.tail.tail.push fun _ _ => .int _)⟩
  · split at e
    · rename_i hz
      cases e
      exact op_add_str pins s σ H x y v u Q I rx ry ⟨_, _, hA.tail.str, hA.str, hz, hQ _ H (hA.tail.tail.push fun _ _ => .str _)⟩
    · cases e
  · cases e
  · exact add_lists I rx ry hA e hQ
theorem iv_add : PIp X .Add (rV2 X.K (oI cT fun i j => i + j)) := ov_int0 iop_add
/-- a list joined, as an own list -/
def oCat (f f' : DE) : DA := fun g S => (f g S).bind fun a S1 => (f' g S1).bind fun b S2 => match viewL S2 a, viewL S2 b with
  | some xs, some ys => if xs.length + ys.length ≤ sizeLine then .ok (xs ++ ys) S2 else .bad
  | _, _ => .bad
theorem po_cat {W : WX} {w0 : Wd} {pos : Pos} {a b : Expr} {f f' : DE} (ha : PD X W w0 a f) (hb : PD X W w0 b f') : PDO X W w0 (.BinOp a .Add b pos) (oCat f f') := PE.weak (pe_op op_catQ ha hb) fun σ H Q ⟨g, S, R, hl, hA, hP⟩ => by
  refine ⟨g, S, R, hl, hA, hP.bind (List.Sublist.refl _) fun a S1 v1 H1 _ hA1 hP1 => ?_⟩
  refine ⟨g, S1, (.im a, some v1) :: R, hl, hA1, hP1.bind (List.sublist_cons_self _ _) fun b S2 v2 H2 _ hA2 hP2 => ?_⟩
  split at hP2
  · rename_i xs ys e1 e2
    split at hP2
    · rename_i hz
      obtain ⟨r, G, st, rl, ro⟩ := hA2
      obtain ⟨u1, q1, k1⟩ := Roots.at0 (R := (.im a, some v1) :: (R ++ zs g σ)) ro
      cases q1
      have ro1 := Roots.tail (R := (.im a, some v1) :: (R ++ zs g σ)) ro
      obtain ⟨u2, q2, k2⟩ := ro1.at0
      cases q2
      obtain ⟨p, us, rfl, hp, r1⟩ := view_ok rl k2 e1
      obtain ⟨p2, us2, rfl, hp2, r2⟩ := view_ok rl k1 e2
      exact ⟨p, p2, us, us2, rfl, rfl, hp, hp2, by rw [← r1.length, ← r2.length]; exact hz, fun q hq => hP2 _ _ trivial (at_newO st rl ro1.tail (r1.append r2) hq)⟩
    · exact hP2.elim
  · exact hP2.elim
/-! ### list * int -/
def oRep : O2 := fun a b S => match b with
  | .int k => match viewM S a with
    | some xs => if -(2 ^ 63) ≤ k ∧ k < 2 ^ 63 ∧ xs.length * k.toNat ≤ sizeLine then some (.lst (List.replicate k.toNat xs).flatten) else none
    | none => none
  | _ => none
theorem reps_rep {K : Fg} {r : Rh} {G : Hp} {ds : List D} {xs : List V} (h : Reps K r G ds xs) : ∀ n : Nat, Reps K r G (List.replicate n ds).flatten (List.replicate n xs).flatten
  | 0 => .nil
  | n + 1 => by
    rw [List.replicate_succ, List.replicate_succ, List.flatten_cons, List.flatten_cons]
    exact h.append (reps_rep h n)
/-- * of ints, or of a list and an int -/
def oMulL : O2 := fun a b S => match a with
  | .int i => oMul (.int i) b S
  | a => oRep a b S
theorem ov_mulL : OpR X (binaryOp .Mult) (rV2 X.K oMulL) := by
  intro pins s σ H x y v u Q I rx ry ⟨w0, S, R, a, b, hA, d, e, hQ⟩
  have rest : oRep a b S = some d → wpAny (model X.prog X.w) X.A (binaryOp .Mult v u) (EP X pins σ Q) X.xe s := fun e => by
    unfold oRep at e
    cases b with
    | int k =>
      have e : (match viewM S a with
        | some xs => if -(2 ^ 63) ≤ k ∧ k < 2 ^ 63 ∧ xs.length * k.toNat ≤ sizeLine then some (D.lst (List.replicate k.toNat xs).flatten) else none
        | none => none) = some d := e
      split at e
      · rename_i xs ex
        split at e
        · rename_i hz
          cases e
          have ey := hA.int
          subst ey
          obtain ⟨r, G, st, rl, ro⟩ := hA
          obtain ⟨u2, q2, k2⟩ := ro.tail.at0
          cases q2
          obtain ⟨p, us, rfl, hp, r1⟩ := viewM_ok rl k2 ex
          exact op_rep pins s σ H _ _ v u Q I rx ry ⟨p, k, us, rfl, rfl, hp, hz.1, hz.2.1, by rw [← r1.length]; exact hz.2.2, fun q hq => hQ _ _ (at_newL st rl ro.tail.tail (reps_rep r1 _) hq)⟩
        · cases e
      · cases e
    | _ => cases e
  unfold oMulL at e
  split at e
  · exact ov_mul pins s σ H x y v u Q I rx ry ⟨w0, S, R, _, b, hA, d, e, hQ⟩
  · exact rest e
/-! ### ==, != -/
mutual
def py : D → PyData
  | .non => .none
  | .bl b => .bool b
  | .int i => .int i
  | .str x => .str x
  | .tup ds => .tuple (pys ds)
  | .lst ds => .list (pys ds)
  | .fz ds => .list (pys ds)
  | .lab _ => .dict []
  | .emp => .dict []
  | .exc _ _ _ => .dict []
def pys : List D → List PyData
  | [] => []
  | d :: ds => py d :: pys ds
end
theorem lay_tup {ds : List D} (c : (py (.tup ds)).canLay0 = true) : PyData.canLayAll0 (pys ds) = true := by
  have e : py (.tup ds) = .tuple (pys ds) := by unfold py; rfl
  rw [e] at c
  unfold PyData.canLay0 at c
  exact c
theorem lay_lst {ds : List D} (c : (py (.lst ds)).canLay0 = true) : PyData.canLayAll0 (pys ds) = true := by
  have e : py (.lst ds) = .list (pys ds) := by unfold py; rfl
  rw [e] at c
  unfold PyData.canLay0 at c
  exact c
theorem lay_fz {ds : List D} (c : (py (.fz ds)).canLay0 = true) : PyData.canLayAll0 (pys ds) = true := by
  have e : py (.fz ds) = .list (pys ds) := by unfold py; rfl
  rw [e] at c
  unfold PyData.canLay0 at c
  exact c
theorem lay_lab {l : Nat} (c : (py (.lab l)).canLay0 = true) : False := by
  have e : py (.lab l) = .dict [] := by unfold py; rfl
  rw [e] at c
  unfold PyData.canLay0 at c
  cases c
theorem lay_emp (c : (py .emp).canLay0 = true) : False := by
  have e : py .emp = .dict [] := by unfold py; rfl
  rw [e] at c
  unfold PyData.canLay0 at c
  cases c
theorem lay_cons {d : D} {ds : List D} (c : PyData.canLayAll0 (pys (d :: ds)) = true) : (py d).canLay0 = true ∧ PyData.canLayAll0 (pys ds) = true := by
  have e : pys (d :: ds) = py d :: pys ds := by rw [pys]
  rw [e] at c
  unfold PyData.canLayAll0 at c
  rw [Bool.and_eq_true] at c
  exact c
theorem lay_exc {x f : Str} {ds : List D} (c : (py (.exc x f ds)).canLay0 = true) : False := by
  have e : py (.exc x f ds) = .dict [] := by unfold py; rfl
  rw [e] at c
  unfold PyData.canLay0 at c
  cases c
mutual
theorem rep_dp {K : Fg} {w : Wd} (rl : Rel K w) : ∀ {d : D} {v : V}, Rep K w.r w.G d v → (py d).canLay0 = true → Dp K w.H v (py d)
  | _, _, .non, _ => by unfold py; exact .non
  | _, _, .bl b, _ => by unfold py; exact .bl b
  | _, _, .int i, _ => by unfold py; exact .int i
  | _, _, .str x, _ => by unfold py; exact .str x
  | _, _, .tup s q, c => by
    have k := reps_dp rl q (lay_tup c)
    unfold py
    exact .tup (sqT_mono rl.sub s) k
  | _, _, .lst s q, c => by
    have k := reps_dp rl q (lay_lst c)
    unfold py
    exact .lst (.inl (.inl (rl.sub _ _ s))) k
  | _, _, .fz s q, c => by
    have k := reps_dp rl q (lay_fz c)
    unfold py
    exact .lst (sqL_mono rl.sub s) k
  | _, _, .lab _, c => (lay_lab c).elim
  | _, _, .emp _, c => (lay_emp c).elim
  | _, _, .exc _, c => (lay_exc c).elim
  | _, _, .excF _ _ _, c => (lay_exc c).elim
theorem reps_dp {K : Fg} {w : Wd} (rl : Rel K w) : ∀ {ds : List D} {vs : List V}, Reps K w.r w.G ds vs → PyData.canLayAll0 (pys ds) = true → DpAll K w.H vs (pys ds)
  | _, _, .nil, _ => by unfold pys; exact .nil
  | _, _, .cons p q, c => by
    obtain ⟨c1, c2⟩ := lay_cons c
    have k1 := rep_dp rl p c1
    have k2 := reps_dp rl q c2
    unfold pys
    exact .cons k1 k2
end
/-- the datum, a list of the store as it stands -/
def vw (S : Sto) : D → D
  | .lab l => match S[l]? with
    | some (.lst ds) => .lst ds
    | _ => .lab l
  | d => d
theorem vw_dp {K : Fg} {w : Wd} (rl : Rel K w) {d : D} {v : V} (h : Rep K w.r w.G d v) (c : SeqAt.shaped (py (vw w.S d)) = true) : Dp K w.H v (py (vw w.S d)) := by
  have c2 := SeqAt.canLay_of_shaped c
  have same : vw w.S d = d → Dp K w.H v (py (vw w.S d)) := fun e => by rw [e] at c2 ⊢; exact rep_dp rl h c2
  cases d with
  | lab l =>
    have e : vw w.S (.lab l) = (match w.S[l]? with | some (.lst ds) => .lst ds | _ => .lab l) := rfl
    rw [e] at c2 ⊢
    cases q : w.S[l]? with
    | none => rw [q] at c2; exact (lay_lab c2).elim
    | some o =>
      rw [q] at c2
      cases o with
      | lst es =>
        cases h with
        | lab ra =>
          obtain ⟨b, eb, _, xs, m, x⟩ := rl.obj l _ q (fun z => by cases z)
          rw [ra] at eb
          cases eb
          have k := reps_dp rl x (lay_lst c2)
          show Dp K w.H _ (py (.lst es))
          unfold py
          exact .lst (.inl (.inl m)) k
      | _ => exact (lay_lab c2).elim
  | _ => exact same rfl
def okD (d : D) : Bool := SeqAt.shaped (py d)
def deq (d e : D) : Bool := PyData.eqv (py d) (py e)
def oEq : O2 := fun a b S => match a, b with
  | .str x, .str y => some (.bl (decide (x = y)))
  | a, b => if okD (vw S a) = true ∧ okD (vw S b) = true then some (.bl (deq (vw S a) (vw S b))) else none
def oNe : O2 := fun a b S => match a, b with
  | .str x, .str y => some (.bl (!decide (x = y)))
  | a, b => if okD (vw S a) = true ∧ okD (vw S b) = true then some (.bl (!deq (vw S a) (vw S b))) else none
theorem dec_strV {x y : Str} : decide (V.str x = V.str y) = decide (x = y) := by
  by_cases h : x = y
  · rw [h, decide_eq_true rfl, decide_eq_true rfl]
  · rw [decide_eq_false h, decide_eq_false (fun z => h (by injection z))]
theorem ov_eq (hu : X.A.units + 64 < cLine) : OpR X (compareOp .Eq) (rV2 X.K oEq) := by
  intro pins s σ H x y v u Q I rx ry ⟨w0, S, R, a, b, hA, d, e, hQ⟩
  unfold oEq at e
  split at e
  · rename_i i j
    cases e
    have ey := hA.str
    have ex := hA.tail.str
    subst ex ey
    exact op_eq pins s σ H _ _ v u Q I rx ry ⟨rfl, by rw [dec_strV]; exact hQ _ H (hA.tail.tail.push fun _ _ => .bl _)⟩
  split at e
  · rename_i hc
    cases e
    obtain ⟨r, G, st, rl, ro⟩ := hA
    obtain ⟨u1, q1, k1⟩ := ro.at0
    cases q1
    obtain ⟨u2, q2, k2⟩ := ro.tail.at0
    cases q2
    exact op_eqD hu pins s σ H _ _ v u Q I rx ry ⟨_, _, vw_dp rl k2 hc.1, vw_dp rl k1 hc.2, hc.1, hc.2, hQ _ H ⟨r, G, st, rl, ro.tail.tail.push (.bl _)⟩⟩
  · cases e
theorem ov_ne (hu : X.A.units + 64 < cLine) : OpR X (compareOp .NotEq) (rV2 X.K oNe) := by
  intro pins s σ H x y v u Q I rx ry ⟨w0, S, R, a, b, hA, d, e, hQ⟩
  unfold oNe at e
  split at e
  · rename_i i j
    cases e
    have ey := hA.str
    have ex := hA.tail.str
    subst ex ey
    exact op_ne pins s σ H _ _ v u Q I rx ry ⟨rfl, by rw [dec_strV]; exact hQ _ H (hA.tail.tail.push fun _ _ => .bl _)⟩
  split at e
  · rename_i hc
    cases e
    obtain ⟨r, G, st, rl, ro⟩ := hA
    obtain ⟨u1, q1, k1⟩ := ro.at0
    cases q1
    obtain ⟨u2, q2, k2⟩ := ro.tail.at0
    cases q2
    exact op_neD hu pins s σ H _ _ v u Q I rx ry ⟨_, _, vw_dp rl k2 hc.1, vw_dp rl k1 hc.2, hc.1, hc.2, hQ _ H ⟨r, G, st, rl, ro.tail.tail.push (.bl _)⟩⟩
  · cases e
/-- is None, is not None -/
def isN : D → Bool
  | .non => true
  | _ => false
theorem rep_non {K : Fg} {r : Rh} {G : Hp} {d : D} {v : V} (h : Rep K r G d v) : decide (v = .non) = isN d := by
  cases h <;> rfl
def oIs : O2 := fun a b _ => match b with
  | .non => some (.bl (isN a))
  | _ => none
def oIsNot : O2 := fun a b _ => match b with
  | .non => some (.bl (!isN a))
  | _ => none
theorem ov_is : OpR X (compareOp .Is) (rV2 X.K oIs) := by
  intro pins s σ H x y v u Q I rx ry ⟨w0, S, R, a, b, hA, d, e, hQ⟩
  unfold oIs at e
  split at e
  · cases e
    have ey := hA.non
    obtain ⟨r, G, st, rl, ro⟩ := hA
    obtain ⟨u2, q2, k2⟩ := ro.tail.at0
    cases q2
    exact op_isN pins s σ H _ _ v u Q I rx ry ⟨ey, by rw [rep_non k2]; exact hQ _ H ⟨r, G, st, rl, ro.tail.tail.push (.bl _)⟩⟩
  · cases e
theorem ov_isNot : OpR X (compareOp .IsNot) (rV2 X.K oIsNot) := by
  intro pins s σ H x y v u Q I rx ry ⟨w0, S, R, a, b, hA, d, e, hQ⟩
  unfold oIsNot at e
  split at e
  · cases e
    have ey := hA.non
    obtain ⟨r, G, st, rl, ro⟩ := hA
    obtain ⟨u2, q2, k2⟩ := ro.tail.at0
    cases q2
    exact op_notN pins s σ H _ _ v u Q I rx ry ⟨ey, by rw [rep_non k2]; exact hQ _ H ⟨r, G, st, rl, ro.tail.tail.push (.bl _)⟩⟩
  · cases e
/-! ### in -/
def flatD : D → Bool
  | .non => true
  | .bl _ => true
  | .int _ => true
  | .str _ => true
  | _ => false
theorem flat_rep {K : Fg} {r : Rh} {G : Hp} {d : D} {v : V} (h : Rep K r G d v) (f : flatD d = true) : flatV v = true ∧ ∀ {e : D} {u : V}, Rep K r G e u → flatD e = true → eqV v u = deq d e := by
  cases h <;> first | cases f | skip
  all_goals
    refine ⟨rfl, fun {e u} k q => ?_⟩
    cases k <;> first | cases q | skip
    all_goals first | rfl | simp [eqV, deq, py, PyData.eqv]
def oInB (a : D) (b : D) (S : Sto) : Option Bool := match b with
  | .tup ds => if flatD a = true ∧ ds.all flatD = true then some (ds.any fun e => deq e a) else none
  | .str z => match a with
    | .str x => match x.cps.toList with
      | [c] => some (decide (c ∈ z.cps.toList))
      | _ => none
    | _ => none
  | b => match viewL S b with
    | some ds => if okD a = true ∧ okD (.lst ds) = true then some (ds.any fun e => deq e a) else none
    | none => none
def oIn : O2 := fun a b S => (oInB a b S).map .bl
def oNotIn : O2 := fun a b S => (oInB a b S).map fun k => .bl (!k)
theorem view_dp {K : Fg} {w : Wd} (rl : Rel K w) {d : D} {ds : List D} {v : V} (h : Rep K w.r w.G d v) (e : viewL w.S d = some ds) (c : okD (.lst ds) = true) : Dp K w.H v (.list (pys ds)) := by
  have c2 := SeqAt.canLay_of_shaped c
  obtain ⟨a, xs, rfl, sq, rs⟩ := view_ok rl h e
  exact .lst sq (reps_dp rl rs (lay_lst c2))
theorem pys_any {a : D} : ∀ ds : List D, ((pys ds).any fun z => PyData.eqv z (py a)) = ds.any fun e => deq e a
  | [] => rfl
  | d :: ds => by
    show (PyData.eqv (py d) (py a) || (pys ds).any fun z => PyData.eqv z (py a)) = (deq d a || ds.any fun e => deq e a)
    rw [pys_any ds]
    rfl
theorem flats_any {K : Fg} {r : Rh} {G : Hp} {a : D} {v : V} (h : Rep K r G a v) (fa : flatD a = true) : ∀ {ds : List D} {xs : List V}, Reps K r G ds xs → ds.all flatD = true → xs.all flatV = true ∧ inV v xs = ds.any fun e => deq e a
  | [], _, rs, _ => by cases rs; exact ⟨rfl, rfl⟩
  | d :: ds, _, rs, f => by
    cases rs with
    | cons p q =>
      rw [List.all_cons, Bool.and_eq_true] at f
      obtain ⟨i1, i2⟩ := flats_any h fa q f.2
      obtain ⟨j1, j2⟩ := flat_rep p f.1
      rw [List.all_cons, j1, i1]
      refine ⟨rfl, ?_⟩
      unfold inV at i2 ⊢
      rw [List.any_cons, List.any_cons, i2, j2 h fa]
theorem ov_inB {neg : Bool} {f : Value → Value → Sem Value} (h1 : OpR X f (rIn X.K neg)) (h2 : OpR X f (fun x y H Q => ∃ d ds, Dp X.K H x d ∧ Dp X.K H y (.list ds) ∧ SeqAt.shaped d = true ∧ SeqAt.shaped (.list ds) = true ∧ Q (.bl (if neg then !ds.any fun z => PyData.eqv z d else ds.any fun z => PyData.eqv z d)) H))
    (h3 : OpR X f (fun x y H Q => ∃ (c : Nat) (z : Str), x = .str ⟨#[c]⟩ ∧ y = .str z ∧ Q (.bl (if neg then !decide (c ∈ z.cps.toList) else decide (c ∈ z.cps.toList))) H)) :
    OpR X f (rV2 X.K fun a b S => (oInB a b S).map fun k => .bl (if neg then !k else k)) := by
  intro pins s σ H x y v u Q I rx ry ⟨w0, S, R, a, b, hA, d, e, hQ⟩
  obtain ⟨k, ek, rfl⟩ := Option.map_eq_some_iff.mp e
  obtain ⟨r, G, st, rl, ro⟩ := hA
  obtain ⟨u1, q1, k1⟩ := ro.at0
  cases q1
  obtain ⟨u2, q2, k2⟩ := ro.tail.at0
  cases q2
  have fin : Q (.bl (if neg then !k else k)) H := hQ _ H ⟨r, G, st, rl, ro.tail.tail.push (.bl _)⟩
  have lists : (match viewL S b with
    | some ds => if okD a = true ∧ okD (.lst ds) = true then some (ds.any fun e => deq e a) else none
    | none => none) = some k → wpAny (model X.prog X.w) X.A (f v u) (EP X pins σ Q) X.xe s := fun ek => by
    split at ek
    · rename_i ds ed
      split at ek
      · rename_i hc
        cases ek
        refine h2 pins s σ H _ _ v u Q I rx ry ⟨py a, pys ds, rep_dp rl k2 (SeqAt.canLay_of_shaped hc.1), view_dp rl k1 ed hc.2, hc.1, hc.2, ?_⟩
        rw [pys_any]
        exact fin
      · cases ek
    · cases ek
  unfold oInB at ek
  split at ek
  · rename_i ds
    split at ek
    · rename_i hc
      cases ek
      cases k1 with
      | tup sq rs =>
        obtain ⟨f1, f2⟩ := flats_any k2 hc.1 rs hc.2
        refine h1 pins s σ H _ _ v u Q I rx ry ⟨_, _, rfl, .inr (sqT_mono rl.sub sq), (flat_rep k2 hc.1).1, f1, ?_⟩
        rw [f2]
        exact fin
    · cases ek
  · rename_i z
    split at ek
    · rename_i xx
      split at ek
      · rename_i c ec
        cases ek
        cases k1
        cases k2
        have ex : xx = ⟨#[c]⟩ := by
          obtain ⟨cs⟩ := xx
          have : cs = #[c] := by
            apply Array.ext'
            exact ec
          rw [this]
        exact h3 pins s σ H _ _ v u Q I rx ry ⟨c, z, by rw [ex], rfl, fin⟩
      · cases ek
    · cases ek
  · exact lists ek
theorem ov_in (hu : X.A.units + 65 < cLine) : OpR X (compareOp .In) (rV2 X.K oIn) := ov_inB (neg := false) op_in_seq (op_inD hu) op_in_sign
theorem ov_notIn (hu : X.A.units + 65 < cLine) : OpR X (compareOp .NotIn) (rV2 X.K oNotIn) := ov_inB (neg := true) op_notIn_seq (op_notInD hu) op_notIn_sign
end
end DL
/-! DLg: subscripts, slices, builtins, texts over data. -/
namespace DL
open PySem PySem.Spec PyProof.Rows L2
section
variable {X : Cx}
theorem OpR.weak {f : Value → Value → Sem Value} {r r' : R2} (h : OpR X f r) (w : ∀ x y H Q, r' x y H Q → r x y H Q) : OpR X f r' := fun pins s σ H x y v u Q I rx ry q => h pins s σ H x y v u Q I rx ry (w x y H Q q)
theorem IxR.weak {r r' : R2} (h : IxR X r) (w : ∀ x y H Q, r' x y H Q → r x y H Q) : IxR X r' := fun value slice pins s σ H x y v u Q I rx ry q hs => h value slice pins s σ H x y v u Q I rx ry (w x y H Q q) hs
theorem CallR.weak {f : Value} {r r' : List V → Hp → VK → Prop} (h : CallR X f r) (w : ∀ xs H Q, r' xs H Q → r xs H Q) : CallR X f r' := fun pins s σ H xs us Q I rs q => h pins s σ H xs us Q I rs (w xs H Q q)
theorem MtR.weak {id : String} {r r' : V → List V → Hp → VK → Prop} (h : MtR X id r) (w : ∀ x xs H Q, r' x xs H Q → r x xs H Q) : MtR X id r' := fun pins s σ H x xs v us Q I rx rs q => h pins s σ H x xs v us Q I rx rs (w x xs H Q q)
theorem SlR.weak {r r' : V → Option Int → Option Int → Hp → VK → Prop} (h : SlR X r) (w : ∀ x lo hi H Q, r' x lo hi H Q → r x lo hi H Q) : SlR X r' := fun pins s σ H x v vl vu lo hi sl Q I rx hs pl pu q => h pins s σ H x v vl vu lo hi sl Q I rx hs pl pu (w x lo hi H Q q)
theorem At.two {K : Fg} {w0 : Wd} {R : List Rt} {H : Hp} {S : Sto} {a b : D} {x y : V} (h : At K w0 ((.im b, some y) :: (.im a, some x) :: R) H S) :
    ∃ r G, Step w0 ⟨r, G, H, S⟩ ∧ Rel K ⟨r, G, H, S⟩ ∧ Roots K w0 ⟨r, G, H, S⟩ R ∧ Rep K r G a x ∧ Rep K r G b y := by
  obtain ⟨r, G, s, rl, ro⟩ := h
  obtain ⟨u1, q1, k1⟩ := ro.at0
  cases q1
  obtain ⟨u2, q2, k2⟩ := ro.tail.at0
  cases q2
  exact ⟨r, G, s, rl, ro.tail.tail, k2, k1⟩
theorem At.one {K : Fg} {w0 : Wd} {R : List Rt} {H : Hp} {S : Sto} {a : D} {x : V} (h : At K w0 ((.im a, some x) :: R) H S) :
    ∃ r G, Step w0 ⟨r, G, H, S⟩ ∧ Rel K ⟨r, G, H, S⟩ ∧ Roots K w0 ⟨r, G, H, S⟩ R ∧ Rep K r G a x := by
  obtain ⟨r, G, s, rl, ro⟩ := h
  obtain ⟨u1, q1, k1⟩ := ro.at0
  cases q1
  exact ⟨r, G, s, rl, ro.tail, k1⟩
/-! ### subscripts -/
theorem ixD_get {α β : Type} {xs : List α} {ys : List β} {i : Int} {P : α → β → Prop} {d : α} (hl : xs.length = ys.length) (hg : ∀ (j : Nat) (d : α), xs[j]? = some d → ∃ v, ys[j]? = some v ∧ P d v) (e : atI xs i = some d) : ∃ v, atI ys i = some v ∧ P d v := by
  unfold atI at e ⊢
  rw [hl] at e
  cases q : ixN ys.length i with
  | none => rw [q] at e; cases e
  | some j => rw [q] at e; exact hg j d e
theorem Reps.atI {K : Fg} {r : Rh} {G : Hp} {ds : List D} {xs : List V} {i : Int} {d : D} (h : Reps K r G ds xs) (e : atI ds i = some d) : ∃ v, L2.atI xs i = some v ∧ Rep K r G d v :=
  ixD_get h.length (fun _ _ q => h.get q) e
def oIx : O2 := fun a b S => match b with
  | .int i => (match a with
    | .tup ds => atI ds i
    | .str z => if z.length ≤ sizeLine then (atI z.cps.toList i).map fun c => .str ⟨#[c]⟩ else none
    | a => (viewL S a).bind fun ds => atI ds i)
  | _ => none
theorem iv_ix : IxR X (rV2 X.K oIx) := IxR.weak ix_seq fun x y H Q ⟨w0, S, R, a, b, hA, d, e, hQ⟩ => by
  obtain ⟨r, G, st, rl, ro, ka, kb⟩ := At.two hA
  cases kb with
  | int i =>
    have lists : (viewL S a).bind (fun ds => atI ds i) = some d → rIx X.K x (.int i) H Q := fun e => by
      obtain ⟨ds, e1, e2⟩ := Option.bind_eq_some_iff.mp e
      obtain ⟨p, xs, rfl, sq, rs⟩ := view_ok rl ka e1
      obtain ⟨v, ev, kv⟩ := rs.atI e2
      exact .inl ⟨p, xs, i, v, rfl, rfl, sq, ev, hQ v H ⟨r, G, st, rl, ro.push kv⟩⟩
    cases ka with
    | tup sq rs =>
      obtain ⟨v, ev, kv⟩ := rs.atI (show atI _ i = some d from e)
      exact .inr (.inl ⟨_, _, i, v, rfl, rfl, sqT_mono rl.sub sq, ev, hQ v H ⟨r, G, st, rl, ro.push kv⟩⟩)
    | str z =>
      have e : (if z.length ≤ sizeLine then (atI z.cps.toList i).map fun c => D.str ⟨#[c]⟩ else none) = some d := e
      split at e
      · rename_i hz
        obtain ⟨c, ec, rfl⟩ := Option.map_eq_some_iff.mp e
        exact .inr (.inr ⟨z, i, c, rfl, rfl, hz, ec, hQ _ H ⟨r, G, st, rl, ro.push (.str _)⟩⟩)
      · cases e
    | lst g k => exact lists e
    | fz g k => exact lists e
    | lab g => exact lists e
    | non => cases e
    | bl _ => cases e
    | int _ => cases e
    | emp _ => cases e
    | exc _ => cases e
    | excF _ _ _ => cases e
  | _ => cases e
/-! ### chains of three -/
variable {W : WX} {w0 : Wd} {pos : Pos} {a b c d : Expr} {f f' f'' f3 : DE}
def tChain3 (r r' r'' : R2) (ta tb tc td : TE) : TT := fun σ H Q => ta σ H fun x H1 => tb σ H1 fun y H2 => r x y H2 fun z H3 => ∃ k, z = .bl k ∧
  (if k = true then tc σ H3 fun z1 H4 => r' y z1 H4 fun z2 H5 => ∃ k, z2 = .bl k ∧ (if k = true then td σ H5 fun z3 H6 => r'' z1 z3 H6 fun z4 H7 => ∃ k, z4 = .bl k ∧ Q k H7 else Q false H5) else Q false H3)
theorem pt_chain3 {op op' op3 : CmpOp} {r r' r'' : R2} {ta tb tc td : TE} (ho : OpR X (compareOp op) r) (ho' : OpR X (compareOp op') r') (ho3 : OpR X (compareOp op3) r'') (ha : PE X a ta) (hb : PE X b tb) (hc : PE X c tc) (hd : PE X d td)
    (hm : lastMarks [op, op', op3] [b, c, d] = false := by with_unfolding_all rfl) : PT X (.Compare a [op, op', op3] [b, c, d] pos) (tChain3 r r' r'' ta tb tc td) := by
  refine ⟨fun pins s σ H Q I h => ?_⟩
  refine isTrue_chain (thn (ha.run pins s σ H _ I h) fun v s1 ⟨x, H1, I1, r1, q1⟩ => test_link (thn (hb.run pins s1 σ H1 _ I1 q1) fun u s2 ⟨y, H2, I2, r2, q2⟩ =>
    thn (ho pins s2 σ H2 x y v u _ I2 r1 r2 q2) fun dv s3 ⟨z, H3, I3, r3, k, e, q3⟩ => ?_)) hm
  subst e
  cases r3
  refine wpAny_truthy_bool ?_
  cases k with
  | false => exact ite_ff ⟨H3, I3, q3⟩
  | true =>
    refine ite_tt (test_link (thn (hc.run pins s3 σ H3 _ I3 q3) fun w' s4 ⟨z', H4, I4, r4, q4⟩ => thn (ho' pins s4 σ H4 y z' u w' _ I4 r2 r4 q4) fun d' s5 ⟨z2, H5, I5, r5, k2, e2, q5⟩ => ?_))
    subst e2
    cases r5
    refine wpAny_truthy_bool ?_
    cases k2 with
    | false => exact ite_ff ⟨H5, I5, q5⟩
    | true =>
      refine ite_tt (test_last (thn (hd.run pins s5 σ H5 _ I5 q5) fun w3 s6 ⟨z3, H6, I6, r6, q6⟩ => thn (ho3 pins s6 σ H6 z' z3 w' w3 _ I6 r4 r6 q6) fun d3 s7 ⟨z4, H7, I7, r7, k3, e3, q7⟩ => ?_))
      subst e3
      cases r7
      exact wpAny_truthy_bool ⟨H7, I7, q7⟩
def dChain3 (o o' o3 : O2) (f f' f'' f3 : DE) : DT := fun g S => (f g S).bind fun a S1 => (f' g S1).bind fun b S2 => match o a b S2 with
  | some (.bl true) => (f'' g S2).bind fun c S3 => (match o' b c S3 with
    | some (.bl true) => (f3 g S3).bind fun d S4 => (match o3 c d S4 with
      | some (.bl k) => .ok k S4
      | _ => .bad)
    | some (.bl false) => .ok false S3
    | _ => .bad)
  | some (.bl false) => .ok false S2
  | _ => .bad
theorem At.dup {K : Fg} {R : List Rt} {H : Hp} {S : Sto} {a b : D} {x y : V} (h : At K w0 ((.im b, some y) :: (.im a, some x) :: R) H S) : At K w0 ((.im b, some y) :: (.im a, some x) :: (.im b, some y) :: R) H S := by
  obtain ⟨r, G, s, rl, ro, k1, k2⟩ := At.two h
  exact ⟨r, G, s, rl, ((ro.push k2).push k1).push k2⟩
theorem bl_of {α : Type} {o : Option D} {A B : Out α} {P : Out α → Prop} (hb : P .bad → False) (h : P (match o with
  | some (.bl true) => A
  | some (.bl false) => B
  | _ => .bad)) : (o = some (.bl true) ∧ P A) ∨ (o = some (.bl false) ∧ P B) := by
  cases o with
  | none => exact (hb h).elim
  | some d =>
    cases d with
    | bl k => cases k with
      | true => exact .inl ⟨rfl, h⟩
      | false => exact .inr ⟨rfl, h⟩
    | _ => exact (hb h).elim
theorem pdt_chain3 {op op' op3 : CmpOp} {o o' o3 : O2} (ho : OpR X (compareOp op) (rV2 X.K o)) (ho' : OpR X (compareOp op') (rV2 X.K o')) (ho3 : OpR X (compareOp op3) (rV2 X.K o3)) (ha : PD X W w0 a f) (hb : PD X W w0 b f') (hc : PD X W w0 c f'') (hd : PD X W w0 d f3)
    (hm : lastMarks [op, op', op3] [b, c, d] = false := by with_unfolding_all rfl) : PDT X W w0 (.Compare a [op, op', op3] [b, c, d] pos) (dChain3 o o' o3 f f' f'' f3) := PT.weak (pt_chain3 ho ho' ho3 ha hb hc hd hm) fun σ H Q ⟨g, S, R, hl, hA, hP⟩ => by
  refine ⟨g, S, R, hl, hA, hP.bind (List.Sublist.refl _) fun a S1 v1 H1 _ hA1 hP1 => ?_⟩
  refine ⟨g, S1, (.im a, some v1) :: R, hl, hA1, hP1.bind (List.sublist_cons_self _ _) fun b S2 v2 H2 _ hA2 hP2 => ?_⟩
  have hA3 : At X.K w0 ((.im b, some v2) :: (.im a, some v1) :: ((.im b, some v2) :: (R ++ zs g σ))) H2 S2 := At.dup hA2
  rcases bl_of (P := fun o => Post rtT okT X.K W w0 σ (R ++ zs g σ) Q o) (fun h => h) hP2 with ⟨e, hP3⟩ | ⟨e, hP3⟩
  · refine ⟨w0, S2, (.im b, some v2) :: (R ++ zs g σ), a, b, hA3, _, e, fun v H3 x3 => ⟨true, x3.bl, iteT ?_⟩⟩
    refine ⟨g, S2, (.im b, some v2) :: R, hl, x3.tail, hP3.bind (List.sublist_cons_self _ _) fun c S3 v3 H4 _ hA4 hP4 => ?_⟩
    have hA5 : At X.K w0 ((.im c, some v3) :: (.im b, some v2) :: ((.im c, some v3) :: (R ++ zs g σ))) H4 S3 := At.dup hA4
    rcases bl_of (P := fun o => Post rtT okT X.K W w0 σ (R ++ zs g σ) Q o) (fun h => h) hP4 with ⟨e2, hP5⟩ | ⟨e2, hP5⟩
    · refine ⟨w0, S3, (.im c, some v3) :: (R ++ zs g σ), b, c, hA5, _, e2, fun v H5 x5 => ⟨true, x5.bl, iteT ?_⟩⟩
      refine ⟨g, S3, (.im c, some v3) :: R, hl, x5.tail, hP5.bind (List.sublist_cons_self _ _) fun d S4 v5 H6 _ hA6 hP6 => ?_⟩
      have key : ∃ k, o3 c d S4 = some (.bl k) ∧ Post rtT okT X.K W w0 σ (R ++ zs g σ) Q (.ok k S4) := by
        cases q : o3 c d S4 with
        | none => rw [q] at hP6; exact (show False from hP6).elim
        | some z =>
          rw [q] at hP6
          cases z with
          | bl k => exact ⟨k, rfl, hP6⟩
          | _ => exact (show False from hP6).elim
      obtain ⟨k, e3, hP7⟩ := key
      exact ⟨w0, S4, R ++ zs g σ, c, d, hA6, _, e3, fun v H7 x7 => ⟨k, x7.bl, hP7 k H7 rfl x7.tail⟩⟩
    · exact ⟨w0, S3, (.im c, some v3) :: (R ++ zs g σ), b, c, hA5, _, e2, fun v H5 x5 => ⟨false, x5.bl, iteF (hP5 false H5 rfl x5.tail.tail)⟩⟩
  · exact ⟨w0, S2, (.im b, some v2) :: (R ++ zs g σ), a, b, hA3, _, e, fun v H3 x3 => ⟨false, x3.bl, iteF (hP3 false H3 rfl x3.tail.tail)⟩⟩
/-! ### slices -/
abbrev DP := Ev → Sto → Out (Option Int)
def rtP (_ _ : Option Int) : List Rt := []
def okP (a b : Option Int) : Prop := a = b
abbrev PDP (X : Cx) (W : WX) (w0 : Wd) (e : Option Expr) (f : DP) : Prop := PO X e (rd rtP okP X.K W w0 f)
theorem PO.weak {e : Option Expr} {t t' : TO} (h : PO X e t) (w : ∀ σ H Q, t' σ H Q → t σ H Q) : PO X e t' := ⟨fun pins s σ H Q I q => h.run pins s σ H Q I (w σ H Q q)⟩
def dP0 : DP := fun _ S => .ok none S
def dP1 (f : DE) : DP := fun g S => (f g S).bind fun d S1 => match d with
  | .int i => .ok (some i) S1
  | _ => .bad
theorem pdp_none : PDP X W w0 none dP0 := PO.weak po_none fun σ H Q ⟨g, S, R, hl, hA, hP⟩ => hP none H rfl hA
theorem pdp_some {e : Expr} (h : PD X W w0 e f) : PDP X W w0 (some e) (dP1 f) := PO.weak (po_some h) fun σ H Q ⟨g, S, R, hl, hA, hP⟩ => by
  refine ⟨g, S, R, hl, hA, hP.bind (List.Sublist.refl _) fun a S1 v1 H1 _ hA1 hP1 => ?_⟩
  cases a with
  | int i => exact ⟨i, At.int hA1, hP1 (some i) H1 rfl hA1.tail⟩
  | _ => exact (show False from hP1).elim
def cutD (ds : List D) (lo hi : Option Int) : List D := (ds.drop (HT.sIx ds.length 0 lo)).take (HT.sIx ds.length ds.length hi - HT.sIx ds.length 0 lo)
theorem Reps.cut {K : Fg} {r : Rh} {G : Hp} {ds : List D} {xs : List V} (h : Reps K r G ds xs) (lo hi : Option Int) : Reps K r G (cutD ds lo hi) (cutV xs lo hi) := by
  unfold cutD cutV
  rw [h.length]
  exact (h.drop _).take _
theorem rd_sl {K : Fg} {α : Type} {rt : α → V → List Rt} {ok : α → V → Prop} {lo hi : DP} {r : V → Option Int → Option Int → Hp → VK → Prop} {kk : D → Option Int → Option Int → Sto → Out α} {σ : L2.St} {H : Hp} {Q : VK}
    (h : rd rt ok K W w0 (fun g S => (f g S).bind fun d S1 => (lo g S1).bind fun l S2 => (hi g S2).bind fun u S3 => kk d l u S3) σ H Q)
    (hk : ∀ (R : List Rt) (d : D) (v : V) (l u : Option Int) (S : Sto) (H' : Hp), At K w0 ((.im d, some v) :: R) H' S → Post rt ok K W w0 σ R Q (kk d l u S) → r v l u H' Q) :
    tSl r (rd rtE okE K W w0 f) (rd rtP okP K W w0 lo) (rd rtP okP K W w0 hi) σ H Q := by
  obtain ⟨g, S, R, hl, hA, hP⟩ := h
  refine ⟨g, S, R, hl, hA, hP.bind (List.Sublist.refl _) fun d S1 v1 H1 _ hA1 hP1 => ?_⟩
  refine ⟨g, S1, (.im d, some v1) :: R, hl, hA1, hP1.bind (List.sublist_cons_self _ _) fun l S2 l' H2 e hA2 hP2 => ?_⟩
  cases (show l = l' from e)
  refine ⟨g, S2, (.im d, some v1) :: R, hl, hA2, hP2.bind (List.sublist_cons_self _ _) fun u S3 u' H3 e hA3 hP3 => ?_⟩
  cases (show u = u' from e)
  exact hk _ d v1 l u S3 H3 hA3 hP3
def cutS' (d : D) (lo hi : Option Int) (S : Sto) : Option D := match d with
  | .str z => if z.length ≤ sizeLine then some (.str (cutS z lo hi)) else none
  | d => (viewL S d).map fun ds => .lst (cutD ds lo hi)
def dSl (f : DE) (lo hi : DP) : DE := fun g S => (f g S).bind fun d S1 => (lo g S1).bind fun l S2 => (hi g S2).bind fun u S3 => Out.of (cutS' d l u S3) S3
def oSl (f : DE) (lo hi : DP) : DA := fun g S => (f g S).bind fun d S1 => (lo g S1).bind fun l S2 => (hi g S2).bind fun u S3 => match viewL S3 d with
  | some ds => .ok (cutD ds l u) S3
  | none => .bad
theorem pd_slice {lo hi : Option Expr} {p2 : Pos} {e : Expr} {fl fh : DP} (he : PD X W w0 e f) (hl : PDP X W w0 lo fl) (hu : PDP X W w0 hi fh) : PD X W w0 (.Subscript e (.Slice lo hi none p2) pos) (dSl f fl fh) :=
  PE.weak (pe_slice (SlR.or sl_str sl_list) he hl hu) fun σ H Q h => rd_sl h fun R d v l u S H' hA hP => by
    obtain ⟨dd, e, hQ⟩ := hP.of
    obtain ⟨r, G, st, rl, ro, k⟩ := At.one hA
    have lists : (viewL S d).map (fun ds => D.lst (cutD ds l u)) = some dd → rSlL X.K v l u H' Q := fun e => by
      obtain ⟨ds, e1, rfl⟩ := Option.map_eq_some_iff.mp e
      obtain ⟨p, xs, rfl, sq, rs⟩ := view_ok rl k e1
      exact ⟨p, xs, rfl, sq, fun q hq => hQ _ _ trivial (at_newL st rl ro (rs.cut l u) hq)⟩
    cases d with
    | str z =>
      cases k
      have e : (if z.length ≤ sizeLine then some (D.str (cutS z l u)) else none) = some dd := e
      split at e
      · rename_i hz
        cases e
        exact .inl ⟨z, rfl, hz, hQ _ H' trivial ⟨r, G, st, rl, ro.push (.str _)⟩⟩
      · cases e
    | _ => exact .inr (lists e)
theorem po_slice {lo hi : Option Expr} {p2 : Pos} {e : Expr} {fl fh : DP} (he : PD X W w0 e f) (hl : PDP X W w0 lo fl) (hu : PDP X W w0 hi fh) : PDO X W w0 (.Subscript e (.Slice lo hi none p2) pos) (oSl f fl fh) :=
  PE.weak (pe_slice sl_list he hl hu) fun σ H Q h => rd_sl h fun R d v l u S H' hA hP => by
    obtain ⟨r, G, st, rl, ro, k⟩ := At.one hA
    split at hP
    · rename_i ds e1
      obtain ⟨p, xs, rfl, sq, rs⟩ := view_ok rl k e1
      exact ⟨p, xs, rfl, sq, fun q hq => hP _ _ trivial (at_newO st rl ro (rs.cut l u) hq)⟩
    · exact hP.elim
/-! ### builtins -/
theorem ims1 {K : Fg} {R : List Rt} {H : Hp} {S : Sto} {ds : List D} {xs : List V} (e : ds.length = xs.length) (hA : At K w0 (ims ds xs ++ R) H S) :
    ∃ r G, Step w0 ⟨r, G, H, S⟩ ∧ Rel K ⟨r, G, H, S⟩ ∧ Roots K w0 ⟨r, G, H, S⟩ R ∧ Reps K r G ds xs := by
  obtain ⟨r, G, s, rl, ro⟩ := hA
  exact ⟨r, G, s, rl, ro.sub (sub_app _ _), ro.reps e⟩
/-- a builtin's rule by what it says of data -/
theorem fn_weak {f : Value} {rr : List V → Hp → VK → Prop} {o : ON} (h : CallR X f rr) (hk : ∀ (w0 : Wd) (S : Sto) (R : List Rt) (H : Hp) (Q : VK) (r : Rh) (G : Hp) (ds : List D) (xs : List V) (d : D), Step w0 ⟨r, G, H, S⟩ → Rel X.K ⟨r, G, H, S⟩ → Roots X.K w0 ⟨r, G, H, S⟩ R → Reps X.K r G ds xs →
    o ds S = some d → (∀ v H', At X.K w0 ((.im d, some v) :: R) H' S → Q v H') → rr xs H Q) : CallR X f (rVN X.K o) := CallR.weak h fun xs H Q ⟨w0, S, R, ds, el, hA, d, e, hQ⟩ => by
  obtain ⟨r, G, st, rl, ro, rs⟩ := ims1 el hA
  exact hk w0 S R H Q r G ds xs d st rl ro rs e hQ
def oLen : ON := fun ds S => match ds with
  | [.tup es] => some (.int es.length)
  | [.str z] => if z.length ≤ sizeLine then some (.int z.length) else none
  | [d] => (viewL S d).map fun es => .int es.length
  | _ => none
theorem fv_len : CallR X (.builtin "len") (rVN X.K oLen) := fn_weak (CallR.or call_len_seq call_len_str) fun w0 S R H Q r G ds xs d st rl ro rs e hQ => by
  cases rs with
  | nil => cases e
  | @cons d0 v0 ds vs k rs =>
    cases rs with
    | cons _ _ => cases d0 <;> cases e
    | nil =>
      have lists : (viewL S d0).map (fun es => D.int es.length) = some d → ∃ p ys, [v0] = [V.ref p] ∧ (SqL X.K H p ys ∨ SqT X.K H p ys) ∧ Q (.int ys.length) H := fun e => by
        obtain ⟨es, e1, rfl⟩ := Option.map_eq_some_iff.mp e
        obtain ⟨p, ys, rfl, sq, rs⟩ := view_ok rl k e1
        exact ⟨p, ys, rfl, .inl sq, hQ _ H ⟨r, G, st, rl, by rw [← rs.length]; exact ro.push (.int _)⟩⟩
      cases k with
      | tup sq rs =>
        cases e
        exact .inl ⟨_, _, rfl, .inr (sqT_mono rl.sub sq), hQ _ H ⟨r, G, st, rl, by rw [← rs.length]; exact ro.push (.int _)⟩⟩
      | str z =>
        have e : (if z.length ≤ sizeLine then some (D.int z.length) else none) = some d := e
        split at e
        · rename_i hz
          cases e
          exact .inr ⟨z, rfl, hz, hQ _ H ⟨r, G, st, rl, ro.push (.int _)⟩⟩
        · cases e
      | lst g k => exact .inl (lists e)
      | fz g k => exact .inl (lists e)
      | lab g => exact .inl (lists e)
      | non => cases e
      | bl _ => cases e
      | int _ => cases e
      | emp _ => cases e
      | exc _ => cases e
      | excF _ _ _ => cases e
def oI2 (g : Int → Int → Int) : ON := fun ds _ => match ds with
  | [.int i, .int j] => some (.int (g i j))
  | _ => none
theorem fv_i2 {f : Value} {g : Int → Int → Int} (h : CallR X f (fun xs H Q => ∃ i j, xs = [.int i, .int j] ∧ Q (.int (g i j)) H)) : CallR X f (rVN X.K (oI2 g)) := fn_weak h fun w0 S R H Q r G ds xs d st rl ro rs e hQ => by
  unfold oI2 at e
  split at e
  · rename_i i j
    cases e
    cases rs with
    | cons k1 rs => cases rs with
      | cons k2 rs => cases rs; cases k1; cases k2; exact ⟨i, j, rfl, hQ _ H ⟨r, G, st, rl, ro.push (.int _)⟩⟩
  · cases e
abbrev oMax : ON := oI2 fun i j => if j > i then j else i
abbrev oMin : ON := oI2 fun i j => if j < i then j else i
theorem fv_max (hc : X.calm = true) : CallR X (.builtin "max") (rVN X.K oMax) := fv_i2 (call_max2 hc)
theorem fv_min (hc : X.calm = true) : CallR X (.builtin "min") (rVN X.K oMin) := fv_i2 (call_min2 hc)
def oAbs : ON := fun ds _ => match ds with
  | [.int i] => some (.int (if i < 0 then -i else i))
  | _ => none
theorem fv_abs : CallR X (.builtin "abs") (rVN X.K oAbs) := fn_weak call_abs fun w0 S R H Q r G ds xs d st rl ro rs e hQ => by
  unfold oAbs at e
  split at e
  · rename_i i
    cases e
    cases rs with
    | cons k1 rs => cases rs; cases k1; exact ⟨i, rfl, hQ _ H ⟨r, G, st, rl, ro.push (.int _)⟩⟩
  · cases e
def oInt : ON := fun ds _ => match ds with
  | [.int i] => some (.int i)
  | [.bl k] => some (.int (if k then 1 else 0))
  | [.str a] => if a.length ≤ 640 then (PySem.intText? a).map .int else none
  | _ => none
theorem fv_int : CallR X (.type "int") (rVN X.K oInt) := fn_weak (CallR.or call_int1 call_int_str) fun w0 S R H Q r G ds xs d st rl ro rs e hQ => by
  unfold oInt at e
  split at e
  · rename_i i
    cases e
    cases rs with
    | cons k1 rs => cases rs; cases k1; exact .inl (.inl ⟨i, rfl, hQ _ H ⟨r, G, st, rl, ro.push (.int _)⟩⟩)
  · rename_i k
    cases e
    cases rs with
    | cons k1 rs => cases rs; cases k1; exact .inl (.inr ⟨k, rfl, hQ _ H ⟨r, G, st, rl, ro.push (.int _)⟩⟩)
  · rename_i a
    split at e
    · rename_i hl
      obtain ⟨n, en, rfl⟩ := Option.map_eq_some_iff.mp e
      cases rs with
      | cons k1 rs => cases rs; cases k1; exact .inr ⟨a, n, rfl, en, hl, hQ _ H ⟨r, G, st, rl, ro.push (.int _)⟩⟩
    · cases e
  · cases e
def iText (i : Int) : Str := toString i
def oStr : ON := fun ds _ => match ds with
  | [.int i] => if i.natAbs.log2 < 1920 then some (.str (iText i)) else none
  | [.str a] => some (.str a)
  | _ => none
theorem fv_str : CallR X (.type "str") (rVN X.K oStr) := fn_weak (CallR.or call_str_int SkE.call_str_str) fun w0 S R H Q r G ds xs d st rl ro rs e hQ => by
  unfold oStr at e
  split at e
  · rename_i i
    split at e
    · rename_i hl
      cases e
      cases rs with
      | cons k1 rs => cases rs; cases k1; exact .inl ⟨i, rfl, hl, hQ _ H ⟨r, G, st, rl, ro.push (.str _)⟩⟩
    · cases e
  · rename_i k
    cases e
    cases rs with
    | cons k1 rs => cases rs; cases k1; exact .inr ⟨k, rfl, hQ _ H ⟨r, G, st, rl, ro.push (.str _)⟩⟩
  · cases e
/-! lists of ints, of bools, of texts -/
def ints? : List D → Option (List Int)
  | [] => some []
  | .int i :: ds => (ints? ds).map (i :: ·)
  | _ => none
theorem ints_ok : ∀ {ds : List D} {ns : List Int}, ints? ds = some ns → ds = ns.map .int
  | [], _, h => by cases h; rfl
  | .int i :: ds, ns, h => by
    obtain ⟨ms, e, rfl⟩ := Option.map_eq_some_iff.mp (show (ints? ds).map (i :: ·) = some ns from h)
    rw [ints_ok e]
    rfl
  | .non :: _, _, h => by cases h
  | .bl _ :: _, _, h => by cases h
  | .str _ :: _, _, h => by cases h
  | .tup _ :: _, _, h => by cases h
  | .lst _ :: _, _, h => by cases h
  | .fz _ :: _, _, h => by cases h
  | .lab _ :: _, _, h => by cases h
  | .emp :: _, _, h => by cases h
  | .exc _ _ _ :: _, _, h => by cases h
theorem ints_map : ∀ ns : List Int, ints? (ns.map .int) = some ns
  | [] => rfl
  | n :: ns => by
    show (ints? (ns.map .int)).map (n :: ·) = _
    rw [ints_map ns]
    rfl
def bls? : List D → Option (List Bool)
  | [] => some []
  | .bl i :: ds => (bls? ds).map (i :: ·)
  | _ => none
theorem bls_ok : ∀ {ds : List D} {ns : List Bool}, bls? ds = some ns → ds = ns.map .bl
  | [], _, h => by cases h; rfl
  | .bl i :: ds, ns, h => by
    obtain ⟨ms, e, rfl⟩ := Option.map_eq_some_iff.mp (show (bls? ds).map (i :: ·) = some ns from h)
    rw [bls_ok e]
    rfl
  | .non :: _, _, h => by cases h
  | .int _ :: _, _, h => by cases h
  | .str _ :: _, _, h => by cases h
  | .tup _ :: _, _, h => by cases h
  | .lst _ :: _, _, h => by cases h
  | .fz _ :: _, _, h => by cases h
  | .lab _ :: _, _, h => by cases h
  | .emp :: _, _, h => by cases h
  | .exc _ _ _ :: _, _, h => by cases h
theorem bls_map : ∀ ns : List Bool, bls? (ns.map .bl) = some ns
  | [] => rfl
  | n :: ns => by
    show (bls? (ns.map .bl)).map (n :: ·) = _
    rw [bls_map ns]
    rfl
def strs? : List D → Option (List Str)
  | [] => some []
  | .str i :: ds => (strs? ds).map (i :: ·)
  | _ => none
theorem strs_ok : ∀ {ds : List D} {ns : List Str}, strs? ds = some ns → ds = ns.map .str
  | [], _, h => by cases h; rfl
  | .str i :: ds, ns, h => by
    obtain ⟨ms, e, rfl⟩ := Option.map_eq_some_iff.mp (show (strs? ds).map (i :: ·) = some ns from h)
    rw [strs_ok e]
    rfl
  | .non :: _, _, h => by cases h
  | .bl _ :: _, _, h => by cases h
  | .int _ :: _, _, h => by cases h
  | .tup _ :: _, _, h => by cases h
  | .lst _ :: _, _, h => by cases h
  | .fz _ :: _, _, h => by cases h
  | .lab _ :: _, _, h => by cases h
  | .emp :: _, _, h => by cases h
  | .exc _ _ _ :: _, _, h => by cases h
theorem strs_map : ∀ ns : List Str, strs? (ns.map .str) = some ns
  | [] => rfl
  | n :: ns => by
    show (strs? (ns.map .str)).map (n :: ·) = _
    rw [strs_map ns]
    rfl
/-- a builtin of one list of ints -/
def oL1 {α : Type} (p : List D → Option α) (k : α → Option D) : ON := fun ds S => match ds with
  | [d] => (viewL S d).bind fun es => (p es).bind k
  | _ => none
theorem L1_ok {α : Type} {p : List D → Option α} {k : α → Option D} {K : Fg} {S : Sto} {H : Hp} {r : Rh} {G : Hp} {ds : List D} {xs : List V} {d : D} (rl : Rel K ⟨r, G, H, S⟩) (rs : Reps K r G ds xs) (e : oL1 p k ds S = some d) :
    ∃ a us es z, xs = [.ref a] ∧ SqL K H a us ∧ Reps K r G es us ∧ p es = some z ∧ k z = some d := by
  unfold oL1 at e
  split at e
  · obtain ⟨es, e1, e2⟩ := Option.bind_eq_some_iff.mp e
    obtain ⟨z, e3, e4⟩ := Option.bind_eq_some_iff.mp e2
    cases rs with
    | cons k1 rs =>
      cases rs
      obtain ⟨a, us, rfl, sq, ru⟩ := view_ok rl k1 e1
      exact ⟨a, us, es, z, rfl, sq, ru, e3, e4⟩
  · cases e
def oSum : ON := oL1 ints? fun ns => some (.int ns.sum)
theorem fv_sum (hc : X.calm = true) : CallR X (.builtin "sum") (rVN X.K oSum) := fn_weak (cr_sum hc) fun w0 S R H Q r G ds xs d st rl ro rs e hQ => by
  obtain ⟨a, us, es, ns, rfl, sq, ru, e3, e4⟩ := L1_ok rl rs e
  cases e4
  rw [ints_ok e3] at ru
  rw [ru.ints] at sq
  exact ⟨a, ns, rfl, sq, hQ _ H ⟨r, G, st, rl, ro.push (.int _)⟩⟩
def maxI : List Int → Int
  | [] => 0
  | [a] => a
  | a :: b :: l => max a (maxI (b :: l))
theorem maxI_le : ∀ {l : List Int} {y : Int}, y ∈ l → y ≤ maxI l
  | [a], y, h => by rw [List.mem_singleton] at h; rw [h]; exact Int.le_refl _
  | a :: b :: l, y, h => by
    show y ≤ max a (maxI (b :: l))
    rcases List.mem_cons.mp h with z | z
    · rw [z]; omega
    · have := maxI_le z; omega
theorem maxI_mem : ∀ {l : List Int}, l ≠ [] → maxI l ∈ l
  | [], h => absurd rfl h
  | [a], _ => List.mem_singleton.mpr rfl
  | a :: b :: l, _ => by
    show max a (maxI (b :: l)) ∈ _
    have := maxI_mem (l := b :: l) (by simp)
    by_cases h : maxI (b :: l) ≤ a
    · rw [Int.max_eq_left h]; exact List.mem_cons_self
    · rw [Int.max_eq_right (by omega)]; exact List.mem_cons_of_mem _ this
def minI : List Int → Int
  | [] => 0
  | [a] => a
  | a :: b :: l => min a (minI (b :: l))
theorem minI_le : ∀ {l : List Int} {y : Int}, y ∈ l → minI l ≤ y
  | [a], y, h => by rw [List.mem_singleton] at h; rw [h]; exact Int.le_refl _
  | a :: b :: l, y, h => by
    show min a (minI (b :: l)) ≤ y
    rcases List.mem_cons.mp h with z | z
    · rw [z]; omega
    · have := minI_le z; omega
theorem minI_mem : ∀ {l : List Int}, l ≠ [] → minI l ∈ l
  | [], h => absurd rfl h
  | [a], _ => List.mem_singleton.mpr rfl
  | a :: b :: l, _ => by
    show min a (minI (b :: l)) ∈ _
    have := minI_mem (l := b :: l) (by simp)
    by_cases h : a ≤ minI (b :: l)
    · rw [Int.min_eq_left h]; exact List.mem_cons_self
    · rw [Int.min_eq_right (by omega)]; exact List.mem_cons_of_mem _ this
/-- max of two ints, or of a list of ints -/
def oMaxL : ON := oL1 ints? fun ns => if ns = [] then none else some (.int (maxI ns))
def oMinL : ON := oL1 ints? fun ns => if ns = [] then none else some (.int (minI ns))
theorem fv_maxL (hc : X.calm = true) : CallR X (.builtin "max") (rVN X.K oMaxL) := fn_weak (cr_max hc) fun w0 S R H Q r G ds xs d st rl ro rs e hQ => by
  obtain ⟨a, us, es, ns, rfl, sq, ru, e3, e4⟩ := L1_ok rl rs e
  split at e4
  · cases e4
  · rename_i hn
    cases e4
    rw [ints_ok e3] at ru
    rw [ru.ints] at sq
    refine ⟨a, ns, rfl, sq, List.length_pos_iff.mpr hn, fun m hm h2 => hQ _ H ⟨r, G, st, rl, ?_⟩⟩
    have : m = maxI ns := Int.le_antisymm (maxI_le hm) (h2 _ (maxI_mem hn))
    rw [this]
    exact ro.push (.int _)
theorem fv_minL (hc : X.calm = true) : CallR X (.builtin "min") (rVN X.K oMinL) := fn_weak (cr_min hc) fun w0 S R H Q r G ds xs d st rl ro rs e hQ => by
  obtain ⟨a, us, es, ns, rfl, sq, ru, e3, e4⟩ := L1_ok rl rs e
  split at e4
  · cases e4
  · rename_i hn
    cases e4
    rw [ints_ok e3] at ru
    rw [ru.ints] at sq
    refine ⟨a, ns, rfl, sq, List.length_pos_iff.mpr hn, fun m hm h2 => hQ _ H ⟨r, G, st, rl, ?_⟩⟩
    have : m = minI ns := Int.le_antisymm (h2 _ (minI_mem hn)) (minI_le hm)
    rw [this]
    exact ro.push (.int _)
def oAll : ON := oL1 bls? fun ns => some (.bl (ns.all id))
def oAny : ON := oL1 bls? fun ns => some (.bl (ns.any id))
theorem fv_all (hc : X.calm = true) : CallR X (.builtin "all") (rVN X.K oAll) := fn_weak (cr_all hc) fun w0 S R H Q r G ds xs d st rl ro rs e hQ => by
  obtain ⟨a, us, es, ns, rfl, sq, ru, e3, e4⟩ := L1_ok rl rs e
  cases e4
  rw [bls_ok e3] at ru
  rw [ru.bls] at sq
  exact ⟨a, ns, rfl, sq, hQ _ H ⟨r, G, st, rl, ro.push (.bl _)⟩⟩
theorem fv_any (hc : X.calm = true) : CallR X (.builtin "any") (rVN X.K oAny) := fn_weak (cr_any hc) fun w0 S R H Q r G ds xs d st rl ro rs e hQ => by
  obtain ⟨a, us, es, ns, rfl, sq, ru, e3, e4⟩ := L1_ok rl rs e
  cases e4
  rw [bls_ok e3] at ru
  rw [ru.bls] at sq
  exact ⟨a, ns, rfl, sq, hQ _ H ⟨r, G, st, rl, ro.push (.bl _)⟩⟩
/-- tuple(x) -/
def oTuple : ON := fun ds S => match ds with
  | [.tup es] => some (.tup es)
  | [d] => (viewL S d).map .tup
  | _ => none
theorem fv_tuple : CallR X (.type "tuple") (rVN X.K oTuple) := fn_weak call_tuple_of fun w0 S R H Q r G ds xs d st rl ro rs e hQ => by
  cases rs with
  | nil => cases e
  | @cons d0 v0 ds vs k rs =>
    cases rs with
    | cons _ _ => cases d0 <;> cases e
    | nil =>
      have lists : (viewL S d0).map D.tup = some d → ∃ p ys, [v0] = [V.ref p] ∧ ((SqL X.K H p ys ∧ ∀ l, H l = none → Q (.ref l) (upd H l (.tup ys))) ∨ (SqT X.K H p ys ∧ Q (.ref p) H)) := fun e => by
        obtain ⟨es, e1, rfl⟩ := Option.map_eq_some_iff.mp e
        obtain ⟨p, ys, rfl, sq, rs⟩ := view_ok rl k e1
        exact ⟨p, ys, rfl, .inl ⟨sq, fun q hq => hQ _ _ (at_newT st rl ro rs hq)⟩⟩
      cases k with
      | tup sq rs =>
        cases e
        exact ⟨_, _, rfl, .inr ⟨sqT_mono rl.sub sq, hQ _ H ⟨r, G, st, rl, ro.push (.tup sq rs)⟩⟩⟩
      | lst g k => exact lists e
      | fz g k => exact lists e
      | lab g => exact lists e
      | str z => cases e
      | non => cases e
      | bl _ => cases e
      | int _ => cases e
      | emp _ => cases e
      | exc _ => cases e
      | excF _ _ _ => cases e
end
end DL
/-! DLh: isinstance, texts, labels, own lists read. -/
namespace DL
open PySem PySem.Spec PyProof.Rows L2
section
variable {X : Cx} {W : WX} {w0 : Wd} {pos : Pos} {a b c d e : Expr} {f f' f'' f3 : DE} {es : List Expr} {fa : DA}
theorem takes_F : Takes X WF := fun u s' ⟨a, B, sI, pins, σ, H, cls, d, e, I, nb, up, sky, na, os, ag, w⟩ => w.elim
/-! ### isinstance -/
def tyD (S : Sto) : D → Option String
  | .non => some "NoneType"
  | .bl _ => some "bool"
  | .int _ => some "int"
  | .str _ => some "str"
  | .tup _ => some "tuple"
  | .lst _ => some "list"
  | .fz _ => some "list"
  | .lab l => match S[l]? with
    | some (.lst _) => some "list"
    | _ => none
  | .emp => some "dict"
  | .exc _ _ _ => none
def isiB (a b : String) : Bool := decide (a = b) || (decide (a = "bool") && decide (b = "int"))
def tyNames : List String := ["NoneType", "bool", "int", "str", "tuple", "list", "dict"]
theorem kitB_all : (tyNames.all fun a => ["int", "bool", "str", "tuple", "list", "dict"].all fun b => decide (kitB a b = some (isiB a b))) = true := by decide +kernel
theorem tyD_mem {S : Sto} {d : D} {n : String} (h : tyD S d = some n) : n ∈ tyNames := by
  cases d with
  | lab l =>
    have h : (match S[l]? with | some (.lst _) => some "list" | _ => none) = some n := h
    split at h
    · cases h; decide
    · cases h
  | _ => first | (cases h; done) | (cases h; decide)
theorem tyD_ok {K : Fg} {w : Wd} (rl : Rel K w) {d : D} {v : V} {n : String} (k : Rep K w.r w.G d v) (h : tyD w.S d = some n) : TyX K w.H v (.type n) := by
  have sqt : ∀ {p : Addr} {xs : List V}, SqT K w.H p xs → TyX K w.H (.ref p) (.type "tuple") := fun {p xs} q => by
    rcases q with (q | ⟨o, q⟩) | ⟨o, its, m, q, c, _⟩
    · exact .base (.tup q)
    · exact .fTuple q
    · exact .kTuple q c
  have sql : ∀ {p : Addr} {xs : List V}, SqL K w.H p xs → TyX K w.H (.ref p) (.type "list") := fun {p xs} q => by
    rcases q with (q | ⟨o, q⟩) | ⟨o, its, m, q, c, _⟩
    · exact .base (.lst q)
    · exact .base (.frz q)
    · exact .kList q c
  cases k with
  | non => cases h; exact .base .non
  | bl _ => cases h; exact .base (.bl _)
  | int _ => cases h; exact .base (.int _)
  | str _ => cases h; exact .base (.str _)
  | tup sq rs => cases h; exact sqt (sqT_mono rl.sub sq)
  | lst g rs => cases h; exact .base (.lst (rl.sub _ _ g))
  | fz sq rs => cases h; exact sql (sqL_mono rl.sub sq)
  | emp g => cases h; exact .base (.dK (rl.sub _ _ g))
  | exc _ => cases h
  | excF _ _ _ => cases h
  | @lab l p ra =>
    have h : (match w.S[l]? with | some (.lst _) => some "list" | _ => none) = some n := h
    split at h
    · rename_i es q
      cases h
      obtain ⟨b, eb, _, xs, m, x⟩ := rl.obj l _ q (fun z => by cases z)
      rw [ra] at eb
      cases eb
      exact .base (.lst m)
    · cases h
def dIsi (T : String) (f : DE) : DE := fun g S => (f g S).bind fun d S1 => match tyD S1 d with
  | some n => .ok (.bl (isiB n T)) S1
  | none => .bad
theorem pd_isi {T : String} {x : Str} {p pT : Pos} (hT : T ∈ ["int", "bool", "str", "tuple", "list", "dict"]) (hg : Gl X "isinstance") (hm : X.mg "isinstance" = none) (hgT : Gl X x) (hmT : X.mg x = none) (hbT : bootBuiltins x = some (.type T)) (he : PD X W w0 e f) (hn : x ≠ "__name__" := by decide) (hdb : (x == ("__debug__" : Str)) = false := by decide)
    (hs : starEach [e, .Name x pT] X.env = (false, eval e X.env) :: starEach [.Name x pT] X.env := by rfl) (hs2 : starEach [.Name x pT] X.env = (false, eval (.Name x pT) X.env) :: starEach [] X.env := by rfl) (hpl : (backTo pos (starEach [.Name x pT] X.env)).any (·.1) = false := by rfl) :
    PD X W w0 (.Call (.Name "isinstance" p) [e, .Name x pT] [] pos) (dIsi T f) :=
  PE.weak (pe_callB call_isi hg hm rfl (pa_cons he (pa_cons (pe_bltn (v := .ty T) hgT hmT hbT rfl hn hdb) pa_nil hs2) hs) (by decide) (by decide) hs hpl) fun σ H Q ⟨g, S, R, hl, hA, hP⟩ => by
    refine ⟨g, S, R, hl, hA, hP.bind (List.Sublist.refl _) fun d S1 v H1 _ hA1 hP1 => ?_⟩
    have key : ∃ n, tyD S1 d = some n ∧ ∀ v' H', okE (.bl (isiB n T)) v' → At X.K w0 (rtE (.bl (isiB n T)) v' ++ (R ++ zs g σ)) H' S1 → Q v' H' := by
      cases q : tyD S1 d with
      | none => rw [q] at hP1; exact (show False from hP1).elim
      | some n => rw [q] at hP1; exact ⟨n, rfl, hP1⟩
    obtain ⟨n, en, hQ⟩ := key
    obtain ⟨r, G, st, rl, ro, k⟩ := At.one (R := R ++ zs g σ) hA1
    refine ⟨v, .ty T, .type n, .type T, isiB n T, rfl, .ty T, tyD_ok rl k en, ?_, hQ _ _ trivial ⟨r, G, st, rl, ro.push (.bl _)⟩⟩
    have z := List.all_eq_true.mp (List.all_eq_true.mp kitB_all n (tyD_mem en)) T hT
    exact kit_ty (of_decide_eq_true z)
/-! ### texts -/
def strsIn (S : Sto) : D → Option (List Str)
  | .tup ds => strs? ds
  | d => (viewL S d).bind strs?
def oJoin : O2 := fun a b S => match a with
  | .str s => match strsIn S b with
    | some ys => if (ys.map (·.length)).sum + ys.length * s.length ≤ 16777216 then some (.str (Txt.join s ys)) else none
    | none => none
  | _ => none
theorem strsIn_ok {K : Fg} {w : Wd} (rl : Rel K w) {d : D} {v : V} {ys : List Str} (k : Rep K w.r w.G d v) (h : strsIn w.S d = some ys) : ∃ p, v = .ref p ∧ (SqL K w.H p (ys.map V.str) ∨ SqT K w.H p (ys.map V.str)) := by
  have lists : (viewL w.S d).bind strs? = some ys → ∃ p, v = .ref p ∧ (SqL K w.H p (ys.map V.str) ∨ SqT K w.H p (ys.map V.str)) := fun e => by
    obtain ⟨es, e1, e2⟩ := Option.bind_eq_some_iff.mp e
    obtain ⟨p, us, rfl, sq, ru⟩ := view_ok rl k e1
    rw [strs_ok e2] at ru
    rw [ru.strs] at sq
    exact ⟨p, rfl, .inl sq⟩
  cases k with
  | tup sq rs =>
    have h : strs? _ = some ys := h
    rw [strs_ok h] at rs
    rw [rs.strs] at sq
    exact ⟨_, rfl, .inr (sqT_mono rl.sub sq)⟩
  | lst g k => exact lists h
  | fz g k => exact lists h
  | lab g => exact lists h
  | str z => exact lists h
  | non => exact lists h
  | bl _ => exact lists h
  | int _ => exact lists h
  | emp _ => exact lists h
  | exc _ => exact lists h
  | excF _ _ _ => exact lists h
/-- a text's method with one argument -/
theorem rd_m1 {K : Fg} {α : Type} {rt : α → V → List Rt} {ok : α → V → Prop} {rr : V → List V → Hp → VK → Prop} {kk : D → D → Sto → Out α} {σ : L2.St} {H : Hp} {Q : VK}
    (h : rd rt ok K W w0 (fun g S => (f g S).bind fun a S1 => match a with
      | .str x => (f' g S1).bind fun b S2 => kk (.str x) b S2
      | _ => .bad) σ H Q)
    (hk : ∀ (R : List Rt) (x : Str) (b : D) (y : V) (S : Sto) (H' : Hp) (r : Rh) (G : Hp), Step w0 ⟨r, G, H', S⟩ → Rel K ⟨r, G, H', S⟩ → Roots K w0 ⟨r, G, H', S⟩ R → Rep K r G b y → Post rt ok K W w0 σ R Q (kk (.str x) b S) → rr (.str x) [y] H' Q) :
    tM1 rr (rd rtE okE K W w0 f) (rd rtE okE K W w0 f') σ H Q := by
  obtain ⟨g, S, R, hl, hA, hP⟩ := h
  refine ⟨g, S, R, hl, hA, hP.bind (List.Sublist.refl _) fun a S1 v1 H1 _ hA1 hP1 => ?_⟩
  cases a with
  | str x =>
    have ev := At.str hA1
    subst ev
    refine ⟨⟨x, rfl⟩, g, S1, (.im (.str x), some (.str x)) :: R, hl, hA1, hP1.bind (List.sublist_cons_self _ _) fun b S2 v2 H2 _ hA2 hP2 => ?_⟩
    obtain ⟨r, G, st, rl, ro, k1, k2⟩ := At.two (R := R ++ zs g σ) hA2
    exact hk _ x b v2 S2 H2 r G st rl ro k2 hP2
  | _ => exact (show False from hP1).elim
def dM1 (o : O2) (f f' : DE) : DE := fun g S => (f g S).bind fun a S1 => match a with
  | .str x => (f' g S1).bind fun b S2 => Out.of (o (.str x) b S2) S2
  | _ => .bad
theorem pd_join {apos : Pos} (ho : PD X W w0 a f) (he : PD X W w0 e f') (hs : starEach [e] X.env = [(false, eval e X.env)] := by rfl) (hbase : attributeBase a "join" X.env (eval a X.env) = eval a X.env := by rfl) (hline : (apos.endLine == pos.line) = true := by rfl) :
    PD X W w0 (.Call (.Attribute a "join" apos) [e] [] pos) (dM1 oJoin f f') := PE.weak (pe_join ho he hs hbase hline) fun σ H Q h => rd_m1 (kk := fun a b S => Out.of (oJoin a b S) S) h fun R x b y S H' r G st rl ro k hP => by
    obtain ⟨d, ed, hQ⟩ := hP.of
    have ed : (match strsIn S b with
      | some ys => if (ys.map (·.length)).sum + ys.length * x.length ≤ 16777216 then some (D.str (Txt.join x ys)) else none
      | none => none) = some d := ed
    split at ed
    · rename_i ys ey
      split at ed
      · rename_i hz
        cases ed
        obtain ⟨p, rfl, sq⟩ := strsIn_ok rl k ey
        exact ⟨x, p, ys, rfl, rfl, sq, hz, hQ _ H' trivial ⟨r, G, st, rl, ro.push (.str _)⟩⟩
      · cases ed
    · cases ed
def oSplit (f f' : DE) : DA := fun g S => (f g S).bind fun a S1 => match a with
  | .str x => (f' g S1).bind fun b S2 => match b with
    | .str y => if (y.length == 0) = false ∧ x.length + 2 ≤ sizeLine then .ok ((Txt.split x y).map .str) S2 else .bad
    | _ => .bad
  | _ => .bad
theorem po_split {apos : Pos} (ho : PD X W w0 a f) (he : PD X W w0 e f') (hs : starEach [e] X.env = [(false, eval e X.env)] := by rfl) (hbase : attributeBase a "split" X.env (eval a X.env) = eval a X.env := by rfl) (hline : (apos.endLine == pos.line) = true := by rfl) :
    PDO X W w0 (.Call (.Attribute a "split" apos) [e] [] pos) (oSplit f f') := PE.weak (pe_split ho he hs hbase hline) fun σ H Q h => rd_m1 (α := List D) (rt := rtO) (ok := okO) (kk := fun a b S2 => match a, b with
      | .str x, .str y => if (y.length == 0) = false ∧ x.length + 2 ≤ sizeLine then Out.ok ((Txt.split x y).map .str) S2 else .bad
      | _, _ => .bad) (by
        have e : (fun g S => (f g S).bind fun a S1 => match a with
          | .str x => (f' g S1).bind fun b S2 => (fun a b S2 => match a, b with
            | .str x, .str y => if (y.length == 0) = false ∧ x.length + 2 ≤ sizeLine then Out.ok ((Txt.split x y).map D.str) S2 else .bad
            | _, _ => .bad) (D.str x) b S2
          | _ => .bad) = oSplit f f' := by
          unfold oSplit
          funext g S
          congr 1
          funext a S1
          cases a <;> first | rfl | skip
          show ((f' g S1).bind fun b S2 => _) = ((f' g S1).bind fun b S2 => _)
          congr 1
          funext b S2
          cases b <;> rfl
        rw [e]
        exact h) fun R x b y S H' r G st rl ro k hP => by
    cases b with
    | str z =>
      cases k
      have hP : Post rtO okO X.K W w0 σ R Q (if (z.length == 0) = false ∧ x.length + 2 ≤ sizeLine then Out.ok ((Txt.split x z).map D.str) S else .bad) := hP
      split at hP
      · rename_i hz
        exact ⟨x, z, rfl, rfl, hz.1, hz.2, fun p hp => hP _ _ trivial (at_newO st rl ro .ofStrs hp)⟩
      · exact hP.elim
    | _ => exact (show False from hP).elim
def dBits (f : DE) : DE := fun g S => (f g S).bind fun a S1 => match a with
  | .int i => .ok (.int (Builtin.Int.intBits i : Nat)) S1
  | _ => .bad
theorem pd_bits {apos : Pos} (ho : PD X W w0 a f) (hbase : attributeBase a "bit_length" X.env (eval a X.env) = eval a X.env := by rfl) (hline : (apos.endLine == pos.line) = true := by rfl) : PD X W w0 (.Call (.Attribute a "bit_length" apos) [] [] pos) (dBits f) :=
  PE.weak (pe_bits ho hbase hline) fun σ H Q ⟨g, S, R, hl, hA, hP⟩ => by
    refine ⟨g, S, R, hl, hA, hP.bind (List.Sublist.refl _) fun a S1 v1 H1 _ hA1 hP1 => ?_⟩
    cases a with
    | int i => exact ⟨i, At.int hA1, hP1 _ H1 trivial (hA1.tail.push fun _ _ => .int _)⟩
    | _ => exact (show False from hP1).elim
/-! ### a text's signs -/
def signs (z : Str) : List D := z.cps.toList.map fun c => .str ⟨#[c]⟩
theorem yields_str {K : Fg} {z : Str} : Yields K w0 (Its z) (signs z) [] where
  go := fun R H S i hA hi => by
    have hi : i < (signs z).length := hi
    show i < z.cps.size
    simpa [signs] using hi
  stop := fun R H S i hA hi => by
    have hi : (signs z).length ≤ i := hi
    show z.cps.size ≤ i
    simpa [signs] using hi
  yld := fun R H S i c x H' hA hi y => by
    obtain ⟨rfl, k, hk, rfl⟩ := y
    have e : c = .str ⟨#[k]⟩ := by
      unfold signs at hi
      rw [List.getElem?_map] at hi
      rw [Array.getElem?_toList, hk] at hi
      exact (Option.some.inj hi).symm
    subst e
    exact hA.push fun _ _ => .str _
def iStrD (f : DE) : DA := fun g S => (f g S).bind fun d S1 => match d with
  | .str z => .ok (signs z) S1
  | _ => .bad
theorem pid_str {tg : Expr} (h : PD X W w0 e f) : PID X W w0 tg e (iStrD f) := PI.weak (pi_str h) fun σ H Q ⟨g, S, R, hl, hA, hP⟩ => by
  refine ⟨g, S, R, hl, hA, hP.bind (List.Sublist.refl _) fun d S1 v H1 _ hA1 hP1 => ?_⟩
  cases d with
  | str z => exact ⟨z, At.str hA1, hP1 _ [] H1 yields_str (At.tail hA1)⟩
  | _ => exact (show False from hP1).elim
/-! ### list(x) and other builtins that make a list -/
def rVO (K : Fg) (o : List D → Sto → Option (List D)) : List V → Hp → VK → Prop := fun xs H Q => ∃ w0 S R ds, ds.length = xs.length ∧ At K w0 (ims ds xs ++ R) H S ∧ ∃ d, o ds S = some d ∧ ∀ v H', At K w0 ((.own d, some v) :: R) H' S → Q v H'
def oFn (o : List D → Sto → Option (List D)) (fs : DA) : DA := fun g S => (fs g S).bind fun ds S1 => Out.of (o ds S1) S1
theorem rd_fnO {K : Fg} {o : List D → Sto → Option (List D)} {σ : L2.St} {H : Hp} {Q : VK} (h : rd rtO okO K W w0 (oFn o fa) σ H Q) : tCB (rVO K o) (rd ims okA K W w0 fa) σ H Q := by
  obtain ⟨g, S, R, hl, hA, hP⟩ := h
  refine ⟨g, S, R, hl, hA, hP.bind (List.Sublist.refl _) fun ds S1 vs H1 e hA1 hP1 => ?_⟩
  obtain ⟨d, e2, hQ⟩ := hP1.of
  exact ⟨w0, S1, R ++ zs g σ, ds, e, hA1, d, e2, fun v H' x => hQ v H' trivial x⟩
theorem po_callB {x : Str} {p : Pos} {id : String} {o : List D → Sto → Option (List D)} (hc : CallR X (.builtin id) (rVO X.K o)) (hg : Gl X x) (hm : X.mg x = none) (hv : bootBuiltins x = some (.builtin id)) (ha : PDA X W w0 (a :: es) fa) (hn : x ≠ "__name__" := by decide) (hdb : (x == ("__debug__" : Str)) = false := by decide)
    (he : starEach (a :: es) X.env = (false, eval a X.env) :: starEach es X.env := by rfl) (hpl : (backTo pos (starEach es X.env)).any (·.1) = false := by rfl) : PDO X W w0 (.Call (.Name x p) (a :: es) [] pos) (oFn o fa) :=
  PE.weak (pe_callB hc hg hm hv ha hn hdb he hpl) fun _ _ _ h => rd_fnO h
theorem po_callTy {x : Str} {p : Pos} {id : String} {o : List D → Sto → Option (List D)} (hc : CallR X (.type id) (rVO X.K o)) (hg : Gl X x) (hm : X.mg x = none) (hv : bootBuiltins x = some (.type id)) (ha : PDA X W w0 (a :: es) fa) (hn : x ≠ "__name__" := by decide) (hdb : (x == ("__debug__" : Str)) = false := by decide)
    (he : starEach (a :: es) X.env = (false, eval a X.env) :: starEach es X.env := by rfl) (hpl : (backTo pos (starEach es X.env)).any (·.1) = false := by rfl) : PDO X W w0 (.Call (.Name x p) (a :: es) [] pos) (oFn o fa) :=
  PE.weak (pe_callTy hc hg hm hv ha hn hdb he hpl) fun _ _ _ h => rd_fnO h
theorem fnO_weak {f : Value} {rr : List V → Hp → VK → Prop} {o : List D → Sto → Option (List D)} (h : CallR X f rr) (hk : ∀ (w0 : Wd) (S : Sto) (R : List Rt) (H : Hp) (Q : VK) (r : Rh) (G : Hp) (ds : List D) (xs : List V) (d : List D), Step w0 ⟨r, G, H, S⟩ → Rel X.K ⟨r, G, H, S⟩ → Roots X.K w0 ⟨r, G, H, S⟩ R → Reps X.K r G ds xs →
    o ds S = some d → (∀ v H', At X.K w0 ((.own d, some v) :: R) H' S → Q v H') → rr xs H Q) : CallR X f (rVO X.K o) := CallR.weak h fun xs H Q ⟨w0, S, R, ds, el, hA, d, e, hQ⟩ => by
  obtain ⟨r, G, st, rl, ro, rs⟩ := ims1 el hA
  exact hk w0 S R H Q r G ds xs d st rl ro rs e hQ
def oList : List D → Sto → Option (List D) := fun ds S => match ds with
  | [.tup es] => some es
  | [d] => viewL S d
  | _ => none
theorem fo_list : CallR X (.type "list") (rVO X.K oList) := fnO_weak call_list_of fun w0 S R H Q r G ds xs d st rl ro rs e hQ => by
  cases rs with
  | nil => cases e
  | @cons d0 v0 ds vs k rs =>
    cases rs with
    | cons _ _ => cases d0 <;> cases e
    | nil =>
      have lists : viewL S d0 = some d → ∃ p ys, [v0] = [V.ref p] ∧ (SqL X.K H p ys ∨ SqT X.K H p ys) ∧ ∀ l, H l = none → Q (.ref l) (upd H l (.lst ys)) := fun e => by
        obtain ⟨p, ys, rfl, sq, rs⟩ := view_ok rl k e
        exact ⟨p, ys, rfl, .inl sq, fun q hq => hQ _ _ (at_newO st rl ro rs hq)⟩
      cases k with
      | tup sq rs =>
        cases e
        exact ⟨_, _, rfl, .inr (sqT_mono rl.sub sq), fun q hq => hQ _ _ (at_newO st rl ro rs hq)⟩
      | lst g k => exact lists e
      | fz g k => exact lists e
      | lab g => exact lists e
      | str z => cases e
      | non => cases e
      | bl _ => cases e
      | int _ => cases e
      | emp _ => cases e
      | exc _ => cases e
      | excF _ _ _ => cases e
theorem perm_sorted_unique {as bs : List Int} (h : as.Perm bs) (ha : as.Pairwise (· ≤ ·)) (hb : bs.Pairwise (· ≤ ·)) : as = bs := h.eq_of_pairwise (fun a b _ _ h1 h2 => Int.le_antisymm h1 h2) ha hb
def sortI (ns : List Int) : List Int := ns.mergeSort fun a b => decide (a ≤ b)
theorem sortI_perm (ns : List Int) : (sortI ns).Perm ns := List.mergeSort_perm ..
theorem sortI_pw (ns : List Int) : (sortI ns).Pairwise (· ≤ ·) := by
  have h := List.pairwise_mergeSort (le := fun a b : Int => decide (a ≤ b)) (fun a b c h1 h2 => by
    have h1 := of_decide_eq_true h1
    have h2 := of_decide_eq_true h2
    exact decide_eq_true (by omega)) (fun a b => by
    by_cases h : a ≤ b
    · simp [h]
    · simp [h]; omega) ns
  exact h.imp fun h => of_decide_eq_true h
def oSortI : List D → Sto → Option (List D) := fun ds S => match ds with
  | [d] => ((viewL S d).bind ints?).map fun ns => (sortI ns).map .int
  | _ => none
theorem fo_sortI : CallR X (.builtin "sorted") (rVO X.K oSortI) := fnO_weak cr_sortedI fun w0 S R H Q r G ds xs d st rl ro rs e hQ => by
  unfold oSortI at e
  split at e
  · obtain ⟨ns, e1, rfl⟩ := Option.map_eq_some_iff.mp e
    obtain ⟨es, e2, e3⟩ := Option.bind_eq_some_iff.mp e1
    cases rs with
    | cons k rs =>
      cases rs
      obtain ⟨p, us, rfl, sq, ru⟩ := view_ok rl k e2
      rw [ints_ok e3] at ru
      rw [ru.ints] at sq
      refine ⟨p, ns, rfl, sq, fun ns' q hp hs hq => ?_⟩
      have : ns' = sortI ns := perm_sorted_unique (hp.trans (sortI_perm ns).symm) hs (sortI_pw ns)
      subst this
      exact hQ _ _ (at_newO st rl ro .ofInts hq)
  · cases e
/-! ### if-else of own lists -/
def oIf (t : DT) (f f' : DA) : DA := fun g S => (t g S).bind fun b S1 => if b = true then f g S1 else f' g S1
theorem po_ifExp {t : DT} {fo fo' : DA} (hc : PDT X W w0 c t) (ha : PDO X W w0 a fo) (hb : PDO X W w0 b fo') : PDO X W w0 (.IfExp c a b pos) (oIf t fo fo') := PE.weak (pe_ifExp hc ha hb) fun σ H Q q => by
  refine rdT_bind (k := fun b g S1 => if b = true then fo g S1 else fo' g S1) q fun b H1 ⟨g, S, R, hl, hA, hP⟩ => ?_
  cases b with
  | true => exact iteT ⟨g, S, R, hl, hA, hP⟩
  | false => exact iteF ⟨g, S, R, hl, hA, hP⟩
/-! ### starred -/
def dStar (f : DE) (fs : DA) : DA := fun g S => (f g S).bind fun d S1 => (match d with
  | .tup es => some es
  | d => viewL S1 d) |> fun o => match o with
    | some es => (fs g S1).bind fun ds S2 => .ok (es ++ ds) S2
    | none => .bad
theorem ims_app {as bs : List D} {us vs : List V} (h : as.length = us.length) : ims (as ++ bs) (us ++ vs) = ims as us ++ ims bs vs := by
  unfold ims
  exact List.zipWith_append h
theorem Roots.pushs {K : Fg} {w : Wd} {L : List Rt} (ro : Roots K w0 w L) : ∀ {ds : List D} {xs : List V}, Reps K w.r w.G ds xs → Roots K w0 w (ims ds xs ++ L)
  | _, _, .nil => ro
  | _, _, .cons p t => (Roots.pushs ro t).push p
theorem pda_star {p : Pos} (he : PD X W w0 a f) (hr : PDA X W w0 es fa) (hs : starEach (.Starred a p :: es) X.env = (true, eval a X.env) :: starEach es X.env := by rfl) : PDA X W w0 (.Starred a p :: es) (dStar f fa) := PA.weak (StX.pa_star he hr hs) fun σ H Q ⟨g, S, R, hl, hA, hP⟩ => by
  refine ⟨g, S, R, hl, hA, hP.bind (List.Sublist.refl _) fun d S1 v H1 _ hA1 hP1 => ?_⟩
  have key : ∃ es' q xs, v = V.ref q ∧ (SqT X.K H1 q xs ∨ SqL X.K H1 q xs) ∧ (∃ r G, Step w0 ⟨r, G, H1, S1⟩ ∧ Rel X.K ⟨r, G, H1, S1⟩ ∧ Roots X.K w0 ⟨r, G, H1, S1⟩ (R ++ zs g σ) ∧ Reps X.K r G es' xs) ∧ Post ims okA X.K W w0 σ (R ++ zs g σ) Q ((fa g S1).bind fun ds S2 => .ok (es' ++ ds) S2) := by
    obtain ⟨r, G, st, rl, ro, k⟩ := At.one (R := R ++ zs g σ) hA1
    have lists : Post ims okA X.K W w0 σ (R ++ zs g σ) Q (match viewL S1 d with
        | some es => (fa g S1).bind fun ds S2 => .ok (es ++ ds) S2
        | none => .bad) → ∃ es' q xs, v = V.ref q ∧ (SqT X.K H1 q xs ∨ SqL X.K H1 q xs) ∧ (∃ r G, Step w0 ⟨r, G, H1, S1⟩ ∧ Rel X.K ⟨r, G, H1, S1⟩ ∧ Roots X.K w0 ⟨r, G, H1, S1⟩ (R ++ zs g σ) ∧ Reps X.K r G es' xs) ∧ Post ims okA X.K W w0 σ (R ++ zs g σ) Q ((fa g S1).bind fun ds S2 => .ok (es' ++ ds) S2) := fun hP => by
      split at hP
      · rename_i es' e1
        obtain ⟨q, xs, rfl, sq, rs⟩ := view_ok rl k e1
        exact ⟨es', q, xs, rfl, .inr sq, ⟨r, G, st, rl, ro, rs⟩, hP⟩
      · exact hP.elim
    cases d with
    | tup es' =>
      cases k with
      | tup sq rs => exact ⟨es', _, _, rfl, .inl (sqT_mono rl.sub sq), ⟨r, G, st, rl, ro, rs⟩, hP1⟩
    | _ => exact lists hP1
  obtain ⟨es', q, xs, rfl, sq, ⟨r, G, st, rl, ro, rs⟩, hP2⟩ := key
  refine ⟨q, xs, rfl, sq, g, S1, ims es' xs ++ R, hl, ⟨r, G, st, rl, by rw [List.append_assoc]; exact ro.pushs rs⟩, hP2.bind (by rw [List.append_assoc]; exact sub_app _ _) fun ds S2 vs H2 e hA2 hP3 => ?_⟩
  refine hP3 (xs ++ vs) H2 (by show (es' ++ ds).length = (xs ++ vs).length; rw [List.length_append, List.length_append, rs.length, show ds.length = vs.length from e]) ?_
  obtain ⟨r2, G2, st2, rl2, ro2⟩ := hA2
  refine ⟨r2, G2, st2, rl2, ?_⟩
  rw [ims_app rs.length]
  have e1 : ims ds vs ++ (ims es' xs ++ R ++ zs g σ) = ims ds vs ++ (ims es' xs ++ (R ++ zs g σ)) := by rw [List.append_assoc]
  rw [e1] at ro2
  have e2 : ims es' xs ++ ims ds vs ++ (R ++ zs g σ) = ims es' xs ++ (ims ds vs ++ (R ++ zs g σ)) := by rw [List.append_assoc]
  rw [e2]
  have pm : (ims ds vs ++ (ims es' xs ++ (R ++ zs g σ))).Perm (ims es' xs ++ (ims ds vs ++ (R ++ zs g σ))) := by
    generalize R ++ zs g σ = L
    rw [← List.append_assoc, ← List.append_assoc (ims es' xs)]
    exact List.Perm.append_right _ List.perm_append_comm
  exact ⟨fun q hq => ro2.ok q (pm.mem_iff.mpr hq), List.Pairwise.perm ro2.ap pm (fun h => Apart.symm h)⟩
/-! ### labels -/
/-- an own list comes into the store -/
def dLab (fo : DA) : DE := fun g S => (fo g S).bind fun ds S1 => .ok (.lab S1.length) (S1 ++ [.lst ds])
theorem pd_lab {fo : DA} (h : PDO X W w0 a fo) : PD X W w0 a (dLab fo) := PE.weak h fun σ H Q ⟨g, S, R, hl, hA, hP⟩ => by
  refine ⟨g, S, R, hl, hA, hP.bind (List.Sublist.refl _) fun ds S1 v H1 _ hA1 hP1 => hP1 v H1 trivial ?_⟩
  obtain ⟨r, G, s, rl, ro⟩ := hA1
  obtain ⟨r', s', rl', ro'⟩ := own_lab (j := 0) s rl ro rfl
  exact ⟨r', G, s', rl', ro'⟩
/-- o[i] = e, o a list of the store -/
def putD (d o i : D) (S : Sto) : Option Sto := match o, i with
  | .lab l, .int k => (match S[l]? with
    | some (.lst ds) => (ixN ds.length k).map fun j => S.set l (.lst (ds.set j d))
    | _ => none)
  | _, _ => none
theorem putD_ok {K : Fg} {R : List Rt} {H : Hp} {S S' : Sto} {d o i : D} {x y z : V} (hA : At K w0 ((.im i, some z) :: (.im o, some y) :: (.im d, some x) :: R) H S) (e : putD d o i S = some S') :
    ∃ p xs k j, y = .ref p ∧ z = .int k ∧ H p = some (.lst xs) ∧ ixN xs.length k = some j ∧ At K w0 R (upd H p (.lst (xs.set j x))) S' := by
  cases o with
  | lab l =>
    cases i with
    | int k =>
      have e : (match S[l]? with
        | some (.lst ds) => (ixN ds.length k).map fun j => S.set l (.lst (ds.set j d))
        | _ => none) = some S' := e
      split at e
      · rename_i ds e1
        obtain ⟨j, ej, rfl⟩ := Option.map_eq_some_iff.mp e
        have ei := hA.int
        subst ei
        obtain ⟨r, G, st, rl, ro, k1, k2⟩ := At.two hA.tail
        cases k2 with
        | @lab l' p ra =>
          obtain ⟨b, eb, gb, xs, m, xr⟩ := rl.obj l _ e1 (fun z => by cases z)
          have ra' : (⟨r, G, H, S⟩ : Wd).r l = some p := ra
          rw [ra'] at eb
          cases eb
          obtain ⟨s2, rl2⟩ := lab_set (o' := .lst (ds.set j d)) (ho' := .lst (xs.set j x)) rl e1 (fun z => by cases z) ra ⟨_, rfl, xr.set j k1⟩
          exact ⟨p, xs, k, j, rfl, rfl, m, by rw [← xr.length]; exact ej, r, G, st.trans s2, rl2, ro.step s2⟩
      · cases e
    | _ => cases e
  | _ => cases e
def dPut (fv fo fi : DE) : DS := fun g S => dWith (fv g S) g fun d S1 => dWith (fo g S1) g fun o S2 => dWith (fi g S2) g fun i S3 => match putD d o i S3 with
  | some S' => .nx g S'
  | none => .bad
theorem psd_put {o i : Expr} {fv fo fi : DE} {tpos : Pos} (hv : PD X W w0 e fv) (ho : PD X W w0 o fo) (hi : PD X W w0 i fi) (hs : swapsWithSole [.Subscript o i tpos] e pos.line X.env = pure false := by rfl) (hw : swappedStores [.Subscript o i tpos] e X.env = pure none := by rfl)
    (h1 : (assignEach [.Subscript o i tpos] X.env).map (·.2) = [assign (.Subscript o i tpos) X.env] := by rfl)
    (ha : ∀ v, assign (.Subscript o i tpos) X.env v = (do
      let ov ← holding [v] (eval o X.env)
      let iv ← holding [v, ov] (eval i X.env)
      standAt tpos
      holding [v, ov, iv] (setItem ov iv v)
      release [v, ov, iv] []) := by intro _; rfl) : PSD X W w0 (.Assign [.Subscript o i tpos] e pos) (dPut fv fo fi) :=
  PS.weak (ps_asg hv (pg_sub ho hi set_list ha) hs hw h1) fun D σ H ⟨g, S, R, hl, hA, hP⟩ => by
    refine ⟨g, S, R, hl, hA, hP.with hl fun d S1 v H1 _ hA1 hP1 => ?_⟩
    refine ⟨g, S1, (.im d, some v) :: R, hl, hA1, ?_⟩
    generalize fo g S1 = oo at hP1
    cases oo with
    | bad => exact hP1
    | ex x S2 => exact fun cls dd H' z => hP1 σ cls dd H' rfl hl (z.sub (List.sublist_cons_self _ _))
    | ok od S2 =>
      intro ov H2 _ hA2
      refine ⟨g, S2, (.im od, some ov) :: (.im d, some v) :: R, hl, hA2, ?_⟩
      replace hP1 : PostS X.K W w0 R σ.length D (dWith (fi g S2) g fun i S3 => match putD d od i S3 with
        | some S' => .nx g S'
        | none => .bad) := hP1
      generalize fi g S2 = oi at hP1
      cases oi with
      | bad => exact hP1
      | ex x S3 => exact fun cls dd H' z => hP1 σ cls dd H' rfl hl (z.sub ((List.sublist_cons_self _ _).trans (List.sublist_cons_self _ _)))
      | ok id S3 =>
        intro iv H3 _ hA3
        replace hP1 : PostS X.K W w0 R σ.length D (match putD d od id S3 with
          | some S' => .nx g S'
          | none => .bad) := hP1
        split at hP1
        · rename_i S' e1
          obtain ⟨p, xs, k, j, e2, e3, e4, e5, hA4⟩ := putD_ok (R := R ++ zs g σ) hA3 e1
          exact ⟨p, xs, k, j, e2, e3, e4, e5, hP1 σ _ rfl hl hA4⟩
        · exact hP1.elim
end
end DL
/-! DLi: defs by name; own lists read. -/
namespace DL
open PySem PySem.Spec PyProof.Rows L2
/-- the module's x is a def that does what F says -/
def Callee (P : Program) (w : World) (K : Fg) (mg : Str → Option Value) (base : Heap) (x : Str) (k : Nat) (ps : List Str) (F : DF) : Prop :=
  ∃ f fd, mg x = some (.ref f) ∧ PySem.W.keepIn K (.ref f) = true ∧ Binds K fd ps [] ∧ FnOk P w K mg base (L2.CX P w) k f fd ps (spF K ps.length F)
section
variable {P : Program} {w : World} {K : Fg} {mg : Str → Option Value} {base : Heap}
theorem fn_okD {x qual : Str} {st : Stmt} {f : Addr} {fd : FuncData} {N ps : List Str} {k : Nat} {u : DS} (F : FunD K x qual (defArgs st) (defBody st) (defScope st) [] [] f fd) (S : FnScope N ps (defScope st))
    (hb : ∀ (cdv : Value) (A : Around) (outer : List Env) (s : Shared) (H : Hp) (E : XK) (w0 : Wd), Room k (A.deeper (envOfC qual (defScope st) s.heap.objs.size f cdv)) →
      PSDs (cxOf (L2.CX P w) P w K mg base N qual (defScope st) f cdv A outer s H E) (fun cls d _ H => E cls d H) w0 (defBody st) u) :
    FnOk P w K mg base (L2.CX P w) (k + 1) f fd ps (spF K ps.length (runB N.length u)) := by
  refine F.ok S (fun vs H Q E ⟨r, G, S', ds, hl, _, hr, _⟩ => by rw [← hr.length]; exact hl) fun cdv A outer s H vs Q E hr ⟨r, G, S', ds, hl, rl, rs, hP⟩ => ?_
  have hpl : ps.length ≤ N.length := by have := congrArg List.length S.pre; rw [List.length_take] at this; omega
  have el := rs.length
  refine ⟨_, hb cdv A outer s H E ⟨r, G, H, S'⟩ hr, ds.map SL.im ++ List.replicate (N.length - ds.length) .no, S', [], ?_, ?_, ?_⟩
  · unfold L2.start
    rw [List.length_append, List.length_map, List.length_replicate, List.length_append, List.length_map, List.length_replicate]
    omega
  · refine ⟨r, G, Step.refl _, rl, ?_⟩
    unfold L2.start
    rw [← el]
    exact roots_start rs
  · unfold runB at hP
    generalize u (ds.map SL.im ++ List.replicate (N.length - ds.length) .no) S' = o at hP
    cases o with
    | nx g S2 => exact fun σ' H' _ _ x => hP .non H' ((x.sub (List.nil_sublist _)).push fun _ _ => .non)
    | rt q S2 => exact hP
    | ex x g S2 => exact fun σ' cls dd H' _ _ q => hP cls dd H' (q.sub (List.nil_sublist _))
    | bk g S2 => exact hP.elim
    | ct g S2 => exact hP.elim
    | bad => exact hP.elim
theorem callee {x qual : Str} {st : Stmt} {f : Addr} {fd : FuncData} {N ps : List Str} {k : Nat} {u : DS} (g : mg x = some (.ref f)) (F : FunD K x qual (defArgs st) (defBody st) (defScope st) [] [] f fd)
    (hbd : ∀ (kV doc pm : Value) (an : Option Addr) (cdv ct : Value) (us : List Value), us.length = ps.length → bindArgs (PySem.W.fnOf x qual (defArgs st) (defBody st) (defScope st) .none kV doc pm an cdv ct) ⟨us, []⟩ = pure (ps.zip us)) (S : FnScope N ps (defScope st))
    (hb : ∀ (cdv : Value) (A : Around) (outer : List Env) (s : Shared) (H : Hp) (E : XK) (w0 : Wd), Room k (A.deeper (envOfC qual (defScope st) s.heap.objs.size f cdv)) →
      PSDs (cxOf (L2.CX P w) P w K mg base N qual (defScope st) f cdv A outer s H E) (fun cls d _ H => E cls d H) w0 (defBody st) u) : Callee P w K mg base x (k + 1) ps (runB N.length u) :=
  ⟨f, fd, g, F.kp, F.bindsN hbd, fn_okD F S hb⟩
theorem callee0 {x qual : Str} {st : Stmt} {f : Addr} {fd : FuncData} {ps : List Str} {k : Nat} (g : mg x = some (.ref f)) (F : FunD K x qual (defArgs st) (defBody st) (defScope st) [] [] f fd)
    (hbd : ∀ (kV doc pm : Value) (an : Option Addr) (cdv ct : Value) (us : List Value), us.length = ps.length → bindArgs (PySem.W.fnOf x qual (defArgs st) (defBody st) (defScope st) .none kV doc pm an cdv ct) ⟨us, []⟩ = pure (ps.zip us)) : Callee P w K mg base x k ps (fun _ _ => .bad) :=
  ⟨f, fd, g, F.kp, F.bindsN hbd, ⟨fun vs H Q E ⟨r, G, S', ds, hl, _, hr, _⟩ => by rw [← hr.length]; exact hl, fun _ _ _ _ _ _ _ _ _ _ _ _ _ ⟨_, _, _, _, _, _, _, hP⟩ => hP.elim⟩⟩
theorem hu65 {k : Nat} {A : Around} (r : Room k A) : A.units + 65 < cLine := by have := r.un; omega
end
def dCallN (n : Nat) (F : DF) (fs : DA) : DE := fun g S => (fs g S).bind fun ds S1 => if ds.length = n then (F ds S1).bind fun s S2 => Out.of (frz s) S2 else .bad
def oCallN (n : Nat) (F : DF) (fs : DA) : DA := fun g S => (fs g S).bind fun ds S1 => if ds.length = n then (F ds S1).bind fun s S2 => (match s with
  | .own es => Out.ok es S2
  | _ => .bad) else .bad
section
variable {X : Cx} {W : WX} {w0 : Wd} {k j n : Nat} {ps : List Str} {F : DF} {x : Str} {p pos : Pos} {a b c d e : Expr} {es : List Expr} {fs : DA} {f f' f'' : DE}
theorem pd_fn (C : Callee X.prog X.w X.K X.mg X.base x k ps F) (hr : Room j X.A) (tk : Takes X W) (ha : PDA X W w0 (e :: es) fs) (hj : k ≤ j := by first | decide | omega) (hg : Gl X x := by rfl) (hdb : (x == ("__debug__" : Str)) = false := by decide)
    (he : starEach (e :: es) X.env = (false, eval e X.env) :: starEach es X.env := by rfl) (hpl : (backTo pos (starEach es X.env)).any (·.1) = false := by rfl) (hn : ps.length = n := by rfl) :
    PD X W w0 (.Call (.Name x p) (e :: es) [] pos) (dCallN n F fs) := by
  subst hn
  obtain ⟨f, fd, g, kp, bd, ok⟩ := C
  exact pd_call ok (hr.mono hj) hg g kp bd tk ha hdb he hpl
theorem po_fn (C : Callee X.prog X.w X.K X.mg X.base x k ps F) (hr : Room j X.A) (tk : Takes X W) (ha : PDA X W w0 (e :: es) fs) (hj : k ≤ j := by first | decide | omega) (hg : Gl X x := by rfl) (hdb : (x == ("__debug__" : Str)) = false := by decide)
    (he : starEach (e :: es) X.env = (false, eval e X.env) :: starEach es X.env := by rfl) (hpl : (backTo pos (starEach es X.env)).any (·.1) = false := by rfl) (hn : ps.length = n := by rfl) :
    PDO X W w0 (.Call (.Name x p) (e :: es) [] pos) (oCallN n F fs) := by
  subst hn
  obtain ⟨f, fd, g, kp, bd, ok⟩ := C
  exact po_call ok (hr.mono hj) hg g kp bd tk ha hdb he hpl
/-! ### names, builtins in short -/
theorem vd (i : Nat) {x : Str} (hN : X.N[i]? = some x := by rfl) (hv : Vis X.env.scope x := by first | exact Or.inl rfl | exact Or.inr (Or.inl rfl) | exact Or.inr (Or.inr rfl)) (hd : (x == ("__debug__" : Str)) = false := by decide) (hcd : (x == ("__classdict__" : Str)) = false := by decide) : PD X W w0 (.Name x pos) (dVar i) := pd_vis i hN hv hd hcd
theorem gd {x : Str} {i : Int} (hm : ∃ t, X.mg x = some (.int i t)) (hg : Gl X x := by rfl) (hd : (x == ("__debug__" : Str)) = false := by decide) : PD X W w0 (.Name x pos) (dC (.int i)) := pd_gint hg hm hd
theorem bd {id : String} {o : ON} (hm : X.mg x = none) (hc : CallR X (.builtin id) (rVN X.K o)) (ha : PDA X W w0 (a :: es) fs) (hv : bootBuiltins x = some (.builtin id) := by rfl) (hg : Gl X x := by rfl) (hn : x ≠ "__name__" := by decide) (hdb : (x == ("__debug__" : Str)) = false := by decide)
    (he : starEach (a :: es) X.env = (false, eval a X.env) :: starEach es X.env := by rfl) (hpl : (backTo pos (starEach es X.env)).any (·.1) = false := by rfl) : PD X W w0 (.Call (.Name x p) (a :: es) [] pos) (dFn o fs) := pd_callB hc hg hm hv ha hn hdb he hpl
theorem td {id : String} {o : ON} (hm : X.mg x = none) (hc : CallR X (.type id) (rVN X.K o)) (ha : PDA X W w0 (a :: es) fs) (hv : bootBuiltins x = some (.type id) := by rfl) (hg : Gl X x := by rfl) (hn : x ≠ "__name__" := by decide) (hdb : (x == ("__debug__" : Str)) = false := by decide)
    (he : starEach (a :: es) X.env = (false, eval a X.env) :: starEach es X.env := by rfl) (hpl : (backTo pos (starEach es X.env)).any (·.1) = false := by rfl) : PD X W w0 (.Call (.Name x p) (a :: es) [] pos) (dFn o fs) := pd_callTy hc hg hm hv ha hn hdb he hpl
theorem bo {id : String} {o : List D → Sto → Option (List D)} (hm : X.mg x = none) (hc : CallR X (.builtin id) (rVO X.K o)) (ha : PDA X W w0 (a :: es) fs) (hv : bootBuiltins x = some (.builtin id) := by rfl) (hg : Gl X x := by rfl) (hn : x ≠ "__name__" := by decide) (hdb : (x == ("__debug__" : Str)) = false := by decide)
    (he : starEach (a :: es) X.env = (false, eval a X.env) :: starEach es X.env := by rfl) (hpl : (backTo pos (starEach es X.env)).any (·.1) = false := by rfl) : PDO X W w0 (.Call (.Name x p) (a :: es) [] pos) (oFn o fs) := po_callB hc hg hm hv ha hn hdb he hpl
theorem tyo {id : String} {o : List D → Sto → Option (List D)} (hm : X.mg x = none) (hc : CallR X (.type id) (rVO X.K o)) (ha : PDA X W w0 (a :: es) fs) (hv : bootBuiltins x = some (.type id) := by rfl) (hg : Gl X x := by rfl) (hn : x ≠ "__name__" := by decide) (hdb : (x == ("__debug__" : Str)) = false := by decide)
    (he : starEach (a :: es) X.env = (false, eval a X.env) :: starEach es X.env := by rfl) (hpl : (backTo pos (starEach es X.env)).any (·.1) = false := by rfl) : PDO X W w0 (.Call (.Name x p) (a :: es) [] pos) (oFn o fs) := po_callTy hc hg hm hv ha hn hdb he hpl
theorem isid (T : String) {pT : Pos} (hm : X.mg "isinstance" = none) (hmT : X.mg x = none) (he : PD X W w0 e f) (hT : T ∈ ["int", "bool", "str", "tuple", "list", "dict"] := by decide) (hbT : bootBuiltins x = some (.type T) := by rfl) (hg : Gl X "isinstance" := by rfl) (hgT : Gl X x := by rfl) (hn : x ≠ "__name__" := by decide) (hdb : (x == ("__debug__" : Str)) = false := by decide)
    (hs : starEach [e, .Name x pT] X.env = (false, eval e X.env) :: starEach [.Name x pT] X.env := by rfl) (hs2 : starEach [.Name x pT] X.env = (false, eval (.Name x pT) X.env) :: starEach [] X.env := by rfl) (hpl : (backTo pos (starEach [.Name x pT] X.env)).any (·.1) = false := by rfl) :
    PD X W w0 (.Call (.Name "isinstance" p) [e, .Name x pT] [] pos) (dIsi T f) := pd_isi hT hg hm hgT hmT hbT he hn hdb hs hs2 hpl
def dNeg (f : DE) : DE := fun g S => (f g S).bind fun a S1 => match a with
  | .int i => .ok (.int (-i)) S1
  | _ => .bad
theorem pd_neg (h : PD X W w0 a f) : PD X W w0 (.UnaryOp .USub a pos) (dNeg f) := PE.weak (pe_un un_neg h) fun σ H Q ⟨g, S, R, hl, hA, hP⟩ => by
  refine ⟨g, S, R, hl, hA, hP.bind (List.Sublist.refl _) fun a S1 v1 H1 _ hA1 hP1 => ?_⟩
  cases a with
  | int i => exact ⟨i, At.int hA1, hP1 _ H1 trivial (hA1.tail.push fun _ _ => .int _)⟩
  | _ => exact (show False from hP1).elim
abbrev Gh (X : Cx) (W : WX) (w0 : Wd) (st : Stmt) (f : DS) : Prop := PSD X W w0 st f
theorem hp_of {A : Around} {qual : Str} {scope : Scope} {N : List Str} {f' : Addr} {cdv : Value} {outer : List Env} {s : Shared} {H : Hp} {E : XK} {P : Program} {w : World} {K : Fg} {mg : Str → Option Value} {base : Heap} :
    PassesOwn (model P w) (cxOf (L2.CX P w) P w K mg base N qual scope f' cdv A outer s H E).A (cxOf (L2.CX P w) P w K mg base N qual scope f' cdv A outer s H E).env (cxOf (L2.CX P w) P w K mg base N qual scope f' cdv A outer s H E).xe :=
  L2.passes_of (X := cxOf (L2.CX P w) P w K mg base N qual scope f' cdv A outer s H E) rfl
theorem tk_of {A : Around} {qual : Str} {scope : Scope} {N : List Str} {f' : Addr} {cdv : Value} {outer : List Env} {s : Shared} {H : Hp} {E : XK} {P : Program} {w : World} {K : Fg} {mg : Str → Option Value} {base : Heap} :
    Takes (cxOf (L2.CX P w) P w K mg base N qual scope f' cdv A outer s H E) (fun cls d _ H => E cls d H) := takes_of rfl rfl rfl rfl
end
end DL
/-! DLz: the end of a law over data. -/
namespace DL
open PySem PySem.W PySem.Calls PySem.Spec PyProof.Rows L2
theorem spF_law {K : Fg} {H : Hp} {a : Addr} {ns : List Int} {f : DF} {E : XK} {S' : Sto} (hS : SqL K H a (ns.map V.int)) (h : f [.fz (ns.map D.int)] [] = .ok (.im (.bl true)) S') : spF K 1 f [.ref a] H (fun v _ => v = .bl true) E := by
  refine ⟨fun _ => none, H, [], [.fz (ns.map D.int)], rfl, ⟨fun _ _ h => h, fun l o e => ?_, fun l l' a e => ?_, fun _ _ => rfl⟩, .cons (.fz hS .ofInts) .nil, ?_⟩
  · simp at e
  · obtain ⟨o, e, _⟩ := e
    simp at e
  · rw [h]
    intro v H' hA
    exact hA.bl
theorem walk_ofW {l : OpenLaw} {n k : Nat} {q : Program} {loose : List Str} {XP : (Str → Option Value) → Heap → Prop} {YP : World → Heap → Prop} {d : DefRec} {x : Str}
    (hn : l.most = some n) (hn2 : n ≤ sizeLine) (hdf : d.params.defaults = []) (hr : Room k callerA)
    (F : ∀ (w : World) (mg : Str → Option Value) (fa : Addr) (h : Heap), YP w h → h.Ns mainGlobals mg → mg d.name = some (.ref fa) →
      ∃ (K : Fg) (fd : FuncData) (f : DF), K.In h ∧ (∀ (s : Shared) (u : Value), BindsTo s fd ⟨[u], []⟩ [(x, u)]) ∧
        (∀ (ns : List Int), ns.length ≤ n → (∀ k ∈ ns, Builtin.Int.intBits k ≤ 1048576) → ∃ S', f [.fz (ns.map D.int)] [] = .ok (.im (.bl true)) S') ∧
        ∀ base : Heap, K.In base → base.Ns mainGlobals mg → FnOk l.prog w K mg base (L2.CX l.prog w) k fa fd [x] (spF K 1 f)) :
    WalkO q loose XP YP l.row.toRowW d [] (fun f vs => PySem.call f vs) := by
  refine Att.attach_callB hn hdf fun w s₀ s₁ mg mb fa o pm cd doc a vs ns G Y ho hd hcd hmg hobj hints hlen hbits hg => ?_
  obtain ⟨K, fd, f, KX, hb, hsp, hF⟩ := F w mg fa _ Y G.T.g hmg
  obtain ⟨S', hS'⟩ := hsp ns hlen hbits
  refine law_call KX G.T.g G.T.b G.T.builtins G.T.nolimit hg hobj hints (Nat.le_trans hlen hn2) hr hF hb (fun H hO hS => spF_law hS hS') fun H e s' h => ?_
  obtain ⟨_, _, _, _, _, _, _, _, _, _, _, _, z⟩ := h
  exact z.elim
end DL
/-! DLj: exceptions: raised, caught, held, asked. -/
namespace DL
open PySem PySem.Spec PyProof.Rows L2
/-! ### the class of a held exception -/
section
open PySem.W PySem.Calls
variable {prog : Program} {w : World} {A : Around} {E : Value → Shared → Prop} {s : Shared} {K : Frag} {x D : Addr} {ox : Obj} {od : Option Obj}
theorem found_data {C : Addr} {nm : Str} {a g : Value} (q1 : (clsIn K C).isSome = true) (q2 : findIn K (.ref C) nm = some (some a)) (q3 : specialIn K a "__get__" = some (some g)) (q4 : takesIn K a = some true) : findObj K C od nm = some (.bind g a) := by
  cases e : clsIn K C with
  | none => rw [e] at q1; cases q1
  | some cd => unfold findObj; rw [e, Option.bind_some, q2, Option.bind_some]; simp [q3, q4]
theorem class_of {Q : Option Value → Shared → Prop} (T : ExcC K D) (X : K.In s.heap) (I : InstAt s.heap x ox D od) (h : Q (some (.ref D)) { s with toks := s.toks + 1 }) : wpAny (model prog w) A (getAttr? (.ref x) "__class__") Q E s := by
  have hf : findObj K D od "__class__" = some (.bind (.builtin "getset_descriptor.__get__") (.builtin "object.__class__")) := by
    refine found_data ?_ T.ha T.hn T.ht
    obtain ⟨cd, hc, _⟩ := any_some T.hd
    rw [hc] <;> rfl
  obtain ⟨hp, g, d, t, os⟩ := s
  have ty := I.type (M := model prog w)
  have m1 := looks_findIn (M := model prog w) X T.hg
  have m2 := looks_findIn (M := model prog w) X T.hk
  have m3 := looks_find (M := model prog w) X I hf
  have sub : Looks (model prog w) hp (isInstance (.ref x) (.type "BaseException")) true := ty.andThen (looks_subIn X T.hs)
  have k2 : (Value.builtin "BaseException.__getattribute__" == Value.builtin "object.__getattribute__") = false := by decide +kernel
  have k1 : (onTheHeap (Value.ref D) && Value.builtin "BaseException.__getattribute__" == Value.builtin "object.__getattribute__") = false := by rw [k2] <;> rfl
  have k0 : (false && onTheHeap (Value.builtin "BaseException.__getattribute__")) = false := rfl
  unfold getAttr? getAttrBy? getAttrBy
  refine wpAny_bind (wpAny_mkText (wpAny_bind (wpAny_attempt (wpAny_holding (wpAny_bind (ty.at (wpAny_bind (m1.at ?_))))))))
  show wpAny _ _ (if (onTheHeap (Value.ref D) && Value.builtin "BaseException.__getattribute__" == Value.builtin "object.__getattribute__") = true then _ else _) _ _ _
  rw [k1, if_neg Bool.false_ne_true]; unfold getAttrByItsOwn hookBefore
  refine wpAny_bind ?_
  rw [if_pos (show onTheHeap (Value.ref D) = true from rfl)]
  refine m2.at (wpAny_bind (wpAny_attempt (wpAny_holding ?_)))
  unfold callGetattribute; rw [k0, if_neg Bool.false_ne_true]; unfold boundAndCalled
  rw [PySem.F.excAttr_ValueError.ga.bind (.ref x)]
  refine wpAny_bind (wpAny_pure ?_); show wpAny _ _ (call (.builtin "BaseException.__getattribute__") [.ref x, .str "__class__" t]) _ _ _
  refine wpAny_call (codeAny_call_builtin PySem.F.excAttr_ValueError.ga.plain PySem.F.entry_bexc_ga (@check_slot (model prog w) _ _ ⟨hp, g, d, t + 1, os⟩ "BaseException.__getattribute__" "BaseException" "__getattribute__" (.ref x) [.str "__class__" t] [] _ (by decide +kernel) (by decide +kernel) sub (PySem.F.args_bexc_ga (.ref x) (.str "__class__" t)) ?_))
  unfold Builtin.«object.__getattribute__»
  refine wpAny_bind (wpAny_of_eq (a := ((Value.ref x : Value), [Value.str "__class__" t])) (by first | rfl | (simp only [slotArgs]; rfl)) (wpAny_bind (wpAny_pure (wpAny_bind (ty.at (wpAny_bind (m3.at ?_)))))))
  show wpAny _ _ (holding [Value.builtin "object.__class__"] (call (.builtin "getset_descriptor.__get__") [.builtin "object.__class__", .ref x, .ref D]) >>= ret) _ _ _
  refine wpAny_bind (wpAny_holding (wpAny_call (class_get (s := ⟨hp, g, d, t + 1, os⟩) (ox := ox) (od := od) X I T.hm (wpAny_pure ?_))))
  show wpAny _ _ (handedOut (.ref D)) _ _ _
  rw [handedOut_of (v := .ref D) rfl]
  first
    | exact wpAny_pure (wpAny_pure h)
    | exact wpAny_pure h
    | exact wpAny_pure (wpAny_bind (wpAny_pure (wpAny_pure h)))
theorem kit_exc (T : ExcC K D) : KitX K (.ref x) (.ref D) (fun h => InstAt h x ox D od) where
  ty := fun _ _ _ I => I.type
  it := fun _ _ X _ => by
    obtain ⟨cd, hc, _⟩ := any_some T.hd
    unfold clsIn at hc
    split at hc
    · rename_i c1 d1 cd1 sl1 ho
      intro A1 Q1 E1 s1 k q
      unfold isType loadHead; exact wpAny_bind (wpAny_loadPart (k _ _ (X _ _ ho)) (wpAny_pure q))
    · cases hc
  ne := fun h tp dd its n sl X htp => by
    obtain ⟨cd, hc, _⟩ := any_some T.hd
    refine Bool.eq_false_iff.mpr fun z => ?_
    have e : Value.ref D = Value.ref tp := by simpa using z
    injection e with e
    subst e
    unfold clsIn at hc
    split at hc
    · rename_i c1 d1 cd1 sl1 ho
      have q := (X _ _ ho).symm.trans htp
      cases q
    · cases hc
  ca := fun X I k => class_of T X I k
end
section
variable {X : Cx} {pins : List (Addr × Obj)} {σ : L2.St} {H : Hp} {s : Shared}
/-- a held exception stands as an instance -/
theorem exL_at (I : Inv X pins σ H s) {a C : Addr} {d : Option Addr} (h : H a = some (ExL (.ref C) d a)) (hd : ∀ dx, d = some dx → ∃ fs, H dx = some (.xd fs)) : ∃ ox od, PySem.W.InstAt s.heap a ox C od ∧ (d = none → od = none) ∧ ∀ dx, d = some dx → ∃ o, od = some o ∧ s.heap.get? dx = some o := by
  obtain ⟨⟨oe, vs, ho, ⟨hc, hdd⟩, hv⟩, _, _⟩ := I.hok a _ h
  have nc : PySem.W.notCls oe = true := by unfold PySem.W.notCls; rw [hv] <;> rfl
  cases d with
  | none => exact ⟨oe, none, ⟨ho, hc, nc, by rw [hdd] <;> trivial⟩, fun _ => rfl, fun dx e => nomatch e⟩
  | some dx =>
    obtain ⟨fs, e⟩ := hd dx rfl
    obtain ⟨mA, ⟨o, _, _, e2, _⟩, _⟩ := I.hok dx _ e
    exact ⟨oe, some o, ⟨ho, hc, nc, by rw [hdd]; exact e2⟩, (by intro z; cases z), (by intro dy e; cases e; exact ⟨o, rfl, e2⟩)⟩
/-- isinstance(e, c), e a held exception -/
def rIsX (K : Fg) : List V → Hp → VK → Prop := fun xs H Q => ∃ (a C : Addr) (d : Option Addr) (c : V) (cv : Value) (b : Bool), xs = [.ref a, c] ∧ H a = some (ExL (.ref C) d a) ∧ (∀ dx, d = some dx → ∃ fs, H dx = some (.xd fs)) ∧ ExcC K C ∧ (∀ u, RelV c u → u = cv) ∧ PySem.W.kitOne K (.ref C) cv = some b ∧ Q (.bl b) H
theorem call_isX : CallR X (.builtin "isinstance") (rIsX X.K) := by
  intro pins s σ H xs us Q I r h
  obtain ⟨a, C, d, c, cv, b, rfl, ea, hd, T, hcv, e, q⟩ := h
  obtain ⟨u1, u2, rfl, r1, r2⟩ := vals2 r
  cases r1
  have ec := hcv _ r2
  subst ec
  obtain ⟨ox, od, J, _⟩ := exL_at I ea hd
  exact PySem.W.kia_one (kit_exc T) I.kIn J e (fun z => nomatch z) fun tk => ⟨.bl b, H, I.kept (t' := tk) fun _ _ z => z, rfl, q⟩
/-- e.f, e a held exception -/
def tFx (K : Fg) (f : Str) (te : TE) : TE := fun σ H Q => te σ H fun x H1 => ∃ (a C dd : Addr) (fs : List (Str × V)) (v : V), x = .ref a ∧ H1 a = some (ExL (.ref C) (some dd) a) ∧ H1 dd = some (.xd fs) ∧ XfC K C ∧ PySem.W.findIn K (.ref C) f = some none ∧ fs.lookup f = some v ∧ Q v H1
theorem pe_fx {e : Expr} {te : TE} {pos : Pos} {f : Str} (he : PE X e te) (hb : attributeBase e f X.env (eval e X.env) = eval e X.env := by rfl) : PE X (.Attribute e f pos) (tFx X.K f te) := by
  refine ⟨fun pins s σ H Q I h => attr_of hb (thn (he.run pins s σ H _ I h) fun u s1 ⟨x, H1, I1, rx, a, C, dd, fs, v, ex, ea, ed, T, hno, l, q⟩ => ?_)⟩
  subst ex
  obtain rfl : u = Value.ref a := rx
  obtain ⟨ox, od, J, _, hod⟩ := exL_at I1 ea fun dx e => by cases e; exact ⟨fs, ed⟩
  obtain ⟨o, rfl, ho⟩ := hod dd rfl
  obtain ⟨mA, hns, hr⟩ := I1.hok dd _ ed
  obtain ⟨o', ho', hl⟩ := lookIn_ns hns
  rw [ho] at ho'
  cases ho'
  obtain ⟨y, hy, ry⟩ := RelO.some_of (v := v) (o := mA f) (by rw [← l]; exact hr f)
  exact HandSPX.exc_get I1.kIn J T.ga T.gg T.exC (PySem.W.findObj_own T.hdC hno rfl (by rw [hl, hy])) (handed_of ry) ⟨v, H1, I1.tok _, ry, q⟩
end
/-! ### try .. except x as n: suite -/
section
variable {X : Cx} {pins : List (Addr × Obj)} {σ : L2.St} {H : Hp} {sI s' : Shared} {B : Heap}
/-- back on the ground, the exception tracked -/
theorem landed_held {a : Addr} {φ : Heap → Prop} (I : Inv X pins σ H sI) (nb : ∀ b o, sI.heap.get? b = some o → b ∉ frs X.stack → B.get? b = some o) (st : B.StaysIn s'.heap) (up : sI.heap.UpToSlots s'.heap) (os : s'.os = sI.os) (ag : AllBare s'.gens)
    (hB : B.get? a = none) (nfr : a ∉ frs X.stack) (na : H a = none) (hφ : ObjOk X.prog X.w (upd H a (.ext φ)) s'.heap a (.ext φ)) : Inv X pins σ (upd H a (.ext φ)) s' := by
  have new : ∀ b o, sI.heap.get? b = some o → b ≠ a := fun b o e z => by
    have q := nb b o e (by rw [z]; exact nfr)
    rw [z, hB] at q
    cases q
  have kp : ∀ b u, H b = some u → (upd H a (.ext φ)) b = some u := fun b u e => by rw [upd_ne (fun z => by rw [z, na] at e; cases e)]; exact e
  have nf : ∀ b ∈ frs X.stack, ∀ o, sI.heap.get? b = some o → ∃ sl, s'.heap.get? b = some { o with slots := sl } := fun b hb o e => by
    obtain ⟨_, o1, e1, hd⟩ := I.stack.mem hb
    rw [e] at e1
    cases e1; exact up b o e hd
  have ok0 : HOk X.prog X.w H s'.heap := (I.inGround nb).kept st
  have ok1 : HOk X.prog X.w (upd H a (.ext φ)) s'.heap := fun b u e => by
    by_cases z : b = a
    · subst z
      rw [upd_same] at e
      cases e
      exact hφ
    · rw [upd_ne z] at e
      exact (ok0 b u e).stay (fun c v _ q => q) (fun c q => kp c _ q) fun c xs q => kp c _ q
  have J := I.call (ch := []) (h' := s'.heap) (g' := s'.gens) (t' := s'.toks) (d' := s'.drawn) (H' := upd H a (.ext φ))
    { keep := fun b o e _ hb _ => st b o (nb b o e hb), slot := fun b o e _ hb _ => nf b hb o e, free := fun b o e n _ => by rw [upd_ne (new b o e)]; exact n,
      there := fun b o e _ => Classical.byCases (fun hb : b ∈ frs X.stack => let ⟨sl, q⟩ := nf b hb o e; ⟨_, q⟩) fun hb => ⟨o, st b o (nb b o e hb)⟩,
      tups := fun b xs e => kp b _ e, frzs := fun b o u e => kp b _ e, tbls := fun b ps e => ⟨#[], by rw [kp b _ e]; simp⟩ } ok1 ag (fun _ z => nomatch z)
  obtain ⟨a1, a2, a3, a4, a5⟩ := s'
  have e5 : a5 = sI.os := os
  subst e5
  exact J
end
/-- what the clause wishes: the exception held, in slot i -/
def wHeld (K : Fg) (c : Value) (i : Nat) (ts : TS) (Wout : WX) (D : Ends) : WX := fun cls d σ H => ∃ b, PySem.W.exmOne K cls c = some b ∧
  (b = true → ∀ a, H a = none → ts { nx := fun σ' H' => D.nx (σ'.set i none) H', rt := D.rt, bk := fun σ' H' => D.bk (σ'.set i none) H', ct := fun σ' H' => D.ct (σ'.set i none) H' } (σ.set i (some (.ref a))) (upd H a (ExL cls d a))) ∧ (b = false → Wout cls d σ H)
section
variable {X : Cx} {x n : Str} {c : Value} {i : Nat} {body suite : List Stmt} {b₀ : Stmt} {np pos pos' : Pos} {tb : WX → TS} {ts : TS} {Wout : WX}
theorem exL_ok {P : Program} {w : World} {H : Hp} {h : Heap} {a : Addr} {cls : Value} {d : Option Addr} {oe : Obj} {vs : Array Value} (e : h.get? a = some oe) (z : Zc cls d oe) (q : oe.data = .fields vs) : ObjOk P w H h a (ExL cls d a) :=
  ⟨⟨oe, vs, e, z, q⟩, ⟨oe, e⟩, fun _ _ ⟨o, v, p, r⟩ k => ⟨o, v, k o p, r⟩⟩
/-- the context of a suite -/
abbrev suiteC (X : Cx) (a : Addr) (pn : List (Addr × Obj)) : Cx := X.suite a pn
theorem to_suite {a : Addr} {pins : List (Addr × Obj)} {σ : L2.St} {H : Hp} {s : Shared} (I : Inv X pins σ H s) : Inv (suiteC X a (X.pn ++ pins)) [] σ H s :=
  ⟨I.ok.suite _ _, I.os, I.bare, I.base, I.loc, I.cell, I.free, I.freeC, fun p hp => I.pin p (by rw [List.append_nil] at hp; exact hp), I.hok, I.len⟩
theorem of_suite {a : Addr} {pins pn' : List (Addr × Obj)} {σ : L2.St} {H : Hp} {s : Shared} (I : Inv (suiteC X a (X.pn ++ pins)) pn' σ H s) (ok : X.Ok) : Inv X pins σ H s :=
  ⟨ok, I.os, I.bare, I.base, I.loc, I.cell, I.free, I.freeC, fun p hp => I.pin p (List.mem_append_left _ hp), I.hok, I.len⟩
theorem ps_try_held (hs : X.stack = X.env :: X.outer) (hf : X.env.frame = some X.env.locals) (hN : X.N.Nodup) (hi : X.N[i]? = some n) (hln : X.env.kindOf n = some .local) (hc : Names X x c) (tk : Takes X Wout)
    (hb : ∀ (W : WX) (pn : List (Addr × Obj)) (xe : Value → Shared → Prop), Takes (X.tr pn xe) W → PassesOwn (model X.prog X.w) X.A X.env xe → PSs (X.tr pn xe) body (tb W)) (hsu : ∀ (a : Addr) (pn : List (Addr × Obj)), PSs (suiteC X a pn) (b₀ :: suite) ts) :
    PS X (.Try body [.ExceptHandler (some (.Name x np)) (some n) (b₀ :: suite) pos'] [] [] pos) (fun D σ H => tb (wHeld X.K c i ts Wout D) D σ H) := by
  refine ⟨fun pins s σ H D I h => wpAny_Try_except ?_⟩
  have ok := I.ok
  have frm : X.A.frames = some (X.env :: X.outer) := by rw [ok.frames, hs]
  have lcl : Loc X.env.scope n := .inl hln
  refine wpAny_mono ((hb (wHeld X.K c i ts Wout D) (X.pn ++ pins) (fun e s₁ => wpAny (model X.prog X.w) X.A (noteFrame e X.env) (fun _ s₂ => wpAny (model X.prog X.w) X.A (setFlight e none)
    (fun _ s₃ => wpAny (model X.prog X.w) X.A (handleBy e X.env [.ExceptHandler (some (.Name x np)) (some n) (b₀ :: suite) pos']) (SP X pins D) X.xe s₃) X.xe s₂) X.xe s₁) (fun u s' xx => ?_) PassesOwn.looking).run [] s σ H D (I.toTry _) h) (fun f s1 hsp => ?_) (fun e s1 he => he)
  · obtain ⟨a, B, sI, pins1, σ1, H1, cls, d, rfl, J0, nb, up, sky, na, os, ag, b, hb1, yes, no⟩ := xx
    have J : Inv X pins σ1 H1 sI := J0.ofTry ok
    show wpAny (model X.prog X.w) X.A (noteFrame (.ref a) X.env) _ _ _
    refine Sky.land Zc.steady frm hf (show Sky B (X.env :: X.outer) a (Zc cls d) X.env.locals s'.heap by rw [← hs]; exact sky) fun h3 fl3 up3 => ?_
    have J3 : Inv X pins σ1 H1 { s' with heap := h3 } := J.landed nb fl3.1 (up.trans up3) os ag
    obtain ⟨oe3, vs3, he3, hz3, hd3⟩ := fl3.there
    have nfr : a ∉ frs (X.env :: X.outer) := fun hm => by
      obtain ⟨_, o1, e1, hnf⟩ := fl3.2.2.1.mem hm
      rw [he3] at e1
      cases e1
      exact hnf _ hd3
    refine wpAny_handleBy_cons (codeAny_handlers_test ?_) (by intro q; cases q)
    have lt : PySem.W.Looks (model X.prog X.w) h3 (typeOf (.ref a)) cls := fun A Q E s k q => wpAny_typeOf_ref (k _ _ he3) (by rw [hz3.1]; exact q)
    have lm := PySem.W.exm_one (M := model X.prog X.w) (J3.kIn) lt hb1
    have S3 := to_suite (a := a) J3
    have test : ∀ {Q : Value → Shared → Prop} {E : Value → Shared → Prop}, Q c { s' with heap := h3 } → wpAny (model X.prog X.w) (X.A.mark (some (.ref a))) (eval (.Name x np) X.env) Q E { s' with heap := h3 } := fun {Q E} q => by
      obtain ⟨g1, g2, g3 | ⟨g3, g4, g5⟩⟩ := hc
      · exact ld_glob (X := suiteC X a (X.pn ++ pins)) S3 g1 g3 q g2
      · exact ld_blt (X := suiteC X a (X.pn ++ pins)) S3 g1 g3 g4 q g5 g2
    refine test (lm.here ?_)
    cases b with
    | true =>
      refine codeAny_handlers_suite_as (HandSPX.lands_againZ fl3 fun h4 fl4 up4 => ?_)
      obtain ⟨oe4, vs4, he4, hz4, hd4⟩ := fl4.there
      have J4 : Inv X pins σ1 (upd H1 a (ExL cls d a)) { s' with heap := h4 } := landed_held J nb fl4.1 ((up.trans up3).trans up4) os ag fl4.2.1 (by rw [hs]; exact nfr) na (exL_ok he4 hz4 hd4)
      refine store_ok (X := suiteC X a (X.pn ++ pins)) (v := .ref a) (to_suite J4) hN hi lcl rfl (fun s5 S5 => ?_) (.inr hln)
      refine wpAny_mono ((hsu a (X.pn ++ pins)).run [] s5 _ _ _ S5 (yes rfl a na)) (fun f s6 hsp => ?_) (fun _ _ z => False.elim z)
      have fin : ∀ {σ6 : L2.St} {H6 : Hp} {Q : Shared → Prop}, Inv (suiteC X a (X.pn ++ pins)) [] σ6 H6 s6 → (∀ s7, Inv X pins (σ6.set i none) H6 s7 → Q s7) → wpAny (model X.prog X.w) X.A (do bindName X.env n .none; unbindBehindTheSuite X.env n pos') (fun _ s7 => Q s7) X.xe s6 :=
        fun {σ6 H6 Q} S6 hq => gone_ok (of_suite S6 ok) hN hi hln hq
      cases f with
      | ret u =>
        obtain ⟨v6, σ6, H6, S6, r6, q6⟩ := hsp; exact fin S6 fun s7 J7 => ⟨_, _, _, J7, r6, q6⟩
      | _ => obtain ⟨σ6, H6, S6, q6⟩ := hsp; exact fin S6 fun s7 J7 => ⟨_, _, J7, q6⟩
    | false =>
      show wpAny _ X.A (handleBy (.ref a) X.env []) _ _ _
      obtain ⟨k1, k2, k3, oe, vs, T, oT, ts', he, hz, hd, h1, hr⟩ := id fl3
      refine wpAny_handleBy_nil ?_; unfold PySem.passOn
      refine wpAny_bind (wpAny_field he hd h1 ?_); rw [if_neg (show ¬ ((Value.ref T == Value.none) = true) from by simp)]
      have fin : wpAny (model X.prog X.w) X.A (setFlight (.ref a) X.env.frame) (fun _ s4 => wpAny (model X.prog X.w) X.A (throw (.ref a) : Sem Flow) (SP X pins D) X.xe s4) X.xe { s' with heap := h3 } := by
        rw [hf]; exact HandSPX.setFlight_upZ fl3 fun h4 hh4 up4 => wpAny_throw (tk _ _ ⟨a, B, sI, pins, σ1, H1, cls, d, rfl, J, nb, (up.trans up3).trans up4, .inr (.inr (by rw [hs]; exact hh4)), na, os, ag, no rfl⟩)
      first
        | exact wpAny_bind (wpAny_pure (wpAny_bind fin))
        | exact wpAny_bind fin
  · cases f with
    | next => obtain ⟨σ1, H1, J1, q⟩ := hsp; exact wpAny_execs_nil ⟨σ1, H1, J1.ofTry ok, q⟩
    | ret u => obtain ⟨v, σ1, H1, J1, r, q⟩ := hsp; exact ⟨v, σ1, H1, J1.ofTry ok, r, q⟩
    | _ => obtain ⟨σ1, H1, J1, q⟩ := hsp; exact ⟨σ1, H1, J1.ofTry ok, q⟩
end
end DL
/-! DLk: raise, try, held exceptions over data. -/
namespace DL
open PySem PySem.Spec PyProof.Rows L2
/-! ### classes -/
structure ExFx (K : Fg) (mg : Str → Option Value) (c : Str) : Prop where
  g : mg c = some (.ref (He.ga K c))
  q : PySem.W.excIn K (He.ga K c) He.veBase "ValueError.__new__" = true
  k : PySem.W.keepIn K (.ref (He.ga K c)) = true
  s : PySem.W.subIn K (.ref (He.ga K c)) (.type "BaseException") = some true
  t : PySem.W.typeIn K (.ref (He.ga K c)) = some (.type "type")
/-- a class whose own __init__ is another's text -/
def oexB (K : Fg) (C : Addr) : Bool := (match K.lookup C with
  | some ⟨.type "type", _, .cls cd, sl⟩ => (match cd.mro, sl.toList with
    | .ref C1 :: bm, [_, _, _, _, some (.builtin n), _] => C1 == C && n == "ValueError.__new__" && !cd.hasDel && cd.hasDict && PySem.HandSPX.refsVE bm
    | _, _ => false)
  | _ => false) && (decide (PySem.W.findIn K (.ref C) "__setattr__" = some (some (.builtin "object.__setattr__"))) && (decide (PySem.W.subIn K (.ref C) (.type "BaseException") = some true) && (decide (PySem.W.typeIn K (.ref C) = some (.type "type")) && PySem.W.keepIn K (.ref C))))
theorem oexB_ok {K : Fg} {C : Addr} (h : oexB K C = true) : OexC K C := by
  unfold oexB at h
  rw [Bool.and_eq_true, Bool.and_eq_true, Bool.and_eq_true, Bool.and_eq_true, decide_eq_true_iff, decide_eq_true_iff, decide_eq_true_iff] at h
  obtain ⟨h1, h2, h3, h4, h5⟩ := h
  refine ⟨?_, h2, h3, h4, h5⟩
  split at h1
  · rename_i dd cd sl ho
    split at h1
    · rename_i C1 bm k0 k1 k2 k3 n k5 hm hs
      simp only [Bool.and_eq_true, beq_iff_eq, Bool.not_eq_true'] at h1
      obtain ⟨⟨⟨⟨rfl, rfl⟩, hdel⟩, hdc⟩, hr⟩ := h1
      obtain ⟨nm, bs, mro, ns, qn, hd, sn, sub, ab, col, del⟩ := cd
      dsimp only at hm hdel hdc
      subst hm hdel hdc
      have hsl : sl = #[k0, k1, k2, k3, some (.builtin "ValueError.__new__"), k5] := by
        obtain ⟨l⟩ := sl
        simp only at hs
        rw [hs]
      subst hsl
      exact ⟨nm, qn, ns, bs, bm, sn, sub, ab, col, dd, k0, k1, k2, k3, k5, ho, hr⟩
    · cases h1
  · cases h1
/-- what isinstance asks of a class of exceptions -/
def excB (K : Fg) (C : Addr) : Bool := decide (PySem.W.findIn K (.ref C) "__getattribute__" = some (some (.builtin "BaseException.__getattribute__"))) && (decide (PySem.W.findIn K (.ref C) "__getattr__" = some none) && (decide (PySem.W.subIn K (.ref C) (.type "BaseException") = some true) && (PySem.W.hasDictIn K C &&
  (decide (PySem.W.findIn K (.ref C) "__class__" = some (some (.builtin "object.__class__"))) && (decide (PySem.W.specialIn K (.builtin "object.__class__") "__get__" = some (some (.builtin "getset_descriptor.__get__"))) && (decide (PySem.W.takesIn K (.builtin "object.__class__") = some true) && decide (PySem.W.mroIn K C (.type "object") = some true)))))))
theorem excB_ok {K : Fg} {C : Addr} (h : excB K C = true) : ExcC K C := by
  unfold excB at h
  simp only [Bool.and_eq_true, decide_eq_true_iff] at h
  obtain ⟨h1, h2, h3, h4, h5, h6, h7, h8⟩ := h
  exact ⟨h1, h2, h3, h4, h5, h6, h7, h8⟩
theorem excX {K : Fg} {C : Addr} (h : ExcC K C) : XfC K C := ⟨h.hg, h.hk, h.hs, h.hd⟩
/-! ### raise -/
section
variable {X : Cx} {W : WX} {w0 : Wd} {pos : Pos} {a b c d e : Expr} {f f' : DE} {es : List Expr} {x : Str} {p p2 cpos : Pos}
def dRaise0 (c : Str) : DS := fun g S => .ex ⟨c, none⟩ g S
theorem psd_raise0 {m : Str} {j : Nat} (T : ExFx X.K X.mg x) (hc : X.calm = true) (tk : Takes X W) (hg : Gl X x := by rfl) (hdb : (x == ("__debug__" : Str)) = false := by decide) :
    PSD X W w0 (.Raise (some (.Call (.Name x p) [.Constant (.str m) j p2] [] cpos)) none pos) (dRaise0 x) :=
  PS.weak (ps_raise hc tk (pmk_own PySem.F.excBase_ValueError T.q T.g T.k (raises_own T.s T.t) hg hdb)) fun D σ H ⟨g, S, R, hl, hA, hP⟩ => hP σ _ _ H rfl hl ⟨rfl, rfl, hA⟩
def spInit (K : Fg) (f : Str) : Sp := fun vs H Q E => ∃ (a C : Addr) (y : V), vs = [.ref a, y] ∧ OexC K C ∧ PySem.W.findIn K (.ref C) f = some none ∧ H a = some (exo a C none) ∧ ∀ dx, H dx = none → dx ≠ a → Q .non (upd (upd H dx (exd dx [(f, y)])) a (exo a C (some dx)))
/-- what is known of a class with a field of its own -/
structure OxFx (P : Program) (w : World) (K : Fg) (mg : Str → Option Value) (base : Heap) (c f : Str) (k : Nat) : Prop where
  g : mg c = some (.ref (He.ga K c))
  o : OexC K (He.ga K c)
  no : PySem.W.findIn K (.ref (He.ga K c)) f = some none
  ini : ∃ fI fd ps, PySem.W.findIn K (.ref (He.ga K c)) "__init__" = some (some (.ref fI)) ∧ PySem.W.typeIn K (.ref fI) = some (.type "function") ∧ Binds K fd ps [] ∧ FnOk P w K mg base (L2.CX P w) k fI fd ps (spInit K f)
def dRaiseF (c f : Str) (fe : DE) : DS := fun g S => dWith (fe g S) g fun d S1 => .ex ⟨c, some (f, d)⟩ g S1
theorem psd_raiseF {k j : Nat} {fn : Str} (T : OxFx X.prog X.w X.K X.mg X.base x fn k) (hc : X.calm = true) (tk : Takes X W) (hr : Room j X.A) (he : PD X W w0 e f) (hj : k + 1 ≤ j := by first | decide | omega) (hg : Gl X x := by rfl) (hdb : (x == ("__debug__" : Str)) = false := by decide)
    (hs : starEach [e] X.env = (false, eval e X.env) :: starEach [] X.env := by rfl) (hpl : (backTo cpos (starEach [] X.env)).any (·.1) = false := by rfl) :
    PSD X W w0 (.Raise (some (.Call (.Name x p) [e] [] cpos)) none pos) (dRaiseF x fn f) := by
  obtain ⟨fI, fd, ps, iC, tI, bd, ok⟩ := T.ini
  refine PS.weak (ps_raise hc tk (pmk_oex T.o iC tI ok (hr.mono hj) bd .nil passL hg T.g (pa_cons he pa_nil hs) hdb hs hpl)) fun D σ H ⟨g, S, R, hl, hA, hP⟩ => ?_
  refine ⟨g, S, R, hl, hA, hP.with hl fun d S1 v H1 _ hA1 hP1 => ⟨(show 1 ≤ 1000 by decide), fun a na => ?_⟩⟩
  refine ⟨a, _, v, rfl, T.o, T.no, upd_same, fun dx hdx nx => ⟨rfl, dx, [(fn, v)], upd_same, by rw [upd_ne nx, upd_same], ?_, ?_⟩⟩
  · have z : (upd H1 a (exo a (He.ga X.K x) none)) dx = none := hdx
    rw [upd_ne nx] at z
    exact z
  · have hd1 : H1 dx = none := by
      have z : (upd H1 a (exo a (He.ga X.K x) none)) dx = none := hdx
      rw [upd_ne nx] at z
      exact z
    have eH : upd (L2.del (upd (upd (upd H1 a (exo a (He.ga X.K x) none)) dx (exd dx [(fn, v)])) a (exo a (He.ga X.K x) (some dx))) a) dx (.xd [(fn, v)]) = upd H1 dx (.xd [(fn, v)]) := by
      funext b
      by_cases e1 : b = dx
      · rw [e1, upd_same, upd_same]
      · rw [upd_ne e1, upd_ne e1]
        by_cases e2 : b = a
        · rw [e2, L2.del_same, na]
        · rw [L2.del_ne e2, upd_ne e2, upd_ne e1, upd_ne e2]
    rw [eH]
    obtain ⟨r, G, st, rl, ro, kd⟩ := At.one (R := R ++ zs g σ) hA1
    obtain ⟨s2, rl2⟩ := step_new rl hd1 (.xd [(fn, v)])
    exact hP1 σ _ _ _ rfl hl ⟨rfl, dx, v, r, _, rfl, st.trans s2, rl2, ro.step s2, upd_same, kd.mono (fun _ _ h => h) s2.ext⟩
end
/-- self.f = item keeps its promise -/
theorem init_ok {P : Program} {w : World} {K : Fg} {mg : Str → Option Value} {base : Heap} {x qual f : Str} {params : Arguments} {body : List Stmt} {scope : Scope} {fI : Addr} {fd : FuncData} {s y : Str} {k : Nat} (F : FunD K x qual params body scope [] [] fI fd) (S : FnScope [s, y] [s, y] scope)
    (hb : ∀ (cdv : Value) (A : Around) (outer : List Env) (sh : Shared) (H : Hp) (E : XK), PSs (cxOf (L2.CX P w) P w K mg base [s, y] qual scope fI cdv A outer sh H E) body (tOst K f (tVar 0) (tVar 1))) : FnOk P w K mg base (L2.CX P w) (k + 1) fI fd [s, y] (spInit K f) := by
  refine F.ok S (fun vs H Q E ⟨a, C, y, e, _⟩ => by rw [e]; rfl) fun cdv A outer sh H vs Q E hr ⟨a, C, y, e, T, no, ea, hQ⟩ => ?_
  subst e
  exact ⟨_, hb cdv A outer sh H E, y, rfl, .ref a, rfl, a, C, rfl, T, no, .inl ⟨ea, fun dx n ne => hQ dx n ne⟩⟩
/-! ### try -/
def exD (x : Exn) : D := match x.f with
  | none => .exc x.c Str.empty []
  | some (f, d) => .exc x.c f [d]
def dTry (i : Nat) (cs : List Str) (ct : Str → Bool) (u us : DS) : DS := fun g S => match u g S with
  | .ex x g1 S1 => if x.c ∈ cs then (if ct x.c = true then (match us (g1.set i (.im (exD x))) S1 with
    | .nx g2 S2 => .nx (g2.set i .no) S2
    | .bk g2 S2 => .bk (g2.set i .no) S2
    | .ct g2 S2 => .ct (g2.set i .no) S2
    | .rt s S2 => .rt s S2
    | _ => .bad) else .ex x g1 S1) else .bad
  | o => o
section
variable {X : Cx} {W : WX} {w0 : Wd}
theorem At.dropSlot {K : Fg} {R : List Rt} {g : Ev} {σ : L2.St} {H : Hp} {S : Sto} {i : Nat} (x : At K w0 (R ++ zs g σ) H S) : At K w0 (R ++ zs (g.set i .no) (σ.set i none)) H S := by
  rw [zip_set2, app_set]
  obtain ⟨r, G, s, rl, ro⟩ := x
  exact ⟨r, G, s, rl, Roots.move (q := (.no, none)) ⟨fun q hq => by
    rcases List.mem_cons.mp hq with z | z
    · subst z; trivial
    · exact ro.ok q z, List.pairwise_cons.mpr ⟨fun q _ => apart_no q, ro.ap⟩⟩ _⟩
theorem held_at {K : Fg} {R : List Rt} {g : Ev} {σ : L2.St} {H : Hp} {S : Sto} {i : Nat} {x : Exn} {cls : Value} {dd : Option Addr} {a : Addr} (h : XAt K w0 (R ++ zs g σ) H S x cls dd) (na : H a = none) :
    At K w0 (R ++ zs (g.set i (.im (exD x))) (σ.set i (some (.ref a)))) (upd H a (ExL cls dd a)) S := by
  obtain ⟨c, xf⟩ := x
  obtain ⟨ec, h⟩ := h
  have ec : cls = .ref (He.ga K c) := ec
  subst ec
  refine At.setSlot ?_
  cases xf with
  | none =>
    obtain ⟨rfl, r, G, st, rl, ro⟩ := h
    obtain ⟨s2, rl2⟩ := step_new rl na (ExL (.ref (He.ga K c)) none a)
    exact ⟨r, _, st.trans s2, rl2, (ro.step s2).push (.exc upd_same)⟩
  | some p =>
    obtain ⟨f, d⟩ := p
    obtain ⟨dx, v, r, G, rfl, st, rl, ro, hx, kd⟩ := h
    obtain ⟨s2, rl2⟩ := step_new rl na (ExL (.ref (He.ga K c)) (some dx) a)
    exact ⟨r, _, st.trans s2, rl2, (ro.step s2).push (.excF upd_same (s2.ext _ _ hx) (.cons (kd.mono (fun _ _ h => h) s2.ext) .nil))⟩
theorem psd_try {x n : Str} {i : Nat} {body suite : List Stmt} {b₀ : Stmt} {np pos pos' : Pos} {u us : DS} {cs : List Str} {ct : Str → Bool} {cv : Value} (hs : X.stack = X.env :: X.outer) (hf : X.env.frame = some X.env.locals) (hN : X.N.Nodup) (hi : X.N[i]? = some n) (hln : X.env.kindOf n = some .local) (hc : Names X x cv) (tk : Takes X W)
    (hm : ∀ c ∈ cs, PySem.W.exmOne X.K (.ref (He.ga X.K c)) cv = some (ct c))
    (hb : ∀ (W : WX) (pn : List (Addr × Obj)) (xe : Value → Shared → Prop), Takes (X.tr pn xe) W → PassesOwn (model X.prog X.w) X.A X.env xe → PSDs (X.tr pn xe) W w0 body u) (hsu : ∀ (a : Addr) (pn : List (Addr × Obj)), PSDs (suiteC X a pn) WF w0 (b₀ :: suite) us) :
    PSD X W w0 (.Try body [.ExceptHandler (some (.Name x np)) (some n) (b₀ :: suite) pos'] [] [] pos) (dTry i cs ct u us) :=
  PS.weak (ps_try_held (tb := fun W => rdS X.K W w0 u) (ts := rdS X.K WF w0 us) hs hf hN hi hln hc tk hb hsu) fun D σ H ⟨g, S, R, hl, hA, hP⟩ => by
    refine ⟨g, S, R, hl, hA, ?_⟩
    unfold dTry at hP
    generalize u g S = o at hP
    cases o with
    | nx g1 S1 => exact hP
    | rt s S1 => exact hP
    | bk g1 S1 => exact hP
    | ct g1 S1 => exact hP
    | bad => exact hP
    | ex x1 g1 S1 =>
      intro σ1 cls dd H1 l1 l2 hx
      have hP : PostS X.K W w0 R σ.length D (if x1.c ∈ cs then (if ct x1.c = true then (match us (g1.set i (.im (exD x1))) S1 with
        | .nx g2 S2 => .nx (g2.set i .no) S2
        | .bk g2 S2 => .bk (g2.set i .no) S2
        | .ct g2 S2 => .ct (g2.set i .no) S2
        | .rt s S2 => .rt s S2
        | _ => .bad) else .ex x1 g1 S1) else .bad) := hP
      split at hP
      · rename_i hcs
        have em : PySem.W.exmOne X.K cls cv = some (ct x1.c) := by rw [hx.1]; exact hm _ hcs
        refine ⟨ct x1.c, em, fun hb1 a na => ?_, fun hb1 => ?_⟩
        · rw [if_pos hb1] at hP
          refine ⟨g1.set i (.im (exD x1)), S1, R, by rw [List.length_set, List.length_set, l1, l2], held_at hx na, ?_⟩
          generalize us (g1.set i (.im (exD x1))) S1 = o2 at hP
          have el : (σ1.set i (some (V.ref a))).length = σ.length := by rw [List.length_set, l1]
          rw [el]
          cases o2 with
          | nx g2 S2 => exact fun σ2 H2 k1 k2 x2 => hP _ H2 (by rw [List.length_set, k1]) (by rw [List.length_set, k2]) x2.dropSlot
          | bk g2 S2 => exact fun σ2 H2 k1 k2 x2 => hP _ H2 (by rw [List.length_set, k1]) (by rw [List.length_set, k2]) x2.dropSlot
          | ct g2 S2 => exact fun σ2 H2 k1 k2 x2 => hP _ H2 (by rw [List.length_set, k1]) (by rw [List.length_set, k2]) x2.dropSlot
          | rt s S2 => exact hP
          | ex _ _ _ => exact (show False from hP).elim
          | bad => exact (show False from hP).elim
        · rw [if_neg (by rw [hb1]; exact Bool.false_ne_true)] at hP
          exact hP σ1 cls dd H1 l1 l2 hx
      · exact (show False from hP).elim
end
/-! ### asking a held exception -/
section
variable {X : Cx} {W : WX} {w0 : Wd} {pos : Pos} {e : Expr} {f : DE} {x : Str} {p pT : Pos}
def dIsX (cs : List Str) (ct : Str → Bool) (f : DE) : DE := fun g S => (f g S).bind fun d S1 => match d with
  | .exc c _ _ => if c ∈ cs then .ok (.bl (ct c)) S1 else .bad
  | _ => .bad
theorem exc_rep {K : Fg} {w : Wd} (rl : Rel K w) {c f : Str} {ds : List D} {v : V} (k : Rep K w.r w.G (.exc c f ds) v) : ∃ a d, v = .ref a ∧ w.H a = some (ExL (.ref (He.ga K c)) d a) ∧ ∀ dx, d = some dx → ∃ fs, w.H dx = some (.xd fs) := by
  cases k with
  | exc g => exact ⟨_, none, rfl, rl.sub _ _ g, fun dx e => nomatch e⟩
  | excF g g2 _ => exact ⟨_, _, rfl, rl.sub _ _ g, fun dx e => by cases e; exact ⟨_, rl.sub _ _ g2⟩⟩
theorem rd_isX {cs : List Str} {ct : Str → Bool} {cv : Value} {c2 : V} {ta : TE} {σ : L2.St} {H : Hp} {Q : VK} (hcv : ∀ u, RelV c2 u → u = cv) (hT : ∀ c ∈ cs, ExcC X.K (He.ga X.K c)) (hm : ∀ c ∈ cs, PySem.W.kitOne X.K (.ref (He.ga X.K c)) cv = some (ct c)) (h : rd rtE okE X.K W w0 (dIsX cs ct f) σ H Q) :
    rd rtE okE X.K W w0 f σ H fun v H1 => rIsX X.K [v, c2] H1 Q := by
  obtain ⟨g, S, R, hl, hA, hP⟩ := h
  refine ⟨g, S, R, hl, hA, hP.bind (List.Sublist.refl _) fun d S1 v H1 _ hA1 hP1 => ?_⟩
  cases d with
  | exc c f1 ds =>
    have hP1 : Post rtE okE X.K W w0 σ (R ++ zs g σ) Q (if c ∈ cs then .ok (.bl (ct c)) S1 else .bad) := hP1
    split at hP1
    · rename_i hc
      obtain ⟨r, G, st, rl, ro, k⟩ := At.one (R := R ++ zs g σ) hA1
      obtain ⟨a, dd, rfl, ha, hd⟩ := exc_rep rl k
      exact ⟨a, _, dd, c2, cv, ct c, rfl, ha, hd, hT c hc, hcv, hm c hc, hP1 _ H1 trivial ⟨r, G, st, rl, ro.push (.bl _)⟩⟩
    · exact hP1.elim
  | _ => exact (show False from hP1).elim
/-- isinstance(e, x), x an own class -/
theorem isx {cs : List Str} {ct : Str → Bool} (hm : X.mg "isinstance" = none) (gx : X.mg x = some (.ref (He.ga X.K x))) (hT : ∀ c ∈ cs, ExcC X.K (He.ga X.K c)) (hk : ∀ c ∈ cs, PySem.W.kitOne X.K (.ref (He.ga X.K c)) (.ref (He.ga X.K x)) = some (ct c)) (he : PD X W w0 e f) (hg : Gl X "isinstance" := by rfl) (hgT : Gl X x := by rfl) (hdb : (x == ("__debug__" : Str)) = false := by decide)
    (hs : starEach [e, .Name x pT] X.env = (false, eval e X.env) :: starEach [.Name x pT] X.env := by rfl) (hs2 : starEach [.Name x pT] X.env = (false, eval (.Name x pT) X.env) :: starEach [] X.env := by rfl) (hpl : (backTo pos (starEach [.Name x pT] X.env)).any (·.1) = false := by rfl) :
    PD X W w0 (.Call (.Name "isinstance" p) [e, .Name x pT] [] pos) (dIsX cs ct f) :=
  PE.weak (pe_callB call_isX hg hm rfl (pa_cons he (pa_cons (pe_glob (v := .ref (He.ga X.K x)) hgT gx rfl hdb) pa_nil hs2) hs) (by decide) (by decide) hs hpl) fun σ H Q h => rd_isX (c2 := .ref (He.ga X.K x)) (ta := rd rtE okE X.K W w0 f) (fun u r => r) hT hk h
/-- isinstance(e, ValueError) -/
theorem isxT (T : String) {cs : List Str} {ct : Str → Bool} (hm : X.mg "isinstance" = none) (hmT : X.mg x = none) (hT : ∀ c ∈ cs, ExcC X.K (He.ga X.K c)) (hk : ∀ c ∈ cs, PySem.W.kitOne X.K (.ref (He.ga X.K c)) (.type T) = some (ct c)) (he : PD X W w0 e f) (hbT : bootBuiltins x = some (.type T) := by rfl) (hg : Gl X "isinstance" := by rfl) (hgT : Gl X x := by rfl) (hn : x ≠ "__name__" := by decide) (hdb : (x == ("__debug__" : Str)) = false := by decide)
    (hs : starEach [e, .Name x pT] X.env = (false, eval e X.env) :: starEach [.Name x pT] X.env := by rfl) (hs2 : starEach [.Name x pT] X.env = (false, eval (.Name x pT) X.env) :: starEach [] X.env := by rfl) (hpl : (backTo pos (starEach [.Name x pT] X.env)).any (·.1) = false := by rfl) :
    PD X W w0 (.Call (.Name "isinstance" p) [e, .Name x pT] [] pos) (dIsX cs ct f) :=
  PE.weak (pe_callB call_isX hg hm rfl (pa_cons he (pa_cons (pe_bltn (v := .ty T) hgT hmT hbT rfl hn hdb) pa_nil hs2) hs) (by decide) (by decide) hs hpl) fun σ H Q h => rd_isX (c2 := .ty T) (ta := rd rtE okE X.K W w0 f) (fun u r => r) hT hk h
/-- e.f -/
def dFx (cs : List Str) (fn : Str) (f : DE) : DE := fun g S => (f g S).bind fun d S1 => match d with
  | .exc c f1 [d] => if c ∈ cs ∧ f1 = fn then .ok d S1 else .bad
  | _ => .bad
theorem pd_fx {cs : List Str} {fn : Str} (hT : ∀ c ∈ cs, ExcC X.K (He.ga X.K c) ∧ PySem.W.findIn X.K (.ref (He.ga X.K c)) fn = some none) (he : PD X W w0 e f) (hb : attributeBase e fn X.env (eval e X.env) = eval e X.env := by rfl) : PD X W w0 (.Attribute e fn pos) (dFx cs fn f) :=
  PE.weak (pe_fx he hb) fun σ H Q ⟨g, S, R, hl, hA, hP⟩ => by
    refine ⟨g, S, R, hl, hA, hP.bind (List.Sublist.refl _) fun d S1 v H1 _ hA1 hP1 => ?_⟩
    have key : ∃ c f1 d1, d = .exc c f1 [d1] ∧ c ∈ cs ∧ f1 = fn ∧ ∀ v' H', okE d1 v' → At X.K w0 (rtE d1 v' ++ (R ++ zs g σ)) H' S1 → Q v' H' := by
      split at hP1
      · split at hP1
        · rename_i hc
          exact ⟨_, _, _, rfl, hc.1, hc.2, hP1⟩
        · exact hP1.elim
      · exact hP1.elim
    obtain ⟨c, f1, d1, rfl, hc, rfl, hQ⟩ := key
    obtain ⟨r, G, st, rl, ro, k⟩ := At.one (R := R ++ zs g σ) hA1
    cases k with
    | @excF a dd _ _ v1 _ g1 g2 ks =>
      cases ks with
      | cons k1 _ => exact ⟨a, _, dd, [(f1, v1)], v1, rfl, rl.sub _ _ g1, rl.sub _ _ g2, excX (hT c hc).1, (hT c hc).2, by simp [List.lookup], hQ v1 H1 trivial ⟨r, G, st, rl, ro.push k1⟩⟩
end
end DL
/-! DLl: exceptions made as values; repr; texts times ints; the empty dict; own lists read. -/
namespace DL
open PySem PySem.Spec PyProof.Rows L2
section
variable {X : Cx} {W : WX} {w0 : Wd} {pos : Pos} {a b c d e : Expr} {f f' : DE} {es : List Expr} {x : Str} {p p2 cpos : Pos}
/-- what makes an exception makes a value -/
theorem pe_mk {t : L2.St → Hp → XK → Prop} (h : PMk X e t) : PE X e (fun σ H Q => t σ H fun cls d H1 => ∀ a, H1 a = none → Q (.ref a) (upd H1 a (ExL cls d a))) := by
  refine ⟨fun pins s σ H Q I q => wpAny_mono (h pins s σ H _ I q) (fun u s1 ⟨a, oe, vs, sI, H1, cls, d, eu, J, k, hne, ha, hz, hd, _, na, os, ag, _, hQ⟩ => ?_) fun _ _ z => z⟩
  subst eu
  have nfr : a ∉ frs X.stack := fun hm => by
    obtain ⟨_, o1, e1, _⟩ := J.stack.mem hm
    rw [hne] at e1
    cases e1
  have J1 : Inv X pins σ (upd H1 a (ExL cls d a)) s1 := landed_held (B := sI.heap) J (fun _ _ e _ => e) (fun b o e => k b o e) (fun b o e _ => ⟨o.slots, k b o e⟩) os ag hne nfr na (exL_ok ha hz hd)
  exact ⟨.ref a, _, J1, rfl, hQ a na⟩
def dMk0 (c : Str) : DE := fun _ S => .ok (.exc c Str.empty []) S
theorem pd_mk0 {m : Str} {j : Nat} (T : ExFx X.K X.mg x) (hg : Gl X x := by rfl) (hdb : (x == ("__debug__" : Str)) = false := by decide) : PD X W w0 (.Call (.Name x p) [.Constant (.str m) j p2] [] cpos) (dMk0 x) :=
  PE.weak (pe_mk (pmk_own PySem.F.excBase_ValueError T.q T.g T.k (raises_own T.s T.t) hg hdb)) fun σ H Q ⟨g, S, R, hl, hA, hP⟩ a na => by
    obtain ⟨r, G, st, rl, ro⟩ := hA
    obtain ⟨s2, rl2⟩ := step_new rl na (ExL (.ref (He.ga X.K x)) none a)
    exact hP (.ref a) _ trivial ⟨r, _, st.trans s2, rl2, (ro.step s2).push (.exc upd_same)⟩
def dMkF (c fn : Str) (fe : DE) : DE := fun g S => (fe g S).bind fun d S1 => .ok (.exc c fn [d]) S1
theorem pd_mkF {k j : Nat} {fn : Str} (T : OxFx X.prog X.w X.K X.mg X.base x fn k) (hr : Room j X.A) (he : PD X W w0 e f) (hj : k + 1 ≤ j := by first | decide | omega) (hg : Gl X x := by rfl) (hdb : (x == ("__debug__" : Str)) = false := by decide)
    (hs : starEach [e] X.env = (false, eval e X.env) :: starEach [] X.env := by rfl) (hpl : (backTo cpos (starEach [] X.env)).any (·.1) = false := by rfl) : PD X W w0 (.Call (.Name x p) [e] [] cpos) (dMkF x fn f) := by
  obtain ⟨fI, fd, ps, iC, tI, bd, ok⟩ := T.ini
  refine PE.weak (pe_mk (pmk_oex T.o iC tI ok (hr.mono hj) bd .nil passL hg T.g (pa_cons he pa_nil hs) hdb hs hpl)) fun σ H Q ⟨g, S, R, hl, hA, hP⟩ => ?_
  refine ⟨g, S, R, hl, hA, hP.bind (List.Sublist.refl _) fun d S1 v H1 _ hA1 hP1 => ⟨(show 1 ≤ 1000 by decide), fun a na => ?_⟩⟩
  refine ⟨a, _, v, rfl, T.o, T.no, upd_same, fun dx hdx nx => ⟨rfl, dx, [(fn, v)], upd_same, by rw [upd_ne nx, upd_same], ?_, fun a2 na2 => ?_⟩⟩
  · have z : (upd H1 a (exo a (He.ga X.K x) none)) dx = none := hdx
    rw [upd_ne nx] at z
    exact z
  · have hd1 : H1 dx = none := by
      have z : (upd H1 a (exo a (He.ga X.K x) none)) dx = none := hdx
      rw [upd_ne nx] at z
      exact z
    have eH : upd (L2.del (upd (upd (upd H1 a (exo a (He.ga X.K x) none)) dx (exd dx [(fn, v)])) a (exo a (He.ga X.K x) (some dx))) a) dx (.xd [(fn, v)]) = upd H1 dx (.xd [(fn, v)]) := by
      funext b
      by_cases e1 : b = dx
      · rw [e1, upd_same, upd_same]
      · rw [upd_ne e1, upd_ne e1]
        by_cases e2 : b = a
        · rw [e2, L2.del_same, na]
        · rw [L2.del_ne e2, upd_ne e2, upd_ne e1, upd_ne e2]
    rw [eH] at na2 ⊢
    obtain ⟨r, G, st, rl, ro, kd⟩ := At.one (R := R ++ zs g σ) hA1
    obtain ⟨s2, rl2⟩ := step_new rl hd1 (.xd [(fn, v)])
    obtain ⟨s3, rl3⟩ := step_new rl2 (p := a2) na2 (ExL (.ref (He.ga X.K x)) (some dx) a2)
    have hx : (upd (upd G dx (.xd [(fn, v)])) a2 (ExL (.ref (He.ga X.K x)) (some dx) a2)) dx = some (.xd [(fn, v)]) := s3.ext _ _ upd_same
    exact hP1 (.ref a2) _ trivial ⟨r, _, (st.trans s2).trans s3, rl3, ((ro.step s2).step s3).push (.excF upd_same hx (.cons (kd.mono (fun _ _ h => h) fun b o q => s3.ext b o (s2.ext b o q)) .nil))⟩
/-! ### repr -/
def oRepr : ON := fun ds _ => match ds with
  | [.int i] => if i.natAbs.log2 < 1920 then some (.str (iText i)) else none
  | [.non] => some (.str (Str.ofString "None"))
  | [.bl b] => some (.str (Str.ofString (if b then "True" else "False")))
  | _ => none
theorem call_reprF : CallR X (.builtin "repr") (fun xs H Q => (∃ i, xs = [.int i] ∧ i.natAbs.log2 < 1920 ∧ Q (.str (toString i)) H) ∨ (xs = [.non] ∧ Q (.str (Str.ofString "None")) H) ∨ ∃ b, xs = [.bl b] ∧ Q (.str (Str.ofString (if b then "True" else "False"))) H) := by
  intro pins s σ H xs us Q I r h
  rcases h with ⟨i, rfl, hz, q⟩ | ⟨rfl, q⟩ | ⟨b, rfl, q⟩
  · obtain ⟨u, rfl, t, rfl⟩ := vals1 r
    exact PySem.P.repr_of_int hz ⟨.str _, H, I.tok _, ⟨_, rfl⟩, q⟩
  · obtain ⟨u, rfl, ru⟩ := vals1 r
    cases ru
    exact PySem.P.repr_of_none ⟨.str _, H, I.tok _, ⟨_, rfl⟩, q⟩
  · obtain ⟨u, rfl, ru⟩ := vals1 r
    cases ru
    exact PySem.P.repr_of_bool ⟨.str _, H, I.tok _, ⟨_, by cases b <;> rfl⟩, q⟩
theorem fv_repr : CallR X (.builtin "repr") (rVN X.K oRepr) := fn_weak call_reprF fun w0 S R H Q r G ds xs d st rl ro rs e hQ => by
  unfold oRepr at e
  split at e
  · rename_i i
    split at e
    · rename_i hz
      cases e
      cases rs with
      | cons k1 rs => cases rs; cases k1; exact .inl ⟨i, rfl, hz, hQ _ H ⟨r, G, st, rl, ro.push (.str _)⟩⟩
    · cases e
  · cases e
    cases rs with
    | cons k1 rs => cases rs; cases k1; exact .inr (.inl ⟨rfl, hQ _ H ⟨r, G, st, rl, ro.push (.str _)⟩⟩)
  · rename_i b
    cases e
    cases rs with
    | cons k1 rs => cases rs; cases k1; exact .inr (.inr ⟨b, rfl, hQ _ H ⟨r, G, st, rl, ro.push (.str _)⟩⟩)
  · cases e
/-! ### a text times an int; of ints, lists too -/
def oMulS : O2 := fun a b S => match a with
  | .str z => (match b with
    | .int n => if 1 < n ∧ n < 2 ^ 20 ∧ 0 < z.length ∧ z.length ≤ 16 then some (.str (Txt.mul z n)) else none
    | _ => none)
  | a => oMulL a b S
theorem ov_mulS : OpR X (binaryOp .Mult) (rV2 X.K oMulS) := by
  intro pins s σ H x y v u Q I rx ry ⟨w0, S, R, a, b, hA, d, e, hQ⟩
  cases a with
  | str z =>
    cases b with
    | int n =>
      have e : (if 1 < n ∧ n < 2 ^ 20 ∧ 0 < z.length ∧ z.length ≤ 16 then some (D.str (Txt.mul z n)) else none) = some d := e
      split at e
      · rename_i hz
        obtain ⟨h1, h2, h3, h4⟩ := hz
        cases e
        have ey := hA.int
        have ex := hA.tail.str
        subst ex ey
        obtain ⟨t, rfl⟩ := rx
        obtain ⟨t', rfl⟩ := ry
        have e20 : (2 : Int) ^ 20 = 1048576 := by decide
        refine PySem.SB.mul ⟨?_, fun _ _ => ?_, fun _ _ => ?_⟩ fun t1 k => ⟨.str _, H, I.tok _, ⟨_, rfl⟩, hQ _ H (hA.tail.tail.push fun _ _ => .str _)⟩
        · rw [decide_eq_false (by omega), decide_eq_false (by omega)] <;> rfl
        · have : (16 : Int) ≤ (2 ^ 63 - 1) / n := by
            rw [Int.le_ediv_iff_mul_le (by omega)]
            omega
          omega
        · unfold Builtin.Str.tooLong
          refine decide_eq_false ?_
          have : z.length * n.toNat ≤ 16 * 1048576 := Nat.mul_le_mul h4 (by omega)
          rw [sizeLine_eq]
          omega
      · cases e
    | _ => cases e
  | _ => exact ov_mulL pins s σ H x y v u Q I rx ry ⟨w0, S, R, _, b, hA, d, e, hQ⟩
/-! ### {} -/
theorem pd_emp : PD X W w0 (.Dict [] [] pos) (dC .emp) := PE.weak pe_dnewK fun σ H Q ⟨g, S, R, hl, hA, hP⟩ q hq => by
  obtain ⟨r, G, st, rl, ro⟩ := hA
  obtain ⟨s2, rl2⟩ := step_new rl hq (.dK [])
  exact hP (.ref q) _ trivial ⟨r, _, st.trans s2, rl2, (ro.step s2).push (.emp upd_same)⟩
end
end DL
/-! DM: the data functions reckoned. -/
namespace DL
open PySem PySem.Spec PyProof.Rows L2
section
variable {α β : Type} {f f' f'' f3 : DE} {t t' : DT} {fa fb : DA} {u u' : DS} {g : Ev} {S S' : Sto} {o o' o3 : O2}
@[simp] theorem bind_ok {a : α} {k : α → Sto → Out β} : (Out.ok a S).bind k = k a S := rfl
@[simp] theorem bind_ex {x : Exn} {k : α → Sto → Out β} : (Out.ex x S : Out α).bind k = .ex x S := rfl
@[simp] theorem bind_bad {k : α → Sto → Out β} : (Out.bad : Out α).bind k = .bad := rfl
@[simp] theorem of_some {a : α} : Out.of (some a) S = .ok a S := rfl
@[simp] theorem of_none : Out.of (none : Option α) S = .bad := rfl
@[simp] theorem with_ok {a : α} {k : α → Sto → OS} : dWith (Out.ok a S) g k = k a S := rfl
@[simp] theorem with_ex {x : Exn} {k : α → Sto → OS} : dWith (Out.ex x S : Out α) g k = .ex x g S := rfl
@[simp] theorem with_bad {k : α → Sto → OS} : dWith (Out.bad : Out α) g k = .bad := rfl
@[simp] theorem e_C {d : D} : dC d g S = .ok d S := rfl
theorem e_Var {i : Nat} {d : D} (h : g[i]? = some (.im d)) : dVar i g S = .ok d S := by unfold dVar; rw [h]
@[simp] theorem e_V0 {d : D} : dVar 0 (.im d :: g) S = .ok d S := rfl
@[simp] theorem e_Vs {i : Nat} {s : SL} : dVar (i + 1) (s :: g) S = dVar i g S := rfl
@[simp] theorem e_Op : dOp o f f' g S = (f g S).bind fun a S1 => (f' g S1).bind fun b S2 => Out.of (o a b S2) S2 := rfl
@[simp] theorem e_T : dT f g S = (f g S).bind fun d S1 => match d with
  | .bl b => .ok b S1
  | _ => .bad := rfl
@[simp] theorem e_And : dAnd t t' g S = (t g S).bind fun b S1 => if b = true then t' g S1 else .ok false S1 := rfl
@[simp] theorem e_Or : dOr t t' g S = (t g S).bind fun b S1 => if b = true then .ok true S1 else t' g S1 := rfl
@[simp] theorem e_Not : dNot t g S = (t g S).bind fun b S1 => .ok (!b) S1 := rfl
@[simp] theorem e_AndV : dAndV f f' g S = (dT f g S).bind fun b S1 => if b = true then f' g S1 else .ok (.bl false) S1 := rfl
@[simp] theorem e_OrV : dOrV f f' g S = (dT f g S).bind fun b S1 => if b = true then .ok (.bl true) S1 else f' g S1 := rfl
@[simp] theorem e_NotV : dNotV f g S = (dT f g S).bind fun b S1 => .ok (.bl (!b)) S1 := rfl
@[simp] theorem e_If : dIf t f f' g S = (t g S).bind fun b S1 => if b = true then f g S1 else f' g S1 := rfl
@[simp] theorem e_oIf : oIf t fa fb g S = (t g S).bind fun b S1 => if b = true then fa g S1 else fb g S1 := rfl
@[simp] theorem e_Nil : dNil g S = .ok [] S := rfl
@[simp] theorem e_Cons : dCons f fa g S = (f g S).bind fun d S1 => (fa g S1).bind fun ds S2 => .ok (d :: ds) S2 := rfl
theorem line2 {n : Nat} (h : n ≤ 1000) : n ≤ sizeLine := by rw [sizeLine_eq]; omega
@[simp] theorem e_Tup : dTup fa g S = (fa g S).bind fun ds S1 => if ds.length ≤ sizeLine then .ok (.tup ds) S1 else .bad := rfl
@[simp] theorem e_Lst : dLst fa g S = (fa g S).bind fun ds S1 => if ds.length ≤ sizeLine then .ok (.lst ds) S1 else .bad := rfl
@[simp] theorem e_oLst : oLst fa g S = (fa g S).bind fun ds S1 => if ds.length ≤ sizeLine then .ok ds S1 else .bad := rfl
@[simp] theorem e_Frz : dFrz fa g S = (fa g S).bind fun ds S1 => .ok (.lst ds) S1 := rfl
@[simp] theorem e_Fn {n : ON} : dFn n fa g S = (fa g S).bind fun ds S1 => Out.of (n ds S1) S1 := rfl
@[simp] theorem e_oFn {n : List D → Sto → Option (List D)} : oFn n fa g S = (fa g S).bind fun ds S1 => Out.of (n ds S1) S1 := rfl
@[simp] theorem e_CallN {n : Nat} {F : DF} : dCallN n F fa g S = (fa g S).bind fun ds S1 => if ds.length = n then (F ds S1).bind fun s S2 => Out.of (frz s) S2 else .bad := rfl
@[simp] theorem e_oCallN {n : Nat} {F : DF} : oCallN n F fa g S = (fa g S).bind fun ds S1 => if ds.length = n then (F ds S1).bind fun s S2 => (match s with
  | .own es => Out.ok es S2
  | _ => .bad) else .bad := rfl
@[simp] theorem frz_im {d : D} : frz (.im d) = some d := rfl
@[simp] theorem frz_own {d : List D} : frz (.own d) = some (.lst d) := rfl
@[simp] theorem e_Isi {T : String} : dIsi T f g S = (f g S).bind fun d S1 => match tyD S1 d with
  | some n => .ok (.bl (isiB n T)) S1
  | none => .bad := rfl
@[simp] theorem e_Chain : dChain o o' f f' f'' g S = (f g S).bind fun a S1 => (f' g S1).bind fun b S2 => match o a b S2 with
  | some (.bl true) => (f'' g S2).bind fun c S3 => Out.of (o' b c S3) S3
  | some (.bl false) => .ok (.bl false) S2
  | _ => .bad := rfl
@[simp] theorem e_Chain3 : dChain3 o o' o3 f f' f'' f3 g S = (f g S).bind fun a S1 => (f' g S1).bind fun b S2 => match o a b S2 with
  | some (.bl true) => (f'' g S2).bind fun c S3 => (match o' b c S3 with
    | some (.bl true) => (f3 g S3).bind fun d S4 => (match o3 c d S4 with
      | some (.bl k) => .ok k S4
      | _ => .bad)
    | some (.bl false) => .ok false S3
    | _ => .bad)
  | some (.bl false) => .ok false S2
  | _ => .bad := rfl
@[simp] theorem e_M1 : dM1 o f f' g S = (f g S).bind fun a S1 => match a with
  | .str x => (f' g S1).bind fun b S2 => Out.of (o (.str x) b S2) S2
  | _ => .bad := rfl
@[simp] theorem e_Bits : dBits f g S = (f g S).bind fun a S1 => match a with
  | .int i => .ok (.int (Builtin.Int.intBits i : Nat)) S1
  | _ => .bad := rfl
@[simp] theorem e_Neg : dNeg f g S = (f g S).bind fun a S1 => match a with
  | .int i => .ok (.int (-i)) S1
  | _ => .bad := rfl
@[simp] theorem e_Lab : dLab fa g S = (fa g S).bind fun ds S1 => .ok (.lab S1.length) (S1 ++ [.lst ds]) := rfl
@[simp] theorem e_oCat : oCat f f' g S = (f g S).bind fun a S1 => (f' g S1).bind fun b S2 => match viewL S2 a, viewL S2 b with
  | some xs, some ys => if xs.length + ys.length ≤ sizeLine then .ok (xs ++ ys) S2 else .bad
  | _, _ => .bad := rfl
@[simp] theorem e_Sl {lo hi : DP} : dSl f lo hi g S = (f g S).bind fun d S1 => (lo g S1).bind fun l S2 => (hi g S2).bind fun u S3 => Out.of (cutS' d l u S3) S3 := rfl
@[simp] theorem e_oSl {lo hi : DP} : oSl f lo hi g S = (f g S).bind fun d S1 => (lo g S1).bind fun l S2 => (hi g S2).bind fun u S3 => match viewL S3 d with
  | some ds => .ok (cutD ds l u) S3
  | none => .bad := rfl
@[simp] theorem e_P0 : dP0 g S = .ok none S := rfl
@[simp] theorem e_P1 : dP1 f g S = (f g S).bind fun d S1 => match d with
  | .int i => .ok (some i) S1
  | _ => .bad := rfl
@[simp] theorem e_oSplit : oSplit f f' g S = (f g S).bind fun a S1 => match a with
  | .str x => (f' g S1).bind fun b S2 => match b with
    | .str y => if (y.length == 0) = false ∧ x.length + 2 ≤ sizeLine then .ok ((Txt.split x y).map .str) S2 else .bad
    | _ => .bad
  | _ => .bad := rfl
/-! statements -/
@[simp] theorem s_Next : dNext g S = .nx g S := rfl
@[simp] theorem s_Seq : dSeq u u' g S = match u g S with
  | .nx g' S' => u' g' S'
  | o => o := rfl
@[simp] theorem s_Ret : dRet f g S = dWith (f g S) g fun d S' => .rt (.im d) S' := rfl
@[simp] theorem s_oRet : oRet fa g S = dWith (fa g S) g fun d S' => .rt (.own d) S' := rfl
@[simp] theorem s_RetN : dRetN g S = .rt (.im .non) S := rfl
@[simp] theorem s_RetV {i : Nat} : dRetV i g S = match g[i]? with
  | some (.no) => .bad
  | some s => .rt s S
  | none => .bad := rfl
@[simp] theorem s_Drop : dDrop f g S = dWith (f g S) g fun _ S' => .nx g S' := rfl
@[simp] theorem s_If : dIfS t u u' g S = dWith (t g S) g fun b S' => if b = true then u g S' else u' g S' := rfl
@[simp] theorem s_Set {i : Nat} : dSet i f g S = dWith (f g S) g fun d S' => .nx (g.set i (.im d)) S' := rfl
@[simp] theorem s_oSet {i : Nat} : oSet i fa g S = dWith (fa g S) g fun d S' => .nx (g.set i (.own d)) S' := rfl
@[simp] theorem s_Asg {h : DG} : dAsg f h g S = dWith (f g S) g fun d S' => match h d g with
  | some g' => .nx g' S'
  | none => .bad := rfl
@[simp] theorem s_Par {i j : Nat} : dPar i j f f' g S = dWith (f g S) g fun d S1 => dWith (f' g S1) g fun d' S2 => .nx ((g.set i (.im d)).set j (.im d')) S2 := rfl
@[simp] theorem s_Aug {i : Nat} : dAug i o f g S = match g[i]? with
  | some (.im a) => dWith (f g S) g fun b S1 => match o a b S1 with
    | some d => .nx (g.set i (.im d)) S1
    | none => .bad
  | _ => .bad := rfl
@[simp] theorem s_App {i : Nat} : dApp i f g S = match g[i]? with
  | some (.own ds) => dWith (f g S) g fun d S1 => if ds.length < sizeLine then .nx (g.set i (.own (ds ++ [d]))) S1 else .bad
  | _ => .bad := rfl
@[simp] theorem s_Put : dPut f f' f'' g S = dWith (f g S) g fun d S1 => dWith (f' g S1) g fun o S2 => dWith (f'' g S2) g fun i S3 => match putD d o i S3 with
  | some S' => .nx g S'
  | none => .bad := rfl
@[simp] theorem s_Fz {i : Nat} : dFz i u g S = match g[i]? with
  | some (.own ds) => u (g.set i (.im (.lst ds))) S
  | _ => u g S := rfl
@[simp] theorem h_Name {i : Nat} {d : D} : hName i d g = some (g.set i (.im d)) := rfl
@[simp] theorem h_Tup {is : List Nat} {ds : List D} : hTup is (.tup ds) g = hNames is ds g := rfl
@[simp] theorem h_TupL {is : List Nat} {ds : List D} : hTup is (.lst ds) g = hNames is ds g := rfl
@[simp] theorem h_nil : hNames [] [] g = some g := rfl
@[simp] theorem h_cons {i : Nat} {is : List Nat} {d : D} {ds : List D} : hNames (i :: is) (d :: ds) g = hNames is ds (g.set i (.im d)) := rfl
@[simp] theorem runB_eq {n : Nat} {ds : List D} : runB n u ds S = match u (ds.map SL.im ++ List.replicate (n - ds.length) .no) S with
  | .rt s S' => .ok s S'
  | .nx _ S' => .ok (.im .non) S'
  | .ex x _ S' => .ex x S'
  | _ => .bad := rfl
/-! operators -/
@[simp] theorem o_int {C : Int → Int → Bool} {k : Int → Int → Int} {i j : Int} : oI C k (.int i) (.int j) S = if C i j = true then some (.int (k i j)) else none := rfl
@[simp] theorem o_cmp {k : Int → Int → Bool} {i j : Int} : oB k (.int i) (.int j) S = some (.bl (k i j)) := rfl
@[simp] theorem o_add {i j : Int} : oAdd (.int i) (.int j) S = some (.int (i + j)) := rfl
@[simp] theorem o_addS {x y : Str} : oAdd (.str x) (.str y) S = if x.length + y.length ≤ sizeLine then some (.str (x ++ y)) else none := rfl
@[simp] theorem o_addL {xs ys : List D} : oAdd (.lst xs) (.lst ys) S = if xs.length + ys.length ≤ sizeLine then some (.lst (xs ++ ys)) else none := rfl
@[simp] theorem o_eqI {i j : Int} : oEq (.int i) (.int j) S = some (.bl (decide (i = j))) := by
  show (if okD (.int i) = true ∧ okD (.int j) = true then some (D.bl (deq (.int i) (.int j))) else none) = _
  rw [if_pos ⟨rfl, rfl⟩]
  congr 2
@[simp] theorem o_neI {i j : Int} : oNe (.int i) (.int j) S = some (.bl (!decide (i = j))) := by
  show (if okD (.int i) = true ∧ okD (.int j) = true then some (D.bl (!deq (.int i) (.int j))) else none) = _
  rw [if_pos ⟨rfl, rfl⟩]
  congr 2
@[simp] theorem o_eqS {i j : Str} : oEq (.str i) (.str j) S = some (.bl (decide (i = j))) := rfl
@[simp] theorem o_neS {i j : Str} : oNe (.str i) (.str j) S = some (.bl (!decide (i = j))) := rfl
@[simp] theorem o_is {d : D} : oIs d .non S = some (.bl (isN d)) := rfl
@[simp] theorem o_isNot {d : D} : oIsNot d .non S = some (.bl (!isN d)) := rfl
@[simp] theorem o_len_tup {ds : List D} : oLen [.tup ds] S = some (.int ds.length) := rfl
@[simp] theorem o_len_lst {ds : List D} : oLen [.lst ds] S = some (.int ds.length) := rfl
@[simp] theorem o_len_str {z : Str} : oLen [.str z] S = if z.length ≤ sizeLine then some (.int z.length) else none := rfl
@[simp] theorem ix_tup2_0 {a : D} {l : List D} : oIx (.tup (a :: l)) (.int 0) S = some a := by
  show atI (a :: l) 0 = some a
  unfold atI ixN
  rw [if_pos (by decide), if_pos (by simp only [List.length_cons]; omega)]
  rfl
@[simp] theorem ix_tup2_1 {a b : D} {l : List D} : oIx (.tup (a :: b :: l)) (.int 1) S = some b := by
  show atI (a :: b :: l) 1 = some b
  unfold atI ixN
  rw [if_pos (by decide), if_pos (by simp only [List.length_cons]; omega)]
  rfl
@[simp] theorem o_max {i j : Int} : oI2 (fun i j => if j > i then j else i) [.int i, .int j] S = some (.int (if j > i then j else i)) := rfl
@[simp] theorem o_i2 {k : Int → Int → Int} {i j : Int} : oI2 k [.int i, .int j] S = some (.int (k i j)) := rfl
@[simp] theorem o_intI {i : Int} : oInt [.int i] S = some (.int i) := rfl
@[simp] theorem o_strI {i : Int} : oStr [.int i] S = if i.natAbs.log2 < 1920 then some (.str (iText i)) else none := rfl
@[simp] theorem o_tupL {ds : List D} : oTuple [.lst ds] S = some (.tup ds) := rfl
@[simp] theorem o_listL {ds : List D} : oList [.lst ds] S = some ds := rfl
@[simp] theorem ty_int {i : Int} : tyD S (.int i) = some "int" := rfl
@[simp] theorem ty_bl {i : Bool} : tyD S (.bl i) = some "bool" := rfl
@[simp] theorem ty_str {i : Str} : tyD S (.str i) = some "str" := rfl
@[simp] theorem ty_tup {i : List D} : tyD S (.tup i) = some "tuple" := rfl
@[simp] theorem ty_lst {i : List D} : tyD S (.lst i) = some "list" := rfl
@[simp] theorem ty_non : tyD S .non = some "NoneType" := rfl
end
end DL
/-! DN: loops reckoned; numbers, nodes. -/
namespace DL
open PySem PySem.Spec PyProof.Rows L2
section
variable {f f' : DE} {t : DT} {fi : DA} {h : DG} {body : DS} {g : Ev} {S : Sto}
@[simp] theorem s_For : dFor fi h body g S = dWith (fi g S) g fun ds S1 => forL h body ds g S1 := rfl
@[simp] theorem s_While : dWhile t body g S = whileN t body fuel g S := rfl
@[simp] theorem i_Seq : iSeq f g S = (f g S).bind fun d S1 => Out.of (seqOf d) S1 := rfl
@[simp] theorem i_Tupl : iTupl f g S = (f g S).bind fun d S1 => Out.of (tupOf d) S1 := rfl
@[simp] theorem i_Str : iStrD f g S = (f g S).bind fun d S1 => match d with
  | .str z => .ok (signs z) S1
  | _ => .bad := rfl
@[simp] theorem i_Enum : iEnumD f g S = (f g S).bind fun d S1 => Out.of ((seqOf d).map enumD) S1 := rfl
@[simp] theorem i_R1 : iRange1 f g S = (f g S).bind fun d S1 => match d with
  | .int j => if smallB j then .ok (rangeD 0 1 j.toNat) S1 else .bad
  | _ => .bad := rfl
@[simp] theorem i_R2 : iRange2 f f' g S = (f g S).bind fun d S1 => (f' g S1).bind fun d' S2 => match d, d' with
  | .int i, .int j => if smallB i && smallB j then .ok (rangeD i 1 (j - i).toNat) S2 else .bad
  | _, _ => .bad := rfl
@[simp] theorem i_RD : iRangeD f f' g S = (f g S).bind fun d S1 => (f' g S1).bind fun d' S2 => match d, d' with
  | .int i, .int j => if smallB i && smallB j then .ok (rangeD i (-1) (i - j).toNat) S2 else .bad
  | _, _ => .bad := rfl
@[simp] theorem i_Zip : iZipD f f' g S = (f g S).bind fun d S1 => (f' g S1).bind fun d' S2 => match seqOf d, seqOf d' with
  | some ds, some ds' => .ok (zipD ds ds') S2
  | _, _ => .bad := rfl
@[simp] theorem seqOf_lst {ds : List D} : seqOf (.lst ds) = some ds := rfl
@[simp] theorem seqOf_fz {ds : List D} : seqOf (.fz ds) = some ds := rfl
@[simp] theorem tupOf_tup {ds : List D} : tupOf (.tup ds) = some ds := rfl
/-- a for: J tells what holds with so many items to come, P what is wanted -/
theorem for_post {P : OS → Prop} (J : List D → Ev → Sto → Prop)
    (step : ∀ d ds g S, J (d :: ds) g S → ∃ g1, h d g = some g1 ∧ ((∃ g2 S2, (body g1 S = .nx g2 S2 ∨ body g1 S = .ct g2 S2) ∧ J ds g2 S2) ∨ (∃ g2 S2, body g1 S = .bk g2 S2 ∧ P (.nx g2 S2)) ∨ (∃ s S2, body g1 S = .rt s S2 ∧ P (.rt s S2)) ∨ ∃ x g2 S2, body g1 S = .ex x g2 S2 ∧ P (.ex x g2 S2)))
    (fin : ∀ g S, J [] g S → P (.nx g S)) : ∀ (ds : List D) (g : Ev) (S : Sto), J ds g S → P (forL h body ds g S)
  | [], g, S, hj => fin g S hj
  | d :: ds, g, S, hj => by
    obtain ⟨g1, e1, hh⟩ := step d ds g S hj
    have e : forL h body (d :: ds) g S = match body g1 S with
      | .nx g2 S2 => forL h body ds g2 S2
      | .ct g2 S2 => forL h body ds g2 S2
      | .bk g2 S2 => .nx g2 S2
      | o => o := by
      show (match h d g with
        | none => OS.bad
        | some g1 => match body g1 S with
          | .nx g2 S2 => forL h body ds g2 S2
          | .ct g2 S2 => forL h body ds g2 S2
          | .bk g2 S2 => .nx g2 S2
          | o => o) = _
      rw [e1]
    rw [e]
    rcases hh with ⟨g2, S2, e2 | e2, hj2⟩ | ⟨g2, S2, e2, hp⟩ | ⟨s, S2, e2, hp⟩ | ⟨x, g2, S2, e2, hp⟩
    · rw [e2]; exact for_post J step fin ds g2 S2 hj2
    · rw [e2]; exact for_post J step fin ds g2 S2 hj2
    · rw [e2]; exact hp
    · rw [e2]; exact hp
    · rw [e2]; exact hp
theorem for_nx (J : List D → Ev → Sto → Prop) (step : ∀ d ds g S, J (d :: ds) g S → ∃ g1, h d g = some g1 ∧ ∃ g2 S2, body g1 S = .nx g2 S2 ∧ J ds g2 S2) (ds : List D) (g : Ev) (S : Sto) (hj : J ds g S) :
    ∃ g2 S2, forL h body ds g S = .nx g2 S2 ∧ J [] g2 S2 :=
  for_post (P := fun o => ∃ g2 S2, o = .nx g2 S2 ∧ J [] g2 S2) J (fun d ds g S hj => by
    obtain ⟨g1, e1, g2, S2, e2, k⟩ := step d ds g S hj
    exact ⟨g1, e1, .inl ⟨g2, S2, .inl e2, k⟩⟩) (fun g S k => ⟨g, S, rfl, k⟩) ds g S hj
/-- a while -/
theorem while_post {P : OS → Prop} (J : Nat → Ev → Sto → Prop)
    (step : ∀ m g S, J m g S → (∃ S1, t g S = .ok false S1 ∧ P (.nx g S1)) ∨ ∃ S1, t g S = .ok true S1 ∧ ((∃ g2 S2 m', (body g S1 = .nx g2 S2 ∨ body g S1 = .ct g2 S2) ∧ m' < m ∧ J m' g2 S2) ∨ (∃ g2 S2, body g S1 = .bk g2 S2 ∧ P (.nx g2 S2)) ∨ (∃ s S2, body g S1 = .rt s S2 ∧ P (.rt s S2)) ∨ ∃ x g2 S2, body g S1 = .ex x g2 S2 ∧ P (.ex x g2 S2))) :
    ∀ (n m : Nat) (g : Ev) (S : Sto), m < n → J m g S → P (whileN t body n g S)
  | 0, m, _, _, hm, _ => absurd hm (Nat.not_lt_zero m)
  | n + 1, m, g, S, hm, hj => by
    have e : whileN t body (n + 1) g S = dWith (t g S) g fun b S1 => if b = true then (match body g S1 with
      | .nx g2 S2 => whileN t body n g2 S2
      | .ct g2 S2 => whileN t body n g2 S2
      | .bk g2 S2 => .nx g2 S2
      | o => o) else .nx g S1 := rfl
    rw [e]
    rcases step m g S hj with ⟨S1, e1, hp⟩ | ⟨S1, e1, hh⟩
    · rw [e1]; exact hp
    · rw [e1]
      show P (match body g S1 with
        | .nx g2 S2 => whileN t body n g2 S2
        | .ct g2 S2 => whileN t body n g2 S2
        | .bk g2 S2 => .nx g2 S2
        | o => o)
      rcases hh with ⟨g2, S2, m', e2 | e2, hm', hj2⟩ | ⟨g2, S2, e2, hp⟩ | ⟨s, S2, e2, hp⟩ | ⟨x, g2, S2, e2, hp⟩
      · rw [e2]; exact while_post J step n m' g2 S2 (by omega) hj2
      · rw [e2]; exact while_post J step n m' g2 S2 (by omega) hj2
      · rw [e2]; exact hp
      · rw [e2]; exact hp
      · rw [e2]; exact hp
theorem fuel_lt {m : Nat} (h : m < 1000000) : m < fuel := by unfold fuel; exact h
theorem while_nx (J : Nat → Ev → Sto → Prop) (Q : Ev → Sto → Prop)
    (step : ∀ m g S, J m g S → (∃ S1, t g S = .ok false S1 ∧ Q g S1) ∨ ∃ S1, t g S = .ok true S1 ∧ ∃ g2 S2 m', body g S1 = .nx g2 S2 ∧ m' < m ∧ J m' g2 S2) (m : Nat) (g : Ev) (S : Sto) (hm : m < 1000000) (hj : J m g S) :
    ∃ g2 S2, whileN t body fuel g S = .nx g2 S2 ∧ Q g2 S2 :=
  while_post (P := fun o => ∃ g2 S2, o = .nx g2 S2 ∧ Q g2 S2) J (fun m g S hj => by
    rcases step m g S hj with ⟨S1, e1, hp⟩ | ⟨S1, e1, g2, S2, m', e2, hm', k⟩
    · exact .inl ⟨S1, e1, g, S1, rfl, hp⟩
    · exact .inr ⟨S1, e1, .inl ⟨g2, S2, m', .inl e2, hm', k⟩⟩) fuel m g S (fuel_lt hm) hj
/-- a comprehension that keeps the store -/
theorem lc_map {fe : DE} {gw : Ev} {φ : D → D} (S : Sto) : ∀ (ds acc : List D), (∀ d ∈ ds, ∃ g1, h d gw = some g1 ∧ t g1 S = .ok true S ∧ fe g1 S = .ok (φ d) S) → acc.length + ds.length ≤ sizeLine → lcL h t fe gw ds S acc = .ok (acc ++ ds.map φ) S
  | [], acc, _, _ => by rw [List.map_nil, List.append_nil]; rfl
  | d :: ds, acc, hd, hl => by
    obtain ⟨g1, e1, e2, e3⟩ := hd d List.mem_cons_self
    rw [List.length_cons] at hl
    have e : lcL h t fe gw (d :: ds) S acc = if acc.length < sizeLine then lcL h t fe gw ds S (acc ++ [φ d]) else .bad := by
      show (match h d gw with
        | none => (Out.bad : Out (List D))
        | some g1 => match t g1 S with
          | .ok true S1 => (match fe g1 S1 with
            | .ok e S2 => if acc.length < sizeLine then lcL h t fe gw ds S2 (acc ++ [e]) else .bad
            | _ => .bad)
          | .ok false S1 => lcL h t fe gw ds S1 acc
          | _ => .bad) = _
      rw [e1]
      show (match t g1 S with
          | .ok true S1 => (match fe g1 S1 with
            | .ok e S2 => if acc.length < sizeLine then lcL h t fe gw ds S2 (acc ++ [e]) else .bad
            | _ => .bad)
          | .ok false S1 => lcL h t fe gw ds S1 acc
          | _ => .bad) = _
      rw [e2]
      show (match fe g1 S with
            | .ok e S2 => if acc.length < sizeLine then lcL h t fe gw ds S2 (acc ++ [e]) else .bad
            | _ => .bad) = _
      rw [e3]
    rw [e, if_pos (by omega), lc_map S ds (acc ++ [φ d]) (fun d' h' => hd d' (List.mem_cons_of_mem _ h')) (by rw [List.length_append, List.length_singleton]; omega)]
    rw [List.map_cons, List.append_assoc]
    rfl
/-- a comprehension by cases -/
theorem lc_filter {fe : DE} {gw : Ev} {φ : D → D} {p : D → Bool} (S : Sto) : ∀ (ds acc : List D), (∀ d ∈ ds, ∃ g1, h d gw = some g1 ∧ t g1 S = .ok (p d) S ∧ (p d = true → fe g1 S = .ok (φ d) S)) → acc.length + ds.length ≤ sizeLine → lcL h t fe gw ds S acc = .ok (acc ++ (ds.filter p).map φ) S
  | [], acc, _, _ => by rw [List.filter_nil, List.map_nil, List.append_nil]; rfl
  | d :: ds, acc, hd, hl => by
    obtain ⟨g1, e1, e2, e3⟩ := hd d List.mem_cons_self
    rw [List.length_cons] at hl
    have e : lcL h t fe gw (d :: ds) S acc = match t g1 S with
          | .ok true S1 => (match fe g1 S1 with
            | .ok e S2 => if acc.length < sizeLine then lcL h t fe gw ds S2 (acc ++ [e]) else .bad
            | _ => .bad)
          | .ok false S1 => lcL h t fe gw ds S1 acc
          | _ => .bad := by
      show (match h d gw with
        | none => (Out.bad : Out (List D))
        | some g1 => match t g1 S with
          | .ok true S1 => (match fe g1 S1 with
            | .ok e S2 => if acc.length < sizeLine then lcL h t fe gw ds S2 (acc ++ [e]) else .bad
            | _ => .bad)
          | .ok false S1 => lcL h t fe gw ds S1 acc
          | _ => .bad) = _
      rw [e1]
    rw [e, e2]
    cases hp : p d with
    | true =>
      show (match fe g1 S with
            | .ok e S2 => if acc.length < sizeLine then lcL h t fe gw ds S2 (acc ++ [e]) else .bad
            | _ => .bad) = _
      rw [e3 hp]
      show (if acc.length < sizeLine then lcL h t fe gw ds S (acc ++ [φ d]) else .bad) = _
      rw [if_pos (by omega), lc_filter S ds (acc ++ [φ d]) (fun d' h' => hd d' (List.mem_cons_of_mem _ h')) (by rw [List.length_append, List.length_singleton]; omega), List.filter_cons, if_pos hp, List.map_cons, List.append_assoc]
      rfl
    | false =>
      show lcL h t fe gw ds S acc = _
      rw [lc_filter S ds acc (fun d' h' => hd d' (List.mem_cons_of_mem _ h')) (by omega), List.filter_cons, if_neg (by rw [hp]; exact Bool.false_ne_true)]
/-- a comprehension that changes the store -/
theorem lc_st {fe : DE} {gw : Ev} (J : List D → Sto → Prop) (P : D → Prop) (hd : ∀ d ds S, J (d :: ds) S → ∃ g1 e S2, h d gw = some g1 ∧ t g1 S = .ok true S ∧ fe g1 S = .ok e S2 ∧ P e ∧ J ds S2) : ∀ (ds acc : List D) (S : Sto), J ds S → acc.length + ds.length ≤ sizeLine →
    ∃ es S2, lcL h t fe gw ds S acc = .ok (acc ++ es) S2 ∧ es.length = ds.length ∧ (∀ e ∈ es, P e) ∧ J [] S2
  | [], acc, S, hJ, _ => ⟨[], S, by rw [List.append_nil]; rfl, rfl, (fun e he => nomatch he), hJ⟩
  | d :: ds, acc, S, hJ, hl => by
    obtain ⟨g1, e, S2, e1, e2, e3, hp, hJ2⟩ := hd d ds S hJ
    rw [List.length_cons] at hl
    obtain ⟨es, S3, q1, q2, q3, q4⟩ := lc_st J P hd ds (acc ++ [e]) S2 hJ2 (by rw [List.length_append, List.length_singleton]; omega)
    refine ⟨e :: es, S3, ?_, by rw [List.length_cons, List.length_cons, q2], fun e' he => ?_, q4⟩
    · show (match h d gw with
        | none => (Out.bad : Out (List D))
        | some g1 => match t g1 S with
          | .ok true S1 => (match fe g1 S1 with
            | .ok e S2 => if acc.length < sizeLine then lcL h t fe gw ds S2 (acc ++ [e]) else .bad
            | _ => .bad)
          | .ok false S1 => lcL h t fe gw ds S1 acc
          | _ => .bad) = _
      rw [e1]
      show (match t g1 S with
          | .ok true S1 => (match fe g1 S1 with
            | .ok e S2 => if acc.length < sizeLine then lcL h t fe gw ds S2 (acc ++ [e]) else .bad
            | _ => .bad)
          | .ok false S1 => lcL h t fe gw ds S1 acc
          | _ => .bad) = _
      rw [e2]
      show (match fe g1 S with
            | .ok e S2 => if acc.length < sizeLine then lcL h t fe gw ds S2 (acc ++ [e]) else .bad
            | _ => .bad) = _
      rw [e3]
      show (if acc.length < sizeLine then lcL h t fe gw ds S2 (acc ++ [e]) else .bad) = _
      rw [if_pos (by omega), q1, List.append_assoc]
      rfl
    · rcases List.mem_cons.mp he with z | z
      · rw [z]; exact hp
      · exact q3 e' z
@[simp] theorem e_oLc {vs : List Nat} {fe : DE} : oLc vs fi h t fe g S = (fi g S).bind fun ds S1 => lcL h t fe (blkG vs g) ds S1 [] := rfl
@[simp] theorem e_Yes : dYes g S = .ok true S := rfl
end
/-! ### the slots of a block -/
def bk (vs : List Nat) : Nat → Ev → Ev
  | _, [] => []
  | k, s :: g => (if k ∈ vs then .no else DL.seen s) :: bk vs (k + 1) g
theorem bk_get (vs : List Nat) : ∀ (k : Nat) (g : Ev) (i : Nat), (bk vs k g)[i]? = (g[i]?).map fun s => if k + i ∈ vs then .no else DL.seen s
  | _, [], i => by simp [bk]
  | k, s :: g, 0 => rfl
  | k, s :: g, i + 1 => by
    show (bk vs (k + 1) g)[i]? = (g[i]?).map _
    rw [bk_get vs (k + 1) g i]
    have : k + 1 + i = k + (i + 1) := by omega
    rw [this]
@[simp] theorem blk_eq (vs : List Nat) (g : Ev) : blkG vs g = bk vs 0 g := by
  apply List.ext_getElem?
  intro i
  rw [bk_get]
  unfold blkG
  rw [List.getElem?_map, List.getElem?_zipIdx]
  cases g[i]? with
  | none => rfl
  | some s => rfl
@[simp] theorem bk_nil (vs : List Nat) (k : Nat) : bk vs k [] = [] := rfl
@[simp] theorem bk_cons (vs : List Nat) (k : Nat) (s : SL) (g : Ev) : bk vs k (s :: g) = (if k ∈ vs then .no else DL.seen s) :: bk vs (k + 1) g := rfl
@[simp] theorem seen_im (d : D) : DL.seen (.im d) = .im d := rfl
@[simp] theorem seen_no : DL.seen .no = .no := rfl
@[simp] theorem seen_own (ds : List D) : DL.seen (.own ds) = .no := rfl
/-! ### enumerate -/
def enumFr : Nat → List D → List D
  | _, [] => []
  | k, d :: ds => .tup [.int (k : Nat), d] :: enumFr (k + 1) ds
theorem enumFr_len : ∀ (k : Nat) (ds : List D), (enumFr k ds).length = ds.length
  | _, [] => rfl
  | k, d :: ds => by
    show (enumFr (k + 1) ds).length + 1 = _
    rw [enumFr_len (k + 1) ds]
    rfl
theorem enumFr_get : ∀ (k : Nat) (ds : List D) (i : Nat), (enumFr k ds)[i]? = (ds[i]?).map fun d => D.tup [.int ((k + i : Nat) : Int), d]
  | _, [], i => by simp [enumFr]
  | k, d :: ds, 0 => rfl
  | k, d :: ds, i + 1 => by
    show (enumFr (k + 1) ds)[i]? = (ds[i]?).map _
    rw [enumFr_get (k + 1) ds i]
    have : k + 1 + i = k + (i + 1) := by omega
    rw [this]
theorem enumD_fr (ds : List D) : enumD ds = enumFr 0 ds := by
  apply List.ext_getElem?
  intro i
  rw [enumFr_get]
  cases e : (enumD ds)[i]? with
  | none =>
    have : ds.length ≤ i := by
      have := List.getElem?_eq_none_iff.mp e
      rwa [enumD_len] at this
    rw [List.getElem?_eq_none this]
    rfl
  | some c =>
    obtain ⟨d, hd, rfl⟩ := enumD_get e
    rw [hd, Nat.zero_add]
    rfl
/-! ### lists of the store -/
theorem put_of {S : Sto} {l j : Nat} {ds : List D} {d : D} {k : Int} (hS : S[l]? = some (.lst ds)) (hj : ixN ds.length k = some j) : putD d (.lab l) (.int k) S = some (S.set l (.lst (ds.set j d))) := by
  show (match S[l]? with
    | some (.lst ds) => (ixN ds.length k).map fun j => S.set l (.lst (ds.set j d))
    | _ => none) = _
  rw [hS]
  show (ixN ds.length k).map _ = _
  rw [hj]
  rfl
theorem ixLab {S : Sto} {l : Nat} {ds : List D} {k : Int} (hS : S[l]? = some (.lst ds)) : oIx (.lab l) (.int k) S = atI ds k := by
  show ((match S[l]? with | some (.lst ds) => some ds | _ => none) : Option (List D)).bind (fun ds => atI ds k) = _
  rw [hS]
  rfl
theorem set_get {S : Sto} {l : Nat} {o o' : MO} (hS : S[l]? = some o) : (S.set l o')[l]? = some o' := List.getElem?_set_self (List.getElem?_eq_some_iff.mp hS).1
/-! ### bounds -/
theorem log2_small {n m : Nat} (h : n < 2 ^ m) (hm : 0 < m) : n.log2 < m := by
  by_cases h0 : n = 0
  · subst h0; simpa using hm
  · exact (Nat.log2_lt h0).mpr h
theorem cMul_of {i j : Int} (h1 : i.natAbs < 2 ^ 200) (h2 : j.natAbs < 2 ^ 200) : cMul i j = true := by
  unfold cMul
  have := log2_small h1 (by decide)
  have := log2_small h2 (by decide)
  exact decide_eq_true (by omega)
theorem cDiv_of {i j : Int} (h0 : 0 < j) (h2 : j.natAbs < 2 ^ 200) : cDiv i j = true := by
  unfold cDiv
  have := log2_small h2 (by decide)
  rw [Bool.and_eq_true, decide_eq_true_iff, decide_eq_true_iff]
  exact ⟨h0, by omega⟩
theorem cPos_of {i j : Int} (h0 : 0 < j) : cPos i j = true := by
  unfold cPos
  exact decide_eq_true h0
theorem cPow_of {i j : Int} (h0 : 0 ≤ j) (h1 : j ≤ 1000000) (h2 : i.natAbs < 2 ^ 64) : cPow i j = true := by
  unfold cPow
  rw [Bool.and_eq_true, Bool.and_eq_true, decide_eq_true_iff, decide_eq_true_iff, decide_eq_true_iff]
  exact ⟨h0, h1, h2⟩
/-! ### bits -/
theorem band_nat (a b : Nat) : Builtin.bitAnd (a : Int) (b : Int) = ((a &&& b : Nat) : Int) := by
  show Builtin.bitAnd (Int.ofNat a) (Int.ofNat b) = _
  rfl
theorem band_mask (x : Int) (k : Nat) : Builtin.bitAnd x (2 ^ k - 1) = x % 2 ^ k := PySem.W.kbt_mask x k
end DL
/-! DO: the draws that the laws have in common. -/
namespace DL
open PySem PySem.Spec PyProof.Rows L2
def sBag : DF := runB 1 (oRet (oLst (dCons (dFn oMax (dCons (dC (.int 0)) (dCons (dOp oSub (dVar 0) (dOp oPow (dC (.int 10)) (dC (.int 18)))) (dNil)))) (dCons (dVar 0) (dCons (dC (.int 0)) (dNil))))))
def sPick : DF := runB 8 (dSeq (dPut (dOp oAdd (dOp oIx (dVar 0) (dC (.int 2))) (dC (.int 1))) (dVar 0) (dC (.int 2))) (dSeq (dIfS (dT (dOp oGt (dOp oIx (dVar 0) (dC (.int 0))) (dC (.int 0)))) (dSeq (dSet 2 (dOp oMod (dFn oInt (dCons (dOp oIx (dVar 0) (dC (.int 0))) (dNil))) (dVar 1))) (dSeq (dPut (dOp oDiv (dFn oInt (dCons (dOp oIx (dVar 0) (dC (.int 0))) (dNil))) (dVar 1)) (dVar 0) (dC (.int 0))) (dRet (dVar 2)))) (dNext)) (dSeq (dPar 3 4 (dFn oInt (dCons (dOp oIx (dVar 0) (dC (.int 1))) (dNil))) (dFn oInt (dCons (dOp oIx (dVar 0) (dC (.int 2))) (dNil)))) (dSeq (dSet 5 (dOp oMod (dFn oInt (dCons (dOp oAdd (dOp oAdd (dOp oMul (dOp oMod (dVar 3) (dC (.int 2147483629))) (dC (.int 48271))) (dOp oMul (dVar 4) (dC (.int 69621)))) (dC (.int 12345))) (dNil))) (dC (.int 2147483647)))) (dSeq (dSet 6 (dOp oMod (dFn oInt (dCons (dOp oAdd (dOp oMul (dVar 5) (dVar 5)) (dOp oMul (dVar 4) (dC (.int 40692)))) (dNil))) (dC (.int 2147483587)))) (dSeq (dSet 7 (dOp oDiv (dFn oInt (dCons (dOp oAdd (dOp oMul (dVar 5) (dC (.int 2147483587))) (dVar 6)) (dNil))) (dC (.int 32)))) (dSeq (dIfS (dT (dOp oGt (dVar 1) (dOp oPow (dC (.int 10)) (dC (.int 15))))) (dSet 7 (dOp oAdd (dOp oPow (dVar 7) (dC (.int 8))) (dVar 6))) (dNext)) (dRet (dOp oMod (dFn oInt (dCons (dVar 7) (dNil))) (dVar 1))))))))))
def Bag (S : Sto) (l N : Nat) : Prop := ∃ a b c : Int, S[l]? = some (.lst [.int a, .int b, .int c]) ∧ 0 ≤ c ∧ c ≤ (N : Nat)
theorem ix3_0 {a b c : D} : L2.atI [a, b, c] 0 = some a := rfl
theorem ix3_1 {a b c : D} : L2.atI [a, b, c] 1 = some b := rfl
theorem ix3_2 {a b c : D} : L2.atI [a, b, c] 2 = some c := rfl
theorem pick_of {l N : Nat} {many : Int} {S : Sto} (hB : Bag S l N) (hN : N < 2 ^ 64) (h0 : 0 < many) (h1 : many < 2 ^ 200) :
    ∃ t S2, sPick [.lab l, .int many] S = .ok (.im (.int t)) S2 ∧ 0 ≤ t ∧ t < many ∧ Bag S2 l (N + 1) ∧ S2.length = S.length := by
  obtain ⟨a, b, c, hS, hc, hcN⟩ := hB
  have p1 := put_of (d := .int (c + 1)) (k := 2) (j := 2) hS rfl
  have hS1 : (S.set l (.lst [.int a, .int b, .int (c + 1)]))[l]? = some (.lst [.int a, .int b, .int (c + 1)]) := set_get hS
  have p1' : putD (.int (c + 1)) (.lab l) (.int 2) S = some (S.set l (.lst [.int a, .int b, .int (c + 1)])) := p1
  have hpos := cPos_of (i := a) h0
  have hdiv := cDiv_of (i := a) h0 (by omega)
  have i2 : oIx (.lab l) (.int 2) S = some (.int c) := by rw [ixLab hS]; rfl
  have hL : (S.set l (.lst [.int a, .int b, .int (c + 1)])).length = S.length := List.length_set
  generalize S.set l (.lst [.int a, .int b, .int (c + 1)]) = S1 at *
  have j0 : oIx (.lab l) (.int 0) S1 = some (.int a) := by rw [ixLab hS1]; rfl
  have j1 : oIx (.lab l) (.int 1) S1 = some (.int b) := by rw [ixLab hS1]; rfl
  have j2 : oIx (.lab l) (.int 2) S1 = some (.int (c + 1)) := by rw [ixLab hS1]; rfl
  by_cases ha : 0 < a
  · have p2 := put_of (d := .int (a / many)) (k := 0) (j := 0) hS1 rfl
    have p2' : putD (.int (a / many)) (.lab l) (.int 0) S1 = some (S1.set l (.lst [.int (a / many), .int b, .int (c + 1)])) := p2
    refine ⟨a % many, S1.set l (.lst [.int (a / many), .int b, .int (c + 1)]), ?_, Int.emod_nonneg _ (by omega), Int.emod_lt_of_pos _ h0, ⟨_, _, _, set_get hS1, by omega, by omega⟩, by rw [List.length_set, hL]⟩
    simp [sPick, i2, p1', j0, ha, hpos, hdiv, p2']
  · have m1 : cMul (b % 2147483629) 48271 = true := cMul_of (by omega) (by decide)
    have m2 : cMul (c + 1) 69621 = true := cMul_of (by omega) (by decide)
    have q1 := cPos_of (i := b) (j := 2147483629) (by decide)
    have q2 : ∀ i, cPos i 2147483647 = true := fun i => cPos_of (by decide)
    have q3 : ∀ i, cPos i 2147483587 = true := fun i => cPos_of (by decide)
    have q4 : ∀ i, cDiv i 32 = true := fun i => cDiv_of (by decide) (by decide)
    have q5 : ∀ i, cPos i many = true := fun i => cPos_of h0
    have m3 : cMul (c + 1) 40692 = true := cMul_of (by omega) (by decide)
    have f0 := Int.emod_nonneg (b % 2147483629 * 48271 + (c + 1) * 69621 + 12345) (b := 2147483647) (by decide)
    have f1 := Int.emod_lt_of_pos (b % 2147483629 * 48271 + (c + 1) * 69621 + 12345) (b := 2147483647) (by decide)
    generalize hf : (b % 2147483629 * 48271 + (c + 1) * 69621 + 12345) % 2147483647 = first at *
    have m4 : cMul first first = true := cMul_of (by omega) (by omega)
    have m5 : cMul first 2147483587 = true := cMul_of (by omega) (by decide)
    have g0 := Int.emod_nonneg (first * first + (c + 1) * 40692) (b := 2147483587) (by decide)
    have g1 := Int.emod_lt_of_pos (first * first + (c + 1) * 40692) (b := 2147483587) (by decide)
    generalize hs : (first * first + (c + 1) * 40692) % 2147483587 = second at *
    have w0 : cPow ((first * 2147483587 + second) / 32) 8 = true := cPow_of (by decide) (by decide) (by omega)
    by_cases hm : 1000000000000000 < many
    · refine ⟨(((first * 2147483587 + second) / 32) ^ 8 + second) % many, S1, ?_, Int.emod_nonneg _ (by omega), Int.emod_lt_of_pos _ h0, ⟨_, _, _, hS1, by omega, by omega⟩, hL⟩
      have w1 : cPow 10 15 = true := by decide
      simp [sPick, i2, p1', j0, j1, j2, ha, m1, m2, m3, q1, q2, q3, q4, q5, hf, hs, m4, m5, w0, w1, hm]
    · refine ⟨((first * 2147483587 + second) / 32) % many, S1, ?_, Int.emod_nonneg _ (by omega), Int.emod_lt_of_pos _ h0, ⟨_, _, _, hS1, by omega, by omega⟩, hL⟩
      have w1 : cPow 10 15 = true := by decide
      simp [sPick, i2, p1', j0, j1, j2, ha, m1, m2, m3, q1, q2, q3, q4, q5, hf, hs, m4, m5, w0, w1, hm]
theorem line3 {n : Nat} (h : n ≤ 3) : n ≤ sizeLine := by rw [sizeLine_eq]; omega
theorem bag_of {cell : Int} {S : Sto} : ∃ a, sBag [.int cell] S = .ok (.own [.int a, .int cell, .int 0]) S := by
  have w1 : cPow 10 18 = true := by decide
  have z := line3 (Nat.le_refl 3)
  refine ⟨if cell - 1000000000000000000 > 0 then cell - 1000000000000000000 else 0, ?_⟩
  simp [sBag, w1, z]
end DL
/-! The walk of logtrees_k48_errors_made: printed by gen.py. -/
namespace K48
open PySem PySem.Spec PyProof.Rows L2 DL
def top (i : Nat) : Stmt := PySem.Challenge.pw_logtrees_k48_errors_made.main.body.getD i (.Pass ⟨0, 0, 0, 0⟩)
def meth0 (st : Stmt) : Stmt := match st with
  | .ClassDef _ _ _ body _ _ _ _ _ _ _ => body.getD 0 (.Pass ⟨0, 0, 0, 0⟩)
  | s => s
abbrev FnP (K : Fg) (x : Str) (st : Stmt) (f : Addr) (fd : FuncData) : Prop := FunD K x x (defArgs st) (defBody st) (defScope st) [] [] f fd
def exs : List Str := ["LogError", "InvalidSpans", "InvalidNodes", "InvalidBounds", "InvalidText", "OverBudget", "InvalidSize", "InvalidEntry", "InvalidNode", "InvalidSpan", "InvalidNumber", "InvalidHeight", "InvalidBudget", "InvalidOperation", "Nothing", "InvalidCommand"]
def isA (t c : Str) : Bool := decide (c = t) || decide (t = ("LogError" : Str))
def fcs_count : List Str := ["OverBudget"]
def fcs_part : List Str := ["InvalidText"]
def fcs_item : List Str := ["InvalidSpans", "InvalidNodes", "InvalidBounds"]
/-- what the module holds -/
structure Fx (K : Fg) (mg : Str → Option Value) : Prop where
  fr_max : mg "max" = none
  fr_int : mg "int" = none
  fr_isinstance : mg "isinstance" = none
  fr_range : mg "range" = none
  fr_enumerate : mg "enumerate" = none
  fr_ValueError : mg "ValueError" = none
  fr_len : mg "len" = none
  x_InvalidNumber : ExFx K mg "InvalidNumber"
  x_InvalidSpan : ExFx K mg "InvalidSpan"
  x_InvalidNode : ExFx K mg "InvalidNode"
  x_InvalidEntry : ExFx K mg "InvalidEntry"
  x_InvalidSize : ExFx K mg "InvalidSize"
  x_Nothing : ExFx K mg "Nothing"
  x_InvalidOperation : ExFx K mg "InvalidOperation"
  x_InvalidBudget : ExFx K mg "InvalidBudget"
  x_InvalidHeight : ExFx K mg "InvalidHeight"
  x_InvalidCommand : ExFx K mg "InvalidCommand"
  x_LogError : ExFx K mg "LogError"
  g_InvalidBounds : mg "InvalidBounds" = some (.ref (He.ga K "InvalidBounds"))
  g_InvalidNodes : mg "InvalidNodes" = some (.ref (He.ga K "InvalidNodes"))
  g_InvalidSpans : mg "InvalidSpans" = some (.ref (He.ga K "InvalidSpans"))
  g_InvalidSize : mg "InvalidSize" = some (.ref (He.ga K "InvalidSize"))
  g_OverBudget : mg "OverBudget" = some (.ref (He.ga K "OverBudget"))
  g_InvalidText : mg "InvalidText" = some (.ref (He.ga K "InvalidText"))
  g_InvalidSpan : mg "InvalidSpan" = some (.ref (He.ga K "InvalidSpan"))
  g_InvalidNode : mg "InvalidNode" = some (.ref (He.ga K "InvalidNode"))
  g_InvalidEntry : mg "InvalidEntry" = some (.ref (He.ga K "InvalidEntry"))
  g_InvalidBudget : mg "InvalidBudget" = some (.ref (He.ga K "InvalidBudget"))
  g_InvalidHeight : mg "InvalidHeight" = some (.ref (He.ga K "InvalidHeight"))
  g_InvalidNumber : mg "InvalidNumber" = some (.ref (He.ga K "InvalidNumber"))
  g_Nothing : mg "Nothing" = some (.ref (He.ga K "Nothing"))
  g_InvalidOperation : mg "InvalidOperation" = some (.ref (He.ga K "InvalidOperation"))
  g_InvalidCommand : mg "InvalidCommand" = some (.ref (He.ga K "InvalidCommand"))
  g_LogError : mg "LogError" = some (.ref (He.ga K "LogError"))
  ecs : ∀ c ∈ exs, ExcC K (He.ga K c)
  k_InvalidBounds : ∀ c ∈ exs, PySem.W.kitOne K (.ref (He.ga K c)) (.ref (He.ga K "InvalidBounds")) = some (isA "InvalidBounds" c)
  k_InvalidNodes : ∀ c ∈ exs, PySem.W.kitOne K (.ref (He.ga K c)) (.ref (He.ga K "InvalidNodes")) = some (isA "InvalidNodes" c)
  k_InvalidSpans : ∀ c ∈ exs, PySem.W.kitOne K (.ref (He.ga K c)) (.ref (He.ga K "InvalidSpans")) = some (isA "InvalidSpans" c)
  k_InvalidSize : ∀ c ∈ exs, PySem.W.kitOne K (.ref (He.ga K c)) (.ref (He.ga K "InvalidSize")) = some (isA "InvalidSize" c)
  k_OverBudget : ∀ c ∈ exs, PySem.W.kitOne K (.ref (He.ga K c)) (.ref (He.ga K "OverBudget")) = some (isA "OverBudget" c)
  k_InvalidText : ∀ c ∈ exs, PySem.W.kitOne K (.ref (He.ga K c)) (.ref (He.ga K "InvalidText")) = some (isA "InvalidText" c)
  k_InvalidSpan : ∀ c ∈ exs, PySem.W.kitOne K (.ref (He.ga K c)) (.ref (He.ga K "InvalidSpan")) = some (isA "InvalidSpan" c)
  k_InvalidNode : ∀ c ∈ exs, PySem.W.kitOne K (.ref (He.ga K c)) (.ref (He.ga K "InvalidNode")) = some (isA "InvalidNode" c)
  k_InvalidEntry : ∀ c ∈ exs, PySem.W.kitOne K (.ref (He.ga K c)) (.ref (He.ga K "InvalidEntry")) = some (isA "InvalidEntry" c)
  k_InvalidBudget : ∀ c ∈ exs, PySem.W.kitOne K (.ref (He.ga K c)) (.ref (He.ga K "InvalidBudget")) = some (isA "InvalidBudget" c)
  k_InvalidHeight : ∀ c ∈ exs, PySem.W.kitOne K (.ref (He.ga K c)) (.ref (He.ga K "InvalidHeight")) = some (isA "InvalidHeight" c)
  k_InvalidNumber : ∀ c ∈ exs, PySem.W.kitOne K (.ref (He.ga K c)) (.ref (He.ga K "InvalidNumber")) = some (isA "InvalidNumber" c)
  k_Nothing : ∀ c ∈ exs, PySem.W.kitOne K (.ref (He.ga K c)) (.ref (He.ga K "Nothing")) = some (isA "Nothing" c)
  k_InvalidOperation : ∀ c ∈ exs, PySem.W.kitOne K (.ref (He.ga K c)) (.ref (He.ga K "InvalidOperation")) = some (isA "InvalidOperation" c)
  k_InvalidCommand : ∀ c ∈ exs, PySem.W.kitOne K (.ref (He.ga K c)) (.ref (He.ga K "InvalidCommand")) = some (isA "InvalidCommand" c)
  k_LogError : ∀ c ∈ exs, PySem.W.kitOne K (.ref (He.ga K c)) (.ref (He.ga K "LogError")) = some (isA "LogError" c)
  k_ValueError : ∀ c ∈ exs, PySem.W.kitOne K (.ref (He.ga K c)) (.type "ValueError") = some true
  f_count : ∀ c ∈ fcs_count, ExcC K (He.ga K c) ∧ PySem.W.findIn K (.ref (He.ga K c)) "count" = some none
  f_part : ∀ c ∈ fcs_part, ExcC K (He.ga K c) ∧ PySem.W.findIn K (.ref (He.ga K c)) "part" = some none
  f_item : ∀ c ∈ fcs_item, ExcC K (He.ga K c) ∧ PySem.W.findIn K (.ref (He.ga K c)) "item" = some none
structure Gx (P : Program) (w : World) (K : Fg) (mg : Str → Option Value) (base : Heap) : Prop where
  t : True
  o_OverBudget : OxFx P w K mg base "OverBudget" "count" 1
  o_InvalidText : OxFx P w K mg base "InvalidText" "part" 1
  o_InvalidBounds : OxFx P w K mg base "InvalidBounds" "item" 1
  o_InvalidNodes : OxFx P w K mg base "InvalidNodes" "item" 1
  o_InvalidSpans : OxFx P w K mg base "InvalidSpans" "item" 1
section
variable {P : Program} {w : World} {K : Fg} {mg : Str → Option Value} {base : Heap} (T : Fx K mg) (G : Gx P w K mg base)
include T G
/-! _law_bag -/
abbrev st__law_bag : Stmt := top 18
def N__law_bag : List Str := ["cell"]
omit T G in
theorem sc__law_bag : FnScope N__law_bag ["cell"] (defScope st__law_bag) := ⟨rfl, rfl, rfl, by decide +kernel, rfl, by decide +kernel, by decide +kernel⟩
def u__law_bag : DS := oRet (oLst (dCons (dFn oMax (dCons (dC (.int 0)) (dCons (dOp oSub (dVar 0) (dOp oPow (dC (.int 10)) (dC (.int 18)))) (dNil)))) (dCons (dVar 0) (dCons (dC (.int 0)) (dNil)))))
def f__law_bag : DF := runB 1 u__law_bag
theorem ok__law_bag {f : Addr} {fd : FuncData} (g__law_bag : mg "_law_bag" = some (.ref f)) (F : FnP K "_law_bag" st__law_bag f fd)  : Callee P w K mg base "_law_bag" 1 ["cell"] f__law_bag := by
  refine callee (N := N__law_bag) (u := u__law_bag) g__law_bag F (fun _ _ _ _ _ _ us hl => match us, hl with | [_], _ => rfl) sc__law_bag ?_
  intro cdv A outer s H E w0 hr
  exact psd_one (psd_retO (po_lst (pda_cons (bd T.fr_max (fv_max rfl) (pda_cons (pd_int) (pda_cons (pd_op ov_sub (vd 0) (pd_op ov_pow (pd_int) (pd_int))) (pda_nil)))) (pda_cons (vd 0) (pda_cons (pd_int) (pda_nil))))))
/-! _law_pick -/
abbrev st__law_pick : Stmt := top 19
def N__law_pick : List Str := ["bag", "many", "told", "seed", "turn", "first", "second", "drawn"]
omit T G in
theorem sc__law_pick : FnScope N__law_pick ["bag", "many"] (defScope st__law_pick) := ⟨rfl, rfl, rfl, by decide +kernel, rfl, by decide +kernel, by decide +kernel⟩
def u__law_pick : DS := dSeq (dPut (dOp oAdd (dOp oIx (dVar 0) (dC (.int 2))) (dC (.int 1))) (dVar 0) (dC (.int 2))) (dSeq (dIfS (dT (dOp oGt (dOp oIx (dVar 0) (dC (.int 0))) (dC (.int 0)))) (dSeq (dSet 2 (dOp oMod (dFn oInt (dCons (dOp oIx (dVar 0) (dC (.int 0))) (dNil))) (dVar 1))) (dSeq (dPut (dOp oDiv (dFn oInt (dCons (dOp oIx (dVar 0) (dC (.int 0))) (dNil))) (dVar 1)) (dVar 0) (dC (.int 0))) (dRet (dVar 2)))) (dNext)) (dSeq (dPar 3 4 (dFn oInt (dCons (dOp oIx (dVar 0) (dC (.int 1))) (dNil))) (dFn oInt (dCons (dOp oIx (dVar 0) (dC (.int 2))) (dNil)))) (dSeq (dSet 5 (dOp oMod (dFn oInt (dCons (dOp oAdd (dOp oAdd (dOp oMul (dOp oMod (dVar 3) (dC (.int 2147483629))) (dC (.int 48271))) (dOp oMul (dVar 4) (dC (.int 69621)))) (dC (.int 12345))) (dNil))) (dC (.int 2147483647)))) (dSeq (dSet 6 (dOp oMod (dFn oInt (dCons (dOp oAdd (dOp oMul (dVar 5) (dVar 5)) (dOp oMul (dVar 4) (dC (.int 40692)))) (dNil))) (dC (.int 2147483587)))) (dSeq (dSet 7 (dOp oDiv (dFn oInt (dCons (dOp oAdd (dOp oMul (dVar 5) (dC (.int 2147483587))) (dVar 6)) (dNil))) (dC (.int 32)))) (dSeq (dIfS (dT (dOp oGt (dVar 1) (dOp oPow (dC (.int 10)) (dC (.int 15))))) (dSet 7 (dOp oAdd (dOp oPow (dVar 7) (dC (.int 8))) (dVar 6))) (dNext)) (dRet (dOp oMod (dFn oInt (dCons (dVar 7) (dNil))) (dVar 1)))))))))
def f__law_pick : DF := runB 8 u__law_pick
theorem ok__law_pick {f : Addr} {fd : FuncData} (g__law_pick : mg "_law_pick" = some (.ref f)) (F : FnP K "_law_pick" st__law_pick f fd)  : Callee P w K mg base "_law_pick" 1 ["bag", "many"] f__law_pick := by
  refine callee (N := N__law_pick) (u := u__law_pick) g__law_pick F (fun _ _ _ _ _ _ us hl => match us, hl with | [_, _], _ => rfl) sc__law_pick ?_
  intro cdv A outer s H E w0 hr
  exact psd_cons (psd_put (pd_op ov_add (pd_ix iv_ix (vd 0) (pd_int)) (pd_int)) (vd 0) (pd_int)) (psd_cons (psd_if (pt_cmp ov_gt (pd_ix iv_ix (vd 0) (pd_int)) (pd_int) (nomark _)) (psd_cons (psd_set (i := 2) sc__law_pick.nd rfl (by first | exact Or.inl rfl | exact Or.inr rfl) (pd_op ov_mod (td T.fr_int fv_int (pda_cons (pd_ix iv_ix (vd 0) (pd_int)) (pda_nil))) (vd 1))) (psd_cons (psd_put (pd_op ov_div (td T.fr_int fv_int (pda_cons (pd_ix iv_ix (vd 0) (pd_int)) (pda_nil))) (vd 1)) (vd 0) (pd_int)) (psd_one (psd_ret (vd 2))))) (psd_nil)) (psd_cons (psd_par (i := 3) (j := 4) rfl sc__law_pick.nd rfl rfl (by decide) rfl rfl (td T.fr_int fv_int (pda_cons (pd_ix iv_ix (vd 0) (pd_int)) (pda_nil))) (td T.fr_int fv_int (pda_cons (pd_ix iv_ix (vd 0) (pd_int)) (pda_nil))) (by first | rfl | kernel_rfl)) (psd_cons (psd_set (i := 5) sc__law_pick.nd rfl (by first | exact Or.inl rfl | exact Or.inr rfl) (pd_op ov_mod (td T.fr_int fv_int (pda_cons (pd_op ov_add (pd_op ov_add (pd_op ov_mul (pd_op ov_mod (vd 3) (pd_int)) (pd_int)) (pd_op ov_mul (vd 4) (pd_int))) (pd_int)) (pda_nil))) (pd_int))) (psd_cons (psd_set (i := 6) sc__law_pick.nd rfl (by first | exact Or.inl rfl | exact Or.inr rfl) (pd_op ov_mod (td T.fr_int fv_int (pda_cons (pd_op ov_add (pd_op ov_mul (vd 5) (vd 5)) (pd_op ov_mul (vd 4) (pd_int))) (pda_nil))) (pd_int))) (psd_cons (psd_set (i := 7) sc__law_pick.nd rfl (by first | exact Or.inl rfl | exact Or.inr rfl) (pd_op ov_div (td T.fr_int fv_int (pda_cons (pd_op ov_add (pd_op ov_mul (vd 5) (pd_int)) (vd 6)) (pda_nil))) (pd_int))) (psd_cons (psd_if (pt_cmp ov_gt (vd 1) (pd_op ov_pow (pd_int) (pd_int)) (nomark _)) (psd_one (psd_set (i := 7) sc__law_pick.nd rfl (by first | exact Or.inl rfl | exact Or.inr rfl) (pd_op ov_add (pd_op ov_pow (vd 7) (pd_int)) (vd 6)))) (psd_nil)) (psd_one (psd_ret (pd_op ov_mod (td T.fr_int fv_int (pda_cons (vd 7) (pda_nil))) (vd 1))))))))))
/-! _law_made -/
abbrev st__law_made : Stmt := top 20
def N__law_made : List Str := ["number", "found"]
omit T G in
theorem sc__law_made : FnScope N__law_made ["number"] (defScope st__law_made) := ⟨rfl, rfl, rfl, by decide +kernel, rfl, by decide +kernel, by decide +kernel⟩
def u__law_made : DS := dSeq (dSet 1 (dFrz (oLst (dCons (dMkF "InvalidSpans" "item" (dVar 0)) (dCons (dMkF "InvalidNodes" "item" (dVar 0)) (dCons (dMkF "InvalidBounds" "item" (dVar 0)) (dCons (dMkF "InvalidText" "part" (dVar 0)) (dCons (dMkF "OverBudget" "count" (dVar 0)) (dNil))))))))) (dSeq (dSet 1 (dOp oAdd (dVar 1) (dFrz (oLst (dCons (dMk0 "InvalidSize") (dCons (dMk0 "InvalidEntry") (dCons (dMk0 "InvalidNode") (dCons (dMk0 "InvalidSpan") (dCons (dMk0 "InvalidNumber") (dNil)))))))))) (dSeq (dSet 1 (dOp oAdd (dVar 1) (dFrz (oLst (dCons (dMk0 "InvalidHeight") (dCons (dMk0 "InvalidBudget") (dCons (dMk0 "InvalidOperation") (dCons (dMk0 "Nothing") (dNil))))))))) (oRet (oCat (dVar 1) (dFrz (oLst (dCons (dMk0 "InvalidCommand") (dNil))))))))
def f__law_made : DF := runB 2 u__law_made
theorem ok__law_made {f : Addr} {fd : FuncData} (g__law_made : mg "_law_made" = some (.ref f)) (F : FnP K "_law_made" st__law_made f fd)  : Callee P w K mg base "_law_made" 3 ["number"] f__law_made := by
  refine callee (N := N__law_made) (u := u__law_made) g__law_made F (fun _ _ _ _ _ _ us hl => match us, hl with | [_], _ => rfl) sc__law_made ?_
  intro cdv A outer s H E w0 hr
  exact psd_cons (psd_set (i := 1) sc__law_made.nd rfl (by first | exact Or.inl rfl | exact Or.inr rfl) (pd_frz (po_lst (pda_cons (pd_mkF G.o_InvalidSpans hr (vd 0)) (pda_cons (pd_mkF G.o_InvalidNodes hr (vd 0)) (pda_cons (pd_mkF G.o_InvalidBounds hr (vd 0)) (pda_cons (pd_mkF G.o_InvalidText hr (vd 0)) (pda_cons (pd_mkF G.o_OverBudget hr (vd 0)) (pda_nil))))))))) (psd_cons (psd_set (i := 1) sc__law_made.nd rfl (by first | exact Or.inl rfl | exact Or.inr rfl) (pd_op ov_add (vd 1) (pd_frz (po_lst (pda_cons (pd_mk0 T.x_InvalidSize) (pda_cons (pd_mk0 T.x_InvalidEntry) (pda_cons (pd_mk0 T.x_InvalidNode) (pda_cons (pd_mk0 T.x_InvalidSpan) (pda_cons (pd_mk0 T.x_InvalidNumber) (pda_nil)))))))))) (psd_cons (psd_set (i := 1) sc__law_made.nd rfl (by first | exact Or.inl rfl | exact Or.inr rfl) (pd_op ov_add (vd 1) (pd_frz (po_lst (pda_cons (pd_mk0 T.x_InvalidHeight) (pda_cons (pd_mk0 T.x_InvalidBudget) (pda_cons (pd_mk0 T.x_InvalidOperation) (pda_cons (pd_mk0 T.x_Nothing) (pda_nil))))))))) (psd_one (psd_retO (po_cat (vd 1) (pd_frz (po_lst (pda_cons (pd_mk0 T.x_InvalidCommand) (pda_nil)))))))))
/-! _law_classes -/
abbrev st__law_classes : Stmt := top 21
def N__law_classes : List Str := ["one", "found"]
omit T G in
theorem sc__law_classes : FnScope N__law_classes ["one"] (defScope st__law_classes) := ⟨rfl, rfl, rfl, by decide +kernel, rfl, by decide +kernel, by decide +kernel⟩
def u__law_classes : DS := dSeq (dSet 1 (dFrz (oLst (dCons (dIsX exs (isA "InvalidSpans") (dVar 0)) (dCons (dIsX exs (isA "InvalidNodes") (dVar 0)) (dCons (dIsX exs (isA "InvalidBounds") (dVar 0)) (dNil))))))) (dSeq (dSet 1 (dOp oAdd (dVar 1) (dFrz (oLst (dCons (dIsX exs (isA "InvalidText") (dVar 0)) (dCons (dIsX exs (isA "OverBudget") (dVar 0)) (dCons (dIsX exs (isA "InvalidSize") (dVar 0)) (dNil)))))))) (dSeq (dSet 1 (dOp oAdd (dVar 1) (dFrz (oLst (dCons (dIsX exs (isA "InvalidEntry") (dVar 0)) (dCons (dIsX exs (isA "InvalidNode") (dVar 0)) (dCons (dIsX exs (isA "InvalidSpan") (dVar 0)) (dNil)))))))) (dSeq (dSet 1 (dOp oAdd (dVar 1) (dFrz (oLst (dCons (dIsX exs (isA "InvalidNumber") (dVar 0)) (dCons (dIsX exs (isA "InvalidHeight") (dVar 0)) (dCons (dIsX exs (isA "InvalidBudget") (dVar 0)) (dNil)))))))) (dSeq (dSet 1 (dOp oAdd (dVar 1) (dFrz (oLst (dCons (dIsX exs (isA "InvalidOperation") (dVar 0)) (dCons (dIsX exs (isA "Nothing") (dVar 0)) (dNil))))))) (oRet (oCat (dVar 1) (dFrz (oLst (dCons (dIsX exs (isA "InvalidCommand") (dVar 0)) (dNil))))))))))
def f__law_classes : DF := runB 2 u__law_classes
theorem ok__law_classes {f : Addr} {fd : FuncData} (g__law_classes : mg "_law_classes" = some (.ref f)) (F : FnP K "_law_classes" st__law_classes f fd)  : Callee P w K mg base "_law_classes" 1 ["one"] f__law_classes := by
  refine callee (N := N__law_classes) (u := u__law_classes) g__law_classes F (fun _ _ _ _ _ _ us hl => match us, hl with | [_], _ => rfl) sc__law_classes ?_
  intro cdv A outer s H E w0 hr
  exact psd_cons (psd_set (i := 1) sc__law_classes.nd rfl (by first | exact Or.inl rfl | exact Or.inr rfl) (pd_frz (po_lst (pda_cons (isx T.fr_isinstance T.g_InvalidSpans T.ecs T.k_InvalidSpans (vd 0)) (pda_cons (isx T.fr_isinstance T.g_InvalidNodes T.ecs T.k_InvalidNodes (vd 0)) (pda_cons (isx T.fr_isinstance T.g_InvalidBounds T.ecs T.k_InvalidBounds (vd 0)) (pda_nil))))))) (psd_cons (psd_set (i := 1) sc__law_classes.nd rfl (by first | exact Or.inl rfl | exact Or.inr rfl) (pd_op ov_add (vd 1) (pd_frz (po_lst (pda_cons (isx T.fr_isinstance T.g_InvalidText T.ecs T.k_InvalidText (vd 0)) (pda_cons (isx T.fr_isinstance T.g_OverBudget T.ecs T.k_OverBudget (vd 0)) (pda_cons (isx T.fr_isinstance T.g_InvalidSize T.ecs T.k_InvalidSize (vd 0)) (pda_nil)))))))) (psd_cons (psd_set (i := 1) sc__law_classes.nd rfl (by first | exact Or.inl rfl | exact Or.inr rfl) (pd_op ov_add (vd 1) (pd_frz (po_lst (pda_cons (isx T.fr_isinstance T.g_InvalidEntry T.ecs T.k_InvalidEntry (vd 0)) (pda_cons (isx T.fr_isinstance T.g_InvalidNode T.ecs T.k_InvalidNode (vd 0)) (pda_cons (isx T.fr_isinstance T.g_InvalidSpan T.ecs T.k_InvalidSpan (vd 0)) (pda_nil)))))))) (psd_cons (psd_set (i := 1) sc__law_classes.nd rfl (by first | exact Or.inl rfl | exact Or.inr rfl) (pd_op ov_add (vd 1) (pd_frz (po_lst (pda_cons (isx T.fr_isinstance T.g_InvalidNumber T.ecs T.k_InvalidNumber (vd 0)) (pda_cons (isx T.fr_isinstance T.g_InvalidHeight T.ecs T.k_InvalidHeight (vd 0)) (pda_cons (isx T.fr_isinstance T.g_InvalidBudget T.ecs T.k_InvalidBudget (vd 0)) (pda_nil)))))))) (psd_cons (psd_set (i := 1) sc__law_classes.nd rfl (by first | exact Or.inl rfl | exact Or.inr rfl) (pd_op ov_add (vd 1) (pd_frz (po_lst (pda_cons (isx T.fr_isinstance T.g_InvalidOperation T.ecs T.k_InvalidOperation (vd 0)) (pda_cons (isx T.fr_isinstance T.g_Nothing T.ecs T.k_Nothing (vd 0)) (pda_nil))))))) (psd_one (psd_retO (po_cat (vd 1) (pd_frz (po_lst (pda_cons (isx T.fr_isinstance T.g_InvalidCommand T.ecs T.k_InvalidCommand (vd 0)) (pda_nil)))))))))))
/-! law -/
abbrev st_law : Stmt := top 22
def N_law : List Str := ["script", "bag", "turn", "number", "made", "k", "one", "base", "some", "j"]
omit T G in
theorem sc_law : FnScope N_law ["script"] (defScope st_law) := ⟨rfl, rfl, rfl, by decide +kernel, rfl, by decide +kernel, by decide +kernel⟩
def u_law : DS := dSeq (dSet 1 (dLab (oCallN 1 (f__law_bag) (dCons (dOp oIx (dOp oAdd (dVar 0) (dFrz (oLst (dCons (dC (.int 0)) (dNil))))) (dC (.int 0))) (dNil))))) (dSeq (dFor (iRange1 (dC (.int 4))) (hName 2) (dSeq (dSet 3 (dCallN 2 (f__law_pick) (dCons (dVar 1) (dCons (dOp oIx (dFrz (oLst (dCons (dC (.int 9)) (dCons (dOp oPow (dC (.int 10)) (dC (.int 60))) (dNil))))) (dOp oMod (dVar 2) (dC (.int 2)))) (dNil))))) (dSeq (dSet 4 (dCallN 1 (f__law_made) (dCons (dVar 3) (dNil)))) (dSeq (dFor (iEnumD (dVar 4)) (hTup [5, 6]) (dSeq (dIfS (dOr (dNot (dT (dIsX exs (isA "LogError") (dVar 6)))) (dNot (dT (dIsX exs (fun _ => true) (dVar 6))))) (dRet (dC (.bl false))) (dNext)) (dIfS (dT (dOp oNe (dCallN 1 (f__law_classes) (dCons (dVar 6) (dNil))) (dFrz (oLc [9] (iRange1 (dFn oLen (dCons (dVar 4) (dNil)))) (hName 9) (dYes) (dOp oEq (dVar 9) (dVar 5)))))) (dRet (dC (.bl false))) (dNext)))) (dIfS (dT (dOp oNe (dFrz (oLst (dCons (dFx fcs_item "item" (dOp oIx (dVar 4) (dC (.int 0)))) (dCons (dFx fcs_item "item" (dOp oIx (dVar 4) (dC (.int 1)))) (dCons (dFx fcs_item "item" (dOp oIx (dVar 4) (dC (.int 2)))) (dCons (dFx fcs_part "part" (dOp oIx (dVar 4) (dC (.int 3)))) (dCons (dFx fcs_count "count" (dOp oIx (dVar 4) (dC (.int 4)))) (dNil)))))))) (dOp oMulL (dFrz (oLst (dCons (dVar 3) (dNil)))) (dC (.int 5))))) (dRet (dC (.bl false))) (dNext)))))) (dSeq (dSet 7 (dMk0 "LogError")) (dSeq (dSet 8 (dFrz (oLst (dCons (dFx fcs_item "item" (dMkF "InvalidSpans" "item" (dC .non))) (dCons (dFx fcs_item "item" (dMkF "InvalidNodes" "item" (dC .non))) (dCons (dFx fcs_item "item" (dMkF "InvalidBounds" "item" (dC .non))) (dCons (dFx fcs_part "part" (dMkF "InvalidText" "part" (dC .non))) (dNil)))))))) (dRet (dAndV (dOp oEq (dVar 8) (dOp oMulL (dFrz (oLst (dCons (dC .non) (dNil)))) (dC (.int 4)))) (dAndV (dOp oNotIn (dC (.bl true)) (dCallN 1 (f__law_classes) (dCons (dVar 7) (dNil)))) (dIsX exs (fun _ => true) (dVar 7))))))))
def f_law : DF := runB 10 u_law
theorem ok_law {f : Addr} {fd : FuncData} (F : FnP K "law" st_law f fd) (c__law_bag : Callee P w K mg base "_law_bag" 1 ["cell"] (f__law_bag)) (c__law_pick : Callee P w K mg base "_law_pick" 1 ["bag", "many"] (f__law_pick)) (c__law_made : Callee P w K mg base "_law_made" 3 ["number"] (f__law_made)) (c__law_classes : Callee P w K mg base "_law_classes" 1 ["one"] (f__law_classes)) : FnOk P w K mg base (L2.CX P w) 4 f fd ["script"] (spF K 1 f_law) := by
  refine fn_okD (N := N_law) (u := u_law) F sc_law ?_
  intro cdv A outer s H E w0 hr
  exact psd_cons (psd_set (i := 1) sc_law.nd rfl (by first | exact Or.inl rfl | exact Or.inr rfl) (pd_lab (po_fn c__law_bag hr tk_of (pda_cons (pd_ix iv_ix (pd_op ov_add (vd 0) (pd_frz (po_lst (pda_cons (pd_int) (pda_nil))))) (pd_int)) (pda_nil))))) (psd_cons (psd_for hp_of rfl (pid_range1 rfl T.fr_range (pd_int)) (pgd_name (i := 2) sc_law.nd rfl (by first | exact Or.inl rfl | exact Or.inr rfl)) (psd_cons (psd_set (i := 3) sc_law.nd rfl (by first | exact Or.inl rfl | exact Or.inr rfl) (pd_fn c__law_pick hr tk_of (pda_cons (vd 1) (pda_cons (pd_ix iv_ix (pd_frz (po_lst (pda_cons (pd_int) (pda_cons (pd_op ov_pow (pd_int) (pd_int)) (pda_nil))))) (pd_op ov_mod (vd 2) (pd_int))) (pda_nil))))) (psd_cons (psd_set (i := 4) sc_law.nd rfl (by first | exact Or.inl rfl | exact Or.inr rfl) (pd_fn c__law_made hr tk_of (pda_cons (vd 3) (pda_nil)))) (psd_cons (psd_for hp_of rfl (pid_enum rfl T.fr_enumerate (vd 4)) (pgd_tup rfl (pgds_cons (i := 5) sc_law.nd rfl (by first | exact Or.inl rfl | exact Or.inr rfl) (pgds_cons (i := 6) sc_law.nd rfl (by first | exact Or.inl rfl | exact Or.inr rfl) (pgds_nil)))) (psd_cons (psd_if (pdt_w (pdw_or (pdt_not (pdt_val (isx T.fr_isinstance T.g_LogError T.ecs T.k_LogError (vd 6)))) (pdw_or1 (pdt_not (pdt_val (isxT "ValueError" T.fr_isinstance T.fr_ValueError T.ecs T.k_ValueError (vd 6))))))) (psd_one (psd_ret (pd_bl))) (psd_nil)) (psd_one (psd_if (pt_cmp (ov_ne hr.units) (pd_fn c__law_classes hr tk_of (pda_cons (vd 6) (pda_nil))) (pd_frz (po_lc (own := [("j", 9)]) rfl sc_law.nd (pid_range1 rfl T.fr_range (bd T.fr_len fv_len (pda_cons (vd 4) (pda_nil)))) (blkOk_by (N := N_law) (sc := defScope st_law) (by decide +kernel)) (fun _ _ _ _ _ => pgd_name (i := 9) sc_law.nd rfl (by first | exact Or.inl rfl | exact Or.inr rfl)) (fun _ _ _ _ _ => pdts_nil) (fun _ _ _ _ _ => pd_cmp (ov_eq hr.units) (vd 9) (vd 5) (nomark _)) (by decide))) (nomark _)) (psd_one (psd_ret (pd_bl))) (psd_nil))))) (psd_one (psd_if (pt_cmp (ov_ne hr.units) (pd_frz (po_lst (pda_cons (pd_fx T.f_item (pd_ix iv_ix (vd 4) (pd_int))) (pda_cons (pd_fx T.f_item (pd_ix iv_ix (vd 4) (pd_int))) (pda_cons (pd_fx T.f_item (pd_ix iv_ix (vd 4) (pd_int))) (pda_cons (pd_fx T.f_part (pd_ix iv_ix (vd 4) (pd_int))) (pda_cons (pd_fx T.f_count (pd_ix iv_ix (vd 4) (pd_int))) (pda_nil)))))))) (pd_op ov_mulL (pd_frz (po_lst (pda_cons (vd 3) (pda_nil)))) (pd_int)) (nomark _)) (psd_one (psd_ret (pd_bl))) (psd_nil))))))) (psd_cons (psd_set (i := 7) sc_law.nd rfl (by first | exact Or.inl rfl | exact Or.inr rfl) (pd_mk0 T.x_LogError)) (psd_cons (psd_set (i := 8) sc_law.nd rfl (by first | exact Or.inl rfl | exact Or.inr rfl) (pd_frz (po_lst (pda_cons (pd_fx T.f_item (pd_mkF G.o_InvalidSpans hr (pd_non))) (pda_cons (pd_fx T.f_item (pd_mkF G.o_InvalidNodes hr (pd_non))) (pda_cons (pd_fx T.f_item (pd_mkF G.o_InvalidBounds hr (pd_non))) (pda_cons (pd_fx T.f_part (pd_mkF G.o_InvalidText hr (pd_non))) (pda_nil)))))))) (psd_one (psd_ret (pd_and (pd_cmp (ov_eq hr.units) (vd 8) (pd_op ov_mulL (pd_frz (po_lst (pda_cons (pd_non) (pda_nil)))) (pd_int)) (nomark _)) (pd_and (pd_cmp (ov_notIn (hu65 hr)) (pd_bl) (pd_fn c__law_classes hr tk_of (pda_cons (vd 7) (pda_nil))) (by with_unfolding_all rfl)) (pd_one (isxT "ValueError" T.fr_isinstance T.fr_ValueError T.ecs T.k_ValueError (vd 7))))))))))
end
/-! the head -/
def d__law_bag : He.DefD := ⟨("_law_bag", none), "_law_bag", "_law_bag", defArgs st__law_bag, defBody st__law_bag, defScope st__law_bag, [], []⟩
def d__law_pick : He.DefD := ⟨("_law_pick", none), "_law_pick", "_law_pick", defArgs st__law_pick, defBody st__law_pick, defScope st__law_pick, [], []⟩
def d__law_made : He.DefD := ⟨("_law_made", none), "_law_made", "_law_made", defArgs st__law_made, defBody st__law_made, defScope st__law_made, [], []⟩
def d__law_classes : He.DefD := ⟨("_law_classes", none), "_law_classes", "_law_classes", defArgs st__law_classes, defBody st__law_classes, defScope st__law_classes, [], []⟩
def d_law : He.DefD := ⟨("law", none), "law", "law", defArgs st_law, defBody st_law, defScope st_law, [], []⟩
def sti_OverBudget : Stmt := meth0 (top 6)
def di_OverBudget : He.DefD := ⟨("OverBudget", some "__init__"), "__init__", "OverBudget.__init__", defArgs sti_OverBudget, defBody sti_OverBudget, defScope sti_OverBudget, [], []⟩
def sti_InvalidText : Stmt := meth0 (top 5)
def di_InvalidText : He.DefD := ⟨("InvalidText", some "__init__"), "__init__", "InvalidText.__init__", defArgs sti_InvalidText, defBody sti_InvalidText, defScope sti_InvalidText, [], []⟩
def sti_InvalidBounds : Stmt := meth0 (top 4)
def di_InvalidBounds : He.DefD := ⟨("InvalidBounds", some "__init__"), "__init__", "InvalidBounds.__init__", defArgs sti_InvalidBounds, defBody sti_InvalidBounds, defScope sti_InvalidBounds, [], []⟩
def sti_InvalidNodes : Stmt := meth0 (top 3)
def di_InvalidNodes : He.DefD := ⟨("InvalidNodes", some "__init__"), "__init__", "InvalidNodes.__init__", defArgs sti_InvalidNodes, defBody sti_InvalidNodes, defScope sti_InvalidNodes, [], []⟩
def sti_InvalidSpans : Stmt := meth0 (top 2)
def di_InvalidSpans : He.DefD := ⟨("InvalidSpans", some "__init__"), "__init__", "InvalidSpans.__init__", defArgs sti_InvalidSpans, defBody sti_InvalidSpans, defScope sti_InvalidSpans, [], []⟩
def fn : List He.DefD := [d__law_bag, d__law_pick, d__law_made, d__law_classes, d_law, di_OverBudget, di_InvalidText, di_InvalidBounds, di_InvalidNodes, di_InvalidSpans]
def fa : List He.Fa := [.glo "_law_bag", .glo "_law_pick", .glo "_law_made", .glo "_law_classes", .glo "law", .free "max", .free "int", .free "isinstance", .free "range", .free "enumerate", .free "ValueError", .free "len", .glo "InvalidNumber", .glo "InvalidSpan", .glo "InvalidNode", .glo "InvalidEntry", .glo "InvalidSize", .glo "Nothing", .glo "InvalidOperation", .glo "InvalidBudget", .glo "InvalidHeight", .glo "InvalidCommand", .glo "LogError", .glo "OverBudget", .glo "InvalidText", .glo "InvalidBounds", .glo "InvalidNodes", .glo "InvalidSpans", .exc "InvalidNumber", .exc "InvalidSpan", .exc "InvalidNode", .exc "InvalidEntry", .exc "InvalidSize", .exc "Nothing", .exc "InvalidOperation", .exc "InvalidBudget", .exc "InvalidHeight", .exc "InvalidCommand", .exc "LogError"]
def ex0 (K : Fg) : Bool := (exs.all fun c => excB K (He.ga K c))
def ex1 (K : Fg) : Bool := (exs.all fun c => decide (PySem.W.kitOne K (.ref (He.ga K c)) (.ref (He.ga K "InvalidBounds")) = some (isA "InvalidBounds" c)))
def ex2 (K : Fg) : Bool := (exs.all fun c => decide (PySem.W.kitOne K (.ref (He.ga K c)) (.ref (He.ga K "InvalidNodes")) = some (isA "InvalidNodes" c)))
def ex3 (K : Fg) : Bool := (exs.all fun c => decide (PySem.W.kitOne K (.ref (He.ga K c)) (.ref (He.ga K "InvalidSpans")) = some (isA "InvalidSpans" c)))
def ex4 (K : Fg) : Bool := (exs.all fun c => decide (PySem.W.kitOne K (.ref (He.ga K c)) (.ref (He.ga K "InvalidSize")) = some (isA "InvalidSize" c)))
def ex5 (K : Fg) : Bool := (exs.all fun c => decide (PySem.W.kitOne K (.ref (He.ga K c)) (.ref (He.ga K "OverBudget")) = some (isA "OverBudget" c)))
def ex6 (K : Fg) : Bool := (exs.all fun c => decide (PySem.W.kitOne K (.ref (He.ga K c)) (.ref (He.ga K "InvalidText")) = some (isA "InvalidText" c)))
def ex7 (K : Fg) : Bool := (exs.all fun c => decide (PySem.W.kitOne K (.ref (He.ga K c)) (.ref (He.ga K "InvalidSpan")) = some (isA "InvalidSpan" c)))
def ex8 (K : Fg) : Bool := (exs.all fun c => decide (PySem.W.kitOne K (.ref (He.ga K c)) (.ref (He.ga K "InvalidNode")) = some (isA "InvalidNode" c)))
def ex9 (K : Fg) : Bool := (exs.all fun c => decide (PySem.W.kitOne K (.ref (He.ga K c)) (.ref (He.ga K "InvalidEntry")) = some (isA "InvalidEntry" c)))
def ex10 (K : Fg) : Bool := (exs.all fun c => decide (PySem.W.kitOne K (.ref (He.ga K c)) (.ref (He.ga K "InvalidBudget")) = some (isA "InvalidBudget" c)))
def ex11 (K : Fg) : Bool := (exs.all fun c => decide (PySem.W.kitOne K (.ref (He.ga K c)) (.ref (He.ga K "InvalidHeight")) = some (isA "InvalidHeight" c)))
def ex12 (K : Fg) : Bool := (exs.all fun c => decide (PySem.W.kitOne K (.ref (He.ga K c)) (.ref (He.ga K "InvalidNumber")) = some (isA "InvalidNumber" c)))
def ex13 (K : Fg) : Bool := (exs.all fun c => decide (PySem.W.kitOne K (.ref (He.ga K c)) (.ref (He.ga K "Nothing")) = some (isA "Nothing" c)))
def ex14 (K : Fg) : Bool := (exs.all fun c => decide (PySem.W.kitOne K (.ref (He.ga K c)) (.ref (He.ga K "InvalidOperation")) = some (isA "InvalidOperation" c)))
def ex15 (K : Fg) : Bool := (exs.all fun c => decide (PySem.W.kitOne K (.ref (He.ga K c)) (.ref (He.ga K "InvalidCommand")) = some (isA "InvalidCommand" c)))
def ex16 (K : Fg) : Bool := (exs.all fun c => decide (PySem.W.kitOne K (.ref (He.ga K c)) (.ref (He.ga K "LogError")) = some (isA "LogError" c)))
def ex17 (K : Fg) : Bool := (exs.all fun c => decide (PySem.W.kitOne K (.ref (He.ga K c)) (.type "ValueError") = some true))
def ex18 (K : Fg) : Bool := (fcs_count.all fun c => excB K (He.ga K c) && decide (PySem.W.findIn K (.ref (He.ga K c)) "count" = some none))
def ex19 (K : Fg) : Bool := (fcs_part.all fun c => excB K (He.ga K c) && decide (PySem.W.findIn K (.ref (He.ga K c)) "part" = some none))
def ex20 (K : Fg) : Bool := (fcs_item.all fun c => excB K (He.ga K c) && decide (PySem.W.findIn K (.ref (He.ga K c)) "item" = some none))
def ex21 (K : Fg) : Bool := (oexB K (He.ga K "OverBudget") && (decide (PySem.W.findIn K (.ref (He.ga K "OverBudget")) "count" = some none) && (decide (PySem.W.findIn K (.ref (He.ga K "OverBudget")) "__init__" = some (some (.ref (He.fAd K ("OverBudget", some "__init__"))))) && decide (PySem.W.typeIn K (.ref (He.fAd K ("OverBudget", some "__init__"))) = some (.type "function")))))
def ex22 (K : Fg) : Bool := (oexB K (He.ga K "InvalidText") && (decide (PySem.W.findIn K (.ref (He.ga K "InvalidText")) "part" = some none) && (decide (PySem.W.findIn K (.ref (He.ga K "InvalidText")) "__init__" = some (some (.ref (He.fAd K ("InvalidText", some "__init__"))))) && decide (PySem.W.typeIn K (.ref (He.fAd K ("InvalidText", some "__init__"))) = some (.type "function")))))
def ex23 (K : Fg) : Bool := (oexB K (He.ga K "InvalidBounds") && (decide (PySem.W.findIn K (.ref (He.ga K "InvalidBounds")) "item" = some none) && (decide (PySem.W.findIn K (.ref (He.ga K "InvalidBounds")) "__init__" = some (some (.ref (He.fAd K ("InvalidBounds", some "__init__"))))) && decide (PySem.W.typeIn K (.ref (He.fAd K ("InvalidBounds", some "__init__"))) = some (.type "function")))))
def ex24 (K : Fg) : Bool := (oexB K (He.ga K "InvalidNodes") && (decide (PySem.W.findIn K (.ref (He.ga K "InvalidNodes")) "item" = some none) && (decide (PySem.W.findIn K (.ref (He.ga K "InvalidNodes")) "__init__" = some (some (.ref (He.fAd K ("InvalidNodes", some "__init__"))))) && decide (PySem.W.typeIn K (.ref (He.fAd K ("InvalidNodes", some "__init__"))) = some (.type "function")))))
def ex25 (K : Fg) : Bool := (oexB K (He.ga K "InvalidSpans") && (decide (PySem.W.findIn K (.ref (He.ga K "InvalidSpans")) "item" = some none) && (decide (PySem.W.findIn K (.ref (He.ga K "InvalidSpans")) "__init__" = some (some (.ref (He.fAd K ("InvalidSpans", some "__init__"))))) && decide (PySem.W.typeIn K (.ref (He.fAd K ("InvalidSpans", some "__init__"))) = some (.type "function")))))
def ex (K : Fg) : Bool := ex0 K && (ex1 K && (ex2 K && (ex3 K && (ex4 K && (ex5 K && (ex6 K && (ex7 K && (ex8 K && (ex9 K && (ex10 K && (ex11 K && (ex12 K && (ex13 K && (ex14 K && (ex15 K && (ex16 K && (ex17 K && (ex18 K && (ex19 K && (ex20 K && (ex21 K && (ex22 K && (ex23 K && (ex24 K && (ex25 K)))))))))))))))))))))))))
theorem facts {P : Program} {w : World} {K : Fg} {h : Heap} {mg : Str → Option Value} {f : Addr} (X : K.In h) (G : h.Ns mainGlobals mg) (hfa : mg ("law" : Str) = some (.ref f)) (c : He.SaysD fa fn K) (cx : ex K = true) :
    ∃ fd : FuncData, (∀ (s : Shared) (v : Value), BindsTo s fd ⟨[v], []⟩ [("script", v)]) ∧ ∀ base : Heap, K.In base → base.Ns mainGlobals mg → FnOk P w K mg base (L2.CX P w) 4 f fd ["script"] (spF K 1 f_law) := by
  obtain ⟨x0, cx⟩ := Bool.and_eq_true_iff.mp cx
  obtain ⟨x1, cx⟩ := Bool.and_eq_true_iff.mp cx
  obtain ⟨x2, cx⟩ := Bool.and_eq_true_iff.mp cx
  obtain ⟨x3, cx⟩ := Bool.and_eq_true_iff.mp cx
  obtain ⟨x4, cx⟩ := Bool.and_eq_true_iff.mp cx
  obtain ⟨x5, cx⟩ := Bool.and_eq_true_iff.mp cx
  obtain ⟨x6, cx⟩ := Bool.and_eq_true_iff.mp cx
  obtain ⟨x7, cx⟩ := Bool.and_eq_true_iff.mp cx
  obtain ⟨x8, cx⟩ := Bool.and_eq_true_iff.mp cx
  obtain ⟨x9, cx⟩ := Bool.and_eq_true_iff.mp cx
  obtain ⟨x10, cx⟩ := Bool.and_eq_true_iff.mp cx
  obtain ⟨x11, cx⟩ := Bool.and_eq_true_iff.mp cx
  obtain ⟨x12, cx⟩ := Bool.and_eq_true_iff.mp cx
  obtain ⟨x13, cx⟩ := Bool.and_eq_true_iff.mp cx
  obtain ⟨x14, cx⟩ := Bool.and_eq_true_iff.mp cx
  obtain ⟨x15, cx⟩ := Bool.and_eq_true_iff.mp cx
  obtain ⟨x16, cx⟩ := Bool.and_eq_true_iff.mp cx
  obtain ⟨x17, cx⟩ := Bool.and_eq_true_iff.mp cx
  obtain ⟨x18, cx⟩ := Bool.and_eq_true_iff.mp cx
  obtain ⟨x19, cx⟩ := Bool.and_eq_true_iff.mp cx
  obtain ⟨x20, cx⟩ := Bool.and_eq_true_iff.mp cx
  obtain ⟨x21, cx⟩ := Bool.and_eq_true_iff.mp cx
  obtain ⟨x22, cx⟩ := Bool.and_eq_true_iff.mp cx
  obtain ⟨x23, cx⟩ := Bool.and_eq_true_iff.mp cx
  obtain ⟨x24, cx⟩ := Bool.and_eq_true_iff.mp cx
  have x25 := cx
  have T : Fx K mg := ⟨He.free_ok X G (c.fact 5 (f := .free "max") rfl), He.free_ok X G (c.fact 6 (f := .free "int") rfl), He.free_ok X G (c.fact 7 (f := .free "isinstance") rfl), He.free_ok X G (c.fact 8 (f := .free "range") rfl), He.free_ok X G (c.fact 9 (f := .free "enumerate") rfl), He.free_ok X G (c.fact 10 (f := .free "ValueError") rfl), He.free_ok X G (c.fact 11 (f := .free "len") rfl), (let ⟨a1, a2, a3, a4⟩ := He.exc_ok (c.fact 28 (f := .exc "InvalidNumber") rfl); ⟨He.glo_ok X G (c.fact 12 (f := .glo "InvalidNumber") rfl), a1, a2, a3, a4⟩), (let ⟨a1, a2, a3, a4⟩ := He.exc_ok (c.fact 29 (f := .exc "InvalidSpan") rfl); ⟨He.glo_ok X G (c.fact 13 (f := .glo "InvalidSpan") rfl), a1, a2, a3, a4⟩), (let ⟨a1, a2, a3, a4⟩ := He.exc_ok (c.fact 30 (f := .exc "InvalidNode") rfl); ⟨He.glo_ok X G (c.fact 14 (f := .glo "InvalidNode") rfl), a1, a2, a3, a4⟩), (let ⟨a1, a2, a3, a4⟩ := He.exc_ok (c.fact 31 (f := .exc "InvalidEntry") rfl); ⟨He.glo_ok X G (c.fact 15 (f := .glo "InvalidEntry") rfl), a1, a2, a3, a4⟩), (let ⟨a1, a2, a3, a4⟩ := He.exc_ok (c.fact 32 (f := .exc "InvalidSize") rfl); ⟨He.glo_ok X G (c.fact 16 (f := .glo "InvalidSize") rfl), a1, a2, a3, a4⟩), (let ⟨a1, a2, a3, a4⟩ := He.exc_ok (c.fact 33 (f := .exc "Nothing") rfl); ⟨He.glo_ok X G (c.fact 17 (f := .glo "Nothing") rfl), a1, a2, a3, a4⟩), (let ⟨a1, a2, a3, a4⟩ := He.exc_ok (c.fact 34 (f := .exc "InvalidOperation") rfl); ⟨He.glo_ok X G (c.fact 18 (f := .glo "InvalidOperation") rfl), a1, a2, a3, a4⟩), (let ⟨a1, a2, a3, a4⟩ := He.exc_ok (c.fact 35 (f := .exc "InvalidBudget") rfl); ⟨He.glo_ok X G (c.fact 19 (f := .glo "InvalidBudget") rfl), a1, a2, a3, a4⟩), (let ⟨a1, a2, a3, a4⟩ := He.exc_ok (c.fact 36 (f := .exc "InvalidHeight") rfl); ⟨He.glo_ok X G (c.fact 20 (f := .glo "InvalidHeight") rfl), a1, a2, a3, a4⟩), (let ⟨a1, a2, a3, a4⟩ := He.exc_ok (c.fact 37 (f := .exc "InvalidCommand") rfl); ⟨He.glo_ok X G (c.fact 21 (f := .glo "InvalidCommand") rfl), a1, a2, a3, a4⟩), (let ⟨a1, a2, a3, a4⟩ := He.exc_ok (c.fact 38 (f := .exc "LogError") rfl); ⟨He.glo_ok X G (c.fact 22 (f := .glo "LogError") rfl), a1, a2, a3, a4⟩), He.glo_ok X G (c.fact 25 (f := .glo "InvalidBounds") rfl), He.glo_ok X G (c.fact 26 (f := .glo "InvalidNodes") rfl), He.glo_ok X G (c.fact 27 (f := .glo "InvalidSpans") rfl), He.glo_ok X G (c.fact 16 (f := .glo "InvalidSize") rfl), He.glo_ok X G (c.fact 23 (f := .glo "OverBudget") rfl), He.glo_ok X G (c.fact 24 (f := .glo "InvalidText") rfl), He.glo_ok X G (c.fact 13 (f := .glo "InvalidSpan") rfl), He.glo_ok X G (c.fact 14 (f := .glo "InvalidNode") rfl), He.glo_ok X G (c.fact 15 (f := .glo "InvalidEntry") rfl), He.glo_ok X G (c.fact 19 (f := .glo "InvalidBudget") rfl), He.glo_ok X G (c.fact 20 (f := .glo "InvalidHeight") rfl), He.glo_ok X G (c.fact 12 (f := .glo "InvalidNumber") rfl), He.glo_ok X G (c.fact 17 (f := .glo "Nothing") rfl), He.glo_ok X G (c.fact 18 (f := .glo "InvalidOperation") rfl), He.glo_ok X G (c.fact 21 (f := .glo "InvalidCommand") rfl), He.glo_ok X G (c.fact 22 (f := .glo "LogError") rfl), (fun z hz => excB_ok (List.all_eq_true.mp x0 z hz)), (fun z hz => of_decide_eq_true (List.all_eq_true.mp x1 z hz)), (fun z hz => of_decide_eq_true (List.all_eq_true.mp x2 z hz)), (fun z hz => of_decide_eq_true (List.all_eq_true.mp x3 z hz)), (fun z hz => of_decide_eq_true (List.all_eq_true.mp x4 z hz)), (fun z hz => of_decide_eq_true (List.all_eq_true.mp x5 z hz)), (fun z hz => of_decide_eq_true (List.all_eq_true.mp x6 z hz)), (fun z hz => of_decide_eq_true (List.all_eq_true.mp x7 z hz)), (fun z hz => of_decide_eq_true (List.all_eq_true.mp x8 z hz)), (fun z hz => of_decide_eq_true (List.all_eq_true.mp x9 z hz)), (fun z hz => of_decide_eq_true (List.all_eq_true.mp x10 z hz)), (fun z hz => of_decide_eq_true (List.all_eq_true.mp x11 z hz)), (fun z hz => of_decide_eq_true (List.all_eq_true.mp x12 z hz)), (fun z hz => of_decide_eq_true (List.all_eq_true.mp x13 z hz)), (fun z hz => of_decide_eq_true (List.all_eq_true.mp x14 z hz)), (fun z hz => of_decide_eq_true (List.all_eq_true.mp x15 z hz)), (fun z hz => of_decide_eq_true (List.all_eq_true.mp x16 z hz)), (fun z hz => of_decide_eq_true (List.all_eq_true.mp x17 z hz)), (fun z hz => let q := Bool.and_eq_true_iff.mp (List.all_eq_true.mp x18 z hz); ⟨excB_ok q.1, of_decide_eq_true q.2⟩), (fun z hz => let q := Bool.and_eq_true_iff.mp (List.all_eq_true.mp x19 z hz); ⟨excB_ok q.1, of_decide_eq_true q.2⟩), (fun z hz => let q := Bool.and_eq_true_iff.mp (List.all_eq_true.mp x20 z hz); ⟨excB_ok q.1, of_decide_eq_true q.2⟩)⟩
  obtain ⟨fi_OverBudget, Fi_OverBudget⟩ := c.def_ 5 (d := di_OverBudget) rfl
  obtain ⟨fi_InvalidText, Fi_InvalidText⟩ := c.def_ 6 (d := di_InvalidText) rfl
  obtain ⟨fi_InvalidBounds, Fi_InvalidBounds⟩ := c.def_ 7 (d := di_InvalidBounds) rfl
  obtain ⟨fi_InvalidNodes, Fi_InvalidNodes⟩ := c.def_ 8 (d := di_InvalidNodes) rfl
  obtain ⟨fi_InvalidSpans, Fi_InvalidSpans⟩ := c.def_ 9 (d := di_InvalidSpans) rfl
  obtain ⟨fd__law_bag, F__law_bag⟩ := c.def_ 0 (d := d__law_bag) rfl
  obtain ⟨fd__law_pick, F__law_pick⟩ := c.def_ 1 (d := d__law_pick) rfl
  obtain ⟨fd__law_made, F__law_made⟩ := c.def_ 2 (d := d__law_made) rfl
  obtain ⟨fd__law_classes, F__law_classes⟩ := c.def_ 3 (d := d__law_classes) rfl
  obtain ⟨fd_law, F_law⟩ := c.def_ 4 (d := d_law) rfl
  have g__law_bag := He.glo_ok X G (c.fact 0 (f := .glo "_law_bag") rfl)
  have g__law_pick := He.glo_ok X G (c.fact 1 (f := .glo "_law_pick") rfl)
  have g__law_made := He.glo_ok X G (c.fact 2 (f := .glo "_law_made") rfl)
  have g__law_classes := He.glo_ok X G (c.fact 3 (f := .glo "_law_classes") rfl)
  have g_law := He.glo_ok X G (c.fact 4 (f := .glo "law") rfl)
  have e := hfa.symm.trans g_law
  cases e
  have b := FunD.bindsA (ps := ["script"]) F_law fun _ _ _ _ _ _ us hl => match us, hl with | [_], _ => rfl
  refine ⟨fd_law, fun s v => b s [v] rfl, fun base _ _ => ?_⟩
  obtain ⟨p1, p2⟩ := Bool.and_eq_true_iff.mp x21
  obtain ⟨p2, p3⟩ := Bool.and_eq_true_iff.mp p2
  obtain ⟨p3, p4⟩ := Bool.and_eq_true_iff.mp p3
  have o_OverBudget : OxFx P w K mg base "OverBudget" "count" 1 := ⟨He.glo_ok X G (c.fact 23 (f := .glo "OverBudget") rfl), oexB_ok p1, of_decide_eq_true p2, _, _, ["self", "count"], of_decide_eq_true p3, of_decide_eq_true p4, Fi_OverBudget.bindsN (fun _ _ _ _ _ _ us hl => match us, hl with | [_, _], _ => rfl), init_ok (k := 0) Fi_OverBudget ⟨rfl, rfl, rfl, by decide +kernel, rfl, by decide +kernel, by decide +kernel⟩ fun cdv A outer sh H E => pss_one (ps_ost (pv 0) (pv 1))⟩
  obtain ⟨p1, p2⟩ := Bool.and_eq_true_iff.mp x22
  obtain ⟨p2, p3⟩ := Bool.and_eq_true_iff.mp p2
  obtain ⟨p3, p4⟩ := Bool.and_eq_true_iff.mp p3
  have o_InvalidText : OxFx P w K mg base "InvalidText" "part" 1 := ⟨He.glo_ok X G (c.fact 24 (f := .glo "InvalidText") rfl), oexB_ok p1, of_decide_eq_true p2, _, _, ["self", "part"], of_decide_eq_true p3, of_decide_eq_true p4, Fi_InvalidText.bindsN (fun _ _ _ _ _ _ us hl => match us, hl with | [_, _], _ => rfl), init_ok (k := 0) Fi_InvalidText ⟨rfl, rfl, rfl, by decide +kernel, rfl, by decide +kernel, by decide +kernel⟩ fun cdv A outer sh H E => pss_one (ps_ost (pv 0) (pv 1))⟩
  obtain ⟨p1, p2⟩ := Bool.and_eq_true_iff.mp x23
  obtain ⟨p2, p3⟩ := Bool.and_eq_true_iff.mp p2
  obtain ⟨p3, p4⟩ := Bool.and_eq_true_iff.mp p3
  have o_InvalidBounds : OxFx P w K mg base "InvalidBounds" "item" 1 := ⟨He.glo_ok X G (c.fact 25 (f := .glo "InvalidBounds") rfl), oexB_ok p1, of_decide_eq_true p2, _, _, ["self", "item"], of_decide_eq_true p3, of_decide_eq_true p4, Fi_InvalidBounds.bindsN (fun _ _ _ _ _ _ us hl => match us, hl with | [_, _], _ => rfl), init_ok (k := 0) Fi_InvalidBounds ⟨rfl, rfl, rfl, by decide +kernel, rfl, by decide +kernel, by decide +kernel⟩ fun cdv A outer sh H E => pss_one (ps_ost (pv 0) (pv 1))⟩
  obtain ⟨p1, p2⟩ := Bool.and_eq_true_iff.mp x24
  obtain ⟨p2, p3⟩ := Bool.and_eq_true_iff.mp p2
  obtain ⟨p3, p4⟩ := Bool.and_eq_true_iff.mp p3
  have o_InvalidNodes : OxFx P w K mg base "InvalidNodes" "item" 1 := ⟨He.glo_ok X G (c.fact 26 (f := .glo "InvalidNodes") rfl), oexB_ok p1, of_decide_eq_true p2, _, _, ["self", "item"], of_decide_eq_true p3, of_decide_eq_true p4, Fi_InvalidNodes.bindsN (fun _ _ _ _ _ _ us hl => match us, hl with | [_, _], _ => rfl), init_ok (k := 0) Fi_InvalidNodes ⟨rfl, rfl, rfl, by decide +kernel, rfl, by decide +kernel, by decide +kernel⟩ fun cdv A outer sh H E => pss_one (ps_ost (pv 0) (pv 1))⟩
  obtain ⟨p1, p2⟩ := Bool.and_eq_true_iff.mp x25
  obtain ⟨p2, p3⟩ := Bool.and_eq_true_iff.mp p2
  obtain ⟨p3, p4⟩ := Bool.and_eq_true_iff.mp p3
  have o_InvalidSpans : OxFx P w K mg base "InvalidSpans" "item" 1 := ⟨He.glo_ok X G (c.fact 27 (f := .glo "InvalidSpans") rfl), oexB_ok p1, of_decide_eq_true p2, _, _, ["self", "item"], of_decide_eq_true p3, of_decide_eq_true p4, Fi_InvalidSpans.bindsN (fun _ _ _ _ _ _ us hl => match us, hl with | [_, _], _ => rfl), init_ok (k := 0) Fi_InvalidSpans ⟨rfl, rfl, rfl, by decide +kernel, rfl, by decide +kernel, by decide +kernel⟩ fun cdv A outer sh H E => pss_one (ps_ost (pv 0) (pv 1))⟩
  have G2 : Gx P w K mg base := ⟨trivial, o_OverBudget, o_InvalidText, o_InvalidBounds, o_InvalidNodes, o_InvalidSpans⟩
  have c__law_bag := ok__law_bag (P := P) (w := w) (base := base) T G2 g__law_bag F__law_bag 
  have c__law_pick := ok__law_pick (P := P) (w := w) (base := base) T G2 g__law_pick F__law_pick 
  have c__law_made := ok__law_made (P := P) (w := w) (base := base) T G2 g__law_made F__law_made 
  have c__law_classes := ok__law_classes (P := P) (w := w) (base := base) T G2 g__law_classes F__law_classes 
  exact ok_law T G2 F_law c__law_bag c__law_pick c__law_made c__law_classes
def loose0 : List Str := ["LogError", "InvalidSpans", "InvalidNodes", "InvalidBounds", "InvalidText", "OverBudget", "InvalidSize", "InvalidEntry", "InvalidNode", "InvalidSpan", "InvalidNumber", "InvalidHeight", "InvalidBudget", "InvalidOperation", "Nothing", "InvalidCommand", "_law_bag", "_law_pick", "_law_made", "_law_classes"]
abbrev loose : List Str := loose0
abbrev R : PySem.W.OpenRow := PySem.W.OpenLaw.row PySem.Challenge.rw_logtrees_k48_errors_made
abbrev hk : PySem.W.Hook := He.hookX 4 fa fn [] [] ex
def ob (s : PySem.W.SharedT) : He.AlX := He.obsX 4 fa fn [] [] ex (HandSHeadRun.getT s)
theorem ob_eq (s : PySem.W.SharedT) : ob s = hk.obs s.abs := He.obsX_eq (HandSHeadRun.getT_eq s)
theorem run (w : World) : HandSHeadRun.RunEq R (PySem.W.view R.prog [22]) hk ob 6000 loose w := by
  intro os
  kernel_rfl
end K48
open PySem PySem.W PySem.Calls PyProof.Rows
theorem K48.holds_of (hlaw : ∀ ns : List Int, ns.length ≤ 63 → (∀ k ∈ ns, Builtin.Int.intBits k ≤ 1048576) → ∃ S', K48.f_law [.fz (ns.map DL.D.int)] [] = .ok (.im (.bl true)) S') : PySem.Challenge.rw_logtrees_k48_errors_made.Holds := by
  w_on; o_law
  refine HandSHeadRun.head_any (r := OpenLaw.row PySem.Challenge.rw_logtrees_k48_errors_made) (q := view (OpenLaw.row PySem.Challenge.rw_logtrees_k48_errors_made).prog [22]) (H := K48.hk) (ob := K48.ob) (M := 6000) (loose := K48.loose) (d := HandSHeadRun.topDef (OpenLaw.row PySem.Challenge.rw_logtrees_k48_errors_made).prog 22) (kwd := []) K48.ob_eq
    (by kernel_rfl) (fun s => by kernel_rfl) K48.run (by kernel_rfl) (by kernel_rfl) (by kernel_rfl) (by rfl) (by first | assumption | decide +kernel) (by decide +kernel) ⟨rfl, rfl, rfl, rfl, rfl, by decide +kernel⟩ ?hw ?hc
  case hw => w_witness2
  case hc =>
    refine DL.walk_ofW (l := PySem.Challenge.rw_logtrees_k48_errors_made) (n := 63) (k := 4) (x := "script") rfl (by decide) (by kernel_rfl) ⟨rfl, by decide, by decide⟩ ?F
    intro w mg fa h Y G hmg0
    obtain ⟨K, KX, c⟩ := Y
    have hmg : mg ("law" : PySem.Str) = some (.ref fa) := by
      have e : (HandSHeadRun.topDef (OpenLaw.row PySem.Challenge.rw_logtrees_k48_errors_made).prog 22).name = ("law" : PySem.Str) := by kernel_rfl
      rw [← e]
      exact hmg0
    obtain ⟨fd, hb, hF⟩ := K48.facts (P := (PySem.Challenge.rw_logtrees_k48_errors_made).prog) (w := w) KX G hmg c.t.d c.more
    exact ⟨K, fd, K48.f_law, KX, hb, hlaw, hF⟩
namespace K48
open PySem PySem.Spec PyProof.Rows L2 DL
section
variable {g : Ev} {S : Sto} {f : DE}
@[simp] theorem e_IsX {cs : List Str} {ct : Str → Bool} : dIsX cs ct f g S = (f g S).bind fun d S1 => match d with
  | .exc c _ _ => if c ∈ cs then .ok (.bl (ct c)) S1 else .bad
  | _ => .bad := rfl
@[simp] theorem e_Fx {cs : List Str} {fn : Str} : dFx cs fn f g S = (f g S).bind fun d S1 => match d with
  | .exc c f1 [d] => if c ∈ cs ∧ f1 = fn then .ok d S1 else .bad
  | _ => .bad := rfl
@[simp] theorem e_Mk0 {c : Str} : dMk0 c g S = .ok (.exc c Str.empty []) S := rfl
@[simp] theorem e_MkF {c fn : Str} : dMkF c fn f g S = (f g S).bind fun d S1 => .ok (.exc c fn [d]) S1 := rfl
end
theorem law_bag_eq : f__law_bag = sBag := rfl
theorem law_pick_eq : f__law_pick = sPick := rfl
def nm : List Str := [Str.ofString "InvalidSpans", Str.ofString "InvalidNodes", Str.ofString "InvalidBounds", Str.ofString "InvalidText", Str.ofString "OverBudget", Str.ofString "InvalidSize", Str.ofString "InvalidEntry", Str.ofString "InvalidNode", Str.ofString "InvalidSpan", Str.ofString "InvalidNumber", Str.ofString "InvalidHeight", Str.ofString "InvalidBudget", Str.ofString "InvalidOperation", Str.ofString "Nothing", Str.ofString "InvalidCommand"]
def made (n : Int) : List D := [.exc (Str.ofString "InvalidSpans") (Str.ofString "item") [.int n], .exc (Str.ofString "InvalidNodes") (Str.ofString "item") [.int n], .exc (Str.ofString "InvalidBounds") (Str.ofString "item") [.int n], .exc (Str.ofString "InvalidText") (Str.ofString "part") [.int n], .exc (Str.ofString "OverBudget") (Str.ofString "count") [.int n], .exc (Str.ofString "InvalidSize") Str.empty [], .exc (Str.ofString "InvalidEntry") Str.empty [], .exc (Str.ofString "InvalidNode") Str.empty [], .exc (Str.ofString "InvalidSpan") Str.empty [], .exc (Str.ofString "InvalidNumber") Str.empty [], .exc (Str.ofString "InvalidHeight") Str.empty [], .exc (Str.ofString "InvalidBudget") Str.empty [], .exc (Str.ofString "InvalidOperation") Str.empty [], .exc (Str.ofString "Nothing") Str.empty [], .exc (Str.ofString "InvalidCommand") Str.empty []]
theorem made_of {n : Int} {S : Sto} : f__law_made [.int n] S = .ok (.own (made n)) S := by
  simp [f__law_made, u__law_made, sizeLine_eq, made, viewL]
theorem classes_of {c f1 : Str} {ds : List D} {S : Sto} (hc : c ∈ exs) : f__law_classes [.exc c f1 ds] S = .ok (.own ((nm.map fun t => isA t c).map .bl)) S := by
  simp [f__law_classes, u__law_classes, hc, sizeLine_eq, nm, viewL]
/-! equality of flat lists -/
theorem pys_bls : ∀ bs : List Bool, pys (bs.map D.bl) = bs.map PyData.bool
  | [] => by simp [pys]
  | b :: bs => by rw [List.map_cons, List.map_cons, pys, pys_bls bs, py]
theorem pys_ints : ∀ bs : List Int, pys (bs.map D.int) = bs.map PyData.int
  | [] => by simp [pys]
  | b :: bs => by rw [List.map_cons, List.map_cons, pys, pys_ints bs, py]
theorem lay_bls : ∀ bs : List Bool, PyData.canLayAll0 (bs.map PyData.bool) = true ∧ PyData.depthAll (bs.map PyData.bool) = 0
  | [] => by simp [PyData.canLayAll0, PyData.depthAll]
  | b :: bs => by
    obtain ⟨h1, h2⟩ := lay_bls bs
    rw [List.map_cons, PyData.canLayAll0, h1, PyData.depthAll, h2]
    simp [PyData.canLay0, PyData.depth]
theorem lay_ints : ∀ bs : List Int, PyData.canLayAll0 (bs.map PyData.int) = true ∧ PyData.depthAll (bs.map PyData.int) = 0
  | [] => by simp [PyData.canLayAll0, PyData.depthAll]
  | b :: bs => by
    obtain ⟨h1, h2⟩ := lay_ints bs
    rw [List.map_cons, PyData.canLayAll0, h1, PyData.depthAll, h2]
    simp [PyData.canLay0, PyData.depth]
theorem eqv_bls : ∀ bs cs : List Bool, PyData.eqvAll (bs.map PyData.bool) (cs.map PyData.bool) = decide (bs = cs)
  | [], [] => by simp [PyData.eqvAll]
  | [], _ :: _ => by simp [PyData.eqvAll]
  | _ :: _, [] => by simp [PyData.eqvAll]
  | b :: bs, c :: cs => by
    rw [List.map_cons, List.map_cons, PyData.eqvAll, eqv_bls bs cs, PyData.eqv, Bool.eq_iff_iff]
    simp
theorem eqv_ints : ∀ bs cs : List Int, PyData.eqvAll (bs.map PyData.int) (cs.map PyData.int) = decide (bs = cs)
  | [], [] => by simp [PyData.eqvAll]
  | [], _ :: _ => by simp [PyData.eqvAll]
  | _ :: _, [] => by simp [PyData.eqvAll]
  | b :: bs, c :: cs => by
    rw [List.map_cons, List.map_cons, PyData.eqvAll, eqv_ints bs cs, PyData.eqv, Bool.eq_iff_iff]
    simp
theorem ok_lst {ds : List D} {ps : List PyData} (e : pys ds = ps) (h : PyData.canLayAll0 ps = true ∧ PyData.depthAll ps = 0) : okD (.lst ds) = true := by
  have e1 : py (.lst ds) = .list ps := by rw [py, e]
  unfold okD SeqAt.shaped
  rw [e1, PyData.canLay0, h.1, PyData.depth, h.2]
  rfl
theorem deq_lst {ds es : List D} {ps qs : List PyData} (e : pys ds = ps) (e2 : pys es = qs) : deq (.lst ds) (.lst es) = PyData.eqvAll ps qs := by
  unfold deq
  rw [py, py, e, e2, PyData.eqv]
theorem ne_bls {bs cs : List Bool} {S : Sto} : oNe (.lst (bs.map .bl)) (.lst (cs.map .bl)) S = some (.bl (!decide (bs = cs))) := by
  show (if okD (.lst (bs.map .bl)) = true ∧ okD (.lst (cs.map .bl)) = true then some (D.bl (!deq (.lst (bs.map .bl)) (.lst (cs.map .bl)))) else none) = _
  rw [if_pos ⟨ok_lst (pys_bls bs) (lay_bls bs), ok_lst (pys_bls cs) (lay_bls cs)⟩, deq_lst (pys_bls bs) (pys_bls cs), eqv_bls]
theorem ne_ints {bs cs : List Int} {S : Sto} : oNe (.lst (bs.map .int)) (.lst (cs.map .int)) S = some (.bl (!decide (bs = cs))) := by
  show (if okD (.lst (bs.map .int)) = true ∧ okD (.lst (cs.map .int)) = true then some (D.bl (!deq (.lst (bs.map .int)) (.lst (cs.map .int)))) else none) = _
  rw [if_pos ⟨ok_lst (pys_ints bs) (lay_ints bs), ok_lst (pys_ints cs) (lay_ints cs)⟩, deq_lst (pys_ints bs) (pys_ints cs), eqv_ints]
/-! the law -/
theorem made_at (n : Int) : ∀ k : Nat, k < 15 → ∃ c f1 ds, (made n)[k]? = some (.exc c f1 ds) ∧ c ∈ exs ∧ (nm.map fun t => isA t c) = (List.range 15).map fun j => decide (j = k)
  | 0, _ => ⟨Str.ofString "InvalidSpans", Str.ofString "item", [.int n], rfl, by decide +kernel, by decide +kernel⟩
  | 1, _ => ⟨Str.ofString "InvalidNodes", Str.ofString "item", [.int n], rfl, by decide +kernel, by decide +kernel⟩
  | 2, _ => ⟨Str.ofString "InvalidBounds", Str.ofString "item", [.int n], rfl, by decide +kernel, by decide +kernel⟩
  | 3, _ => ⟨Str.ofString "InvalidText", Str.ofString "part", [.int n], rfl, by decide +kernel, by decide +kernel⟩
  | 4, _ => ⟨Str.ofString "OverBudget", Str.ofString "count", [.int n], rfl, by decide +kernel, by decide +kernel⟩
  | 5, _ => ⟨Str.ofString "InvalidSize", Str.empty, [], rfl, by decide +kernel, by decide +kernel⟩
  | 6, _ => ⟨Str.ofString "InvalidEntry", Str.empty, [], rfl, by decide +kernel, by decide +kernel⟩
  | 7, _ => ⟨Str.ofString "InvalidNode", Str.empty, [], rfl, by decide +kernel, by decide +kernel⟩
  | 8, _ => ⟨Str.ofString "InvalidSpan", Str.empty, [], rfl, by decide +kernel, by decide +kernel⟩
  | 9, _ => ⟨Str.ofString "InvalidNumber", Str.empty, [], rfl, by decide +kernel, by decide +kernel⟩
  | 10, _ => ⟨Str.ofString "InvalidHeight", Str.empty, [], rfl, by decide +kernel, by decide +kernel⟩
  | 11, _ => ⟨Str.ofString "InvalidBudget", Str.empty, [], rfl, by decide +kernel, by decide +kernel⟩
  | 12, _ => ⟨Str.ofString "InvalidOperation", Str.empty, [], rfl, by decide +kernel, by decide +kernel⟩
  | 13, _ => ⟨Str.ofString "Nothing", Str.empty, [], rfl, by decide +kernel, by decide +kernel⟩
  | 14, _ => ⟨Str.ofString "InvalidCommand", Str.empty, [], rfl, by decide +kernel, by decide +kernel⟩
theorem made_len (n : Int) : (made n).length = 15 := rfl
def uBody : DS := (dSeq (dSet 3 (dCallN 2 (f__law_pick) (dCons (dVar 1) (dCons (dOp oIx (dFrz (oLst (dCons (dC (.int 9)) (dCons (dOp oPow (dC (.int 10)) (dC (.int 60))) (dNil))))) (dOp oMod (dVar 2) (dC (.int 2)))) (dNil))))) (dSeq (dSet 4 (dCallN 1 (f__law_made) (dCons (dVar 3) (dNil)))) (dSeq (dFor (iEnumD (dVar 4)) (hTup [5, 6]) (dSeq (dIfS (dOr (dNot (dT (dIsX exs (isA "LogError") (dVar 6)))) (dNot (dT (dIsX exs (fun _ => true) (dVar 6))))) (dRet (dC (.bl false))) (dNext)) (dIfS (dT (dOp oNe (dCallN 1 (f__law_classes) (dCons (dVar 6) (dNil))) (dFrz (oLc [9] (iRange1 (dFn oLen (dCons (dVar 4) (dNil)))) (hName 9) (dYes) (dOp oEq (dVar 9) (dVar 5)))))) (dRet (dC (.bl false))) (dNext)))) (dIfS (dT (dOp oNe (dFrz (oLst (dCons (dFx fcs_item "item" (dOp oIx (dVar 4) (dC (.int 0)))) (dCons (dFx fcs_item "item" (dOp oIx (dVar 4) (dC (.int 1)))) (dCons (dFx fcs_item "item" (dOp oIx (dVar 4) (dC (.int 2)))) (dCons (dFx fcs_part "part" (dOp oIx (dVar 4) (dC (.int 3)))) (dCons (dFx fcs_count "count" (dOp oIx (dVar 4) (dC (.int 4)))) (dNil)))))))) (dOp oMulL (dFrz (oLst (dCons (dVar 3) (dNil)))) (dC (.int 5))))) (dRet (dC (.bl false))) (dNext)))))
def uRest : DS := (dSeq (dSet 7 (dMk0 "LogError")) (dSeq (dSet 8 (dFrz (oLst (dCons (dFx fcs_item "item" (dMkF "InvalidSpans" "item" (dC .non))) (dCons (dFx fcs_item "item" (dMkF "InvalidNodes" "item" (dC .non))) (dCons (dFx fcs_item "item" (dMkF "InvalidBounds" "item" (dC .non))) (dCons (dFx fcs_part "part" (dMkF "InvalidText" "part" (dC .non))) (dNil)))))))) (dRet (dAndV (dOp oEq (dVar 8) (dOp oMulL (dFrz (oLst (dCons (dC .non) (dNil)))) (dC (.int 4)))) (dAndV (dOp oNotIn (dC (.bl true)) (dCallN 1 (f__law_classes) (dCons (dVar 7) (dNil)))) (dIsX exs (fun _ => true) (dVar 7)))))))
def uFirst : DS := (dSet 1 (dLab (oCallN 1 (f__law_bag) (dCons (dOp oIx (dOp oAdd (dVar 0) (dFrz (oLst (dCons (dC (.int 0)) (dNil))))) (dC (.int 0))) (dNil)))))
theorem u_law_eq : u_law = dSeq uFirst (dSeq (dFor (iRange1 (dC (.int 4))) (hName 2) uBody) uRest) := rfl
end K48
namespace K48
open PySem PySem.Spec PyProof.Rows L2 DL
theorem seq_nx {u u2 : DS} {g g1 : Ev} {S S1 : Sto} (h : u g S = .nx g1 S1) : dSeq u u2 g S = u2 g1 S1 := by
  show (match u g S with
    | .nx g1 S1 => u2 g1 S1
    | o => o) = _
  rw [h]
def uIn : DS := (dSeq (dIfS (dOr (dNot (dT (dIsX exs (isA "LogError") (dVar 6)))) (dNot (dT (dIsX exs (fun _ => true) (dVar 6))))) (dRet (dC (.bl false))) (dNext)) (dIfS (dT (dOp oNe (dCallN 1 (f__law_classes) (dCons (dVar 6) (dNil))) (dFrz (oLc [9] (iRange1 (dFn oLen (dCons (dVar 4) (dNil)))) (hName 9) (dYes) (dOp oEq (dVar 9) (dVar 5)))))) (dRet (dC (.bl false))) (dNext)))
def uB1 : DS := (dSet 3 (dCallN 2 (f__law_pick) (dCons (dVar 1) (dCons (dOp oIx (dFrz (oLst (dCons (dC (.int 9)) (dCons (dOp oPow (dC (.int 10)) (dC (.int 60))) (dNil))))) (dOp oMod (dVar 2) (dC (.int 2)))) (dNil)))))
def uB2 : DS := (dSet 4 (dCallN 1 (f__law_made) (dCons (dVar 3) (dNil))))
def uB4 : DS := (dIfS (dT (dOp oNe (dFrz (oLst (dCons (dFx fcs_item "item" (dOp oIx (dVar 4) (dC (.int 0)))) (dCons (dFx fcs_item "item" (dOp oIx (dVar 4) (dC (.int 1)))) (dCons (dFx fcs_item "item" (dOp oIx (dVar 4) (dC (.int 2)))) (dCons (dFx fcs_part "part" (dOp oIx (dVar 4) (dC (.int 3)))) (dCons (dFx fcs_count "count" (dOp oIx (dVar 4) (dC (.int 4)))) (dNil)))))))) (dOp oMulL (dFrz (oLst (dCons (dVar 3) (dNil)))) (dC (.int 5))))) (dRet (dC (.bl false))) (dNext))
theorem uBody_eq : uBody = dSeq uB1 (dSeq uB2 (dSeq (dFor (iEnumD (dVar 4)) (hTup [5, 6]) uIn) uB4)) := rfl
theorem rl15 : (rangeD 0 1 15).length = 15 := rfl
theorem in_of {n : Int} {k : Nat} {S : Sto} {s0 s1 s2 s3 s7 s8 s9 : SL} {c f1 : Str} {ds : List D} (hk : k < 15) (hc : c ∈ exs) (he : (nm.map fun t => isA t c) = (List.range 15).map fun j => decide (j = k)) :
    uIn [s0, s1, s2, s3, .im (.lst (made n)), .im (.int (k : Nat)), .im (.exc c f1 ds), s7, s8, s9] S = .nx [s0, s1, s2, s3, .im (.lst (made n)), .im (.int (k : Nat)), .im (.exc c f1 ds), s7, s8, s9] S := by
  have l1 : isA "LogError" c = true := by simp [isA]
  have w0 : smallB 15 = true := by decide
  have e1 := lc_map (h := hName 9) (t := dYes) (fe := dOp oEq (dVar 9) (dVar 5)) (gw := bk [9] 0 [s0, s1, s2, s3, .im (.lst (made n)), .im (.int (k : Nat)), .im (.exc c f1 ds), s7, s8, s9]) (φ := fun d => match d with
    | .int j => .bl (decide (j = (k : Int)))
    | d => d) S (rangeD 0 1 15) [] (fun d hd => by
      unfold rangeD at hd
      obtain ⟨i, _, rfl⟩ := List.mem_map.mp hd
      refine ⟨_, rfl, rfl, ?_⟩
      simp) (by rw [rl15, sizeLine_eq]; decide)
  rw [List.nil_append] at e1
  have e2 : (rangeD 0 1 15).map (fun d => match d with
    | .int j => .bl (decide (j = (k : Int)))
    | d => d) = ((List.range 15).map fun j => decide (j = k)).map D.bl := by
    unfold rangeD
    rw [List.map_map, List.map_map]
    refine List.map_congr_left fun i _ => ?_
    show D.bl (decide (0 + (i : Int) * 1 = (k : Int))) = D.bl (decide (i = k))
    congr 1
    rw [decide_eq_decide]
    omega
  rw [e2] at e1
  have e3 := classes_of (f1 := f1) (ds := ds) (S := S) hc
  rw [he] at e3
  have e4 := ne_bls (bs := (List.range 15).map fun j => decide (j = k)) (cs := (List.range 15).map fun j => decide (j = k)) (S := S)
  generalize ((List.range 15).map fun j => decide (j = k)) = bs at e1 e3 e4
  have eL : (made n).length = 15 := rfl
  have e1' := e1
  simp at e1'
  generalize made n = L at *
  simp only [decide_true, Bool.not_true] at e4
  generalize bs.map D.bl = Bs at *
  simp [uIn, hc, l1, e3, eL, w0, e1', e4]
theorem b4_of {n : Int} {S : Sto} {s0 s1 s2 s5 s6 s7 s8 s9 : SL} : uB4 [s0, s1, s2, .im (.int n), .im (.lst (made n)), s5, s6, s7, s8, s9] S = .nx [s0, s1, s2, .im (.int n), .im (.lst (made n)), s5, s6, s7, s8, s9] S := by
  have i0 : oIx (.lst (made n)) (.int 0) S = some (.exc (Str.ofString "InvalidSpans") (Str.ofString "item") [.int n]) := rfl
  have i1 : oIx (.lst (made n)) (.int 1) S = some (.exc (Str.ofString "InvalidNodes") (Str.ofString "item") [.int n]) := rfl
  have i2 : oIx (.lst (made n)) (.int 2) S = some (.exc (Str.ofString "InvalidBounds") (Str.ofString "item") [.int n]) := rfl
  have i3 : oIx (.lst (made n)) (.int 3) S = some (.exc (Str.ofString "InvalidText") (Str.ofString "part") [.int n]) := rfl
  have i4 : oIx (.lst (made n)) (.int 4) S = some (.exc (Str.ofString "OverBudget") (Str.ofString "count") [.int n]) := rfl
  have m0 : Str.ofString "InvalidSpans" ∈ fcs_item := by decide +kernel
  have m1 : Str.ofString "InvalidNodes" ∈ fcs_item := by decide +kernel
  have m2 : Str.ofString "InvalidBounds" ∈ fcs_item := by decide +kernel
  have m3 : Str.ofString "InvalidText" ∈ fcs_part := by decide +kernel
  have m4 : Str.ofString "OverBudget" ∈ fcs_count := by decide +kernel
  have r1 : oMulL (.lst [.int n]) (.int 5) S = some (.lst [.int n, .int n, .int n, .int n, .int n]) := by
    show (if -(2 ^ 63) ≤ (5 : Int) ∧ (5 : Int) < 2 ^ 63 ∧ [D.int n].length * (5 : Int).toNat ≤ sizeLine then some (D.lst (List.replicate (5 : Int).toNat [D.int n]).flatten) else none) = _
    rw [if_pos ⟨by decide, by decide, by rw [sizeLine_eq]; show 1 * 5 ≤ 16777216; decide⟩]
    rfl
  have e1 := ne_ints (bs := [n, n, n, n, n]) (cs := [n, n, n, n, n]) (S := S)
  simp only [List.map_cons, List.map_nil, decide_true, Bool.not_true] at e1
  generalize made n = L at *
  generalize Str.ofString "InvalidSpans" = x0 at *
  generalize Str.ofString "InvalidNodes" = x1 at *
  generalize Str.ofString "InvalidBounds" = x2 at *
  generalize Str.ofString "InvalidText" = x3 at *
  generalize Str.ofString "OverBudget" = x4 at *
  simp [uB4, i0, i1, i2, i3, i4, m0, m1, m2, m3, m4, r1, e1, sizeLine_eq]
theorem enum_drop (L : List D) (k : Nat) (d : D) (h : L[k]? = some d) : (enumFr 0 L).drop k = .tup [.int (k : Nat), d] :: (enumFr 0 L).drop (k + 1) := by
  have e : (enumFr 0 L)[k]? = some (.tup [.int (k : Nat), d]) := by
    rw [enumFr_get, h, Nat.zero_add]
    rfl
  obtain ⟨hk, e2⟩ := List.getElem?_eq_some_iff.mp e
  rw [List.drop_eq_getElem_cons hk, e2]
theorem body_of {l N : Nat} {t : Nat} {S : Sto} {s0 s3 s4 s5 s6 s7 s8 s9 : SL} (hB : Bag S l N) (hN : N + 1 < 2 ^ 64) : ∃ n s5' s6' S2, uBody [s0, .im (.lab l), .im (.int (t : Nat)), s3, s4, s5, s6, s7, s8, s9] S = .nx [s0, .im (.lab l), .im (.int (t : Nat)), .im (.int n), .im (.lst (made n)), s5', s6', s7, s8, s9] S2 ∧ Bag S2 l (N + 1) ∧ S2.length = S.length := by
  have ht : t % 2 = 0 ∨ t % 2 = 1 := by omega
  have w1 : cPow 10 60 = true := by decide
  have w2 : cPos (t : Int) 2 = true := cPos_of (by decide)
  obtain ⟨n, S2, e1, hB2, hl⟩ : ∃ n S2, uB1 [s0, .im (.lab l), .im (.int (t : Nat)), s3, s4, s5, s6, s7, s8, s9] S = .nx [s0, .im (.lab l), .im (.int (t : Nat)), .im (.int n), s4, s5, s6, s7, s8, s9] S2 ∧ Bag S2 l (N + 1) ∧ S2.length = S.length := by
    rcases ht with h | h
    · obtain ⟨n, S2, e, _, _, hB2, hl⟩ := pick_of (many := 9) hB (by omega) (by decide) (by decide)
      have i0 : oIx (.lst [.int 9, .int 1000000000000000000000000000000000000000000000000000000000000]) (.int ((t : Int) % 2)) S = some (.int 9) := by
        rw [show (t : Int) % 2 = 0 by omega]; rfl
      exact ⟨n, S2, by simp [uB1, w1, w2, i0, law_pick_eq, e, sizeLine_eq], hB2, hl⟩
    · obtain ⟨n, S2, e, _, _, hB2, hl⟩ := pick_of (many := 1000000000000000000000000000000000000000000000000000000000000) hB (by omega) (by decide) (by decide)
      have i0 : oIx (.lst [.int 9, .int 1000000000000000000000000000000000000000000000000000000000000]) (.int ((t : Int) % 2)) S = some (.int 1000000000000000000000000000000000000000000000000000000000000) := by
        rw [show (t : Int) % 2 = 1 by omega]; rfl
      exact ⟨n, S2, by simp [uB1, w1, w2, i0, law_pick_eq, e, sizeLine_eq], hB2, hl⟩
  have e2 : uB2 [s0, .im (.lab l), .im (.int (t : Nat)), .im (.int n), s4, s5, s6, s7, s8, s9] S2 = .nx [s0, .im (.lab l), .im (.int (t : Nat)), .im (.int n), .im (.lst (made n)), s5, s6, s7, s8, s9] S2 := by
    have q := made_of (n := n) (S := S2)
    generalize made n = L at *
    simp [uB2, q]
  obtain ⟨g3, S3, e3, rfl, k, hk, ed, s5', s6', rfl⟩ := for_nx (h := hTup [5, 6]) (body := uIn)
    (fun ds g S' => S' = S2 ∧ ∃ k, k ≤ 15 ∧ ds = (enumFr 0 (made n)).drop k ∧ ∃ s5 s6, g = [s0, .im (.lab l), .im (.int (t : Nat)), .im (.int n), .im (.lst (made n)), s5, s6, s7, s8, s9])
    (fun d ds g S' ⟨eS, k, hk, ed, s5, s6, eg⟩ => by
      subst eS eg
      have hk2 : k < 15 := Nat.lt_of_not_le fun z => by
        rw [List.drop_eq_nil_of_le (by rw [enumFr_len, made_len]; exact z)] at ed
        cases ed
      obtain ⟨c, f1, ds1, h1, h2, h3⟩ := made_at n k hk2
      rw [enum_drop _ _ _ h1] at ed
      cases ed
      exact ⟨_, rfl, _, _, in_of hk2 h2 h3, rfl, k + 1, hk2, rfl, _, _, rfl⟩)
    (enumD (made n)) [s0, .im (.lab l), .im (.int (t : Nat)), .im (.int n), .im (.lst (made n)), s5, s6, s7, s8, s9] S2 ⟨rfl, 0, by omega, by rw [enumD_fr, List.drop_zero], s5, s6, rfl⟩
  refine ⟨n, s5', s6', S3, ?_, hB2, hl⟩
  have e3' : dFor (iEnumD (dVar 4)) (hTup [5, 6]) uIn [s0, .im (.lab l), .im (.int (t : Nat)), .im (.int n), .im (.lst (made n)), s5, s6, s7, s8, s9] S3 = .nx [s0, .im (.lab l), .im (.int (t : Nat)), .im (.int n), .im (.lst (made n)), s5', s6', s7, s8, s9] S3 := by
    generalize made n = L at *
    rw [s_For, show iEnumD (dVar 4) [s0, .im (.lab l), .im (.int (t : Nat)), .im (.int n), .im (.lst L), s5, s6, s7, s8, s9] S3 = .ok (enumD L) S3 from rfl, with_ok]
    exact e3
  rw [uBody_eq, seq_nx e1, seq_nx e2, seq_nx e3', b4_of]
theorem rest_of {S : Sto} {s0 s1 s2 s3 s4 s5 s6 s7 s8 s9 : SL} : uRest [s0, s1, s2, s3, s4, s5, s6, s7, s8, s9] S = .rt (.im (.bl true)) S := by
  have m0 : Str.ofString "InvalidSpans" ∈ fcs_item := by decide +kernel
  have m1 : Str.ofString "InvalidNodes" ∈ fcs_item := by decide +kernel
  have m2 : Str.ofString "InvalidBounds" ∈ fcs_item := by decide +kernel
  have m3 : Str.ofString "InvalidText" ∈ fcs_part := by decide +kernel
  have r1 : oMulL (.lst [.non]) (.int 4) S = some (.lst [.non, .non, .non, .non]) := by
    show (if -(2 ^ 63) ≤ (4 : Int) ∧ (4 : Int) < 2 ^ 63 ∧ [D.non].length * (4 : Int).toNat ≤ sizeLine then some (D.lst (List.replicate (4 : Int).toNat [D.non]).flatten) else none) = _
    rw [if_pos ⟨by decide, by decide, by rw [sizeLine_eq]; show 1 * 4 ≤ 16777216; decide⟩]
    rfl
  have e1 : oEq (.lst [.non, .non, .non, .non]) (.lst [.non, .non, .non, .non]) S = some (.bl true) := by
    have k1 : okD (.lst [.non, .non, .non, .non]) = true := by decide +kernel
    have k2 : deq (.lst [.non, .non, .non, .non]) (.lst [.non, .non, .non, .non]) = true := by decide +kernel
    show (if okD (.lst [.non, .non, .non, .non]) = true ∧ okD (.lst [.non, .non, .non, .non]) = true then some (D.bl (deq (.lst [.non, .non, .non, .non]) (.lst [.non, .non, .non, .non]))) else none) = _
    rw [if_pos ⟨k1, k1⟩, k2]
  have hL : Str.ofString "LogError" ∈ exs := by decide +kernel
  have e2 := classes_of (f1 := Str.empty) (ds := []) (S := S) hL
  have e3 : oNotIn (.bl true) (.lst ((nm.map fun t => isA t (Str.ofString "LogError")).map .bl)) S = some (.bl true) := by
    have q : (nm.map fun t => isA t (Str.ofString "LogError")) = List.replicate 15 false := by decide +kernel
    rw [q]
    have k1 : okD (.bl true) = true ∧ okD (.lst ((List.replicate 15 false).map .bl)) = true := by decide +kernel
    have k2 : (((List.replicate 15 false).map D.bl).any fun e => deq e (.bl true)) = false := by decide +kernel
    show (if okD (.bl true) = true ∧ okD (.lst ((List.replicate 15 false).map .bl)) = true then some (((List.replicate 15 false).map D.bl).any fun e => deq e (.bl true)) else none).map (fun k => D.bl (!k)) = _
    rw [if_pos k1, k2]
    rfl
  generalize ((nm.map fun t => isA t (Str.ofString "LogError")).map D.bl) = Bs at *
  simp [uRest, m0, m1, m2, m3, r1, e1, hL, e2, e3, sizeLine_eq]
theorem law_of (ns : List Int) (h : ns.length ≤ 63) : ∃ S', f_law [.fz (ns.map DL.D.int)] [] = .ok (.im (.bl true)) S' := by
  have e0 : oAdd (.fz (ns.map D.int)) (.lst [.int 0]) ([] : Sto) = some (.lst ((ns ++ [0]).map D.int)) := by
    show (if (ns.map D.int).length + [D.int 0].length ≤ sizeLine then some (D.lst (ns.map D.int ++ [.int 0])) else none) = _
    rw [if_pos (by rw [List.length_map, sizeLine_eq]; simp; omega), List.map_append]
    rfl
  obtain ⟨c, ec⟩ : ∃ c : Int, oIx (.lst ((ns ++ [0]).map D.int)) (.int 0) ([] : Sto) = some (.int c) := by
    cases ns with
    | nil => exact ⟨0, rfl⟩
    | cons n ns => exact ⟨n, by
        show L2.atI (D.int n :: (ns ++ [0]).map D.int) 0 = _
        unfold L2.atI L2.ixN
        rw [if_pos (by decide), if_pos (by simp only [List.length_cons]; omega)]
        rfl⟩
  obtain ⟨a, eb⟩ := bag_of (cell := c) (S := [])
  have hB : Bag [MO.lst [.int a, .int c, .int 0]] 0 0 := ⟨a, c, 0, rfl, by decide, by decide⟩
  have z1 : (1 : Nat) ≤ sizeLine := by rw [sizeLine_eq]; decide
  have e1 : uFirst [.im (.fz (ns.map D.int)), .no, .no, .no, .no, .no, .no, .no, .no, .no] [] = .nx [.im (.fz (ns.map D.int)), .im (.lab 0), .no, .no, .no, .no, .no, .no, .no, .no] [MO.lst [.int a, .int c, .int 0]] := by
    generalize D.lst ((ns ++ [0]).map D.int) = L at *
    simp [uFirst, e0, ec, law_bag_eq, eb, z1]
  obtain ⟨g2, S2, e2, k, hk, hl, N, hN, hB2, s2, s3, s4, s5, s6, s7, s8, s9, rfl⟩ := for_nx (h := hName 2) (body := uBody)
    (fun ds g S' => ∃ k, k ≤ 4 ∧ (ds = ((List.range 4).map fun i => D.int (0 + (i : Nat) * 1)).drop k) ∧ ∃ N, N ≤ k ∧ Bag S' 0 N ∧ ∃ s2 s3 s4 s5 s6 s7 s8 s9, g = [.im (.fz (ns.map D.int)), .im (.lab 0), s2, s3, s4, s5, s6, s7, s8, s9])
    (fun d ds g S' ⟨k, hk, ed, N, hN, hB', s2, s3, s4, s5, s6, s7, s8, s9, eg⟩ => by
      subst eg
      have hk2 : k < 4 := Nat.lt_of_not_le fun z => by
        rw [List.drop_eq_nil_of_le (by simpa using z)] at ed
        cases ed
      rw [List.drop_eq_getElem_cons (by simpa using hk2)] at ed
      obtain ⟨n, s5', s6', S3, e3, hB3, _⟩ := body_of (t := k) (s0 := .im (.fz (ns.map D.int))) (s3 := s3) (s4 := s4) (s5 := s5) (s6 := s6) (s7 := s7) (s8 := s8) (s9 := s9) hB' (by omega)
      have ed1 : d = .int (k : Nat) := by
        have := (List.cons.inj ed).1
        rw [this, List.getElem_map, List.getElem_range]
        congr 1
        omega
      subst ed1
      exact ⟨_, rfl, _, S3, e3, k + 1, hk2, (List.cons.inj ed).2, N + 1, by omega, hB3, _, _, _, _, _, _, _, _, rfl⟩)
    (rangeD 0 1 4) [.im (.fz (ns.map D.int)), .im (.lab 0), .no, .no, .no, .no, .no, .no, .no, .no] [MO.lst [.int a, .int c, .int 0]] ⟨0, by omega, rfl, 0, by omega, hB, .no, .no, .no, .no, .no, .no, .no, .no, rfl⟩
  have w0 : smallB 4 = true := by decide
  have e2' : dFor (iRange1 (dC (.int 4))) (hName 2) uBody [.im (.fz (ns.map D.int)), .im (.lab 0), .no, .no, .no, .no, .no, .no, .no, .no] [MO.lst [.int a, .int c, .int 0]] = .nx [.im (.fz (ns.map D.int)), .im (.lab 0), s2, s3, s4, s5, s6, s7, s8, s9] S2 := by
    rw [s_For, show iRange1 (dC (.int 4)) [.im (.fz (ns.map D.int)), .im (.lab 0), .no, .no, .no, .no, .no, .no, .no, .no] [MO.lst [.int a, .int c, .int 0]] = .ok (rangeD 0 1 4) [MO.lst [.int a, .int c, .int 0]] by
      show (if smallB 4 then Out.ok (rangeD 0 1 (4 : Int).toNat) _ else .bad) = _
      rw [if_pos w0] <;> rfl, with_ok]
    exact e2
  refine ⟨S2, ?_⟩
  have er : f_law [.fz (ns.map D.int)] [] = match u_law [.im (.fz (ns.map D.int)), .no, .no, .no, .no, .no, .no, .no, .no, .no] [] with
    | .rt s S' => .ok s S'
    | .nx _ S' => .ok (.im .non) S'
    | .ex x _ S' => .ex x S'
    | _ => .bad := rfl
  rw [er, u_law_eq, seq_nx e1, seq_nx e2', rest_of]
end K48
theorem PySem.Challenge.cw_logtrees_k48_errors_made_holds : PySem.Challenge.rw_logtrees_k48_errors_made.Holds := by
  exact K48.holds_of fun ns h _ => K48.law_of ns h
