import PyProof.Rows.All
import Wide.All
import OpenK.AllK
import Wide.FinOn
import PyProof.EqAt
import PyProof.EqKinds
import PyProof.TupleCall
import HandS.Base
import HandS.Call
import HandS.List
import HandS.Comp
import HandS.Exc
import HandS.Lambda
import HandS.Words
import HandS.Text
import HandS.TupAny
import HandS.IsInst
import HandS.Wide
import HandS.Dict
import HandS.WordsDict
import HandS.Deep
import HandS.Flow
import HandS.Defaults
import HandS.ExcInit
import HandS.Property
import HandS.WordsExc
import HandS.FStr
import HandS.Iter
import HandS.Zip
import HandS.MakeKw
import HandS.ClsMeth
import HandS.Head0
import HandS.Head1
import HandS.Head2
import HandS.HeadEnd
import HandS.HeadHook1
import HandS.HeadHook2
import HandS.HeadWalk
import HandS.EndTab
import HandS.MakeKwOnly
import HandS.Style
import HandS.More
import HandS.StrMore
import HandS.RaiseMore
import KE.DataMinMax
import HandS.OwnEq
import HandS.TryMany
import HandS.ExcField
import HandS.HotCalls
import KE.KTryMore
import HandS.NestedK
import PyProof.StrLawsFirst
import PyProof.ListStr
import PySem.Challenge.RW_turnmill_k15_turns_of_rows
set_option Elab.async false
set_option linter.all false
set_option maxRecDepth 100000
set_option maxHeartbeats 4000000
namespace Z
open PySem PySem.Spec PyProof.Rows L2

/-! data without addresses, and what bears them -/
inductive D where
  | non | bl (b : Bool) | int (i : Int) | str (x : Str) | ty (n : String) | ref (a : Addr)
  | tup (l : List D) | lst (l : List D) | dic (l : List (D × D)) | obj (C : Addr) (fs : List (Str × D)) | lk (l : List D)
  | fn (Q : L2.Hp → Addr → Prop)
/-- a thing that may change -/
inductive Cell where
  | lst (l : List D) | dic (l : List (D × D)) | ins (C : Addr) (fs : List (Str × D))
  | tab (q : Str)
abbrev Sto := Addr → Option Cell
abbrev En := List (Option D)

def keyD : D → Option Key
  | .int i => some (.inl i)
  | .str x => some (.inr x)
  | _ => none
def keysD : List D → Option (List Key)
  | [] => some []
  | d :: r => match keyD d, keysD r with
    | some k, some ks => some (k :: ks)
    | _, _ => none
def keyT : D → Option (List Key)
  | .tup l => keysD l
  | _ => none

def Sub (G G' : Hp) : Prop := ∀ a o, G a = some o → G' a = some o
theorem Sub.rfl' {G : Hp} : Sub G G := fun _ _ h => h
theorem Sub.tr {G G1 G2 : Hp} (a : Sub G G1) (b : Sub G1 G2) : Sub G G2 := fun c o h => b c o (a c o h)
theorem Sub.rd {G G' : Hp} {a : Addr} {u : HO} (s : Sub G G') (h : Rd G a u) : Rd G' a u := h.imp (s _ _) fun ⟨o, h⟩ => ⟨o, s _ _ h⟩
theorem Sub.sqL {K : PySem.W.Frag} {G G' : Hp} {a : Addr} {xs : List V} (s : Sub G G') (h : SqL K G a xs) : SqL K G' a xs := by
  rcases h with (h | ⟨o, h⟩) | h
  · exact .inl (.inl (s _ _ h))
  · exact .inl (.inr ⟨o, s _ _ h⟩)
  · exact .inr h
theorem Sub.sqT {K : PySem.W.Frag} {G G' : Hp} {a : Addr} {xs : List V} (s : Sub G G') (h : SqT K G a xs) : SqT K G' a xs := by
  rcases h with (h | ⟨o, h⟩) | h
  · exact .inl (.inl (s _ _ h))
  · exact .inl (.inr ⟨o, s _ _ h⟩)
  · exact .inr h

mutual
inductive Rep (K : PySem.W.Frag) (G : Hp) : D → V → Prop
  | non : Rep K G .non .non
  | bl {b : Bool} : Rep K G (.bl b) (.bl b)
  | int {i : Int} : Rep K G (.int i) (.int i)
  | str {x : Str} : Rep K G (.str x) (.str x)
  | ty {n : String} : Rep K G (.ty n) (.ty n)
  | ref {a : Addr} : Rep K G (.ref a) (.ref a)
  | tup {l : List D} {a : Addr} {vs : List V} : SqT K G a vs → RepL K G l vs → Rep K G (.tup l) (.ref a)
  | fn {Q : Hp → Addr → Prop} {a : Addr} {G0 : Hp} : Sub G0 G → Q G0 a → Rep K G (.fn Q) (.ref a)
  | lst {l : List D} {a : Addr} {vs : List V} : Rd G a (.lst vs) → RepL K G l vs → Rep K G (.lst l) (.ref a)
  | lk {l : List D} {a : Addr} {vs : List V} : SqL K G a vs → RepL K G l vs → Rep K G (.lk l) (.ref a)
  | dic {l : List (D × D)} {a : Addr} {kvs : List (Key × V)} : G a = some (.dK kvs) → RepD K G l kvs → Rep K G (.dic l) (.ref a)
  | dit {l : List (D × D)} {a : Addr} {kvs : List (List Key × V)} : G a = some (.dT kvs) → RepT K G l kvs → Rep K G (.dic l) (.ref a)
  | obj {C : Addr} {fs : List (Str × D)} {a dx : Addr} {fvs : List (Str × V)} : G a = some (.ins C dx fvs) → RepF K G fs fvs → Rep K G (.obj C fs) (.ref a)
inductive RepL (K : PySem.W.Frag) (G : Hp) : List D → List V → Prop
  | nil : RepL K G [] []
  | cons {d : D} {ds : List D} {v : V} {vs : List V} : Rep K G d v → RepL K G ds vs → RepL K G (d :: ds) (v :: vs)
inductive RepF (K : PySem.W.Frag) (G : Hp) : List (Str × D) → List (Str × V) → Prop
  | nil : RepF K G [] []
  | cons {f : Str} {d : D} {ds : List (Str × D)} {v : V} {vs : List (Str × V)} : Rep K G d v → RepF K G ds vs → RepF K G ((f, d) :: ds) ((f, v) :: vs)
inductive RepD (K : PySem.W.Frag) (G : Hp) : List (D × D) → List (Key × V) → Prop
  | nil : RepD K G [] []
  | cons {c d : D} {k : Key} {ds : List (D × D)} {v : V} {vs : List (Key × V)} : keyD c = some k → Rep K G d v → RepD K G ds vs → RepD K G ((c, d) :: ds) ((k, v) :: vs)
inductive RepT (K : PySem.W.Frag) (G : Hp) : List (D × D) → List (List Key × V) → Prop
  | nil : RepT K G [] []
  | cons {c d : D} {k : List Key} {ds : List (D × D)} {v : V} {vs : List (List Key × V)} : keyT c = some k → Rep K G d v → RepT K G ds vs → RepT K G ((c, d) :: ds) ((k, v) :: vs)
end

section
variable {K : PySem.W.Frag} {G G' : Hp}
mutual
theorem Rep.mono (s : Sub G G') : ∀ {d : D} {v : V}, Rep K G d v → Rep K G' d v
  | _, _, .non => .non
  | _, _, .bl => .bl
  | _, _, .int => .int
  | _, _, .str => .str
  | _, _, .ty => .ty
  | _, _, .ref => .ref
  | _, _, .tup h r => .tup (s.sqT h) (r.mono s)
  | _, _, .fn h q => .fn (h.tr s) q
  | _, _, .lst h r => .lst (s.rd h) (r.mono s)
  | _, _, .lk h r => .lk (s.sqL h) (r.mono s)
  | _, _, .dic h r => .dic (s _ _ h) (r.mono s)
  | _, _, .dit h r => .dit (s _ _ h) (r.mono s)
  | _, _, .obj h r => .obj (s _ _ h) (r.mono s)
theorem RepL.mono (s : Sub G G') : ∀ {d : List D} {v : List V}, RepL K G d v → RepL K G' d v
  | _, _, .nil => .nil
  | _, _, .cons h r => .cons (h.mono s) (r.mono s)
theorem RepF.mono (s : Sub G G') : ∀ {d : List (Str × D)} {v : List (Str × V)}, RepF K G d v → RepF K G' d v
  | _, _, .nil => .nil
  | _, _, .cons h r => .cons (h.mono s) (r.mono s)
theorem RepD.mono (s : Sub G G') : ∀ {d : List (D × D)} {v : List (Key × V)}, RepD K G d v → RepD K G' d v
  | _, _, .nil => .nil
  | _, _, .cons e h r => .cons e (h.mono s) (r.mono s)
theorem RepT.mono (s : Sub G G') : ∀ {d : List (D × D)} {v : List (List Key × V)}, RepT K G d v → RepT K G' d v
  | _, _, .nil => .nil
  | _, _, .cons e h r => .cons e (h.mono s) (r.mono s)
end
theorem RepL.length : ∀ {ds : List D} {vs : List V}, RepL K G ds vs → ds.length = vs.length
  | _, _, .nil => rfl
  | _, _, .cons _ r => congrArg (· + 1) r.length
theorem RepL.get : ∀ {ds : List D} {vs : List V} {i : Nat} {d : D}, RepL K G ds vs → ds[i]? = some d → ∃ v, vs[i]? = some v ∧ Rep K G d v
  | _, _, _, _, .nil, e => by simp at e
  | _, _, 0, _, .cons r _, e => by simp at e; subst e; exact ⟨_, rfl, r⟩
  | _, _, i + 1, d, .cons _ t, e => by
    obtain ⟨u, h1, h2⟩ := t.get (i := i) (d := d) (by simpa using e)
    exact ⟨u, by simpa using h1, h2⟩
theorem RepL.get' : ∀ {ds : List D} {vs : List V} {i : Nat} {v : V}, RepL K G ds vs → vs[i]? = some v → ∃ d, ds[i]? = some d ∧ Rep K G d v
  | _, _, _, _, .nil, e => by simp at e
  | _, _, 0, _, .cons r _, e => by simp at e; subst e; exact ⟨_, rfl, r⟩
  | _, _, i + 1, d, .cons _ t, e => by
    obtain ⟨u, h1, h2⟩ := t.get' (i := i) (v := d) (by simpa using e)
    exact ⟨u, by simpa using h1, h2⟩
theorem RepL.app : ∀ {xs ys : List D} {us ws : List V}, RepL K G xs us → RepL K G ys ws → RepL K G (xs ++ ys) (us ++ ws)
  | _, _, _, _, .nil, s => s
  | _, _, _, _, .cons r t, s => .cons r (t.app s)
theorem RepL.set {x : D} {u : V} (r : Rep K G x u) : ∀ {xs : List D} {us : List V} (i : Nat), RepL K G xs us → RepL K G (xs.set i x) (us.set i u)
  | _, _, _, .nil => .nil
  | _, _, 0, .cons _ t => .cons r t
  | _, _, i + 1, .cons q t => .cons q (RepL.set r i t)
theorem RepL.take : ∀ {xs : List D} {us : List V} (n : Nat), RepL K G xs us → RepL K G (xs.take n) (us.take n)
  | _, _, 0, _ => .nil
  | _, _, _ + 1, .nil => .nil
  | _, _, n + 1, .cons r t => .cons r (t.take n)
theorem RepL.drop : ∀ {xs : List D} {us : List V} (n : Nat), RepL K G xs us → RepL K G (xs.drop n) (us.drop n)
  | _, _, 0, r => r
  | _, _, _ + 1, .nil => .nil
  | _, _, n + 1, .cons _ t => t.drop n
theorem RepF.length : ∀ {ds : List (Str × D)} {vs : List (Str × V)}, RepF K G ds vs → ds.length = vs.length
  | _, _, .nil => rfl
  | _, _, .cons _ r => congrArg (· + 1) r.length
theorem RepF.look {f : Str} : ∀ {ds : List (Str × D)} {vs : List (Str × V)} {d : D}, RepF K G ds vs → ds.lookup f = some d → ∃ v, vs.lookup f = some v ∧ Rep K G d v
  | _, _, _, .nil, e => by cases e
  | _, _, d, .cons (f := g) r t, e => by
    rw [List.lookup_cons] at e ⊢
    cases q : f == g with
    | true => rw [q] at e; cases e; exact ⟨_, rfl, r⟩
    | false => rw [q] at e; exact t.look e
theorem RepF.none {f : Str} : ∀ {ds : List (Str × D)} {vs : List (Str × V)}, RepF K G ds vs → ds.lookup f = none → vs.lookup f = none
  | _, _, .nil, _ => rfl
  | _, _, .cons (f := g) r t, e => by
    rw [List.lookup_cons] at e ⊢
    cases q : f == g with
    | true => rw [q] at e; cases e
    | false => rw [q] at e; exact t.none e
end

/-- fields stored: the name's place, or the end (as putF) -/
def putD (f : Str) (d : D) : List (Str × D) → List (Str × D)
  | [] => [(f, d)]
  | (g, x) :: r => if g = f then (g, d) :: r else (g, x) :: putD f d r
end Z
namespace Z
open PySem PySem.Spec PyProof.Rows L2

def CellAt (K : PySem.W.Frag) (G H : Hp) (a : Addr) : Cell → Prop
  | .lst l => ∃ vs, H a = some (.lst vs) ∧ RepL K G l vs
  | .dic l => (∃ kvs, H a = some (.dK kvs) ∧ RepD K G l kvs) ∨ ∃ kvs, H a = some (.dT kvs) ∧ RepT K G l kvs
  | .ins C fs => ∃ dx fvs, H a = some (.ins C dx fvs) ∧ RepF K G fs fvs
  | .tab q => ∃ ps : Array Value, H a = some (.tbl ps) ∧ TriplesOk ps.toList ∧ ∀ (pos : Pos) (cv : Value), codeAmong pos ps.toList = some cv → ∃ c, cv = .ref c ∧ G c = some (LamX.CodeO c q)
theorem CellAt.there {K : PySem.W.Frag} {G H : Hp} {a : Addr} {c : Cell} (h : CellAt K G H a c) : H a ≠ none := by
  cases c with
  | lst l => obtain ⟨_, e, _⟩ := h; rw [e]; simp
  | dic l => rcases h with ⟨_, e, _⟩ | ⟨_, e, _⟩ <;> (rw [e]; simp)
  | ins C fs => obtain ⟨_, _, e, _⟩ := h; rw [e]; simp
  | tab q => obtain ⟨_, e, _⟩ := h; rw [e]; simp
theorem CellAt.move {K : PySem.W.Frag} {G G' H H' : Hp} {a : Addr} {c : Cell} (s : Sub G G') (e : ∀ o, H a = some o → H' a = some o) (h : CellAt K G H a c) : CellAt K G' H' a c := by
  cases c with
  | lst l => obtain ⟨_, h, r⟩ := h; exact ⟨_, e _ h, r.mono s⟩
  | dic l => exact h.imp (fun ⟨_, h, r⟩ => ⟨_, e _ h, r.mono s⟩) fun ⟨_, h, r⟩ => ⟨_, e _ h, r.mono s⟩
  | ins C fs => obtain ⟨_, _, h, r⟩ := h; exact ⟨_, _, e _ h, r.mono s⟩
  | tab q => obtain ⟨_, h, t, r⟩ := h; exact ⟨_, e _ h, t, fun pos cv hc => let ⟨c, e1, e2⟩ := r pos cv hc; ⟨c, e1, s _ _ e2⟩⟩

/-- the shared part G, the changing things M of the heap H -/
structure Wd (K : PySem.W.Frag) (M : Sto) (H G : Hp) : Prop where
  sub : Sub G H
  cells : ∀ a c, M a = some c → G a = none ∧ CellAt K G H a c
/-- what a body starts with; T: tables of code objects -/
structure Bs where
  H : Hp
  G : Hp
  M : Sto
/-- from an earlier heap -/
structure Since (H0 G0 : Hp) (M0 : Sto) (M : Sto) (H G : Hp) : Prop where
  keep : ∀ a o, H0 a = some o → M0 a = none → H a = some o
  stay : ∀ a, H0 a ≠ none → H a ≠ none
  gsub : Sub G0 G
  gnew : ∀ a, G a ≠ none → G0 a = none → H0 a = none
  mnew : ∀ a, M a ≠ none → M0 a = none → H0 a = none
structure Rel (K : PySem.W.Frag) (B : Bs) (r : En) (M : Sto) (σ : L2.St) (H G : Hp) : Prop where
  wd : Wd K M H G
  len : r.length = σ.length
  slots : ∀ (i : Nat) d, r[i]? = some (some d) → ∃ v, σ[i]? = some (some v) ∧ Rep K G d v
  sin : Since B.H B.G B.M M H G

theorem Since.refl {H G : Hp} {M : Sto} : Since H G M M H G := ⟨fun _ _ h _ => h, fun _ h => h, Sub.rfl', fun _ h e => absurd e h, fun _ h e => absurd e h⟩
theorem Since.trans {K : PySem.W.Frag} {H0 G0 H1 G1 H2 G2 : Hp} {M0 M1 M2 : Sto} (w1 : Wd K M1 H1 G1) (a : Since H0 G0 M0 M1 H1 G1) (b : Since H1 G1 M1 M2 H2 G2) : Since H0 G0 M0 M2 H2 G2 where
  keep := fun c o h n => b.keep c o (a.keep c o h n) (by
    cases q : M1 c with
    | none => rfl
    | some x => have := a.mnew c (by rw [q]; simp) n; rw [this] at h; cases h)
  stay := fun c h => b.stay c (a.stay c h)
  gsub := a.gsub.tr b.gsub
  gnew := fun c h n => by
    cases q : G1 c with
    | some x => exact a.gnew c (by rw [q]; simp) n
    | none =>
      have h1 := b.gnew c h q
      cases z : H0 c with
      | none => rfl
      | some o => exact absurd h1 (a.stay c (by rw [z]; simp))
  mnew := fun c h n => by
    cases q : M1 c with
    | some x => exact a.mnew c (by rw [q]; simp) n
    | none =>
      have h1 := b.mnew c h q
      cases z : H0 c with
      | none => rfl
      | some o => exact absurd h1 (a.stay c (by rw [z]; simp))
theorem Rel.go {K : PySem.W.Frag} {B : Bs} {r : En} {M M' : Sto} {σ : L2.St} {H G H' G' : Hp} (R : Rel K B r M σ H G) (w : Wd K M' H' G') (s : Since H G M M' H' G') : Rel K B r M' σ H' G' :=
  ⟨w, R.len, fun i d e => let ⟨v, h1, h2⟩ := R.slots i d e; ⟨v, h1, h2.mono s.gsub⟩, Since.trans R.wd R.sin s⟩
/-- new shared things -/
structure Grow (H G H' G' : Hp) : Prop where
  same : ∀ a o, H a = some o → H' a = some o
  gsub : Sub G G'
  sub : Sub G' H'
  gnew : ∀ a, G' a ≠ none → G a = none → H a = none
theorem Grow.refl {H G : Hp} (s : Sub G H) : Grow H G H G := ⟨fun _ _ h => h, Sub.rfl', s, fun _ h e => absurd e h⟩
theorem Grow.since {K : PySem.W.Frag} {M : Sto} {H G H' G' : Hp} (w : Wd K M H G) (g : Grow H G H' G') : Since H G M M H' G' :=
  ⟨fun a o h _ => g.same a o h, fun a h => by
    cases q : H a with
    | none => exact absurd q h
    | some o => rw [g.same a o q]; simp, g.gsub, g.gnew, fun a h e => absurd e h⟩
theorem Grow.wd {K : PySem.W.Frag} {M : Sto} {H G H' G' : Hp} (w : Wd K M H G) (g : Grow H G H' G') : Wd K M H' G' :=
  ⟨g.sub, fun a c e => by
    obtain ⟨h1, h2⟩ := w.cells a c e
    refine ⟨?_, h2.move g.gsub (g.same a)⟩
    cases q : G' a with
    | none => rfl
    | some o => exact absurd (g.gnew a (by rw [q]; simp) h1) h2.there⟩
theorem Rel.grow {K : PySem.W.Frag} {B : Bs} {r : En} {M : Sto} {σ : L2.St} {H G H' G' : Hp} (R : Rel K B r M σ H G) (g : Grow H G H' G') : Rel K B r M σ H' G' := R.go (g.wd R.wd) (g.since R.wd)
theorem Grow.trans {H G H1 G1 H2 G2 : Hp} (a : Grow H G H1 G1) (b : Grow H1 G1 H2 G2) : Grow H G H2 G2 :=
  ⟨fun c o h => b.same c o (a.same c o h), a.gsub.tr b.gsub, b.sub, fun c h n => by
    cases q : G1 c with
    | some x => exact a.gnew c (by rw [q]; simp) n
    | none =>
      have h1 := b.gnew c h q
      cases z : H c with
      | none => rfl
      | some o => rw [a.same c o z] at h1; cases h1⟩
/-- a new object laid into the shared part -/
theorem grow_upd {H G : Hp} {p : Addr} {o : HO} (s : Sub G H) (hp : H p = none) : Grow H G (upd H p o) (upd G p o) where
  same := fun a u h => by rw [upd_ne (ne_of_none h hp)]; exact h
  gsub := fun a u h => by rw [upd_ne (ne_of_none (s _ _ h) hp)]; exact h
  sub := fun a u h => by
    by_cases e : a = p
    · subst e; rw [upd_same] at h ⊢; exact h
    · rw [upd_ne e] at h ⊢; exact s _ _ h
  gnew := fun a h n => by
    by_cases e : a = p
    · subst e; exact hp
    · rw [upd_ne e] at h; exact absurd n h

/-! ### judgements -/
abbrev PD := D → Sto → Prop
abbrev DTE := En → Sto → PD → Prop
abbrev DTT := En → Sto → (Bool → Sto → Prop) → Prop
abbrev DTA := En → Sto → (List D → Sto → Prop) → Prop
structure Ek where
  nx : En → Sto → Prop
  rt : D → Sto → Prop
  bk : En → Sto → Prop := fun _ _ => False
  ct : En → Sto → Prop := fun _ _ => False
abbrev DTS := Ek → En → Sto → Prop
abbrev DTG := D → En → Sto → (En → Sto → Prop) → Prop

def lift (K : PySem.W.Frag) (B : Bs) (f : DTE) : TE := fun σ H Q => ∃ r M G Ψ, Rel K B r M σ H G ∧ f r M Ψ ∧ ∀ d M' v H' G', Ψ d M' → Rel K B r M' σ H' G' → Sub G G' → Rep K G' d v → Q v H'
def liftT (K : PySem.W.Frag) (B : Bs) (f : DTT) : TT := fun σ H Q => ∃ r M G Ψ, Rel K B r M σ H G ∧ f r M Ψ ∧ ∀ b M' H' G', Ψ b M' → Rel K B r M' σ H' G' → Sub G G' → Q b H'
def liftA (K : PySem.W.Frag) (B : Bs) (f : DTA) : TA := fun σ H Q => ∃ r M G Ψ, Rel K B r M σ H G ∧ f r M Ψ ∧ ∀ ds M' vs H' G', Ψ ds M' → Rel K B r M' σ H' G' → Sub G G' → RepL K G' ds vs → Q vs H'
structure EkOk (K : PySem.W.Frag) (B : Bs) (G : Hp) (E : Ek) (D' : Ends) : Prop where
  nx : ∀ r' M' σ' H' G', E.nx r' M' → Rel K B r' M' σ' H' G' → Sub G G' → D'.nx σ' H'
  rt : ∀ d r' M' v σ' H' G', E.rt d M' → Rel K B r' M' σ' H' G' → Rep K G' d v → D'.rt v H'
  bk : ∀ r' M' σ' H' G', E.bk r' M' → Rel K B r' M' σ' H' G' → Sub G G' → D'.bk σ' H'
  ct : ∀ r' M' σ' H' G', E.ct r' M' → Rel K B r' M' σ' H' G' → Sub G G' → D'.ct σ' H'
theorem EkOk.mono {K : PySem.W.Frag} {B : Bs} {G G1 : Hp} {E : Ek} {D' : Ends} (k : EkOk K B G E D') (s : Sub G G1) : EkOk K B G1 E D' :=
  ⟨fun r' M' σ' H' G' q R t => k.nx r' M' σ' H' G' q R (s.tr t), k.rt, fun r' M' σ' H' G' q R t => k.bk r' M' σ' H' G' q R (s.tr t), fun r' M' σ' H' G' q R t => k.ct r' M' σ' H' G' q R (s.tr t)⟩
def liftS (K : PySem.W.Frag) (B : Bs) (f : DTS) : TS := fun D σ H => ∃ r M G E, Rel K B r M σ H G ∧ f E r M ∧ EkOk K B G E D
def liftG (K : PySem.W.Frag) (B : Bs) (f : DTG) : TG := fun v σ H Q => ∃ d r M G Ψ, Rel K B r M σ H G ∧ Rep K G d v ∧ f d r M Ψ ∧ ∀ r' M' σ' H' G', Ψ r' M' → Rel K B r' M' σ' H' G' → Sub G G' → Q σ' H'

theorem PE_imp {X : Cx} {e : Expr} {t t' : TE} (h : PE X e t) (i : ∀ σ H Q, t' σ H Q → t σ H Q) : PE X e t' := ⟨fun pins s σ H Q I q => h.run pins s σ H Q I (i _ _ _ q)⟩
theorem PT_imp {X : Cx} {e : Expr} {t t' : TT} (h : PT X e t) (i : ∀ σ H Q, t' σ H Q → t σ H Q) : PT X e t' := ⟨fun pins s σ H Q I q => h.run pins s σ H Q I (i _ _ _ q)⟩
theorem PW_imp {X : Cx} {e : Expr} {t t' : TT} (h : PW X e t) (i : ∀ σ H Q, t' σ H Q → t σ H Q) : PW X e t' := ⟨fun wh pins s σ H Q I q => h.run wh pins s σ H Q I (i _ _ _ q)⟩
theorem PA_imp {X : Cx} {e : List Expr} {t t' : TA} (h : PA X e t) (i : ∀ σ H Q, t' σ H Q → t σ H Q) : PA X e t' := ⟨fun pos pins s σ H Q I q => h.run pos pins s σ H Q I (i _ _ _ q)⟩
theorem PS_imp {X : Cx} {e : Stmt} {t t' : TS} (h : PS X e t) (i : ∀ D σ H, t' D σ H → t D σ H) : PS X e t' := ⟨fun pins s σ H D I q => h.run pins s σ H D I (i _ _ _ q)⟩
theorem PSs_imp {X : Cx} {e : List Stmt} {t t' : TS} (h : PSs X e t) (i : ∀ D σ H, t' D σ H → t D σ H) : PSs X e t' := ⟨fun pins s σ H D I q => h.run pins s σ H D I (i _ _ _ q)⟩
theorem PG_imp {X : Cx} {e : Expr} {t t' : TG} (h : PG X e t) (i : ∀ v σ H Q, t' v σ H Q → t v σ H Q) : PG X e t' := ⟨fun pins s σ H x v Q I r q => h.run pins s σ H x v Q I r (i _ _ _ _ q)⟩
abbrev DE (X : Cx) (B : Bs) (e : Expr) (f : DTE) : Prop := PE X e (lift X.K B f)
abbrev DT (X : Cx) (B : Bs) (e : Expr) (f : DTT) : Prop := PT X e (liftT X.K B f)
abbrev DW (X : Cx) (B : Bs) (e : Expr) (f : DTT) : Prop := PW X e (liftT X.K B f)
abbrev DA (X : Cx) (B : Bs) (e : List Expr) (f : DTA) : Prop := PA X e (liftA X.K B f)
abbrev DS (X : Cx) (B : Bs) (e : Stmt) (f : DTS) : Prop := PS X e (liftS X.K B f)
abbrev DSs (X : Cx) (B : Bs) (e : List Stmt) (f : DTS) : Prop := PSs X e (liftS X.K B f)
abbrev DG (X : Cx) (B : Bs) (e : Expr) (f : DTG) : Prop := PG X e (liftG X.K B f)

section
variable {X : Cx} {B : Bs} {pos : Pos} {a b e : Expr} {es : List Expr} {fa fb : DTE} {ga : DTA}
/-! ### names, constants -/
def getS (r : En) (i : Nat) (k : D → Prop) : Prop := match r[i]? with
  | some (some d) => k d
  | _ => False
theorem getS_some {r : En} {i : Nat} {k : D → Prop} (h : getS r i k) : ∃ d, r[i]? = some (some d) ∧ k d := by
  unfold getS at h
  split at h
  · rename_i d e
    exact ⟨d, e, h⟩
  · exact h.elim
theorem de_var {i : Nat} {x : Str} (hN : X.N[i]? = some x := by rfl) (hv : Vis X.env.scope x := by first | exact Or.inl rfl | exact Or.inr (Or.inl rfl) | exact Or.inr (Or.inr rfl)) (hd : (x == ("__debug__" : Str)) = false := by decide)
    (hcd : (x == ("__classdict__" : Str)) = false := by decide) : DE X B (.Name x pos) (fun r M Ψ => getS r i fun d => Ψ d M) := by
  refine PE_imp (pe_var hN hv hd hcd) fun σ H Q ⟨r, M, G, Ψ, R, h, k⟩ => ?_
  obtain ⟨d, e, h⟩ := getS_some h
  obtain ⟨v, h1, h2⟩ := R.slots _ _ e
  exact ⟨v, h1, k d M v H G h R Sub.rfl' h2⟩
theorem de_c {v : V} (h : PE X e (tC v)) {d : D} (hr : ∀ G, Rep X.K G d v) : DE X B e (fun _ M Ψ => Ψ d M) :=
  PE_imp h fun σ H Q ⟨r, M, G, Ψ, R, h, k⟩ => k _ _ _ _ _ h R Sub.rfl' (hr G)
theorem de_int {i j} : DE X B (.Constant (.int i) j pos) (fun _ M Ψ => Ψ (.int i) M) := de_c pe_int fun _ => .int
theorem de_bl {b j} : DE X B (.Constant (.bool b) j pos) (fun _ M Ψ => Ψ (.bl b) M) := de_c pe_bl fun _ => .bl
theorem de_non {j} : DE X B (.Constant .none j pos) (fun _ M Ψ => Ψ .non M) := de_c pe_non fun _ => .non
theorem de_str {x j} : DE X B (.Constant (.str x) j pos) (fun _ M Ψ => Ψ (.str x) M) := de_c pe_str fun _ => .str
theorem de_glob {x : Str} {v : V} {u : Value} {d : D} (hm : X.mg x = some u) (r : RelV v u) (hr : ∀ G, Rep X.K G d v) (hg : Gl X x := by rfl) (hd : (x == ("__debug__" : Str)) = false := by decide) : DE X B (.Name x pos) (fun _ M Ψ => Ψ d M) := de_c (pe_glob hg hm r hd) hr

/-! ### argument lists, displays -/
theorem da_nil : DA X B [] (fun _ M Ψ => Ψ [] M) := PA_imp pa_nil fun σ H Q ⟨r, M, G, Ψ, R, h, k⟩ => k [] M [] H G h R Sub.rfl' .nil
theorem da_cons {fs : DTA} (ha : DE X B e fa) (hr : DA X B es fs) (hs : starEach (e :: es) X.env = (false, eval e X.env) :: starEach es X.env := by rfl) :
    DA X B (e :: es) (fun r M Ψ => fa r M fun d M1 => fs r M1 fun ds M2 => Ψ (d :: ds) M2) := by
  refine PA_imp (pa_cons ha hr hs) fun σ H Q ⟨r, M, G, Ψ, R, h, k⟩ => ?_
  refine ⟨r, M, G, _, R, h, fun d M1 v H1 G1 q1 R1 s1 p1 => ?_⟩
  exact ⟨r, M1, G1, _, R1, q1, fun ds M2 vs H2 G2 q2 R2 s2 p2 => k _ _ _ _ _ q2 R2 (s1.tr s2) (.cons (p1.mono s2) p2)⟩
theorem de_tup {x1} (h : DA X B es ga) : DE X B (.Tuple es x1 pos) (fun r M Ψ => ga r M fun ds M1 => ds.length ≤ sizeLine ∧ Ψ (.tup ds) M1) := by
  refine PE_imp (pe_tup h) fun σ H Q ⟨r, M, G, Ψ, R, h, k⟩ => ?_
  refine ⟨r, M, G, _, R, h, fun ds M1 vs H1 G1 ⟨z, q⟩ R1 s1 p1 => ⟨by rw [← p1.length]; exact z, fun p hp => ?_⟩⟩
  have g : Grow H1 G1 (upd H1 p (.tup vs)) (upd G1 p (.tup vs)) := grow_upd R1.wd.sub hp
  exact k _ _ _ _ _ q (R1.grow g) (s1.tr g.gsub) (.tup (SqT.of upd_same) (p1.mono g.gsub))
/-- a list that will not change -/
theorem de_lst (h : DA X B es ga) : DE X B (.List es pos) (fun r M Ψ => ga r M fun ds M1 => ds.length ≤ sizeLine ∧ Ψ (.lst ds) M1) := by
  refine PE_imp (pe_lst h) fun σ H Q ⟨r, M, G, Ψ, R, h, k⟩ => ?_
  refine ⟨r, M, G, _, R, h, fun ds M1 vs H1 G1 ⟨z, q⟩ R1 s1 p1 => ⟨by rw [← p1.length]; exact z, fun p hp => ?_⟩⟩
  have g : Grow H1 G1 (upd H1 p (.lst vs)) (upd G1 p (.lst vs)) := grow_upd R1.wd.sub hp
  exact k _ _ _ _ _ q (R1.grow g) (s1.tr g.gsub) (.lst (.inl upd_same) (p1.mono g.gsub))
/-- one that will -/
def updM (M : Sto) (p : Addr) (c : Cell) : Sto := fun a => if a = p then some c else M a
theorem updM_same {M : Sto} {p : Addr} {c : Cell} : updM M p c p = some c := if_pos rfl
theorem updM_ne {M : Sto} {p a : Addr} {c : Cell} (h : a ≠ p) : updM M p c a = M a := if_neg h
theorem updM_updM {M : Sto} {p : Addr} {c c' : Cell} : updM (updM M p c) p c' = updM M p c' := by
  funext a; unfold updM; split <;> rfl
theorem updM_comm {M : Sto} {p q : Addr} {c c' : Cell} (h : p ≠ q) : updM (updM M p c) q c' = updM (updM M q c') p c := by
  funext a; unfold updM; split <;> split <;> simp_all
/-- a new changing thing -/
theorem cell_new {K : PySem.W.Frag} {M : Sto} {H G : Hp} {p : Addr} {o : HO} {c : Cell} (w : Wd K M H G) (hp : H p = none) (hc : CellAt K G (upd H p o) p c) : Wd K (updM M p c) (upd H p o) G ∧ Since H G M (updM M p c) (upd H p o) G := by
  have gp : G p = none := by
    cases q : G p with
    | none => rfl
    | some u => rw [w.sub _ _ q] at hp; cases hp
  refine ⟨⟨fun a u h => ?_, fun a u h => ?_⟩, ⟨fun a u h n => ?_, fun a h => ?_, Sub.rfl', fun a h n => absurd n h, fun a h n => ?_⟩⟩
  · rw [upd_ne (ne_of_none (w.sub _ _ h) hp)]; exact w.sub _ _ h
  · by_cases e : a = p
    · subst e; rw [updM_same] at h; cases h; exact ⟨gp, hc⟩
    · rw [updM_ne e] at h
      obtain ⟨h1, h2⟩ := w.cells a u h
      exact ⟨h1, h2.move Sub.rfl' fun o z => by rw [upd_ne e]; exact z⟩
  · rw [upd_ne (ne_of_none h hp)]; exact h
  · by_cases e : a = p
    · subst e; rw [upd_same]; simp
    · rw [upd_ne e]; exact h
  · by_cases e : a = p
    · subst e; exact hp
    · rw [updM_ne e] at h; exact absurd n h
/-- a changing thing changed -/
theorem cell_put {K : PySem.W.Frag} {M : Sto} {H G : Hp} {p : Addr} {o : HO} {c c0 : Cell} (w : Wd K M H G) (hp : M p = some c0) (hc : CellAt K G (upd H p o) p c) : Wd K (updM M p c) (upd H p o) G ∧ Since H G M (updM M p c) (upd H p o) G := by
  obtain ⟨gp, hat⟩ := w.cells p c0 hp
  refine ⟨⟨fun a u h => ?_, fun a u h => ?_⟩, ⟨fun a u h n => ?_, fun a h => ?_, Sub.rfl', fun a h n => absurd n h, fun a h n => ?_⟩⟩
  · rw [upd_ne (ne_of_none h gp)]; exact w.sub _ _ h
  · by_cases e : a = p
    · subst e; rw [updM_same] at h; cases h; exact ⟨gp, hc⟩
    · rw [updM_ne e] at h
      obtain ⟨h1, h2⟩ := w.cells a u h
      exact ⟨h1, h2.move Sub.rfl' fun o z => by rw [upd_ne e]; exact z⟩
  · have e : a ≠ p := fun z => by subst z; rw [hp] at n; cases n
    rw [upd_ne e]; exact h
  · by_cases e : a = p
    · subst e; rw [upd_same]; simp
    · rw [upd_ne e]; exact h
  · by_cases e : a = p
    · subst e; rw [hp] at n; cases n
    · rw [updM_ne e] at h; exact absurd n h
theorem Wd.nomem {K : PySem.W.Frag} {M : Sto} {H G : Hp} {p : Addr} (w : Wd K M H G) (hp : H p = none) : M p = none := by
  cases q : M p with
  | none => rfl
  | some c => exact absurd hp (w.cells p c q).2.there
theorem de_lstM (h : DA X B es ga) : DE X B (.List es pos) (fun r M Ψ => ga r M fun ds M1 => ds.length ≤ sizeLine ∧ ∀ p, M1 p = none → Ψ (.ref p) (updM M1 p (.lst ds))) := by
  refine PE_imp (pe_lst h) fun σ H Q ⟨r, M, G, Ψ, R, h, k⟩ => ?_
  refine ⟨r, M, G, _, R, h, fun ds M1 vs H1 G1 ⟨z, q⟩ R1 s1 p1 => ⟨by rw [← p1.length]; exact z, fun p hp => ?_⟩⟩
  obtain ⟨w, s⟩ := cell_new (c := .lst ds) (o := .lst vs) R1.wd hp ⟨vs, upd_same, p1⟩
  exact k _ _ _ _ _ (q p (R1.wd.nomem hp)) (R1.go w s) s1 .ref

/-! ### operators, by values -/
/-- what an operator's reading r gives on data -/
def Ok2 (K : PySem.W.Frag) (r : R2) (g : Sto → D → D → (D → Prop) → Prop) : Prop := ∀ (M : Sto) (H G : Hp) (x y : D) (v u : V) (φ : D → Prop) (Q : VK), Wd K M H G → Rep K G x v → Rep K G y u → g M x y φ →
  (∀ d w H' G', φ d → Grow H G H' G' → Rep K G' d w → Q w H') → r v u H Q
theorem tOp_ok {r : R2} {g : Sto → D → D → (D → Prop) → Prop} (ok : Ok2 X.K r g) {σ : L2.St} {H : Hp} {Q : VK} (h : lift X.K B (fun r M Ψ => fa r M fun x M1 => fb r M1 fun y M2 => g M2 x y fun z => Ψ z M2) σ H Q) : tOp r (lift X.K B fa) (lift X.K B fb) σ H Q := by
  obtain ⟨r, M, G, Ψ, R, h, k⟩ := h
  refine ⟨r, M, G, _, R, h, fun d M1 v H1 G1 q1 R1 s1 p1 => ?_⟩
  refine ⟨r, M1, G1, _, R1, q1, fun y M2 u H2 G2 q2 R2 s2 p2 => ?_⟩
  exact ok M2 H2 G2 _ _ _ _ _ _ R2.wd (p1.mono s2) p2 q2 fun d w H' G' f g p => k _ _ _ _ _ f (R2.grow g) ((s1.tr s2).tr g.gsub) p
theorem de_op {op : Operator} {r : R2} {g : Sto → D → D → (D → Prop) → Prop} (ho : OpR X (binaryOp op) r) (ok : Ok2 X.K r g) (ha : DE X B a fa) (hb : DE X B b fb) :
    DE X B (.BinOp a op b pos) (fun r M Ψ => fa r M fun x M1 => fb r M1 fun y M2 => g M2 x y fun z => Ψ z M2) := PE_imp (pe_op ho ha hb) fun σ H Q h => tOp_ok ok h
theorem de_cmp {op : CmpOp} {r : R2} {g : Sto → D → D → (D → Prop) → Prop} (ho : OpR X (compareOp op) r) (ok : Ok2 X.K r g) (hm : behindInMarks op b = false) (ha : DE X B a fa) (hb : DE X B b fb) :
    DE X B (.Compare a [op] [b] pos) (fun r M Ψ => fa r M fun x M1 => fb r M1 fun y M2 => g M2 x y fun z => Ψ z M2) := PE_imp (pe_cmpR ho ha hb hm) fun σ H Q h => tOp_ok ok h
end
end Z
namespace Z
open PySem PySem.Spec PyProof.Rows L2

/-! ### reading lists, tuples -/
def lstOf (M : Sto) : D → Option (List D)
  | .lst l => some l
  | .ref p => match M p with
    | some (.lst l) => some l
    | _ => none
  | _ => none
def tupOf : D → Option (List D)
  | .tup l => some l
  | _ => none
section
variable {K : PySem.W.Frag} {M : Sto} {H G : Hp} {d : D} {v : V} {l : List D}
theorem lstOf_ref {a : Addr} (e : lstOf M (.ref a) = some l) : M a = some (.lst l) := by
  have e' : (match M a with | some (.lst l) => some l | _ => none) = some l := e
  split at e'
  · rename_i l' q
    rw [q, Option.some.inj e']
  · cases e'
theorem lst_rep (w : Wd K M H G) (r : Rep K G d v) (e : lstOf M d = some l) : ∃ a vs, v = .ref a ∧ Rd H a (.lst vs) ∧ RepL K G l vs := by
  cases r with
  | lst h r => cases e; exact ⟨_, _, rfl, w.sub.rd h, r⟩
  | ref =>
    obtain ⟨_, vs, h, r⟩ := w.cells _ _ (lstOf_ref e)
    exact ⟨_, vs, rfl, .inl h, r⟩
  | _ => cases e
theorem lst_rep' (w : Wd K M H G) (r : Rep K G d v) (e : lstOf M d = some l) : ∃ a vs, v = .ref a ∧ SqL K H a vs ∧ RepL K G l vs :=
  let ⟨a, vs, h1, h2, h3⟩ := lst_rep w r e
  ⟨a, vs, h1, .inl h2, h3⟩
theorem tup_rep (w : Wd K M H G) (r : Rep K G d v) (e : tupOf d = some l) : ∃ a vs, v = .ref a ∧ SqT K H a vs ∧ RepL K G l vs := by
  cases r with
  | tup h r => cases e; exact ⟨_, _, rfl, w.sub.sqT h, r⟩
  | _ => cases e
theorem repL_ints {ns : List Int} : ∀ {vs : List V}, RepL K G (ns.map D.int) vs → vs = ns.map V.int := by
  induction ns with
  | nil => intro vs r; cases r; rfl
  | cons n ns ih => intro vs r; cases r with | cons r1 r2 => cases r1; rw [ih r2]; rfl
theorem repL_bls {ns : List Bool} : ∀ {vs : List V}, RepL K G (ns.map D.bl) vs → vs = ns.map V.bl := by
  induction ns with
  | nil => intro vs r; cases r; rfl
  | cons n ns ih => intro vs r; cases r with | cons r1 r2 => cases r1; rw [ih r2]; rfl
theorem repL_strs {ns : List Str} : ∀ {vs : List V}, RepL K G (ns.map D.str) vs → vs = ns.map V.str := by
  induction ns with
  | nil => intro vs r; cases r; rfl
  | cons n ns ih => intro vs r; cases r with | cons r1 r2 => cases r1; rw [ih r2]; rfl
end

/-! ### + - * // % ** -/
def Dok (j : Int) : Prop := j ≠ 0 ∧ j.natAbs.log2 < 9000
theorem dok_of {j : Int} {n : Nat} (h0 : j ≠ 0) (h : j.natAbs < 2 ^ n) (hn : n ≤ 9000 := by decide) : Dok j := by
  refine ⟨h0, Nat.lt_of_lt_of_le ((Nat.log2_lt (by omega)).mpr h) hn⟩
theorem mok_of {i j : Int} {a b : Nat} (ha : i.natAbs < 2 ^ a) (hb : j.natAbs < 2 ^ b) (h0 : 0 < a := by decide) (h1 : 0 < b := by decide) (h : a + b ≤ 1000000 := by decide) : IntMulOk i j := CMulW.ok (wide_mul ha hb h0 h1 h)
def addD (M : Sto) (x y : D) (φ : D → Prop) : Prop := match x, y with
  | .int i, .int j => φ (.int (i + j))
  | .str a, .str b => a.length + b.length ≤ sizeLine ∧ φ (.str (a ++ b))
  | .tup a, .tup b => a.length + b.length ≤ sizeLine ∧ φ (.tup (a ++ b))
  | .int i, .bl b => φ (.int (i + b2i b))
  | x, y => ∃ a b, lstOf M x = some a ∧ lstOf M y = some b ∧ a.length + b.length ≤ sizeLine ∧ φ (.lst (a ++ b))
def subD (_ : Sto) (x y : D) (φ : D → Prop) : Prop := match x, y with
  | .int i, .int j => φ (.int (i - j))
  | _, _ => False
def mulD (_ : Sto) (x y : D) (φ : D → Prop) : Prop := match x, y with
  | .int i, .int j => IntMulOk i j ∧ φ (.int (i * j))
  | _, _ => False
def fdivD (_ : Sto) (x y : D) (φ : D → Prop) : Prop := match x, y with
  | .int i, .int j => Dok j ∧ φ (.int (i.fdiv j))
  | _, _ => False
def fmodD (_ : Sto) (x y : D) (φ : D → Prop) : Prop := match x, y with
  | .int i, .int j => j ≠ 0 ∧ φ (.int (i.fmod j))
  | _, _ => False
def powD (_ : Sto) (x y : D) (φ : D → Prop) : Prop := match x, y with
  | .int i, .int j => CPow i j ∧ φ (.int (i ^ j.toNat))
  | _, _ => False
section
variable {X : Cx}
/-- list + list, read in any way -/
theorem rd_lst {pins : List (Addr × Obj)} {σ : L2.St} {H : Hp} {s : Shared} {l : Addr} {xs : List V} (I : Inv X pins σ H s) (h : Rd H l (.lst xs)) : xs.length ≤ sizeLine ∧ ∃ (its : List Value) (n : Nat), Vals xs its ∧ xs.length = its.length ∧ s.heap.get? l = some { cls := .type "list", data := .seq its.toArray n } := by
  obtain ⟨z, its, n, r, e⟩ := h.ok I.hok
  exact ⟨z, its, n, r, r.length, e⟩
def rCatL : R2 := fun x y H Q => ∃ l b xs zs, x = .ref l ∧ y = .ref b ∧ Rd H l (.lst xs) ∧ Rd H b (.lst zs) ∧ xs.length + zs.length ≤ sizeLine ∧ ∀ p, H p = none → Q (.ref p) (upd H p (.lst (xs ++ zs)))
theorem op_catL : OpR X (binaryOp .Add) rCatL := by
  intro pins s σ H x y v u Q I rx ry h
  obtain ⟨l, b, xs, zs, rfl, rfl, hH, hB, hz, q⟩ := h
  cases rx
  cases ry
  obtain ⟨z, its, n, r, hl, e⟩ := rd_lst I hH
  obtain ⟨z2, its2, n2, r2, hl2, e2⟩ := rd_lst I hB
  refine PySem.P.add_list e e2 ?_ (by rw [List.size_toArray, List.size_toArray]; omega)
  have ea : its.toArray ++ its2.toArray = (its ++ its2).toArray := by simp
  rw [ea]
  exact ⟨.ref _, _, I.lnew (t' := s.toks) (r.append r2) (by rw [List.length_append]; omega), rfl, q _ I.fresh⟩
theorem op_fdivZ : OpR X (binaryOp .FloorDiv) (rI (fun _ j => Dok j) fun i j => .int (i.fdiv j)) := opI fun _ _ _ _ _ _ _ hc q => floordiv_int hc.1 q (.inl (PyProof.noPylong_of_log2 hc.2))
theorem op_mulZ : OpR X (binaryOp .Mult) (rI IntMulOk fun i j => .int (i * j)) := opI fun _ _ _ _ _ _ _ hc q => mul_int q hc

theorem ok_int (C : Int → Int → Prop) (g : Int → Int → V) (gd : Int → Int → D) (hg : ∀ K G i j, Rep K G (gd i j) (g i j)) (f : Sto → D → D → (D → Prop) → Prop) (hf : ∀ M x y φ, f M x y φ → ∃ i j, x = .int i ∧ y = .int j ∧ C i j ∧ φ (gd i j)) {K : PySem.W.Frag} : Ok2 K (rI C g) f := fun M H G x y v u φ Q w rx ry h k => by
  obtain ⟨i, j, rfl, rfl, c, q⟩ := hf _ _ _ _ h
  cases rx
  cases ry
  exact ⟨i, j, rfl, rfl, c, k _ _ _ _ q (Grow.refl w.sub) (hg _ _ _ _)⟩
theorem ok_sub {K : PySem.W.Frag} : Ok2 K (rI0 fun i j => .int (i - j)) subD := fun M H G x y v u φ Q w rx ry h k => by
  unfold subD at h
  split at h
  · cases rx; cases ry; exact ⟨_, _, rfl, rfl, k _ _ _ _ h (Grow.refl w.sub) .int⟩
  · exact h.elim
theorem ok_mul {K : PySem.W.Frag} : Ok2 K (rI IntMulOk fun i j => .int (i * j)) mulD := ok_int _ _ (fun i j => .int (i * j)) (fun _ _ _ _ => .int) _ fun M x y φ h => by
  unfold mulD at h
  split at h
  · exact ⟨_, _, rfl, rfl, h⟩
  · exact h.elim
theorem ok_fdiv {K : PySem.W.Frag} : Ok2 K (rI (fun _ j => Dok j) fun i j => .int (i.fdiv j)) fdivD := ok_int _ _ (fun i j => .int (i.fdiv j)) (fun _ _ _ _ => .int) _ fun M x y φ h => by
  unfold fdivD at h
  split at h
  · exact ⟨_, _, rfl, rfl, h⟩
  · exact h.elim
theorem ok_fmod {K : PySem.W.Frag} : Ok2 K (rI (fun _ j => j ≠ 0) fun i j => .int (i.fmod j)) fmodD := ok_int _ _ (fun i j => .int (i.fmod j)) (fun _ _ _ _ => .int) _ fun M x y φ h => by
  unfold fmodD at h
  split at h
  · exact ⟨_, _, rfl, rfl, h⟩
  · exact h.elim
theorem ok_pow {K : PySem.W.Frag} : Ok2 K (rI CPow fun i j => .int (i ^ j.toNat)) powD := ok_int _ _ (fun i j => .int (i ^ j.toNat)) (fun _ _ _ _ => .int) _ fun M x y φ h => by
  unfold powD at h
  split at h
  · exact ⟨_, _, rfl, rfl, h⟩
  · exact h.elim
def rAddA (K : PySem.W.Frag) : R2 := fun x y H Q => rI0 (fun i j => .int (i + j)) x y H Q ∨ (∃ i j, x = .str i ∧ y = .str j ∧ i.length + j.length ≤ sizeLine ∧ Q (.str (i ++ j)) H) ∨ rCatA K x y H Q ∨
  (∃ i k, x = .int i ∧ y = .bl k ∧ Q (.int (i + b2i k)) H) ∨ rCatL x y H Q
theorem op_addA : OpR X (binaryOp .Add) (rAddA X.K) := op_add.or (op_add_str.or (op_catA.or (op_add_ib.or op_catL)))
theorem ok_add {K : PySem.W.Frag} : Ok2 K (rAddA K) addD := fun M H G x y v u φ Q w rx ry h k => by
  unfold addD at h
  split at h
  · cases rx; cases ry; exact .inl ⟨_, _, rfl, rfl, k _ _ _ _ h (Grow.refl w.sub) .int⟩
  · cases rx; cases ry; exact .inr (.inl ⟨_, _, rfl, rfl, h.1, k _ _ _ _ h.2 (Grow.refl w.sub) .str⟩)
  · rename_i a b
    obtain ⟨p, vs, rfl, h1, r1⟩ := tup_rep w rx (l := a) rfl
    obtain ⟨q, us, rfl, h2, r2⟩ := tup_rep w ry (l := b) rfl
    refine .inr (.inr (.inl ⟨p, q, vs, us, rfl, rfl, h1, h2, by rw [← r1.length, ← r2.length]; exact h.1, fun e => ?_, fun _ e => ?_, fun _ _ p hp => ?_⟩))
    · subst e; cases r1
      exact k _ _ _ _ h.2 (Grow.refl w.sub) ry
    · subst e; cases r2
      rw [List.append_nil] at h
      exact k _ _ _ _ h.2 (Grow.refl w.sub) rx
    · have g : Grow H G (upd H p (.tup (vs ++ us))) (upd G p (.tup (vs ++ us))) := grow_upd w.sub hp
      exact k _ _ _ _ h.2 g (.tup (SqT.of upd_same) ((r1.app r2).mono g.gsub))
  · cases rx; cases ry; exact .inr (.inr (.inr (.inl ⟨_, _, rfl, rfl, k _ _ _ _ h (Grow.refl w.sub) .int⟩)))
  · obtain ⟨a, b, e1, e2, z, q⟩ := h
    obtain ⟨p, vs, rfl, h1, r1⟩ := lst_rep w rx e1
    obtain ⟨q', us, rfl, h2, r2⟩ := lst_rep w ry e2
    refine .inr (.inr (.inr (.inr ⟨p, q', vs, us, rfl, rfl, h1, h2, by rw [← r1.length, ← r2.length]; exact z, fun p hp => ?_⟩)))
    have g : Grow H G (upd H p (.lst (vs ++ us))) (upd G p (.lst (vs ++ us))) := grow_upd w.sub hp
    exact k _ _ _ _ q g (.lst (.inl upd_same) ((r1.app r2).mono g.gsub))
end
section
variable {X : Cx} {B : Bs} {pos : Pos} {a b e : Expr} {es : List Expr} {fa fb : DTE} {ga : DTA}
theorem de_add (ha : DE X B a fa) (hb : DE X B b fb) : DE X B (.BinOp a .Add b pos) (fun r M Ψ => fa r M fun x M1 => fb r M1 fun y M2 => addD M2 x y fun z => Ψ z M2) := de_op op_addA ok_add ha hb
theorem de_sub (ha : DE X B a fa) (hb : DE X B b fb) : DE X B (.BinOp a .Sub b pos) (fun r M Ψ => fa r M fun x M1 => fb r M1 fun y M2 => subD M2 x y fun z => Ψ z M2) := de_op op_sub ok_sub ha hb
theorem de_mul (ha : DE X B a fa) (hb : DE X B b fb) : DE X B (.BinOp a .Mult b pos) (fun r M Ψ => fa r M fun x M1 => fb r M1 fun y M2 => mulD M2 x y fun z => Ψ z M2) := de_op op_mulZ ok_mul ha hb
theorem de_fdiv (ha : DE X B a fa) (hb : DE X B b fb) : DE X B (.BinOp a .FloorDiv b pos) (fun r M Ψ => fa r M fun x M1 => fb r M1 fun y M2 => fdivD M2 x y fun z => Ψ z M2) := de_op op_fdivZ ok_fdiv ha hb
theorem de_fmod (ha : DE X B a fa) (hb : DE X B b fb) : DE X B (.BinOp a .Mod b pos) (fun r M Ψ => fa r M fun x M1 => fb r M1 fun y M2 => fmodD M2 x y fun z => Ψ z M2) := de_op op_modN ok_fmod ha hb
theorem de_pow (ha : DE X B a fa) (hb : DE X B b fb) : DE X B (.BinOp a .Pow b pos) (fun r M Ψ => fa r M fun x M1 => fb r M1 fun y M2 => powD M2 x y fun z => Ψ z M2) := de_op op_pow ok_pow ha hb
theorem de_neg (ha : DE X B a fa) : DE X B (.UnaryOp .USub a pos) (fun r M Ψ => fa r M fun x M1 => match x with | .int i => Ψ (.int (-i)) M1 | _ => False) :=
  PE_imp (pe_un un_neg ha) fun σ H Q ⟨r, M, G, Ψ, R, h, k⟩ => by
    refine ⟨r, M, G, _, R, h, fun d M1 v H1 G1 q1 R1 s1 p1 => ?_⟩
    cases p1 with
    | int => exact ⟨_, rfl, k _ _ _ _ _ q1 R1 s1 .int⟩
    | _ => exact q1.elim
end
end Z
namespace Z
open PySem PySem.Spec PyProof.Rows L2

/-! ### plain data -/
mutual
def pd : D → Option PyData
  | .non => some .none
  | .bl b => some (.bool b)
  | .int i => some (.int i)
  | .str x => some (.str x)
  | .tup l => (pdL l).map .tuple
  | .lst l => (pdL l).map .list
  | _ => none
def pdL : List D → Option (List PyData)
  | [] => some []
  | d :: r => match pd d, pdL r with
    | some x, some xs => some (x :: xs)
    | _, _ => none
end
def toPd (M : Sto) (d : D) : Option PyData := match lstOf M d with
  | some l => (pdL l).map .list
  | none => pd d
section
variable {K : PySem.W.Frag} {G H : Hp}
mutual
theorem dp_of (s : Sub G H) : ∀ (d : D) (v : V) (p : PyData), Rep K G d v → pd d = some p → Dp K H v p
  | .non, _, _, r, e => by cases r; cases e; exact .non
  | .bl b, _, _, r, e => by cases r; cases e; exact .bl b
  | .int i, _, _, r, e => by cases r; cases e; exact .int i
  | .str x, _, _, r, e => by cases r; cases e; exact .str x
  | .tup l, _, _, r, e => by
    cases r with
    | tup h r =>
      obtain ⟨q, e1, e2⟩ := Option.map_eq_some_iff.mp (show (pdL l).map PyData.tuple = some _ from e)
      subst e2
      exact .tup (s.sqT h) (dp_all s l _ _ r e1)
  | .lst l, _, _, r, e => by
    cases r with
    | lst h r =>
      obtain ⟨q, e1, e2⟩ := Option.map_eq_some_iff.mp (show (pdL l).map PyData.list = some _ from e)
      subst e2
      exact .lst (.inl (s.rd h)) (dp_all s l _ _ r e1)
  | .ty _, _, _, _, e => by cases e
  | .ref _, _, _, _, e => by cases e
  | .dic _, _, _, _, e => by cases e
  | .fn _, _, _, _, e => by cases e
  | .obj _ _, _, _, _, e => by cases e
theorem dp_all (s : Sub G H) : ∀ (l : List D) (vs : List V) (ps : List PyData), RepL K G l vs → pdL l = some ps → DpAll K H vs ps
  | [], _, _, r, e => by cases r; cases e; exact .nil
  | d :: l, _, _, r, e => by
    cases r with
    | cons r1 r2 =>
      unfold pdL at e
      split at e
      · rename_i x xs e1 e2
        cases e
        exact .cons (dp_of s d _ _ r1 e1) (dp_all s l _ _ r2 e2)
      · cases e
end
theorem toPd_dp {M : Sto} {d : D} {v : V} {p : PyData} (w : Wd K M H G) (r : Rep K G d v) (e : toPd M d = some p) : Dp K H v p := by
  unfold toPd at e
  split at e
  · rename_i l q
    obtain ⟨a, vs, rfl, h, r2⟩ := lst_rep' w r q
    obtain ⟨ps, e1, e2⟩ := Option.map_eq_some_iff.mp e
    subst e2
    exact .lst h (dp_all w.sub l _ _ r2 e1)
  · exact dp_of w.sub d v p r e
end
/-! ### comparisons -/
def eqvD (M : Sto) (x y : D) (φ : Bool → Prop) : Prop := match x, y with
  | .int i, .int j => φ (decide (i = j))
  | .str a, .str b => φ (decide (a = b))
  | .bl a, .bl b => φ (decide (a = b))
  | x, y => ∃ p q, toPd M x = some p ∧ toPd M y = some q ∧ SeqAt.shaped p = true ∧ SeqAt.shaped q = true ∧ φ (PyData.eqv p q)
@[irreducible] def eqD (M : Sto) (x y : D) (φ : D → Prop) : Prop := eqvD M x y fun b => φ (.bl b)
@[irreducible] def neD (M : Sto) (x y : D) (φ : D → Prop) : Prop := eqvD M x y fun b => φ (.bl (!b))
def cmpD (p : Int → Int → Bool) (_ : Sto) (x y : D) (φ : D → Prop) : Prop := match x, y with
  | .int i, .int j => φ (.bl (p i j))
  | _, _ => False
abbrev ltD := cmpD fun i j => decide (i < j)
abbrev leD := cmpD fun i j => decide (i ≤ j)
abbrev gtD := cmpD fun i j => decide (j < i)
abbrev geD := cmpD fun i j => decide (j ≤ i)
def isN (d : D) : Bool := match d with
  | .non => true
  | _ => false
def isD (_ : Sto) (x y : D) (φ : D → Prop) : Prop := match y with
  | .non => φ (.bl (isN x))
  | _ => False
def isntD (_ : Sto) (x y : D) (φ : D → Prop) : Prop := match y with
  | .non => φ (.bl (!isN x))
  | _ => False
def flatD (d : D) : Bool := match d with
  | .non => true
  | .bl _ => true
  | .int _ => true
  | .str _ => true
  | _ => false
/-- x in y: one sign in a text; data in a list or tuple -/
def inQ (M : Sto) (x y : D) (φ : Bool → Prop) : Prop := match y with
  | .str z => ∃ c, x = .str ⟨#[c]⟩ ∧ φ (decide (c ∈ z.cps.toList))
  | .tup l => ∃ p ps, pd x = some p ∧ pdL l = some ps ∧ l.all flatD = true ∧
      flatD x = true ∧ φ (ps.any fun z => PyData.eqv z p)
  | y => ∃ l p ps, lstOf M y = some l ∧ toPd M x = some p ∧ pdL l = some ps ∧ SeqAt.shaped p = true ∧ SeqAt.shaped (.list ps) = true ∧ φ (ps.any fun z => PyData.eqv z p)
def inD (M : Sto) (x y : D) (φ : D → Prop) : Prop := inQ M x y fun b => φ (.bl b)
def ninD (M : Sto) (x y : D) (φ : D → Prop) : Prop := inQ M x y fun b => φ (.bl (!b))

section
variable {K : PySem.W.Frag} {M : Sto} {H G : Hp}
theorem repN {d : D} {v : V} (r : Rep K G d v) : decide (v = .non) = isN d := by
  cases r <;> simp [isN]
def rEqA (K : PySem.W.Frag) : R2 := fun x y H Q => rEq x y H Q ∨ rEqD K x y H Q
def rNeA (K : PySem.W.Frag) : R2 := fun x y H Q => rNe x y H Q ∨ rNeD K x y H Q
theorem ok_eq : Ok2 K (rEqA K) eqD := fun M H G x y v u φ Q w rx ry h k => by
  unfold eqD eqvD at h
  split at h
  · cases rx; cases ry
    exact .inl ⟨rfl, k _ _ _ _ h (Grow.refl w.sub) (by rw [show decide (V.int _ = V.int _) = _ from dec_int, Bool.beq_eq_decide_eq]; exact .bl)⟩
  · cases rx; cases ry
    exact .inl ⟨rfl, k _ _ _ _ h (Grow.refl w.sub) (by rw [show decide (V.str _ = V.str _) = _ from dec_str, Bool.beq_eq_decide_eq]; exact .bl)⟩
  · cases rx; cases ry
    exact .inl ⟨rfl, k _ _ _ _ h (Grow.refl w.sub) (by rw [show decide (V.bl _ = V.bl _) = _ from dec_bl, Bool.beq_eq_decide_eq]; exact .bl)⟩
  · obtain ⟨p, q, e1, e2, s1, s2, h⟩ := h
    exact .inr ⟨p, q, toPd_dp w rx e1, toPd_dp w ry e2, s1, s2, k _ _ _ _ h (Grow.refl w.sub) .bl⟩
theorem ok_ne : Ok2 K (rNeA K) neD := fun M H G x y v u φ Q w rx ry h k => by
  unfold neD eqvD at h
  split at h
  · cases rx; cases ry
    exact .inl ⟨rfl, k _ _ _ _ h (Grow.refl w.sub) (by rw [show decide (V.int _ = V.int _) = _ from dec_int, Bool.beq_eq_decide_eq]; exact .bl)⟩
  · cases rx; cases ry
    exact .inl ⟨rfl, k _ _ _ _ h (Grow.refl w.sub) (by rw [show decide (V.str _ = V.str _) = _ from dec_str, Bool.beq_eq_decide_eq]; exact .bl)⟩
  · cases rx; cases ry
    exact .inl ⟨rfl, k _ _ _ _ h (Grow.refl w.sub) (by rw [show decide (V.bl _ = V.bl _) = _ from dec_bl, Bool.beq_eq_decide_eq]; exact .bl)⟩
  · obtain ⟨p, q, e1, e2, s1, s2, h⟩ := h
    exact .inr ⟨p, q, toPd_dp w rx e1, toPd_dp w ry e2, s1, s2, k _ _ _ _ h (Grow.refl w.sub) .bl⟩
theorem ok_cmp (p : Int → Int → Bool) : Ok2 K (rI0 fun i j => .bl (p i j)) (cmpD p) := fun M H G x y v u φ Q w rx ry h k => by
  unfold cmpD at h
  split at h
  · cases rx; cases ry; exact ⟨_, _, rfl, rfl, k _ _ _ _ h (Grow.refl w.sub) .bl⟩
  · exact h.elim
theorem ok_is : Ok2 K (fun x y H Q => y = .non ∧ Q (.bl (decide (x = .non))) H) isD := fun M H G x y v u φ Q w rx ry h k => by
  unfold isD at h
  split at h
  · cases ry
    exact ⟨rfl, by rw [repN rx]; exact k _ _ _ _ h (Grow.refl w.sub) .bl⟩
  · exact h.elim
theorem ok_isnt : Ok2 K (fun x y H Q => y = .non ∧ Q (.bl (!decide (x = .non))) H) isntD := fun M H G x y v u φ Q w rx ry h k => by
  unfold isntD at h
  split at h
  · cases ry
    exact ⟨rfl, by rw [repN rx]; exact k _ _ _ _ h (Grow.refl w.sub) .bl⟩
  · exact h.elim
end
/-- flat data: in by values -/
theorem pd_flat {K : PySem.W.Frag} {G : Hp} {d : D} {v : V} {p : PyData} (r : Rep K G d v) (e : pd d = some p) (f : flatD d = true) : flatV v = true := by
  cases r <;> first | rfl | exact absurd f Bool.false_ne_true
theorem eqv_flat {K : PySem.W.Frag} {G : Hp} {d c : D} {v u : V} {p q : PyData} (r : Rep K G d v) (r' : Rep K G c u) (e : pd d = some p) (e' : pd c = some q) (f : flatD d = true)
    (f' : flatD c = true) : eqV v u = PyData.eqv p q := by
  cases r <;> first | exact absurd f Bool.false_ne_true | (cases r' <;> first | exact absurd f' Bool.false_ne_true | (cases e; cases e'; simp [eqV, PyData.eqv]))
theorem any_flat {K : PySem.W.Frag} {G : Hp} {c : D} {u : V} {q : PyData} (r' : Rep K G c u) (e' : pd c = some q) (f' : flatD c = true) :
    ∀ {l : List D} {vs : List V} {ps : List PyData}, RepL K G l vs → pdL l = some ps → l.all flatD = true →
      vs.all flatV = true ∧ inV u vs = ps.any fun z => PyData.eqv z q
  | _, _, _, .nil, e, f => by cases e; exact ⟨rfl, rfl⟩
  | d :: l, v :: vs, ps, .cons r1 r2, e, f => by
    unfold pdL at e
    split at e
    · rename_i x xs e1 e2
      cases e
      rw [List.all_cons, Bool.and_eq_true] at f
      obtain ⟨h1, h2⟩ := any_flat r' e' f' r2 e2 f.2
      refine ⟨by rw [List.all_cons, Bool.and_eq_true]; exact ⟨pd_flat r1 e1 f.1, h1⟩, ?_⟩
      unfold inV at h2 ⊢
      rw [List.any_cons, List.any_cons, h2, eqv_flat r1 r' e1 e' f.1 f']
    · cases e
section
variable {X : Cx}
def rInA (K : PySem.W.Frag) : R2 := fun x y H Q => (∃ (c : Nat) (z : Str), x = .str ⟨#[c]⟩ ∧ y = .str z ∧ Q (.bl (decide (c ∈ z.cps.toList))) H) ∨ rIn K false x y H Q ∨ rInD K x y H Q
def rNinA (K : PySem.W.Frag) : R2 := fun x y H Q => (∃ (c : Nat) (z : Str), x = .str ⟨#[c]⟩ ∧ y = .str z ∧ Q (.bl (!decide (c ∈ z.cps.toList))) H) ∨ rIn K true x y H Q ∨ rNotInD K x y H Q
theorem ok_in {K : PySem.W.Frag} : Ok2 K (rInA K) inD := fun M H G x y v u φ Q w rx ry h k => by
  unfold inD inQ at h
  split at h
  · obtain ⟨c, rfl, h⟩ := h
    cases rx; cases ry
    exact .inl ⟨c, _, rfl, rfl, k _ _ _ _ h (Grow.refl w.sub) .bl⟩
  · rename_i l
    obtain ⟨p, ps, e1, e2, f, f', h⟩ := h
    obtain ⟨a, vs, rfl, h1, r1⟩ := tup_rep w ry (l := l) rfl
    obtain ⟨z1, z2⟩ := any_flat rx e1 f' r1 e2 f
    refine .inr (.inl ⟨a, vs, rfl, .inr h1, pd_flat rx e1 f', z1, ?_⟩)
    show Q (.bl (inV v vs)) H
    rw [z2]
    exact k _ _ _ _ h (Grow.refl w.sub) .bl
  · obtain ⟨l, p, ps, e0, e1, e2, s1, s2, h⟩ := h
    obtain ⟨a, vs, rfl, h1, r1⟩ := lst_rep' w ry e0
    exact .inr (.inr ⟨p, ps, toPd_dp w rx e1, .lst h1 (dp_all w.sub l _ _ r1 e2), s1, s2, k _ _ _ _ h (Grow.refl w.sub) .bl⟩)
theorem ok_nin {K : PySem.W.Frag} : Ok2 K (rNinA K) ninD := fun M H G x y v u φ Q w rx ry h k => by
  unfold ninD inQ at h
  split at h
  · obtain ⟨c, rfl, h⟩ := h
    cases rx; cases ry
    exact .inl ⟨c, _, rfl, rfl, k _ _ _ _ h (Grow.refl w.sub) .bl⟩
  · rename_i l
    obtain ⟨p, ps, e1, e2, f, f', h⟩ := h
    obtain ⟨a, vs, rfl, h1, r1⟩ := tup_rep w ry (l := l) rfl
    obtain ⟨z1, z2⟩ := any_flat rx e1 f' r1 e2 f
    refine .inr (.inl ⟨a, vs, rfl, .inr h1, pd_flat rx e1 f', z1, ?_⟩)
    show Q (.bl (!inV v vs)) H
    rw [z2]
    exact k _ _ _ _ h (Grow.refl w.sub) .bl
  · obtain ⟨l, p, ps, e0, e1, e2, s1, s2, h⟩ := h
    obtain ⟨a, vs, rfl, h1, r1⟩ := lst_rep' w ry e0
    exact .inr (.inr ⟨p, ps, toPd_dp w rx e1, .lst h1 (dp_all w.sub l _ _ r1 e2), s1, s2, k _ _ _ _ h (Grow.refl w.sub) .bl⟩)
theorem room65 {k : Nat} {A : Around} (r : Room k A) : A.units + 65 < cLine := by have := r.un; omega
end

section
variable {X : Cx} {B : Bs} {pos : Pos} {a b c e : Expr} {es : List Expr} {fa fb fc : DTE} {ga : DTA} {ta tb : DTT} {k : Nat}
abbrev bin2 (g : Sto → D → D → (D → Prop) → Prop) (fa fb : DTE) : DTE := fun r M Ψ => fa r M fun x M1 => fb r M1 fun y M2 => g M2 x y fun z => Ψ z M2
theorem de_eq (hr : Room k X.A) (ha : DE X B a fa) (hb : DE X B b fb) : DE X B (.Compare a [.Eq] [b] pos) (bin2 eqD fa fb) := de_cmp (op_eq.or (op_eqD hr.units)) ok_eq (nomark _) ha hb
theorem de_ne (hr : Room k X.A) (ha : DE X B a fa) (hb : DE X B b fb) : DE X B (.Compare a [.NotEq] [b] pos) (bin2 neD fa fb) := de_cmp (op_ne.or (op_neD hr.units)) ok_ne (nomark _) ha hb
theorem de_lt (ha : DE X B a fa) (hb : DE X B b fb) : DE X B (.Compare a [.Lt] [b] pos) (bin2 ltD fa fb) := de_cmp op_lt (ok_cmp _) (nomark _) ha hb
theorem de_le (ha : DE X B a fa) (hb : DE X B b fb) : DE X B (.Compare a [.LtE] [b] pos) (bin2 leD fa fb) := de_cmp op_le (ok_cmp _) (nomark _) ha hb
theorem de_gt (ha : DE X B a fa) (hb : DE X B b fb) : DE X B (.Compare a [.Gt] [b] pos) (bin2 gtD fa fb) := de_cmp op_gt (ok_cmp _) (nomark _) ha hb
theorem de_ge (ha : DE X B a fa) (hb : DE X B b fb) : DE X B (.Compare a [.GtE] [b] pos) (bin2 geD fa fb) := de_cmp op_ge (ok_cmp _) (nomark _) ha hb
theorem de_is (ha : DE X B a fa) (hb : DE X B b fb) : DE X B (.Compare a [.Is] [b] pos) (bin2 isD fa fb) := de_cmp op_isN ok_is (nomark _) ha hb
theorem de_isnt (ha : DE X B a fa) (hb : DE X B b fb) : DE X B (.Compare a [.IsNot] [b] pos) (bin2 isntD fa fb) := de_cmp op_notN ok_isnt (nomark _) ha hb
theorem de_in (hr : Room k X.A) (ha : DE X B a fa) (hb : DE X B b fb) (hm : behindInMarks .In b = false := by rfl) : DE X B (.Compare a [.In] [b] pos) (bin2 inD fa fb) := de_cmp (op_in_sign.or (op_in_seq.or (op_inD (room65 hr)))) ok_in hm ha hb
theorem de_nin (hr : Room k X.A) (ha : DE X B a fa) (hb : DE X B b fb) (hm : behindInMarks .NotIn b = false := by rfl) : DE X B (.Compare a [.NotIn] [b] pos) (bin2 ninD fa fb) := de_cmp (op_notIn_sign.or (op_notIn_seq.or (op_notInD (room65 hr)))) ok_nin hm ha hb

/-! ### tests -/
/-- an expression whose value is True or False, as a test -/
@[irreducible] def blD (k : Bool → Prop) (d : D) : Prop := match d with
  | .bl b => k b
  | _ => False
theorem tTest_ok (σ : L2.St) (H : Hp) (Q : Bool → Hp → Prop) (h : liftT X.K B (fun r M Ψ => fa r M fun x M1 => blD (fun b => Ψ b M1) x) σ H Q) : tTest (lift X.K B fa) σ H Q := by
  obtain ⟨r, M, G, Ψ, R, h, k⟩ := h
  refine ⟨r, M, G, _, R, h, fun d M1 v H1 G1 q1 R1 s1 p1 => ?_⟩
  unfold blD at q1
  cases p1 with
  | bl => exact ⟨_, rfl, k _ _ _ _ q1 R1 s1⟩
  | _ => exact q1.elim
theorem PE_test {t : TE} (h : PE X e t) (he : ∀ whole, isTrue e X.env whole = (do let v ← whole; standAt e.pos; holding [v] (truthy v)) := by intro _; rfl) : PT X e (tTest t) := by
  refine ⟨fun pins s σ H Q I hw => ?_⟩
  refine isTrue_plain (thn (h.run pins s σ H _ I hw) fun v s1 ⟨x, H1, I1, r1, q1⟩ => ?_) (he _)
  obtain ⟨d, rfl, q⟩ := q1
  cases r1
  exact wpAny_truthy_bool ⟨H1, I1, q⟩
theorem dt_val (h : DE X B e fa) (he : ∀ whole, isTrue e X.env whole = (do let v ← whole; standAt e.pos; holding [v] (truthy v)) := by intro _; rfl) : DT X B e (fun r M Ψ => fa r M fun x M1 => blD (fun b => Ψ b M1) x) :=
  PT_imp (PE_test h he) tTest_ok
theorem tOp_okT {r : R2} {g : Sto → D → D → (D → Prop) → Prop} (ok : Ok2 X.K r g) (σ : L2.St) (H : Hp) (Q : Bool → Hp → Prop) (h : liftT X.K B (fun r M Ψ => fa r M fun x M1 => fb r M1 fun y M2 => g M2 x y fun z => blD (fun b => Ψ b M2) z) σ H Q) :
    tTest (tOp r (lift X.K B fa) (lift X.K B fb)) σ H Q := by
  obtain ⟨r, M, G, Ψ, R, h, k⟩ := h
  refine ⟨r, M, G, _, R, h, fun d M1 v H1 G1 q1 R1 s1 p1 => ?_⟩
  refine ⟨r, M1, G1, _, R1, q1, fun y M2 u H2 G2 q2 R2 s2 p2 => ?_⟩
  refine ok M2 H2 G2 _ _ _ _ _ _ R2.wd (p1.mono s2) p2 q2 fun d w H' G' f g p => ?_
  unfold blD at f
  cases p with
  | bl => exact ⟨_, rfl, k _ _ _ _ f (R2.grow g) ((s1.tr s2).tr g.gsub)⟩
  | _ => exact f.elim
abbrev bin2T (g : Sto → D → D → (D → Prop) → Prop) (fa fb : DTE) : DTT := fun r M Ψ => fa r M fun x M1 => fb r M1 fun y M2 => g M2 x y fun z => blD (fun b => Ψ b M2) z
theorem dt_cmp {op : CmpOp} {r : R2} {g : Sto → D → D → (D → Prop) → Prop} (ho : OpR X (compareOp op) r) (ok : Ok2 X.K r g) (hm : behindInMarks op b = false) (ha : DE X B a fa) (hb : DE X B b fb) :
    DT X B (.Compare a [op] [b] pos) (bin2T g fa fb) := PT_imp (pt_cmpR ho ha hb hm) (tOp_okT ok)
theorem dt_eq (hr : Room k X.A) (ha : DE X B a fa) (hb : DE X B b fb) : DT X B (.Compare a [.Eq] [b] pos) (bin2T eqD fa fb) := dt_cmp (op_eq.or (op_eqD hr.units)) ok_eq (nomark _) ha hb
theorem dt_ne (hr : Room k X.A) (ha : DE X B a fa) (hb : DE X B b fb) : DT X B (.Compare a [.NotEq] [b] pos) (bin2T neD fa fb) := dt_cmp (op_ne.or (op_neD hr.units)) ok_ne (nomark _) ha hb
theorem dt_lt (ha : DE X B a fa) (hb : DE X B b fb) : DT X B (.Compare a [.Lt] [b] pos) (bin2T ltD fa fb) := dt_cmp op_lt (ok_cmp _) (nomark _) ha hb
theorem dt_le (ha : DE X B a fa) (hb : DE X B b fb) : DT X B (.Compare a [.LtE] [b] pos) (bin2T leD fa fb) := dt_cmp op_le (ok_cmp _) (nomark _) ha hb
theorem dt_gt (ha : DE X B a fa) (hb : DE X B b fb) : DT X B (.Compare a [.Gt] [b] pos) (bin2T gtD fa fb) := dt_cmp op_gt (ok_cmp _) (nomark _) ha hb
theorem dt_ge (ha : DE X B a fa) (hb : DE X B b fb) : DT X B (.Compare a [.GtE] [b] pos) (bin2T geD fa fb) := dt_cmp op_ge (ok_cmp _) (nomark _) ha hb
theorem dt_is (ha : DE X B a fa) (hb : DE X B b fb) : DT X B (.Compare a [.Is] [b] pos) (bin2T isD fa fb) := dt_cmp op_isN ok_is (nomark _) ha hb
theorem dt_isnt (ha : DE X B a fa) (hb : DE X B b fb) : DT X B (.Compare a [.IsNot] [b] pos) (bin2T isntD fa fb) := dt_cmp op_notN ok_isnt (nomark _) ha hb
theorem dt_in (hr : Room k X.A) (ha : DE X B a fa) (hb : DE X B b fb) (hm : behindInMarks .In b = false := by rfl) : DT X B (.Compare a [.In] [b] pos) (bin2T inD fa fb) := dt_cmp (op_in_sign.or (op_in_seq.or (op_inD (room65 hr)))) ok_in hm ha hb
theorem dt_nin (hr : Room k X.A) (ha : DE X B a fa) (hb : DE X B b fb) (hm : behindInMarks .NotIn b = false := by rfl) : DT X B (.Compare a [.NotIn] [b] pos) (bin2T ninD fa fb) := dt_cmp (op_notIn_sign.or (op_notIn_seq.or (op_notInD (room65 hr)))) ok_nin hm ha hb
/-- a < b < c -/
def chainD (g g' : Sto → D → D → (D → Prop) → Prop) (fa fb fc : DTE) (r : En) (M : Sto) (Ψ : Bool → Sto → Prop) : Prop :=
  fa r M fun x M1 => fb r M1 fun y M2 => g M2 x y fun z => blD (fun b => if b = true then fc r M2 fun u M3 => g' M3 y u fun z' => blD (fun b => Ψ b M3) z' else Ψ false M2) z
theorem tChain_ok {r r' : R2} {g g' : Sto → D → D → (D → Prop) → Prop} (ok : Ok2 X.K r g) (ok' : Ok2 X.K r' g') (σ : L2.St) (H : Hp) (Q : VK) (h : lift X.K B (fun r M Ψ => chainD g g' fa fb fc r M fun b M1 => Ψ (.bl b) M1) σ H Q) :
    tChain r r' (lift X.K B fa) (lift X.K B fb) (lift X.K B fc) σ H Q := by
  obtain ⟨r, M, G, Ψ, R, h, k⟩ := h
  refine ⟨r, M, G, _, R, h, fun d M1 v H1 G1 q1 R1 s1 p1 => ?_⟩
  refine ⟨r, M1, G1, _, R1, q1, fun y M2 u H2 G2 q2 R2 s2 p2 => ?_⟩
  refine ok M2 H2 G2 _ _ _ _ _ _ R2.wd (p1.mono s2) p2 q2 fun d w H' G' f g p => ?_
  have s3 : Sub G G' := (s1.tr s2).tr g.gsub
  unfold blD at f
  cases p with
  | @bl c =>
    refine ⟨c, rfl, ?_⟩
    cases c with
    | false => exact k _ _ _ _ _ f (R2.grow g) s3 .bl
    | true =>
      refine ⟨r, M2, G', _, R2.grow g, f, fun z M4 w H4 G4 q4 R4 s4 p4 => ?_⟩
      refine ok' M4 H4 G4 _ _ _ _ _ _ R4.wd (p2.mono (g.gsub.tr s4)) p4 q4 fun d w H5 G5 f g p => ?_
      cases p with
      | bl => exact k _ _ _ _ _ f (R4.grow g) ((s3.tr s4).tr g.gsub) .bl
      | _ => exact f.elim
  | _ => exact f.elim
theorem tChain_okT {r r' : R2} {g g' : Sto → D → D → (D → Prop) → Prop} (ok : Ok2 X.K r g) (ok' : Ok2 X.K r' g') (σ : L2.St) (H : Hp) (Q : Bool → Hp → Prop) (h : liftT X.K B (fun r M Ψ => chainD g g' fa fb fc r M Ψ) σ H Q) :
    tTest (tChain r r' (lift X.K B fa) (lift X.K B fb) (lift X.K B fc)) σ H Q := by
  obtain ⟨r, M, G, Ψ, R, h, k⟩ := h
  exact tChain_ok ok ok' σ H _ ⟨r, M, G, fun d M => (match d with | .bl b => Ψ b M | _ => False : Prop), R, h, fun d M' v H' G' q R' s p => by
    cases p with
    | bl => exact ⟨_, rfl, k _ _ _ _ q R' s⟩
    | _ => exact q.elim⟩
theorem de_chain {op op' : CmpOp} {r r' : R2} {g g' : Sto → D → D → (D → Prop) → Prop} (o : OpR X (compareOp op) r ∧ Ok2 X.K r g) (o' : OpR X (compareOp op') r' ∧ Ok2 X.K r' g') (ha : DE X B a fa) (hb : DE X B b fb) (hc : DE X B c fc) (hm : lastMarks [op, op'] [b, c] = false := by rfl) :
    DE X B (.Compare a [op, op'] [b, c] pos) (fun r M Ψ => chainD g g' fa fb fc r M fun b M1 => Ψ (.bl b) M1) := PE_imp (pe_chain o.1 o'.1 ha hb hc hm) (tChain_ok o.2 o'.2)
theorem dt_chain {op op' : CmpOp} {r r' : R2} {g g' : Sto → D → D → (D → Prop) → Prop} (o : OpR X (compareOp op) r ∧ Ok2 X.K r g) (o' : OpR X (compareOp op') r' ∧ Ok2 X.K r' g') (ha : DE X B a fa) (hb : DE X B b fb) (hc : DE X B c fc) (hm : lastMarks [op, op'] [b, c] = false := by rfl) :
    DT X B (.Compare a [op, op'] [b, c] pos) (fun r M Ψ => chainD g g' fa fb fc r M Ψ) := PT_imp (pt_chain o.1 o'.1 ha hb hc hm) (tChain_okT o.2 o'.2)
theorem oc_lt : OpR X (compareOp .Lt) (rI0 fun i j => .bl (decide (i < j))) ∧ Ok2 X.K (rI0 fun i j => .bl (decide (i < j))) ltD := ⟨op_lt, ok_cmp _⟩
theorem oc_le : OpR X (compareOp .LtE) (rI0 fun i j => .bl (decide (i ≤ j))) ∧ Ok2 X.K (rI0 fun i j => .bl (decide (i ≤ j))) leD := ⟨op_le, ok_cmp _⟩
theorem oc_gt : OpR X (compareOp .Gt) (rI0 fun i j => .bl (decide (j < i))) ∧ Ok2 X.K (rI0 fun i j => .bl (decide (j < i))) gtD := ⟨op_gt, ok_cmp _⟩
theorem oc_ge : OpR X (compareOp .GtE) (rI0 fun i j => .bl (decide (j ≤ i))) ∧ Ok2 X.K (rI0 fun i j => .bl (decide (j ≤ i))) geD := ⟨op_ge, ok_cmp _⟩
/-! ### and, or, not, if -/
theorem dt_not (ha : DT X B a ta) : DT X B (.UnaryOp .Not a pos) (fun r M Ψ => ta r M fun b M1 => Ψ (!b) M1) :=
  PT_imp (pt_not ha) fun σ H Q ⟨r, M, G, Ψ, R, h, k⟩ => ⟨r, M, G, _, R, h, fun b M' H' G' q R' s => k _ _ _ _ q R' s⟩
theorem dw_and1 (ha : DT X B a ta) : DW X B (.BoolOp .And [a] pos) ta := pw_and1 ha
theorem dw_or1 (ha : DT X B a ta) : DW X B (.BoolOp .Or [a] pos) ta := pw_or1 ha
theorem dw_and (ha : DT X B a ta) (hb : DW X B (.BoolOp .And (b :: es) pos) tb) : DW X B (.BoolOp .And (a :: b :: es) pos) (fun r M Ψ => ta r M fun c M1 => if c = true then tb r M1 Ψ else Ψ false M1) :=
  PW_imp (pw_and ha hb) fun σ H Q ⟨r, M, G, Ψ, R, h, k⟩ => by
    refine ⟨r, M, G, _, R, h, fun c M1 H1 G1 q R1 s1 => ?_⟩
    cases c with
    | true => exact ⟨r, M1, G1, Ψ, R1, q, fun b M' H' G' q R' s => k _ _ _ _ q R' (s1.tr s)⟩
    | false => exact k _ _ _ _ q R1 s1
theorem dw_or (ha : DT X B a ta) (hb : DW X B (.BoolOp .Or (b :: es) pos) tb) : DW X B (.BoolOp .Or (a :: b :: es) pos) (fun r M Ψ => ta r M fun c M1 => if c = true then Ψ true M1 else tb r M1 Ψ) :=
  PW_imp (pw_or ha hb) fun σ H Q ⟨r, M, G, Ψ, R, h, k⟩ => by
    refine ⟨r, M, G, _, R, h, fun c M1 H1 G1 q R1 s1 => ?_⟩
    cases c with
    | false => exact ⟨r, M1, G1, Ψ, R1, q, fun b M' H' G' q R' s => k _ _ _ _ q R' (s1.tr s)⟩
    | true => exact k _ _ _ _ q R1 s1
theorem de_and1 {op} (ha : DE X B a fa) : DE X B (.BoolOp op [a] pos) fa := pe_one ha
theorem de_and (ha : DE X B a fa) (hb : DE X B (.BoolOp .And (b :: es) pos) fb) : DE X B (.BoolOp .And (a :: b :: es) pos) (fun r M Ψ => fa r M fun x M1 => blD (fun c => if c = true then fb r M1 Ψ else Ψ (.bl false) M1) x) :=
  PE_imp (pe_and ha hb) fun σ H Q ⟨r, M, G, Ψ, R, h, k⟩ => by
    refine ⟨r, M, G, _, R, h, fun d M1 v H1 G1 q R1 s1 p1 => ?_⟩
    unfold blD at q
    cases p1 with
    | @bl c =>
      refine ⟨c, rfl, ?_⟩
      cases c with
      | true => exact ⟨r, M1, G1, Ψ, R1, q, fun d M' v H' G' q R' s p => k _ _ _ _ _ q R' (s1.tr s) p⟩
      | false => exact k _ _ _ _ _ q R1 s1 .bl
    | _ => exact q.elim
theorem de_or (ha : DE X B a fa) (hb : DE X B (.BoolOp .Or (b :: es) pos) fb) : DE X B (.BoolOp .Or (a :: b :: es) pos) (fun r M Ψ => fa r M fun x M1 => blD (fun c => if c = true then Ψ (.bl true) M1 else fb r M1 Ψ) x) :=
  PE_imp (pe_or ha hb) fun σ H Q ⟨r, M, G, Ψ, R, h, k⟩ => by
    refine ⟨r, M, G, _, R, h, fun d M1 v H1 G1 q R1 s1 p1 => ?_⟩
    unfold blD at q
    cases p1 with
    | @bl c =>
      refine ⟨c, rfl, ?_⟩
      cases c with
      | false => exact ⟨r, M1, G1, Ψ, R1, q, fun d M' v H' G' q R' s p => k _ _ _ _ _ q R' (s1.tr s) p⟩
      | true => exact k _ _ _ _ _ q R1 s1 .bl
    | _ => exact q.elim
theorem de_not (ha : DE X B a fa) : DE X B (.UnaryOp .Not a pos) (fun r M Ψ => fa r M fun x M1 => blD (fun c => Ψ (.bl (!c)) M1) x) :=
  PE_imp (pe_not ha) fun σ H Q ⟨r, M, G, Ψ, R, h, k⟩ => by
    refine ⟨r, M, G, _, R, h, fun d M1 v H1 G1 q R1 s1 p1 => ?_⟩
    unfold blD at q
    cases p1 with
    | bl => exact ⟨_, rfl, k _ _ _ _ _ q R1 s1 .bl⟩
    | _ => exact q.elim
theorem de_if (hc : DT X B c ta) (ha : DE X B a fa) (hb : DE X B b fb) : DE X B (.IfExp c a b pos) (fun r M Ψ => ta r M fun t M1 => if t = true then fa r M1 Ψ else fb r M1 Ψ) :=
  PE_imp (pe_ifExp hc ha hb) fun σ H Q ⟨r, M, G, Ψ, R, h, k⟩ => by
    refine ⟨r, M, G, _, R, h, fun t M1 H1 G1 q R1 s1 => ?_⟩
    cases t with
    | true => exact ⟨r, M1, G1, Ψ, R1, q, fun d M' v H' G' q R' s p => k _ _ _ _ _ q R' (s1.tr s) p⟩
    | false => exact ⟨r, M1, G1, Ψ, R1, q, fun d M' v H' G' q R' s p => k _ _ _ _ _ q R' (s1.tr s) p⟩
end
end Z
namespace Z
open PySem PySem.Spec PyProof.Rows L2

theorem Rel.set {K : PySem.W.Frag} {B : Bs} {r : En} {M : Sto} {σ : L2.St} {H G : Hp} {d : D} {v : V} (R : Rel K B r M σ H G) (p : Rep K G d v) (i : Nat) : Rel K B (r.set i (some d)) M (σ.set i (some v)) H G where
  wd := R.wd
  len := by rw [List.length_set, List.length_set]; exact R.len
  slots := fun j e h => by
    by_cases hj : i = j
    · subst hj
      by_cases hi : i < r.length
      · rw [List.getElem?_set_self hi] at h
        cases h
        exact ⟨v, by rw [List.getElem?_set_self (by rw [← R.len]; exact hi)], p⟩
      · rw [List.getElem?_eq_none (by simpa using hi)] at h; cases h
    · rw [List.getElem?_set_ne hj] at h ⊢
      exact R.slots j e h
  sin := R.sin
theorem Rel.unset {K : PySem.W.Frag} {B : Bs} {r : En} {M : Sto} {σ : L2.St} {H G : Hp} (R : Rel K B r M σ H G) (i : Nat) (o : Option V) : Rel K B (r.set i none) M (σ.set i o) H G where
  wd := R.wd
  len := by rw [List.length_set, List.length_set]; exact R.len
  slots := fun j e h => by
    by_cases hj : i = j
    · subst hj
      by_cases hi : i < r.length
      · rw [List.getElem?_set_self hi] at h; cases h
      · rw [List.getElem?_eq_none (by simpa using hi)] at h; cases h
    · rw [List.getElem?_set_ne hj] at h ⊢
      exact R.slots j e h
  sin := R.sin

/-! ### what a state may be taken for -/
/-- every state so is a state so (M0: what stood at the entry) -/
def Wk (M0 : Sto) (r : En) (M : Sto) (r' : En) (M' : Sto) : Prop := ∀ (K : PySem.W.Frag) (B : Bs) (σ : L2.St) (H G : Hp), B.M = M0 → Rel K B r M σ H G → ∃ G', Rel K B r' M' σ H G' ∧ Sub G G'
theorem Wk.refl {M0 : Sto} {r : En} {M : Sto} : Wk M0 r M r M := fun _ _ _ _ G _ R => ⟨G, R, Sub.rfl'⟩
theorem Wk.trans {M0 : Sto} {r r1 r2 : En} {M M1 M2 : Sto} (a : Wk M0 r M r1 M1) (b : Wk M0 r1 M1 r2 M2) : Wk M0 r M r2 M2 := fun K B σ H G e R => by
  obtain ⟨G1, R1, s1⟩ := a K B σ H G e R
  obtain ⟨G2, R2, s2⟩ := b K B σ H G1 e R1
  exact ⟨G2, R2, s1.tr s2⟩
/-- slots forgotten -/
theorem Wk.slots {M0 : Sto} {r r' : En} {M : Sto} (hl : r'.length = r.length) (h : ∀ (i : Nat) d, r'[i]? = some (some d) → r[i]? = some (some d)) : Wk M0 r M r' M := fun K B σ H G _ R =>
  ⟨G, ⟨R.wd, hl.trans R.len, fun i d e => R.slots i d (h i d e), R.sin⟩, Sub.rfl'⟩
def Cl (M0 : Sto) (P : En → Sto → Prop) (r : En) (M : Sto) : Prop := ∃ r' M', Wk M0 r M r' M' ∧ P r' M'
theorem Cl.of {M0 : Sto} {P : En → Sto → Prop} {r : En} {M : Sto} (h : P r M) : Cl M0 P r M := ⟨r, M, Wk.refl, h⟩

/-! ### frozen things -/
mutual
def sb (g : Addr → D) : D → D
  | .non => .non
  | .bl b => .bl b
  | .int i => .int i
  | .str x => .str x
  | .ty n => .ty n
  | .ref a => g a
  | .tup l => .tup (sbL g l)
  | .lst l => .lst (sbL g l)
  | .lk l => .lk (sbL g l)
  | .dic l => .dic (sbD g l)
  | .obj C fs => .obj C (sbF g fs)
  | .fn Q => .fn Q
def sbL (g : Addr → D) : List D → List D
  | [] => []
  | d :: r => sb g d :: sbL g r
def sbD (g : Addr → D) : List (D × D) → List (D × D)
  | [] => []
  | (c, d) :: r => (c, sb g d) :: sbD g r
def sbF (g : Addr → D) : List (Str × D) → List (Str × D)
  | [] => []
  | (c, d) :: r => (c, sb g d) :: sbF g r
end
section
variable {K : PySem.W.Frag} {G : Hp} {g : Addr → D}
mutual
theorem Rep.sb (hg : ∀ a, Rep K G (g a) (.ref a)) : ∀ {d : D} {v : V}, Rep K G d v → Rep K G (sb g d) v
  | _, _, .non => .non
  | _, _, .bl => .bl
  | _, _, .int => .int
  | _, _, .str => .str
  | _, _, .ty => .ty
  | _, _, .ref => hg _
  | _, _, .fn h q => .fn h q
  | _, _, .tup h r => .tup h (r.sb hg)
  | _, _, .lst h r => .lst h (r.sb hg)
  | _, _, .lk h r => .lk h (r.sb hg)
  | _, _, .dic h r => .dic h (r.sb hg)
  | _, _, .dit h r => .dit h (r.sb hg)
  | _, _, .obj h r => .obj h (r.sb hg)
theorem RepL.sb (hg : ∀ a, Rep K G (g a) (.ref a)) : ∀ {d : List D} {v : List V}, RepL K G d v → RepL K G (sbL g d) v
  | _, _, .nil => .nil
  | _, _, .cons h r => .cons (h.sb hg) (r.sb hg)
theorem RepF.sb (hg : ∀ a, Rep K G (g a) (.ref a)) : ∀ {d : List (Str × D)} {v : List (Str × V)}, RepF K G d v → RepF K G (sbF g d) v
  | _, _, .nil => .nil
  | _, _, .cons h r => .cons (h.sb hg) (r.sb hg)
theorem RepD.sb (hg : ∀ a, Rep K G (g a) (.ref a)) : ∀ {d : List (D × D)} {v : List (Key × V)}, RepD K G d v → RepD K G (sbD g d) v
  | _, _, .nil => .nil
  | _, _, .cons e h r => .cons e (h.sb hg) (r.sb hg)
theorem RepT.sb (hg : ∀ a, Rep K G (g a) (.ref a)) : ∀ {d : List (D × D)} {v : List (List Key × V)}, RepT K G d v → RepT K G (sbD g d) v
  | _, _, .nil => .nil
  | _, _, .cons e h r => .cons e (h.sb hg) (r.sb hg)
end
end
/-- the content of a changing thing, with what g says of the things in it -/
def celD (g : D → D) (gF : List D → List D) (a : Addr) : Option Cell → D
  | some (.lst l) => .lst (gF l)
  | _ => .ref a
def sbC (g : Addr → D) (a : Addr) : Option Cell → D
  | some (.lst l) => .lst (sbL g l)
  | some (.dic l) => .dic (sbD g l)
  | some (.ins C fs) => .obj C (sbF g fs)
  | some (.tab _) => .ref a
  | none => .ref a
/-- what stands at a new changing thing (n deep) -/
def fzA (M0 M : Sto) : Nat → Addr → D
  | 0, a => .ref a
  | n + 1, a => match M0 a with
    | some _ => .ref a
    | none => sbC (fzA M0 M n) a (M a)
def fz (M0 M : Sto) (n : Nat) (d : D) : D := sb (fzA M0 M n) d
/-- the changing things of the entry alone -/
def rs (M0 M : Sto) : Sto := fun a => match M0 a with
  | some _ => M a
  | none => none
def frzG (M0 M : Sto) (H G : Hp) : Hp := fun a => match G a with
  | some o => some o
  | none => match M0 a, M a with
    | none, some _ => H a
    | _, _ => none
section
variable {K : PySem.W.Frag} {M0 M : Sto} {H G : Hp}
theorem frzG_sub : Sub G (frzG M0 M H G) := fun a o h => by unfold frzG; rw [h]
theorem frzG_at {a : Addr} (w : Wd K M H G) (h0 : M0 a = none) {c : Cell} (h : M a = some c) : frzG M0 M H G a = H a := by
  unfold frzG
  rw [(w.cells a c h).1, h0, h]
theorem rep_frz (w : Wd K M H G) : ∀ (n : Nat) (a : Addr), Rep K (frzG M0 M H G) (fzA M0 M n a) (.ref a)
  | 0, a => .ref
  | n + 1, a => by
    have ih := rep_frz w n
    unfold fzA
    split
    · exact .ref
    · rename_i h0
      cases q : M a with
      | none => exact .ref
      | some c =>
        have hat := (w.cells a c q).2
        have e := frzG_at w h0 q
        cases c with
        | lst l =>
          obtain ⟨vs, h, r⟩ := hat
          exact .lst (.inl (e.trans h)) ((r.mono frzG_sub).sb ih)
        | dic l =>
          rcases hat with ⟨vs, h, r⟩ | ⟨vs, h, r⟩
          · exact .dic (e.trans h) ((r.mono frzG_sub).sb ih)
          · exact .dit (e.trans h) ((r.mono frzG_sub).sb ih)
        | ins C fs =>
          obtain ⟨dx, vs, h, r⟩ := hat
          exact .obj (e.trans h) ((r.mono frzG_sub).sb ih)
        | tab q => exact .ref
/-- a body's end: what is new is frozen -/
theorem frz_end {H0 G0 : Hp} (w : Wd K M H G) (s : Since H0 G0 M0 M H G) : Wd K (rs M0 M) H (frzG M0 M H G) ∧ Since H0 G0 M0 (rs M0 M) H (frzG M0 M H G) := by
  refine ⟨⟨fun a o h => ?_, fun a c h => ?_⟩, ⟨s.keep, s.stay, s.gsub.tr frzG_sub, fun a h n => ?_, fun a h n => ?_⟩⟩
  · unfold frzG at h
    split at h
    · rename_i o' q; cases h; exact w.sub _ _ q
    · split at h
      · exact h
      · cases h
  · unfold rs at h
    split at h
    · rename_i x q
      obtain ⟨h1, h2⟩ := w.cells a c h
      refine ⟨?_, h2.move frzG_sub fun _ z => z⟩
      unfold frzG
      rw [h1, q]
    · cases h
  · unfold frzG at h
    split at h
    · rename_i o q; exact s.gnew a (by rw [q]; simp) n
    · split at h
      · rename_i q1 q2; exact s.mnew a (by rw [q2]; simp) q1
      · exact absurd rfl h
  · unfold rs at h
    rw [n] at h
    exact absurd rfl h
/-- one new changing thing is taken for frozen -/
def frz1 (p : Addr) (H G : Hp) : Hp := fun a => if a = p then H a else G a
def delM (M : Sto) (p : Addr) : Sto := fun a => if a = p then none else M a
theorem wk_frz {r : En} {p : Addr} {c : Cell} (h0 : M0 p = none) (h : M p = some c) : Wk M0 r M (r.map fun o => o.map (sb fun a => if a = p then sbC .ref a (some c) else .ref a)) (fun a => if a = p then none else (M a).map fun u => match u with
    | .lst l => .lst (sbL (fun a => if a = p then sbC .ref a (some c) else .ref a) l)
    | .dic l => .dic (sbD (fun a => if a = p then sbC .ref a (some c) else .ref a) l)
    | .ins C fs => .ins C (sbF (fun a => if a = p then sbC .ref a (some c) else .ref a) fs)
    | .tab q => .tab q) := fun K B σ H G eB R => by
  subst eB
  obtain ⟨gp, hat⟩ := R.wd.cells p c h
  have sg : Sub G (frz1 p H G) := fun a o e => by
    unfold frz1
    rw [if_neg (by intro z; rw [z, gp] at e; cases e)]; exact e
  have hp : frz1 p H G p = H p := if_pos rfl
  have rid : ∀ a : Addr, Rep K (frz1 p H G) (.ref a) (.ref a) := fun _ => .ref
  have hg : ∀ a, Rep K (frz1 p H G) ((fun a => if a = p then sbC .ref a (some c) else .ref a) a) (.ref a) := fun a => by
    show Rep K _ (if a = p then sbC .ref a (some c) else .ref a) _
    by_cases e : a = p
    · subst e
      rw [if_pos rfl]
      cases c with
      | lst l => obtain ⟨vs, h, r⟩ := hat; exact .lst (.inl (hp.trans h)) ((r.mono sg).sb rid)
      | dic l =>
        rcases hat with ⟨vs, h, r⟩ | ⟨vs, h, r⟩
        · exact .dic (hp.trans h) ((r.mono sg).sb rid)
        · exact .dit (hp.trans h) ((r.mono sg).sb rid)
      | ins C fs => obtain ⟨dx, vs, h, r⟩ := hat; exact .obj (hp.trans h) ((r.mono sg).sb rid)
      | tab q => exact .ref
    · rw [if_neg e]; exact .ref
  refine ⟨frz1 p H G, ⟨⟨fun a o e => ?_, fun a u e => ?_⟩, by rw [List.length_map]; exact R.len, fun i d e => ?_, ⟨R.sin.keep, R.sin.stay, R.sin.gsub.tr sg, fun a e n => ?_, fun a e n => ?_⟩⟩, sg⟩
  · unfold frz1 at e
    split at e
    · exact e
    · exact R.wd.sub _ _ e
  · by_cases z : a = p
    · rw [if_pos z] at e; cases e
    · rw [if_neg z] at e
      obtain ⟨u', e1, e2⟩ := Option.map_eq_some_iff.mp e
      obtain ⟨h1, h2⟩ := R.wd.cells a u' e1
      refine ⟨by unfold frz1; rw [if_neg z]; exact h1, ?_⟩
      cases u' with
      | lst l => subst e2; obtain ⟨vs, h, r⟩ := h2; exact ⟨vs, h, (r.mono sg).sb hg⟩
      | dic l => subst e2; exact h2.imp (fun ⟨vs, h, r⟩ => ⟨vs, h, (r.mono sg).sb hg⟩) fun ⟨vs, h, r⟩ => ⟨vs, h, (r.mono sg).sb hg⟩
      | ins C fs => subst e2; obtain ⟨dx, vs, h, r⟩ := h2; exact ⟨dx, vs, h, (r.mono sg).sb hg⟩
      | tab q => subst e2; obtain ⟨ps, h, t, r⟩ := h2; exact ⟨ps, h, t, fun pos cv hc => let ⟨c, e1, e2⟩ := r pos cv hc; ⟨c, e1, sg _ _ e2⟩⟩
  · rw [List.getElem?_map] at e
    cases q : r[i]? with
    | none => rw [q] at e; cases e
    | some o =>
      rw [q] at e
      cases o with
      | none => cases e
      | some x =>
        cases e
        obtain ⟨v, h1, h2⟩ := R.slots i x q
        exact ⟨v, h1, (h2.mono sg).sb hg⟩
  · unfold frz1 at e
    split at e
    · rename_i z; rw [z]; exact R.sin.mnew p (by rw [h]; simp) h0
    · exact R.sin.gnew a e n
  · split at e
    · exact absurd rfl e
    · refine R.sin.mnew a (fun z => ?_) n
      rw [z] at e
      exact absurd rfl e
end

/-! ### statements -/
theorem EkOk.of {K : PySem.W.Frag} {B : Bs} {f : DTS} {D' : Ends} {σ : L2.St} {H : Hp} (h : liftS K B f D' σ H) : ∃ r M G E, Rel K B r M σ H G ∧ f E r M ∧ EkOk K B G E D' := h
theorem EkOk.to {K : PySem.W.Frag} {B : Bs} {f : DTS} {D' : Ends} {σ : L2.St} {H : Hp} {r : En} {M : Sto} {G : Hp} {E : Ek} (R : Rel K B r M σ H G) (h : f E r M) (k : EkOk K B G E D') : liftS K B f D' σ H := ⟨r, M, G, E, R, h, k⟩
section
variable {X : Cx} {B : Bs} {pos : Pos} {e c : Expr} {es : List Expr} {fa : DTE} {ta : DTT} {st : Stmt} {ss body els : List Stmt} {f g : DTS}
theorem dss_nil : DSs X B [] (fun E r M => E.nx r M) := PSs_imp pss_nil fun D' σ H h => let ⟨r, M, G, E, R, q, k⟩ := EkOk.of h; k.nx _ _ _ _ _ q R Sub.rfl'
theorem dss_cons (h1 : DS X B st f) (h2 : DSs X B ss g) : DSs X B (st :: ss) (fun E r M => f { E with nx := g E } r M) := PSs_imp (pss_cons h1 h2) fun D' σ H h => by
  obtain ⟨r, M, G, E, R, q, k⟩ := EkOk.of h
  exact EkOk.to R q ⟨fun r' M' σ' H' G' q' R' s => EkOk.to R' q' (k.mono s), k.rt, k.bk, k.ct⟩
theorem dss_one (h1 : DS X B st f) : DSs X B [st] f := pss_one h1
theorem ds_pass : DS X B (.Pass pos) (fun E r M => E.nx r M) := PS_imp ps_pass fun D' σ H h => let ⟨r, M, G, E, R, q, k⟩ := EkOk.of h; k.nx _ _ _ _ _ q R Sub.rfl'
theorem ds_break : DS X B (.Break pos) (fun E r M => E.bk r M) := PS_imp ps_break fun D' σ H h => let ⟨r, M, G, E, R, q, k⟩ := EkOk.of h; k.bk _ _ _ _ _ q R Sub.rfl'
theorem ds_cont : DS X B (.Continue pos) (fun E r M => E.ct r M) := PS_imp ps_continue fun D' σ H h => let ⟨r, M, G, E, R, q, k⟩ := EkOk.of h; k.ct _ _ _ _ _ q R Sub.rfl'
theorem ds_expr (he : DE X B e fa) (hs : swapsWith e none pos.line X.env = pure false := by rfl) : DS X B (.Expr e pos) (fun E r M => fa r M fun _ M1 => E.nx r M1) := PS_imp (ps_expr he hs) fun D' σ H h => by
  obtain ⟨r, M, G, E, R, q, k⟩ := EkOk.of h
  exact ⟨r, M, G, _, R, q, fun d M' v H' G' q' R' s p => k.nx _ _ _ _ _ q' R' s⟩
theorem ds_ret (he : DE X B e fa) : DS X B (.Return (some e) pos) (fun E r M => fa r M fun d M1 => E.rt d M1) := PS_imp (ps_ret he) fun D' σ H h => by
  obtain ⟨r, M, G, E, R, q, k⟩ := EkOk.of h
  exact ⟨r, M, G, _, R, q, fun d M' v H' G' q' R' s p => k.rt _ _ _ _ _ _ _ q' R' p⟩
theorem ds_retN : DS X B (.Return none pos) (fun E r M => E.rt .non M) := PS_imp ps_retN fun D' σ H h => by
  obtain ⟨r, M, G, E, R, q, k⟩ := EkOk.of h
  exact k.rt _ _ _ _ _ _ _ q R .non
theorem ds_if (hc : DT X B c ta) (ha : DSs X B body f) (hb : DSs X B els g) : DS X B (.If c body els pos) (fun E r M => ta r M fun b M1 => if b = true then f E r M1 else g E r M1) := PS_imp (ps_if hc ha hb) fun D' σ H h => by
  obtain ⟨r, M, G, E, R, q, k⟩ := EkOk.of h
  refine ⟨r, M, G, _, R, q, fun b M' H' G' q' R' s => ?_⟩
  cases b with
  | true => exact EkOk.to R' q' (k.mono s)
  | false => exact EkOk.to R' q' (k.mono s)
/-! ### targets -/
abbrev DTGs := List D → En → Sto → (En → Sto → Prop) → Prop
def liftGs (K : PySem.W.Frag) (B : Bs) (f : DTGs) : TGs := fun vs σ H Q => ∃ ds r M G Ψ, Rel K B r M σ H G ∧ RepL K G ds vs ∧ f ds r M Ψ ∧ ∀ r' M' σ' H' G', Ψ r' M' → Rel K B r' M' σ' H' G' → Sub G G' → Q σ' H'
abbrev DGs (X : Cx) (B : Bs) (es : List Expr) (f : DTGs) : Prop := PGs X es (liftGs X.K B f)
theorem PGs_imp {X : Cx} {e : List Expr} {t t' : TGs} (h : PGs X e t) (i : ∀ v σ H Q, t' v σ H Q → t v σ H Q) : PGs X e t' := ⟨fun pins s σ H vs us Q I r q => h.run pins s σ H vs us Q I r (i _ _ _ _ q)⟩
theorem dg_name {i : Nat} {x : Str} (hN : X.N.Nodup) (hi : X.N[i]? = some x := by rfl) (hx : Loc X.env.scope x := by first | exact Or.inl rfl | exact Or.inr rfl)
    (hf : X.fn x = true ∨ X.env.scope.names.lookup x = some .local := by first | exact .inl rfl | exact .inr rfl | assumption) : DG X B (.Name x pos) (fun d r M Ψ => Ψ (r.set i (some d)) M) :=
  PG_imp (pg_name hN hi hx hf) fun v σ H Q ⟨d, r, M, G, Ψ, R, p, h, k⟩ => k _ _ _ _ _ h (R.set p i) Sub.rfl'
theorem dgs_nil : DGs X B [] (fun ds r M Ψ => ds = [] ∧ Ψ r M) := PGs_imp pgs_nil fun vs σ H Q ⟨ds, r, M, G, Ψ, R, p, ⟨e, h⟩, k⟩ => by
  subst e; cases p
  exact ⟨rfl, k _ _ _ _ _ h R Sub.rfl'⟩
theorem dgs_cons {f : DTG} {fs : DTGs} (h1 : DG X B e f) (h2 : DGs X B es fs) (hs : (assignEach (e :: es) X.env).map (·.2) = assign e X.env :: (assignEach es X.env).map (·.2) := by rfl) :
    DGs X B (e :: es) (fun ds r M Ψ => match ds with | d :: l => f d r M fun r1 M1 => fs l r1 M1 Ψ | [] => False) := PGs_imp (pgs_cons h1 h2 hs) fun vs σ H Q ⟨ds, r, M, G, Ψ, R, p, h, k⟩ => by
  cases p with
  | nil => exact h.elim
  | cons p1 p2 => exact ⟨_, _, rfl, _, r, M, G, _, R, p1, h, fun r' M' σ' H' G' q R' s => ⟨_, r', M', G', Ψ, R', p2.mono s, q, fun _ _ _ _ _ q R s' => k _ _ _ _ _ q R (s.tr s')⟩⟩
def tupN (n : Nat) (f : DTGs) : DTG := fun d r M Ψ => match d with
  | .tup l => l.length = n ∧ f l r M Ψ
  | _ => False
theorem dg_tup {k n : Nat} {f : DTGs} (hc : X.calm = true) (h : DGs X B es f) (hn : (assignEach es X.env).length = n := by rfl) (hf : List.findIdx? (fun x => x.fst) (assignEach es X.env) = none := by rfl) : DG X B (.Tuple es k pos) (tupN n f) :=
  PG_imp (pg_tup hc h hn hf) fun v σ H Q ⟨d, r, M, G, Ψ, R, p, h, k⟩ => by
    cases p with
    | tup h1 r1 => exact ⟨_, _, rfl, R.wd.sub.sqT h1, by rw [← r1.length]; exact h.1, _, r, M, G, Ψ, R, r1, h.2, k⟩
    | _ => exact h.elim
theorem ds_asg {tg : Expr} {g : DTG} (he : DE X B e fa) (hg : DG X B tg g) (hs : swapsWithSole [tg] e pos.line X.env = pure false := by rfl) (hw : swappedStores [tg] e X.env = pure none := by rfl)
    (h1 : (assignEach [tg] X.env).map (·.2) = [assign tg X.env] := by rfl) : DS X B (.Assign [tg] e pos) (fun E r M => fa r M fun d M1 => g d r M1 E.nx) := PS_imp (ps_asg he hg hs hw h1) fun D' σ H h => by
  obtain ⟨r, M, G, E, R, q, k⟩ := EkOk.of h
  exact ⟨r, M, G, _, R, q, fun d M' v H' G' q' R' s p => ⟨d, r, M', G', _, R', p, q', fun _ _ _ _ _ q R t => k.nx _ _ _ _ _ q R (s.tr t)⟩⟩
theorem ds_set {i : Nat} {x : Str} {pos' : Pos} (hN : X.N.Nodup) (he : DE X B e fa) (hi : X.N[i]? = some x := by rfl) (hx : Loc X.env.scope x := by first | exact Or.inl rfl | exact Or.inr rfl)
    (hs : swapsWith e (some (.Name x pos')) pos.line X.env = pure false := by rfl) (hf : X.fn x = true ∨ X.env.scope.names.lookup x = some .local := by first | exact .inl rfl | exact .inr rfl | assumption) :
    DS X B (.Assign [.Name x pos'] e pos) (fun E r M => fa r M fun d M1 => E.nx (r.set i (some d)) M1) := PS_imp (ps_set hN hi hx he hs hf) fun D' σ H h => by
  obtain ⟨r, M, G, E, R, q, k⟩ := EkOk.of h
  exact ⟨r, M, G, _, R, q, fun d M' v H' G' q' R' s p => k.nx _ _ _ _ _ q' (R'.set p i) s⟩
/-- a, b = e1, e2 -/
theorem ds_par {i j : Nat} {x y : Str} {a b : Expr} {ga : DTA} {px py pt : Pos} {kt k2 : Nat} {pt2 : Pos} (hc : X.calm = true) (hN : X.N.Nodup) (ha : DA X B [a, b] ga) (hi : X.N[i]? = some x := by rfl) (hj : X.N[j]? = some y := by rfl) (hij : i ≠ j := by decide)
    (hx : X.env.scope.names.lookup x = some .local := by rfl) (hy : X.env.scope.names.lookup y = some .local := by rfl)
    (hw : swappedStores [.Tuple [.Name x px, .Name y py] kt pt] (.Tuple [a, b] k2 pt2) X.env = pure (some [x, y]) := by rfl) (hs : swapsWithSole [.Tuple [.Name x px, .Name y py] kt pt] (.Tuple [a, b] k2 pt2) pos.line X.env = pure false := by rfl) :
    DS X B (.Assign [.Tuple [.Name x px, .Name y py] kt pt] (.Tuple [a, b] k2 pt2) pos) (fun E r M => ga r M fun ds M1 => match ds with | [d, d'] => E.nx ((r.set i (some d)).set j (some d')) M1 | _ => False) :=
  PS_imp (ps_par hc hN hi hj hij hx hy ha hw hs) fun D' σ H h => by
    obtain ⟨r, M, G, E, R, q, k⟩ := EkOk.of h
    refine ⟨r, M, G, _, R, q, fun ds M' vs H' G' q' R' s p => ?_⟩
    split at q'
    · cases p with
      | cons p1 p2 => cases p2 with
        | cons p2 p3 => cases p3; exact ⟨_, _, rfl, k.nx _ _ _ _ _ q' ((R'.set p1 i).set p2 j) s⟩
    · exact q'.elim
/-! x op= e -/
def Ip2 (K : PySem.W.Frag) (r : TIp) (g : Sto → D → D → (D → Prop) → Prop) : Prop := Ok2 K r g
theorem ds_aug {i : Nat} {x : Str} {op : Operator} {ti : TIp} {g : Sto → D → D → (D → Prop) → Prop} {pos' : Pos} (ho : PIp X op ti) (ok : Ok2 X.K ti g) (hN : X.N.Nodup) (he : DE X B e fa) (hi : X.N[i]? = some x := by rfl) (hx : Loc X.env.scope x := by first | exact Or.inl rfl | exact Or.inr rfl)
    (hf : X.fn x = true ∨ X.env.scope.names.lookup x = some .local := by first | exact .inl rfl | exact .inr rfl | assumption) :
    DS X B (.AugAssign (.Name x pos') op e pos) (fun E r M => getS r i fun d => fa r M fun d' M1 => g M1 d d' fun z => E.nx (r.set i (some z)) M1) := PS_imp (ps_aug hN hi hx he ho hf) fun D' σ H h => by
  obtain ⟨r, M, G, E, R, q, k⟩ := EkOk.of h
  obtain ⟨d, e1, q⟩ := getS_some q
  obtain ⟨v, h1, h2⟩ := R.slots _ _ e1
  refine ⟨v, h1, r, M, G, _, R, q, fun d' M' v' H' G' q' R' s p => ?_⟩
  exact ok M' H' G' _ _ _ _ _ _ R'.wd (h2.mono s) p q' fun z w H2 G2 f g p2 => k.nx _ _ _ _ _ f ((R'.grow g).set p2 i) (s.tr g.gsub)

/-! ### loops -/
theorem ds_while (hp : PassesOwn (model X.prog X.w) X.A X.env X.xe) (hc : DT X B c ta) (hb : DSs X B body f) : DS X B (.While c body [] pos) (fun E r M => ∃ (Iv : En → Sto → Prop) (μ : En → Sto → Nat), Cl B.M Iv r M ∧ ∀ r M, Iv r M →
    ta r M fun b M1 => if b = true then f { E with nx := Cl B.M fun r' M' => Iv r' M' ∧ μ r' M' < μ r M, ct := Cl B.M fun r' M' => Iv r' M' ∧ μ r' M' < μ r M, bk := E.nx } r M1 else E.nx r M1) := PS_imp (ps_while hp hc hb) fun D' σ H h => by
  obtain ⟨r, M, G, E, R, ⟨Iv, μ, ⟨r0, M0, w0, i0⟩, turn⟩, k⟩ := EkOk.of h
  obtain ⟨G0, R0, s0⟩ := w0 _ _ _ _ _ rfl R
  refine ⟨fun n σ H => ∃ r M G1, Rel X.K B r M σ H G1 ∧ Sub G G1 ∧ Iv r M ∧ n = μ r M, ⟨_, r0, M0, G0, R0, s0, i0, rfl⟩, ?_⟩
  rintro n σ1 H1 ⟨r1, M1, G1, R1, s1, i1, rfl⟩
  refine ⟨r1, M1, G1, _, R1, turn r1 M1 i1, fun b M' H' G' q' R' s => ?_⟩
  cases b with
  | false => exact k.nx _ _ _ _ _ q' R' (s1.tr s)
  | true =>
    refine ⟨fun σ2 H2 => ∃ r2 M2 G2, Rel X.K B r2 M2 σ2 H2 G2 ∧ Sub G G2 ∧ Iv r2 M2 ∧ μ r2 M2 < μ r1 M1, fun σ2 H2 ⟨r2, M2, G2, R2, s2, i2, l2⟩ => ⟨_, l2, r2, M2, G2, R2, s2, i2, rfl⟩, EkOk.to R' q' ?_⟩
    have cl : ∀ r' M' σ' H' G2, Cl B.M (fun r' M' => Iv r' M' ∧ μ r' M' < μ r1 M1) r' M' → Rel X.K B r' M' σ' H' G2 → Sub G' G2 → ∃ r2 M2 G2, Rel X.K B r2 M2 σ' H' G2 ∧ Sub G G2 ∧ Iv r2 M2 ∧ μ r2 M2 < μ r1 M1 := fun r' M' σ' H' G2 ⟨r3, M3, w3, i3, l3⟩ R3 t => by
      obtain ⟨G3, R3, t3⟩ := w3 _ _ _ _ _ rfl R3
      exact ⟨r3, M3, G3, R3, ((s1.tr s).tr t).tr t3, i3, l3⟩
    exact ⟨cl, k.rt, fun _ _ _ _ _ q R t => k.nx _ _ _ _ _ q R ((s1.tr s).tr t), cl⟩
/-- what an iterator gives: the items xs, while S holds of the changing things -/
def Yld (K : PySem.W.Frag) (B : Bs) (J : It) (G0 : Hp) (xs : List D) (S : Sto → Prop) : Prop := ∀ i r M σ H G, Rel K B r M σ H G → Sub G0 G → S M →
  (i < xs.length → J.go i H ∧ ∀ x H', J.yld i H x H' → ∃ G' d, Grow H G H' G' ∧ xs[i]? = some d ∧ Rep K G' d x) ∧ (xs.length ≤ i → J.stop i H)
abbrev DTI := En → Sto → (List D → (Sto → Prop) → Sto → Prop) → Prop
def liftI (K : PySem.W.Frag) (B : Bs) (f : DTI) : TI := fun σ H Q => ∃ r M G Ψ, Rel K B r M σ H G ∧ f r M Ψ ∧ ∀ xs S M' J H' G', Ψ xs S M' → Rel K B r M' σ H' G' → Sub G G' → Yld K B J G' xs S → Q J H'
abbrev DI (X : Cx) (B : Bs) (tg iter : Expr) (f : DTI) : Prop := PI X tg iter (liftI X.K B f)
theorem PI_imp {X : Cx} {tg iter : Expr} {t t' : TI} (h : PI X tg iter t) (i : ∀ σ H Q, t' σ H Q → t σ H Q) : PI X tg iter t' := ⟨fun pins s σ H Q I q => h.run pins s σ H Q I (i _ _ _ q)⟩
@[irreducible] def forD (M0 : Sto) (wi : DTI) (g : DTG) (f : DTS) : DTS := fun E r M => wi r M fun xs S M1 => ∃ Iv : Nat → En → Sto → Prop, Cl M0 (Iv 0) r M1 ∧ (∀ i r M, Iv i r M → S M) ∧
  (∀ i d r M, xs[i]? = some d → Iv i r M → g d r M fun r' M' => f { E with nx := Cl M0 (Iv (i + 1)), ct := Cl M0 (Iv (i + 1)), bk := E.nx } r' M') ∧ ∀ r M, Iv xs.length r M → E.nx r M
theorem ds_for {tg iter : Expr} {wi : DTI} {g : DTG} (hp : PassesOwn (model X.prog X.w) X.A X.env X.xe) (hc : X.calm = true) (hi : DI X B tg iter wi) (hg : DG X B tg g) (hb : DSs X B body f) (h1 : ∀ x, foldedSetIterable iter X.env x = pure x := by intro _; rfl) :
    DS X B (.For tg iter body [] pos) (forD B.M wi g f) := PS_imp (ps_for hp hc hi hg hb h1) fun D' σ H h => by
  obtain ⟨r, M, G, E, R, q, k⟩ := EkOk.of h
  unfold forD at q
  refine ⟨r, M, G, _, R, q, fun xs S M' J H' G' ⟨Iv, ⟨r0, M0, w0, i0⟩, hS, turn, fin⟩ R' s y => ?_⟩
  obtain ⟨G0, R0, s0⟩ := w0 _ _ _ _ _ rfl R'
  refine ⟨fun i m σ H => ∃ r M G, Rel X.K B r M σ H G ∧ Sub G' G ∧ Iv i r M ∧ i ≤ xs.length ∧ m = xs.length - i, ⟨_, r0, M0, G0, R0, s0, i0, Nat.zero_le _, rfl⟩, ?_⟩
  rintro i m σ1 H1 ⟨r1, M1, G1, R1, s1, i1, hi, rfl⟩
  obtain ⟨y1, y2⟩ := y i r1 M1 σ1 H1 G1 R1 s1 (hS _ _ _ i1)
  by_cases hl : i < xs.length
  · obtain ⟨y3, y4⟩ := y1 hl
    refine .inr ⟨y3, fun σ2 H2 => ∃ r2 M2 G2, Rel X.K B r2 M2 σ2 H2 G2 ∧ Sub G' G2 ∧ Iv (i + 1) r2 M2, fun σ2 H2 ⟨r2, M2, G2, R2, s2, i2⟩ => ⟨_, by omega, r2, M2, G2, R2, s2, i2, hl, rfl⟩, fun x H2 hy => ?_⟩
    obtain ⟨G2, d, g2, hd, p⟩ := y4 x H2 hy
    have R2 := R1.grow g2
    have s2 := g2.gsub
    refine ⟨d, r1, M1, G2, _, R2, p, turn i d r1 M1 hd i1, fun r3 M3 σ3 H3 G3 q3 R3 s3 => EkOk.to R3 q3 ?_⟩
    have t3 : Sub G' G3 := (s1.tr s2).tr s3
    have cl : ∀ r' M' σ' H' G2, Cl B.M (Iv (i + 1)) r' M' → Rel X.K B r' M' σ' H' G2 → Sub G3 G2 → ∃ r2 M2 G2, Rel X.K B r2 M2 σ' H' G2 ∧ Sub G' G2 ∧ Iv (i + 1) r2 M2 := fun r' M' σ' H' G2 ⟨r4, M4, w4, i4⟩ R4 t => by
      obtain ⟨G4, R4, t4⟩ := w4 _ _ _ _ _ rfl R4
      exact ⟨r4, M4, G4, R4, (t3.tr t).tr t4, i4⟩
    exact ⟨cl, k.rt, fun _ _ _ _ _ q R t => k.nx _ _ _ _ _ q R ((s.tr t3).tr t), cl⟩
  · have e : i = xs.length := by omega
    subst e
    exact .inl ⟨y2 (Nat.le_refl _), k.nx _ _ _ _ _ (fin _ _ i1) R1 (s.tr s1)⟩
/-! ### what is walked -/
theorem di_list {l : Expr} {tg : Expr} (hl : DE X B l fa) : DI X B tg l (fun r M Ψ => fa r M fun d M1 => ∃ xs, lstOf M1 d = some xs ∧ Ψ xs (fun M => lstOf M d = some xs) M1) := PI_imp (pi_list hl) fun σ H Q ⟨r, M, G, Ψ, R, h, k⟩ => by
  refine ⟨r, M, G, _, R, h, fun d M1 v H1 G1 ⟨xs, e, q⟩ R1 s1 p => ?_⟩
  obtain ⟨a, vs, rfl, h1, r1⟩ := lst_rep' R1.wd p e
  refine ⟨a, rfl, ⟨vs, h1⟩, k xs _ M1 _ H1 G1 q R1 s1 fun i r2 M2 σ2 H2 G2 R2 t2 e2 => ?_⟩
  obtain ⟨a', vs', ea, h2, r2⟩ := lst_rep' R2.wd (p.mono t2) e2
  cases ea
  have hl := r2.length
  refine ⟨fun hi => ?_, fun hi => ⟨vs', h2, by omega⟩⟩
  obtain ⟨d', hd⟩ : ∃ d', xs[i]? = some d' := ⟨xs[i], by simp [hi]⟩
  obtain ⟨x, hx, px⟩ := r2.get hd
  refine ⟨⟨vs', x, h2, hx⟩, fun y H' hy => ?_⟩
  obtain ⟨e3, hy⟩ := hy
  subst e3
  have q3 := hy vs' h2
  rw [hx] at q3
  cases q3
  exact ⟨G2, d', Grow.refl R2.wd.sub, hd, px⟩
theorem di_tup {l : Expr} {tg : Expr} (hl : DE X B l fa) : DI X B tg l (fun r M Ψ => fa r M fun d M1 => ∃ xs, tupOf d = some xs ∧ Ψ xs (fun _ => True) M1) := PI_imp (pi_tup hl) fun σ H Q ⟨r, M, G, Ψ, R, h, k⟩ => by
  refine ⟨r, M, G, _, R, h, fun d M1 v H1 G1 ⟨xs, e, q⟩ R1 s1 p => ?_⟩
  obtain ⟨a, vs, rfl, h1, r1⟩ := tup_rep R1.wd p e
  refine ⟨a, rfl, ⟨vs, h1⟩, k xs _ M1 _ H1 G1 q R1 s1 fun i r2 M2 σ2 H2 G2 R2 t2 _ => ?_⟩
  obtain ⟨a', vs', ea, h2, r2⟩ := tup_rep R2.wd (p.mono t2) e
  cases ea
  have hl := r2.length
  refine ⟨fun hi => ?_, fun hi => ⟨vs', h2, by omega⟩⟩
  obtain ⟨d', hd⟩ : ∃ d', xs[i]? = some d' := ⟨xs[i], by simp [hi]⟩
  obtain ⟨x, hx, px⟩ := r2.get hd
  refine ⟨⟨vs', x, h2, hx⟩, fun y H' hy => ?_⟩
  obtain ⟨e3, hy⟩ := hy
  subst e3
  have q3 := hy vs' h2
  rw [hx] at q3
  cases q3
  exact ⟨G2, d', Grow.refl R2.wd.sub, hd, px⟩
/-- lo, lo + 1, .. -/
def rngD (lo : Int) (n : Nat) : List D := (List.range n).map fun i => .int (lo + (i : Nat))
theorem rng_get {lo : Int} {n i : Nat} (h : i < n) : (rngD lo n)[i]? = some (.int (lo + i)) := by
  unfold rngD
  rw [List.getElem?_map, List.getElem?_range h]; rfl
theorem rng_len {lo : Int} {n : Nat} : (rngD lo n).length = n := by unfold rngD; rw [List.length_map, List.length_range]
theorem yld_rng {K : PySem.W.Frag} {G : Hp} {lo : Int} {n : Nat} : Yld K B (Itr lo n) G (rngD lo n) (fun _ => True) := fun i r M σ H G R s _ => by
  rw [rng_len]
  exact ⟨fun hi => ⟨hi, fun x H' ⟨e, ex⟩ => by subst e ex; exact ⟨G, _, Grow.refl R.wd.sub, rng_get hi, .int⟩⟩, fun hi => hi⟩
def fitR (i : Int) : Prop := -(2 ^ 62) ≤ i ∧ i < 2 ^ 62
theorem di_range1 {a : Expr} {tg : Expr} {ga : DTA} {p : Pos} (hm : X.mg "range" = none) (ha : DA X B [a] ga) (hg : Gl X "range" := by rfl) (hs : starEach [a] X.env = [(false, eval a X.env)] := by rfl) :
    DI X B tg (.Call (.Name "range" p) [a] [] pos) (fun r M Ψ => ga r M fun ds M1 => match ds with | [.int j] => fitR j ∧ Ψ (rngD 0 j.toNat) (fun _ => True) M1 | _ => False) := PI_imp (pi_range1 hg hm ha hs) fun σ H Q ⟨r, M, G, Ψ, R, h, k⟩ => by
  refine ⟨r, M, G, _, R, h, fun ds M1 vs H1 G1 q R1 s1 p => ?_⟩
  split at q
  · cases p with
    | cons p1 p2 => cases p1; cases p2; exact ⟨_, rfl, q.1.1, q.1.2, k _ _ _ _ _ _ q.2 R1 s1 yld_rng⟩
  · exact q.elim
theorem di_range2 {a b : Expr} {tg : Expr} {ga : DTA} {p : Pos} (hm : X.mg "range" = none) (ha : DA X B [a, b] ga) (hg : Gl X "range" := by rfl) (hs : starEach [a, b] X.env = [(false, eval a X.env), (false, eval b X.env)] := by rfl) (hs2 : starEach [b] X.env = [(false, eval b X.env)] := by rfl) :
    DI X B tg (.Call (.Name "range" p) [a, b] [] pos) (fun r M Ψ => ga r M fun ds M1 => match ds with | [.int i, .int j] => (fitR i ∧ fitR j) ∧ Ψ (rngD i (j - i).toNat) (fun _ => True) M1 | _ => False) := PI_imp (pi_range2 hg hm ha hs hs2) fun σ H Q ⟨r, M, G, Ψ, R, h, k⟩ => by
  refine ⟨r, M, G, _, R, h, fun ds M1 vs H1 G1 q R1 s1 p => ?_⟩
  split at q
  · cases p with
    | cons p1 p2 => cases p2 with
      | cons p2 p3 => cases p1; cases p2; cases p3; exact ⟨_, _, rfl, ⟨q.1.1.1, q.1.1.2, q.1.2.1, q.1.2.2⟩, k _ _ _ _ _ _ q.2 R1 s1 yld_rng⟩
  · exact q.elim
end
end Z
namespace Z
open PySem PySem.Spec PyProof.Rows L2

/-! ### exceptions: the class, the fields -/
abbrev XD := Addr × List (Str × D)
structure RepX (K : PySem.W.Frag) (G H : Hp) (x : XD) (cls : Value) (d : Option Addr) : Prop where
  cls : cls = .ref x.1
  own : ∃ dd fvs, d = some dd ∧ H dd = some (.xd fvs) ∧ RepF K G x.2 fvs
def wOf (K : PySem.W.Frag) (B : Bs) (Ξ : XD → En → Sto → Prop) : WX := fun cls d σ H => ∃ x r M G, Ξ x r M ∧ Rel K B r M σ H G ∧ RepX K G H x cls d
/-- what is wished of exceptions where a body runs -/
structure Zx (X : Cx) (B : Bs) (Ξ : XD → En → Sto → Prop) : Prop where
  tk : Takes X (wOf X.K B Ξ)
  po : PassesOwn (model X.prog X.w) X.A X.env X.xe

/-! ### contracts -/
abbrev Ct := List D → Sto → (D → Sto → Prop) → (XD → Sto → Prop) → Prop
def spC (K : PySem.W.Frag) (n : Nat) (c : Ct) : Sp := fun vs H Q E => vs.length = n ∧ ∃ ds G M Ψ Ξ, Wd K M H G ∧ RepL K G ds vs ∧ c ds M Ψ Ξ ∧
  (∀ d M' v H' G', Ψ d M' → Wd K M' H' G' → Since H G M M' H' G' → Rep K G' d v → Q v H') ∧ ∀ x M' H' G' cls dd, Ξ x M' → Wd K M' H' G' → Since H G M M' H' G' → RepX K G' H' x cls dd → E cls dd H'

/-- a result and the things behind a body, for whom it is handed to -/
inductive FzR (M0 M' : Sto) : D → D → Sto → Prop where
  | same {d : D} : FzR M0 M' d d M'
  | drop {d : D} : FzR M0 M' d d (rs M0 M')
  | frz (n : Nat) {d : D} : FzR M0 M' d (fz M0 M' n d) (rs M0 M')
def rtF (M0 : Sto) (Ψ : D → Sto → Prop) : D → Sto → Prop := fun d M' => ∃ d' M'', FzR M0 M' d d' M'' ∧ Ψ d' M''
inductive FzX (M0 M' : Sto) : Sto → Prop where
  | same : FzX M0 M' M'
  | drop : FzX M0 M' (rs M0 M')
def exF (M0 : Sto) (Ξ : XD → Sto → Prop) : XD → En → Sto → Prop := fun x _ M' => ∃ M'', FzX M0 M' M'' ∧ Ξ x M''

theorem exF_take {K : PySem.W.Frag} {B : Bs} {Ξ : XD → Sto → Prop} {E : XK} (hE : ∀ x M' H' G' cls dd, Ξ x M' → Wd K M' H' G' → Since B.H B.G B.M M' H' G' → RepX K G' H' x cls dd → E cls dd H') :
    ∀ cls d σ H, wOf K B (exF B.M Ξ) cls d σ H → E cls d H := fun cls d σ H ⟨x, r, M, G, ⟨M', f, q⟩, R, rx⟩ => by
  cases f with
  | same => exact hE x M H G cls d q R.wd R.sin rx
  | drop =>
    obtain ⟨w1, s1⟩ := frz_end R.wd R.sin
    obtain ⟨e, dd, fvs, e1, e2, r2⟩ := rx
    exact hE x _ H _ cls d q w1 s1 ⟨e, dd, fvs, e1, e2, r2.mono frzG_sub⟩

section
variable {P : Program} {w : World} {K : PySem.W.Frag} {mg : Str → Option Value} {base : Heap}
/-- the slots at the entry -/
def ent (N : Nat) (ds : List D) : En := ds.map some ++ List.replicate (N - ds.length) none
theorem rel_start {ds : List D} {vs : List V} {N : List Str} {H G : Hp} {M : Sto} (w : Wd K M H G) (r : RepL K G ds vs) : Rel K ⟨H, G, M⟩ (ent N.length ds) M (L2.start N vs) H G where
  wd := w
  len := by
    unfold ent L2.start
    rw [List.length_append, List.length_append, List.length_map, List.length_map, List.length_replicate, List.length_replicate, r.length]
  slots := fun i d h => by
    unfold ent at h
    unfold L2.start
    by_cases hi : i < ds.length
    · rw [List.getElem?_append_left (by simpa using hi), List.getElem?_map] at h
      cases e : ds[i]? with
      | none => rw [e] at h; cases h
      | some a =>
        rw [e] at h; cases h
        obtain ⟨v, h1, h2⟩ := r.get e
        exact ⟨v, by rw [List.getElem?_append_left (by rw [List.length_map, ← r.length]; exact hi), List.getElem?_map, h1]; rfl, h2⟩
    · rw [List.getElem?_append_right (by simpa using hi), List.getElem?_replicate] at h
      split at h <;> cases h
  sin := Since.refl
/-- a def by its body: the contract c of the arguments -/
theorem fnC {x qual : Str} {st : Stmt} {f : Addr} {fd : FuncData} {N ps : List Str} {k : Nat} (F : Fun K x qual st f fd) (S : FnScope N ps (defScope st)) (c : Ct)
    (hb : ∀ (cdv : Value) (A : Around) (outer : List Env) (s : Shared) (H : Hp) (E : XK) (B : Bs) (Ξ : XD → Sto → Prop), Room k (A.deeper (envOfC qual (defScope st) s.heap.objs.size f cdv)) →
      Zx (cxOf (L2.CX P w) P w K mg base N qual (defScope st) f cdv A outer s H E) B (exF B.M Ξ) →
      ∃ t, DSs (cxOf (L2.CX P w) P w K mg base N qual (defScope st) f cdv A outer s H E) B (defBody st) t ∧
        ∀ (ds : List D) (Ψ : D → Sto → Prop), ds.length = ps.length → c ds B.M Ψ Ξ → t { nx := fun _ M' => rtF B.M Ψ .non M', rt := rtF B.M Ψ } (ent N.length ds) B.M) :
    FnOk P w K mg base (L2.CX P w) (k + 1) f fd ps (spC K ps.length c) := by
  refine F.okX S (fun vs H Q E h => h.1) fun cdv A outer s H vs Q E hr h => ?_
  obtain ⟨hl, ds, G, M, Ψ, Ξ, wd, r, hc, hQ, hE⟩ := h
  have tk0 : Takes (cxOf (L2.CX P w) P w K mg base N qual (defScope st) f cdv A outer s H E) (fun cls d _ H => E cls d H) := takes_of rfl rfl rfl rfl
  obtain ⟨t, ht, q⟩ := hb cdv A outer s H E ⟨H, G, M⟩ Ξ hr ⟨tk0.imp (exF_take (B := ⟨H, G, M⟩) hE), passes_of rfl⟩
  have end_ : ∀ (d : D) (r' : En) (M' : Sto) (v : V) (σ' : L2.St) (H' G' : Hp), rtF M Ψ d M' → Rel K ⟨H, G, M⟩ r' M' σ' H' G' → Rep K G' d v → Q v H' := fun d r' M' v σ' H' G' ⟨d', M'', fr, q⟩ R' p => by
    cases fr with
    | same => exact hQ _ _ _ _ _ q R'.wd R'.sin p
    | drop =>
      obtain ⟨w1, s1⟩ := frz_end R'.wd R'.sin
      exact hQ _ _ _ _ _ q w1 s1 (p.mono frzG_sub)
    | frz n =>
      obtain ⟨w1, s1⟩ := frz_end R'.wd R'.sin
      exact hQ _ _ _ _ _ q w1 s1 ((p.mono frzG_sub).sb (rep_frz R'.wd n))
  refine ⟨_, ht, ent N.length ds, M, G, _, rel_start wd r, q ds Ψ (r.length.trans hl) hc, ⟨fun r' M' σ' H' G' q' R' s' => ?_, fun d r' M' v σ' H' G' q' R' p => end_ d r' M' v σ' H' G' q' R' p, fun _ _ _ _ _ q' _ _ => q'.elim, fun _ _ _ _ _ q' _ _ => q'.elim⟩⟩
  exact end_ .non r' M' .non σ' H' G' q' R' .non
end

/-! ### calls -/
/-- how a call binds: n positional values, keywords ks; g gives the parameters' values -/
def BindD (K : PySem.W.Frag) (fd : FuncData) (ps : List Str) (b : Nat × List Str × (List D → List D → List D)) : Prop :=
  (∀ ds zs, ds.length = b.1 → zs.length = b.2.1.length → (b.2.2 ds zs).length = ps.length) ∧ ∃ gl gV, KBn K fd ps b.1 b.2.1 gl gV ∧ ∀ (G : Hp) ds vs zs us, RepL K G ds vs → RepL K G zs us → RepL K G (b.2.2 ds zs) (gV vs us)
/-- a def of the module: x its name, by level k, of n parameters, by the contract c; bs: how it may be called -/
structure Gf (P : Program) (w : World) (K : PySem.W.Frag) (mg : Str → Option Value) (base : Heap) (x : Str) (k : Nat) (c : Ct) (bs : List (Nat × List Str × (List D → List D → List D))) : Prop where
  ex : ∃ f fd ps, mg x = some (.ref f) ∧ PySem.W.keepIn K (.ref f) = true ∧ FnOk P w K mg base (L2.CX P w) k f fd ps (spC K ps.length c) ∧ ∀ b ∈ bs, BindD K fd ps b
/-- all positional -/
def pos (n : Nat) : Nat × List Str × (List D → List D → List D) := (n, [], fun ds _ => ds)
theorem bind_pos {K : PySem.W.Frag} {x qual : Str} {st : Stmt} {f : Addr} {fd : FuncData} {ps : List Str} (F : Fun K x qual st f fd)
    (h : ∀ (kV doc pm : Value) (an : Option Addr) (cdv ct : Value) (us : List Value), us.length = ps.length → bindArgs (PySem.W.fnOf x qual (defArgs st) (defBody st) (defScope st) .none kV doc pm an cdv ct) ⟨us, []⟩ = pure (ps.zip us)) : BindD K fd ps (pos ps.length) := by
  obtain ⟨oc, od, kV, doc, pm, an, cdv, ct, osl, rfl, lk, hcd⟩ := F.ex
  exact ⟨fun ds zs h _ => h, fun us _ => us, fun vs _ => vs, ⟨fun s us ws _ h1 h2 => .of_eq (h kV doc pm an cdv ct us h1), fun r _ => r⟩, fun G ds vs zs us r _ => r⟩
/-- by keywords ks behind n positional ones, every parameter given -/
theorem bind_kw {K : PySem.W.Frag} {x qual : Str} {st : Stmt} {f : Addr} {fd : FuncData} {ps : List Str} (F : Fun K x qual st f fd) (n : Nat) (ks : List Str) (g : {α : Type} → List α → List α → List α)
    (h : ∀ (kV doc pm : Value) (an : Option Addr) (cdv ct : Value) (us ws : List Value), us.length = n → ws.length = ks.length → bindArgs (PySem.W.fnOf x qual (defArgs st) (defBody st) (defScope st) .none kV doc pm an cdv ct) ⟨us, ks.zip ws⟩ = pure (ps.zip (g us ws)))
    (hl : ∀ {α : Type} (ds zs : List α), ds.length = n → zs.length = ks.length → (g ds zs).length = ps.length) (hv : ∀ {vs : List V} {us : List Value} {zs : List V} {ws : List Value}, Vals vs us → Vals zs ws → Vals (g vs zs) (g us ws)) (hr : ∀ (G : Hp) ds vs zs us, RepL K G ds vs → RepL K G zs us → RepL K G (g ds zs) (g vs us)) : BindD K fd ps (n, ks, g) := by
  obtain ⟨oc, od, kV, doc, pm, an, cdv, ct, osl, rfl, lk, hcd⟩ := F.ex
  exact ⟨fun ds zs => hl ds zs, g, g, ⟨fun s us ws _ h1 h2 => .of_eq (h kV doc pm an cdv ct us ws h1 h2), hv⟩, hr⟩

section
variable {X : Cx} {B : Bs} {Ξ : XD → En → Sto → Prop} {k : Nat} {f : Addr} {fd : FuncData} {ps ks : List Str} {c : Ct} {pos apos : Pos} {e : Expr} {es : List Expr} {kws : List Keyword} {ga gk : DTA} {fa : DTE}
/-- the callee runs, by its contract -/
theorem run_c {pins : List (Addr × Obj)} {r : En} {M : Sto} {σ : L2.St} {H G : Hp} {s : Shared} {Q : VK} {vs zs : List V} {us ws : List Value} {ds dz : List D} {b : Nat × List Str × (List D → List D → List D)} {Ψ : D → Sto → Prop}
    (F : FnOk X.prog X.w X.K X.mg X.base (L2.CX X.prog X.w) k f fd ps (spC X.K ps.length c)) (hr : Room k X.A) (hb : BindD X.K fd ps b) (tk : Takes X (wOf X.K B Ξ)) (I : L2.Inv X pins σ H s) (R : Rel X.K B r M σ H G)
    (hv : Vals vs us) (hz : Vals zs ws) (rv : RepL X.K G ds vs) (rz : RepL X.K G dz zs) (l1 : ds.length = b.1) (l2 : dz.length = b.2.1.length) (hc : c (b.2.2 ds dz) M Ψ (fun x M' => Ξ x r M'))
    (hQ : ∀ d M' v H' G', Ψ d M' → Rel X.K B r M' σ H' G' → Sub G G' → Rep X.K G' d v → Q v H') : wpAny (model X.prog X.w) X.A (call (.ref f) us (b.2.1.zip ws)) (EP X pins σ Q) X.xe s := by
  obtain ⟨hl, gl, gV, kb, rel⟩ := hb
  have l3 := hl ds dz l1 l2
  have u1 : us.length = b.1 := by rw [← hv.length, ← rv.length]; exact l1
  have u2 : ws.length = b.2.1.length := by rw [← hz.length, ← rz.length]; exact l2
  have rr := rel G ds vs dz zs rv rz
  have hsp : spC X.K ps.length c (gV vs zs) H Q (fun cls d H' => wOf X.K B Ξ cls d σ H') := by
    refine ⟨by rw [← rr.length]; exact l3, _, G, M, Ψ, _, R.wd, rr, hc, fun d M' v H' G' q w s p => hQ d M' v H' G' q (R.go w s) s.gsub p, fun x M' H' G' cls dd q w s rx => ?_⟩
    exact ⟨x, r, M', G', q, R.go w s, rx⟩
  refine wpAny_call (codeAny_mono (F.run X.A X.stack s H ⟨us, b.2.1.zip ws⟩ (gl us ws) (gV vs zs) Q _ hr I.env0 (kb.to s us ws I.kIn u1 u2) (kb.rel hv hz) hsp) fun fr s' hq => ?_)
  cases fr with
  | error e => exact tk e s' (XE.of_call I (fun cls d H' h => h) hq)
  | ok fl =>
    cases fl with
    | ret u => exact I.after hq
    | next => exact False.elim hq
    | brk => exact False.elim hq
    | cont => exact False.elim hq
/-! keywords' values -/
def liftK := @liftA
abbrev DK (X : Cx) (B : Bs) (e : List Keyword) (f : DTA) : Prop := PK X e (liftA X.K B f)
theorem PK_imp {X : Cx} {e : List Keyword} {t t' : TA} (h : PK X e t) (i : ∀ σ H Q, t' σ H Q → t σ H Q) : PK X e t' := ⟨fun pos pins s σ H Q I q => h.run pos pins s σ H Q I (i _ _ _ q)⟩
theorem dk_nil : DK X B [] (fun _ M Ψ => Ψ [] M) := PK_imp pk_nil fun σ H Q ⟨r, M, G, Ψ, R, h, k⟩ => k [] M [] H G h R Sub.rfl' .nil
theorem dk_cons {nm : Option Str} {kpos : Pos} {fs : DTA} (ha : DE X B e fa) (hr : DK X B kws fs) : DK X B (⟨nm, e, kpos⟩ :: kws) (fun r M Ψ => fa r M fun d M1 => fs r M1 fun ds M2 => Ψ (d :: ds) M2) := by
  refine PK_imp (pk_cons ha hr) fun σ H Q ⟨r, M, G, Ψ, R, h, k⟩ => ?_
  refine ⟨r, M, G, _, R, h, fun d M1 v H1 G1 q1 R1 s1 p1 => ?_⟩
  exact ⟨r, M1, G1, _, R1, q1, fun ds M2 vs H2 G2 q2 R2 s2 p2 => k _ _ _ _ _ q2 R2 (s1.tr s2) (.cons (p1.mono s2) p2)⟩
variable {P : Program} {w : World} {K : PySem.W.Frag} {mg : Str → Option Value} {base : Heap} {x : Str} {bs : List (Nat × List Str × (List D → List D → List D))} {n j : Nat} {g : List D → List D → List D} {p : Pos}
/-- what a call asks: the arguments ds, the keywords' values dz -/
def callD (n m : Nat) (g : List D → List D → List D) (c : Ct) (Ξ : XD → En → Sto → Prop) (ds dz : List D) (r : En) (M : Sto) (Ψ : PD) : Prop := ds.length = n ∧ dz.length = m ∧ c (g ds dz) M Ψ (fun x M' => Ξ x r M')
theorem de_call (F : Gf X.prog X.w X.K X.mg X.base x j c bs) (hr : Room k X.A) (z : Zx X B Ξ) (hb : (n, [], g) ∈ bs) (ha : DA X B (e :: es) ga) (hj : j ≤ k := by decide) (hg : Gl X x := by rfl) (hdb : (x == ("__debug__" : Str)) = false := by decide)
    (he : starEach (e :: es) X.env = (false, eval e X.env) :: starEach es X.env := by rfl) (hpl : (backTo pos (starEach es X.env)).any (·.1) = false := by rfl) :
    DE X B (.Call (.Name x p) (e :: es) [] pos) (fun r M Ψ => ga r M fun ds M1 => callD n 0 g c Ξ ds [] r M1 Ψ) := by
  obtain ⟨f, fd, ps, hm, hk, FO, hbs⟩ := F.ex
  refine ⟨fun pins s σ H Q I ⟨r, M, G, Ψ, R, h, kk⟩ => ?_⟩
  refine wpAny_Call_Name_kw (ld_glob I hg hm ?_ hdb)
  refine PySem.W.callWith_K (h₀ := X.base) I.ok.mod.kin hk (thn (ha.run pos pins s σ H _ I ⟨r, M, G, _, R, h, fun ds M1 vs H1 G1 q R1 s1 p1 => (⟨ds, M1, G1, q, R1, s1, p1⟩ : ∃ ds M1 G1, callD n 0 g c Ξ ds [] r M1 Ψ ∧ Rel X.K B r M1 σ H1 G1 ∧ Sub G G1 ∧ RepL X.K G1 ds vs)⟩) fun us s1 ⟨vs, H1, I1, rv, ds, M1, G1, ⟨l1, _, q⟩, R1, t1, p1⟩ => ⟨I1.kIn, ?_⟩) he hpl
  exact run_c (zs := []) (ws := []) (dz := []) FO (hr.mono hj) (hbs _ hb) z.tk I1 R1 rv .nil p1 .nil l1 rfl q fun d M' v H' G' q R' s' p' => kk _ _ _ _ _ q R' (t1.tr s') p'
theorem de_call0 (F : Gf X.prog X.w X.K X.mg X.base x j c bs) (hr : Room k X.A) (z : Zx X B Ξ) (hb : (0, [], g) ∈ bs) (hj : j ≤ k := by decide) (hg : Gl X x := by rfl) (hdb : (x == ("__debug__" : Str)) = false := by decide) :
    DE X B (.Call (.Name x p) [] [] pos) (fun r M Ψ => callD 0 0 g c Ξ [] [] r M Ψ) := by
  obtain ⟨f, fd, ps, hm, hk, FO, hbs⟩ := F.ex
  refine ⟨fun pins s σ H Q I ⟨r, M, G, Ψ, R, h, kk⟩ => ?_⟩
  refine wpAny_Call_Name_kw (ld_glob I hg hm ?_ hdb)
  refine PySem.W.callWith_K0 I.kIn hk ?_
  exact run_c (vs := []) (us := []) (ds := []) (zs := []) (ws := []) (dz := []) FO (hr.mono hj) (hbs _ hb) z.tk I R .nil .nil .nil .nil rfl rfl h.2.2 fun d M' v H' G' q R' s' p' => kk _ _ _ _ _ q R' s' p'
theorem de_callK (F : Gf X.prog X.w X.K X.mg X.base x j c bs) (hr : Room k X.A) (z : Zx X B Ξ) (hb : (n, ks, g) ∈ bs) (ha : DA X B (e :: es) ga) (hkw : DK X B kws gk) (hj : j ≤ k := by decide) (hg : Gl X x := by rfl) (hdb : (x == ("__debug__" : Str)) = false := by decide)
    (hall : (backToKw pos (keywordEach kws X.env)).all (·.1.isSome) = true := by rfl) (hks : (backToKw pos (keywordEach kws X.env)).filterMap (·.1) = ks := by rfl) (he : starEach (e :: es) X.env = (false, eval e X.env) :: starEach es X.env := by rfl)
    (hpl : ((backTo pos (starEach (e :: es) X.env)).any (·.1) || (backToKw pos (keywordEach kws X.env)).any (·.1.isNone)) = false := by rfl) :
    DE X B (.Call (.Name x p) (e :: es) kws pos) (fun r M Ψ => ga r M fun ds M1 => gk r M1 fun dz M2 => callD n ks.length g c Ξ ds dz r M2 Ψ) := by
  obtain ⟨f, fd, ps, hm, hk, FO, hbs⟩ := F.ex
  refine ⟨fun pins s σ H Q I ⟨r, M, G, Ψ, R, h, kk⟩ => ?_⟩
  refine wpAny_Call_Name_kw (ld_glob I hg hm ?_ hdb)
  refine PySem.W.callWith_KW (h₀ := X.base) I.ok.mod.kin hk hall (thn (ha.run pos pins s σ H _ I ⟨r, M, G, _, R, h, fun ds M1 vs H1 G1 q R1 s1 p1 => (⟨ds, M1, G1, q, R1, s1, p1⟩ : ∃ ds M1 G1, (gk r M1 fun dz M2 => callD n ks.length g c Ξ ds dz r M2 Ψ) ∧ Rel X.K B r M1 σ H1 G1 ∧ Sub G G1 ∧ RepL X.K G1 ds vs)⟩) fun us s1 ⟨vs, H1, I1, rv, ds, M1, G1, q, R1, t1, p1⟩ => ?_) hpl he
  refine thn (hkw.run pos pins s1 σ H1 _ I1 ⟨r, M1, G1, _, R1, q, fun dz M2 us H2 G2 q R2 s2 p2 => (⟨dz, M2, G2, q, R2, s2, p2⟩ : ∃ dz M2 G2, callD n ks.length g c Ξ ds dz r M2 Ψ ∧ Rel X.K B r M2 σ H2 G2 ∧ Sub G1 G2 ∧ RepL X.K G2 dz us)⟩) fun ws s2 ⟨zs, H2, I2, rz, dz, M2, G2, ⟨l1, l2, q⟩, R2, t2, p2⟩ => ⟨I2.kIn, ?_⟩
  rw [hks]
  exact run_c FO (hr.mono hj) (hbs _ hb) z.tk I2 R2 rv rz (p1.mono t2) p2 l1 l2 q fun d M' v H' G' q R' s' p' => kk _ _ _ _ _ q R' ((t1.tr t2).tr s') p'
theorem de_callK0 (F : Gf X.prog X.w X.K X.mg X.base x j c bs) (hr : Room k X.A) (z : Zx X B Ξ) (hb : (0, ks, g) ∈ bs) (hkw : DK X B kws gk) (hj : j ≤ k := by decide) (hg : Gl X x := by rfl) (hdb : (x == ("__debug__" : Str)) = false := by decide)
    (hall : (backToKw pos (keywordEach kws X.env)).all (·.1.isSome) = true := by rfl) (hks : (backToKw pos (keywordEach kws X.env)).filterMap (·.1) = ks := by rfl)
    (hpl : ((backTo pos (starEach [] X.env)).any (·.1) || (backToKw pos (keywordEach kws X.env)).any (·.1.isNone)) = false := by rfl) :
    DE X B (.Call (.Name x p) [] kws pos) (fun r M Ψ => gk r M fun dz M2 => callD 0 ks.length g c Ξ [] dz r M2 Ψ) := by
  obtain ⟨f, fd, ps, hm, hk, FO, hbs⟩ := F.ex
  refine ⟨fun pins s σ H Q I ⟨r, M, G, Ψ, R, h, kk⟩ => ?_⟩
  refine wpAny_Call_Name_kw (ld_glob I hg hm ?_ hdb)
  refine PySem.W.callWith_KW0 (h₀ := X.base) I.ok.mod.kin hk hall ?_ hpl
  refine thn (hkw.run pos pins s σ H _ I ⟨r, M, G, _, R, h, fun dz M2 us H2 G2 q R2 s2 p2 => (⟨dz, M2, G2, q, R2, s2, p2⟩ : ∃ dz M2 G2, callD 0 ks.length g c Ξ [] dz r M2 Ψ ∧ Rel X.K B r M2 σ H2 G2 ∧ Sub G G2 ∧ RepL X.K G2 dz us)⟩) fun ws s2 ⟨zs, H2, I2, rz, dz, M2, G2, ⟨l1, l2, q⟩, R2, t2, p2⟩ => ⟨I2.kIn, ?_⟩
  rw [hks]
  exact run_c (vs := []) (us := []) (ds := []) FO (hr.mono hj) (hbs _ hb) z.tk I2 R2 .nil rz .nil p2 l1 l2 q fun d M' v H' G' q R' s' p' => kk _ _ _ _ _ q R' (t2.tr s') p'
end
end Z
namespace Z
open PySem PySem.Spec PyProof.Rows L2

abbrev Post (K : PySem.W.Frag) (H G : Hp) (M : Sto) (φ : D → Sto → Prop) (Q : VK) : Prop := ∀ d M' w H' G', φ d M' → Wd K M' H' G' → Since H G M M' H' G' → Rep K G' d w → Q w H'
theorem Post.id {K : PySem.W.Frag} {H G : Hp} {M : Sto} {φ : D → Sto → Prop} {Q : VK} (k : Post K H G M φ Q) (w : Wd K M H G) {d : D} {v : V} (h : φ d M) (p : Rep K G d v) : Q v H := k _ _ _ _ _ h w Since.refl p
theorem Post.grow {K : PySem.W.Frag} {H G H' G' : Hp} {M : Sto} {φ : D → Sto → Prop} {Q : VK} (k : Post K H G M φ Q) (w : Wd K M H G) (g : Grow H G H' G') {d : D} {v : V} (h : φ d M) (p : Rep K G' d v) : Q v H' := k _ _ _ _ _ h (g.wd w) (g.since w) p
theorem CallR_or {X : Cx} {f : Value} {r r' : List V → Hp → VK → Prop} (h : CallR X f r) (h' : CallR X f r') : CallR X f (fun xs H Q => r xs H Q ∨ r' xs H Q) := by
  intro pins s σ H xs us Q I rx q
  rcases q with q | q
  · exact h pins s σ H xs us Q I rx q
  · exact h' pins s σ H xs us Q I rx q
/-- what a built-in's reading gives on data -/
def OkC (K : PySem.W.Frag) (r : List V → Hp → VK → Prop) (g : Sto → List D → PD → Prop) : Prop := ∀ (M : Sto) (H G : Hp) (ds : List D) (vs : List V) (φ : PD) (Q : VK), Wd K M H G → RepL K G ds vs → g M ds φ → Post K H G M φ Q → r vs H Q
section
variable {X : Cx} {B : Bs} {pos apos : Pos} {a b e o : Expr} {es : List Expr} {fa fb fo : DTE} {ga : DTA} {k : Nat}
theorem de_callB {r : List V → Hp → VK → Prop} {g : Sto → List D → PD → Prop} {x : Str} {id : String} {p : Pos} (hc : CallR X (.builtin id) r) (ok : OkC X.K r g) (hm : X.mg x = none) (hv : bootBuiltins x = some (.builtin id)) (ha : DA X B (e :: es) ga)
    (hg : Gl X x := by rfl) (hn : x ≠ "__name__" := by decide) (hdb : (x == ("__debug__" : Str)) = false := by decide)
    (he : starEach (e :: es) X.env = (false, eval e X.env) :: starEach es X.env := by rfl) (hpl : (backTo pos (starEach es X.env)).any (·.1) = false := by rfl) :
    DE X B (.Call (.Name x p) (e :: es) [] pos) (fun r M Ψ => ga r M fun ds M1 => g M1 ds Ψ) := PE_imp (pe_callB hc hg hm hv ha hn hdb he hpl) fun σ H Q ⟨r, M, G, Ψ, R, h, k⟩ =>
  ⟨r, M, G, _, R, h, fun ds M1 vs H1 G1 q R1 s1 p1 => ok M1 H1 G1 ds vs Ψ Q R1.wd p1 q fun d M' w H' G' f w' s' p' => k _ _ _ _ _ f (R1.go w' s') (s1.tr s'.gsub) p'⟩
theorem de_callT {r : List V → Hp → VK → Prop} {g : Sto → List D → PD → Prop} {x : Str} {id : String} {p : Pos} (hc : CallR X (.type id) r) (ok : OkC X.K r g) (hm : X.mg x = none) (hv : bootBuiltins x = some (.type id)) (ha : DA X B (e :: es) ga)
    (hg : Gl X x := by rfl) (hn : x ≠ "__name__" := by decide) (hdb : (x == ("__debug__" : Str)) = false := by decide)
    (he : starEach (e :: es) X.env = (false, eval e X.env) :: starEach es X.env := by rfl) (hpl : (backTo pos (starEach es X.env)).any (·.1) = false := by rfl) :
    DE X B (.Call (.Name x p) (e :: es) [] pos) (fun r M Ψ => ga r M fun ds M1 => g M1 ds Ψ) := PE_imp (pe_callTy hc hg hm hv ha hn hdb he hpl) fun σ H Q ⟨r, M, G, Ψ, R, h, k⟩ =>
  ⟨r, M, G, _, R, h, fun ds M1 vs H1 G1 q R1 s1 p1 => ok M1 H1 G1 ds vs Ψ Q R1.wd p1 q fun d M' w H' G' f w' s' p' => k _ _ _ _ _ f (R1.go w' s') (s1.tr s'.gsub) p'⟩
/-- a built-in class as a value -/
theorem de_ty {x : Str} {n : String} (hm : X.mg x = none) (hv : bootBuiltins x = some (.type n)) (hg : Gl X x := by rfl) (hn : x ≠ "__name__" := by decide) (hd : (x == ("__debug__" : Str)) = false := by decide) : DE X B (.Name x pos) (fun _ M Ψ => Ψ (.ty n) M) :=
  de_c (v := .ty n) (pe_bltn hg hm hv rfl hn hd) fun _ => .ty

/-! ### len -/
def dicOf (M : Sto) : D → Option (List (D × D))
  | .dic l => some l
  | .ref p => match M p with
    | some (.dic l) => some l
    | _ => none
  | _ => none
theorem dicOf_ref {M : Sto} {a : Addr} {l : List (D × D)} (e : dicOf M (.ref a) = some l) : M a = some (.dic l) := by
  have e' : (match M a with | some (.dic l) => some l | _ => none) = some l := e
  split at e'
  · rename_i l' q
    rw [q, Option.some.inj e']
  · cases e'
theorem dic_rep {K : PySem.W.Frag} {M : Sto} {H G : Hp} {d : D} {v : V} {l : List (D × D)} (w : Wd K M H G) (r : Rep K G d v) (e : dicOf M d = some l) : ∃ a, v = .ref a ∧ ((∃ kvs, H a = some (.dK kvs) ∧ RepD K G l kvs) ∨ ∃ kvs, H a = some (.dT kvs) ∧ RepT K G l kvs) := by
  cases r with
  | dic h r => cases e; exact ⟨_, rfl, .inl ⟨_, w.sub _ _ h, r⟩⟩
  | dit h r => cases e; exact ⟨_, rfl, .inr ⟨_, w.sub _ _ h, r⟩⟩
  | ref => exact ⟨_, rfl, (w.cells _ _ (dicOf_ref e)).2⟩
  | _ => cases e
theorem RepD.length {K : PySem.W.Frag} {G : Hp} : ∀ {l : List (D × D)} {kvs : List (Key × V)}, RepD K G l kvs → l.length = kvs.length
  | _, _, .nil => rfl
  | _, _, .cons _ _ r => congrArg (· + 1) r.length
theorem RepT.length {K : PySem.W.Frag} {G : Hp} : ∀ {l : List (D × D)} {kvs : List (List Key × V)}, RepT K G l kvs → l.length = kvs.length
  | _, _, .nil => rfl
  | _, _, .cons _ _ r => congrArg (· + 1) r.length
def lenD (M : Sto) (ds : List D) (φ : PD) : Prop := match ds with
  | [.str x] => x.length ≤ sizeLine ∧ φ (.int x.length) M
  | [.tup l] => φ (.int l.length) M
  | [.lst l] => φ (.int l.length) M
  | [d] => ∃ l, lstOf M d = some l ∧ φ (.int l.length) M
  | _ => False
theorem ok_len {K : PySem.W.Frag} : OkC K (fun xs H Q => ∃ x n, xs = [x] ∧ LenV K x H n ∧ Q (.int n) H) lenD := fun M H G ds vs φ Q w r h k => by
  unfold lenD at h
  split at h
  · cases r with
    | cons r1 r2 => cases r2; cases r1; exact ⟨_, _, rfl, ⟨h.1, rfl⟩, k.id w h.2 .int⟩
  · cases r with
    | cons r1 r2 =>
      cases r2
      obtain ⟨p, us, rfl, h1, r3⟩ := tup_rep w r1 rfl
      exact ⟨_, _, rfl, .inr ⟨_, h1, rfl⟩, by rw [← r3.length]; exact k.id w h .int⟩
  · cases r with
    | cons r1 r2 =>
      cases r2
      obtain ⟨p, us, rfl, h1, r3⟩ := lst_rep' w r1 rfl
      exact ⟨_, _, rfl, .inl ⟨_, h1, rfl⟩, by rw [← r3.length]; exact k.id w h .int⟩
  · cases r with
    | cons r1 r2 =>
      cases r2
      obtain ⟨l, e, h⟩ := h
      obtain ⟨p, us, rfl, h1, r3⟩ := lst_rep' w r1 e
      exact ⟨_, _, rfl, .inl ⟨_, h1, rfl⟩, by rw [← r3.length]; exact k.id w h .int⟩
  · exact h.elim
theorem de_len {p : Pos} (hm : X.mg "len" = none) (ha : DA X B [a] ga) (hg : Gl X "len" := by rfl) (he : starEach [a] X.env = (false, eval a X.env) :: starEach [] X.env := by rfl) : DE X B (.Call (.Name "len" p) [a] [] pos) (fun r M Ψ => ga r M fun ds M1 => lenD M1 ds Ψ) :=
  de_callB call_len ok_len hm PySem.boot_len ha hg (by decide) (by decide) he rfl
/-! ### numbers -/
def absD (M : Sto) (ds : List D) (φ : PD) : Prop := match ds with
  | [.int i] => φ (.int (if i < 0 then -i else i)) M
  | _ => False
def max2D (M : Sto) (ds : List D) (φ : PD) : Prop := match ds with
  | [.int i, .int j] => φ (.int (if j > i then j else i)) M
  | _ => False
def min2D (M : Sto) (ds : List D) (φ : PD) : Prop := match ds with
  | [.int i, .int j] => φ (.int (if j < i then j else i)) M
  | _ => False
def intD (M : Sto) (ds : List D) (φ : PD) : Prop := match ds with
  | [.int i] => φ (.int i) M
  | [.bl b] => φ (.int (if b then 1 else 0)) M
  | _ => False
def strD (M : Sto) (ds : List D) (φ : PD) : Prop := match ds with
  | [.int i] => i.natAbs.log2 < 1920 ∧ φ (.str (toString i)) M
  | _ => False
def sumD (M : Sto) (ds : List D) (φ : PD) : Prop := match ds with
  | [d] => ∃ ns : List Int, lstOf M d = some (ns.map .int) ∧ φ (.int ns.sum) M
  | _ => False
def allD (M : Sto) (ds : List D) (φ : PD) : Prop := match ds with
  | [d] => ∃ bs : List Bool, lstOf M d = some (bs.map .bl) ∧ φ (.bl (bs.all id)) M
  | _ => False
def anyD (M : Sto) (ds : List D) (φ : PD) : Prop := match ds with
  | [d] => ∃ bs : List Bool, lstOf M d = some (bs.map .bl) ∧ φ (.bl (bs.any id)) M
  | _ => False
/-- max, min of a list of ints -/
def maxD (M : Sto) (ds : List D) (φ : PD) : Prop := match ds with
  | [d] => ∃ ns : List Int, lstOf M d = some (ns.map .int) ∧ 0 < ns.length ∧ ∀ m, m ∈ ns → (∀ y, y ∈ ns → y ≤ m) → φ (.int m) M
  | _ => False
def minD (M : Sto) (ds : List D) (φ : PD) : Prop := match ds with
  | [d] => ∃ ns : List Int, lstOf M d = some (ns.map .int) ∧ 0 < ns.length ∧ ∀ m, m ∈ ns → (∀ y, y ∈ ns → m ≤ y) → φ (.int m) M
  | _ => False
def listD (M : Sto) (ds : List D) (φ : PD) : Prop := match ds with
  | [.tup l] => φ (.lst l) M
  | [d] => ∃ l, lstOf M d = some l ∧ φ (.lst l) M
  | _ => False
def tupleD (M : Sto) (ds : List D) (φ : PD) : Prop := match ds with
  | [.tup l] => φ (.tup l) M
  | [d] => ∃ l, lstOf M d = some l ∧ φ (.tup l) M
  | _ => False
section
variable {K : PySem.W.Frag}
theorem ok_abs : OkC K (fun xs H Q => ∃ i, xs = [.int i] ∧ Q (.int (if i < 0 then -i else i)) H) absD := fun M H G ds vs φ Q w r h k => by
  unfold absD at h
  split at h
  · cases r with | cons r1 r2 => cases r2; cases r1; exact ⟨_, rfl, k.id w h .int⟩
  · exact h.elim
theorem ok_max2 : OkC K (fun xs H Q => ∃ i j, xs = [.int i, .int j] ∧ Q (.int (if j > i then j else i)) H) max2D := fun M H G ds vs φ Q w r h k => by
  unfold max2D at h
  split at h
  · cases r with | cons r1 r2 => cases r2 with | cons r2 r3 => cases r3; cases r1; cases r2; exact ⟨_, _, rfl, k.id w h .int⟩
  · exact h.elim
theorem ok_min2 : OkC K (fun xs H Q => ∃ i j, xs = [.int i, .int j] ∧ Q (.int (if j < i then j else i)) H) min2D := fun M H G ds vs φ Q w r h k => by
  unfold min2D at h
  split at h
  · cases r with | cons r1 r2 => cases r2 with | cons r2 r3 => cases r3; cases r1; cases r2; exact ⟨_, _, rfl, k.id w h .int⟩
  · exact h.elim
theorem ok_int1 : OkC K (fun xs H Q => (∃ i, xs = [.int i] ∧ Q (.int i) H) ∨ ∃ k, xs = [.bl k] ∧ Q (.int (if k then 1 else 0)) H) intD := fun M H G ds vs φ Q w r h k => by
  unfold intD at h
  split at h
  · cases r with | cons r1 r2 => cases r2; cases r1; exact .inl ⟨_, rfl, k.id w h .int⟩
  · cases r with | cons r1 r2 => cases r2; cases r1; exact .inr ⟨_, rfl, k.id w h .int⟩
  · exact h.elim
theorem ok_str1 : OkC K (fun xs H Q => ∃ i : Int, xs = [.int i] ∧ i.natAbs.log2 < 1920 ∧ Q (.str (toString i)) H) strD := fun M H G ds vs φ Q w r h k => by
  unfold strD at h
  split at h
  · cases r with | cons r1 r2 => cases r2; cases r1; exact ⟨_, rfl, h.1, k.id w h.2 .str⟩
  · exact h.elim
theorem one_lst {M : Sto} {H G : Hp} {d : D} {vs : List V} {l : List D} (w : Wd K M H G) (r : RepL K G [d] vs) (e : lstOf M d = some l) : ∃ a us, vs = [.ref a] ∧ SqL K H a us ∧ RepL K G l us := by
  cases r with
  | cons r1 r2 =>
    cases r2
    obtain ⟨a, us, rfl, h1, h2⟩ := lst_rep' w r1 e
    exact ⟨a, us, rfl, h1, h2⟩
theorem ok_sum : OkC K (rSum K) sumD := fun M H G ds vs φ Q w r h k => by
  unfold sumD at h
  split at h
  · obtain ⟨ns, e, h⟩ := h
    obtain ⟨a, us, rfl, h1, h2⟩ := one_lst w r e
    have := repL_ints h2; subst this
    exact ⟨a, ns, rfl, h1, k.id w h .int⟩
  · exact h.elim
theorem ok_all : OkC K (rAll K) allD := fun M H G ds vs φ Q w r h k => by
  unfold allD at h
  split at h
  · obtain ⟨ns, e, h⟩ := h
    obtain ⟨a, us, rfl, h1, h2⟩ := one_lst w r e
    have := repL_bls h2; subst this
    exact ⟨a, ns, rfl, h1, k.id w h .bl⟩
  · exact h.elim
theorem ok_any : OkC K (rAny K) anyD := fun M H G ds vs φ Q w r h k => by
  unfold anyD at h
  split at h
  · obtain ⟨ns, e, h⟩ := h
    obtain ⟨a, us, rfl, h1, h2⟩ := one_lst w r e
    have := repL_bls h2; subst this
    exact ⟨a, ns, rfl, h1, k.id w h .bl⟩
  · exact h.elim
theorem ok_maxL : OkC K (rMax K) maxD := fun M H G ds vs φ Q w r h k => by
  unfold maxD at h
  split at h
  · obtain ⟨ns, e, hl, h⟩ := h
    obtain ⟨a, us, rfl, h1, h2⟩ := one_lst w r e
    have := repL_ints h2; subst this
    exact ⟨a, ns, rfl, h1, hl, fun m hm hy => k.id w (h m hm hy) .int⟩
  · exact h.elim
theorem ok_minL : OkC K (rMin K) minD := fun M H G ds vs φ Q w r h k => by
  unfold minD at h
  split at h
  · obtain ⟨ns, e, hl, h⟩ := h
    obtain ⟨a, us, rfl, h1, h2⟩ := one_lst w r e
    have := repL_ints h2; subst this
    exact ⟨a, ns, rfl, h1, hl, fun m hm hy => k.id w (h m hm hy) .int⟩
  · exact h.elim
theorem ok_list1 : OkC K (fun xs H Q => ∃ p ys, xs = [.ref p] ∧ (SqL K H p ys ∨ SqT K H p ys) ∧ ∀ l, H l = none → Q (.ref l) (upd H l (.lst ys))) listD := fun M H G ds vs φ Q w r h k => by
  unfold listD at h
  split at h
  · cases r with
    | cons r1 r2 =>
      cases r2
      obtain ⟨p, us, rfl, h1, r3⟩ := tup_rep w r1 rfl
      refine ⟨p, us, rfl, .inr h1, fun l hl => ?_⟩
      have g := grow_upd (o := .lst us) w.sub hl
      exact k.grow w g h (.lst (.inl upd_same) (r3.mono g.gsub))
  · obtain ⟨l, e, h⟩ := h
    obtain ⟨a, us, rfl, h1, r3⟩ := one_lst w r e
    refine ⟨a, us, rfl, .inl h1, fun l hl => ?_⟩
    have g := grow_upd (o := .lst us) w.sub hl
    exact k.grow w g h (.lst (.inl upd_same) (r3.mono g.gsub))
  · exact h.elim
theorem ok_tuple1 : OkC K (fun xs H Q => ∃ p ys, xs = [.ref p] ∧ ((SqL K H p ys ∧ ∀ l, H l = none → Q (.ref l) (upd H l (.tup ys))) ∨ (SqT K H p ys ∧ Q (.ref p) H))) tupleD := fun M H G ds vs φ Q w r h k => by
  unfold tupleD at h
  split at h
  · cases r with
    | cons r1 r2 =>
      cases r2
      obtain ⟨p, us, rfl, h1, r3⟩ := tup_rep w r1 rfl
      exact ⟨p, us, rfl, .inr ⟨h1, k.id w h r1⟩⟩
  · obtain ⟨l, e, h⟩ := h
    obtain ⟨a, us, rfl, h1, r3⟩ := one_lst w r e
    refine ⟨a, us, rfl, .inl ⟨h1, fun l hl => ?_⟩⟩
    have g := grow_upd (o := .tup us) w.sub hl
    exact k.grow w g h (.tup (SqT.of upd_same) (r3.mono g.gsub))
  · exact h.elim
end
/-! ### isinstance of built-in classes -/
def tyN (M : Sto) : D → Option String
  | .non => some "NoneType"
  | .bl _ => some "bool"
  | .int _ => some "int"
  | .str _ => some "str"
  | .tup _ => some "tuple"
  | .lst _ => some "list"
  | .dic _ => some "dict"
  | .ref p => match M p with
    | some (.lst _) => some "list"
    | some (.dic _) => some "dict"
    | _ => none
  | _ => none
def isB (t c : String) : Bool := t == c || (t == "bool" && c == "int")
def okTy : List String := ["NoneType", "bool", "int", "str", "tuple", "list", "dict"]
def okCl : List String := ["bool", "int", "str", "tuple", "list"]
theorem kit_isB {K : PySem.W.Frag} : ∀ t ∈ okTy, ∀ c ∈ okCl, PySem.W.kitOne K (.type t) (.type c) = some (isB t c) := by
  have h : ∀ t ∈ okTy, ∀ c ∈ okCl, kitB t c = some (isB t c) := by decide +kernel
  exact fun t ht c hc => kit_ty (h t ht c hc)
theorem tyN_ok {M : Sto} {d : D} {t : String} (e : tyN M d = some t) : t ∈ okTy := by
  unfold tyN at e
  split at e <;> first | (cases e; decide) | (split at e <;> first | (cases e; decide) | cases e) | cases e
theorem tyN_x {K : PySem.W.Frag} {M : Sto} {H G : Hp} {d : D} {v : V} {t : String} (w : Wd K M H G) (r : Rep K G d v) (e : tyN M d = some t) : TyX K H v (.type t) := by
  cases r with
  | non => cases e; exact .base .non
  | bl => cases e; exact .base (.bl _)
  | int => cases e; exact .base (.int _)
  | str => cases e; exact .base (.str _)
  | ty => cases e
  | tup h r =>
    cases e
    rcases w.sub.sqT h with (h | ⟨o, h⟩) | ⟨o, its, n, h1, h2, _⟩
    · exact .base (.tup h)
    · exact .fTuple h
    · exact .kTuple h1 h2
  | lst h r =>
    cases e
    rcases w.sub.rd h with h | ⟨o, h⟩
    · exact .base (.lst h)
    · exact .base (.frz h)
  | dic h r => cases e; exact .base (.dK (w.sub _ _ h))
  | dit h r => cases e; exact .base (.dT (w.sub _ _ h))
  | obj h r => cases e
  | lk h r => cases e
  | fn h q => cases e
  | @ref a =>
    have e' : (match M a with | some (.lst _) => some "list" | some (.dic _) => some "dict" | _ => none) = some t := e
    split at e'
    · rename_i l q
      cases e'
      obtain ⟨_, vs, h, _⟩ := w.cells _ _ q
      exact .base (.lst h)
    · rename_i l q
      cases e'
      rcases (w.cells _ _ q).2 with ⟨vs, h, _⟩ | ⟨vs, h, _⟩
      · exact .base (.dK h)
      · exact .base (.dT h)
    · cases e'
def isiD (M : Sto) (ds : List D) (φ : PD) : Prop := match ds with
  | [d, .ty c] => c ∈ okCl ∧ ∃ t, tyN M d = some t ∧ φ (.bl (isB t c)) M
  | [d, .tup cs] => ∃ ns : List String, cs = ns.map .ty ∧ (∀ c ∈ ns, c ∈ okCl) ∧ ∃ t, tyN M d = some t ∧ φ (.bl (ns.any fun c => isB t c)) M
  | _ => False
def rIsiS (K : PySem.W.Frag) : List V → Hp → VK → Prop := fun xs H Q => ∃ (x : V) (tp : Addr) (cs : List V) (t : Value) (us : List Value) (b : Bool), xs = [x, .ref tp] ∧ SqT K H tp cs ∧ Paired ClsV cs us ∧ TyX K H x t ∧ PySem.W.kitAny K t us = some b ∧ Q (.bl b) H
theorem call_isiS : CallR X (.builtin "isinstance") (rIsiS X.K) := by
  intro pins s σ H xs us Q I r h
  obtain ⟨x, tp, cs, t, ws, b, rfl, hT, k, ty, e, q⟩ := h
  obtain ⟨u1, u2, rfl, r1, r2⟩ := vals2 r
  cases (show u2 = Value.ref tp from r2)
  obtain ⟨P, Z, p, hx⟩ := kit_of I r1 ty
  obtain ⟨its, rv, ⟨o, h1, h2, n, h3⟩, _⟩ := I.tuple hT
  have e3 := ClsV.all k rv
  subst e3
  obtain ⟨oc, od, dt, sl⟩ := o
  simp only at h2 h3
  subst h2 h3
  exact PySem.W.kia_tup Z I.kIn p h1 e hx fun tk => ⟨.bl b, H, I.tok tk, rfl, q⟩
theorem kit_any {K : PySem.W.Frag} {t : String} (ht : t ∈ okTy) : ∀ {ns : List String}, (∀ c ∈ ns, c ∈ okCl) → PySem.W.kitAny K (.type t) (ns.map Value.type) = some (ns.any fun c => isB t c)
  | [], _ => rfl
  | c :: ns, h => by
    have h1 := kit_isB (K := K) t ht c (h c List.mem_cons_self)
    have ih := kit_any (K := K) ht (ns := ns) fun d hd => h d (List.mem_cons_of_mem _ hd)
    rw [List.map_cons, List.any_cons]
    unfold PySem.W.kitAny
    rw [h1]
    cases isB t c with
    | true => rfl
    | false => exact ih
theorem repL_tys {K : PySem.W.Frag} {G : Hp} : ∀ {ns : List String} {vs : List V}, RepL K G (ns.map D.ty) vs → vs = ns.map V.ty
  | [], _, r => by cases r; rfl
  | n :: ns, _, r => by cases r with | cons r1 r2 => cases r1; rw [repL_tys r2]; rfl
theorem cls_tys : ∀ ns : List String, Paired ClsV (ns.map V.ty) (ns.map Value.type)
  | [] => .nil
  | n :: ns => .cons (.ty n) (cls_tys ns)
theorem ok_isi {K : PySem.W.Frag} : OkC K (fun xs H Q => rIsi K xs H Q ∨ rIsiS K xs H Q) isiD := fun M H G ds vs φ Q w r h k => by
  unfold isiD at h
  split at h
  · obtain ⟨hc, t, e, h⟩ := h
    cases r with
    | cons r1 r2 => cases r2 with
      | cons r2 r3 =>
        cases r3; cases r2
        exact .inl ⟨_, _, _, _, _, rfl, .ty _, tyN_x w r1 e, kit_isB t (tyN_ok e) _ hc, k.id w h .bl⟩
  · obtain ⟨ns, rfl, hc, t, e, h⟩ := h
    cases r with
    | cons r1 r2 => cases r2 with
      | cons r2 r3 =>
        cases r3
        obtain ⟨p, us, rfl, h1, r4⟩ := tup_rep w r2 rfl
        have := repL_tys r4; subst this
        exact .inr ⟨_, p, _, _, _, _, rfl, h1, cls_tys ns, tyN_x w r1 e, kit_any (tyN_ok e) hc, k.id w h .bl⟩
  · exact h.elim
theorem boot_isinstance : bootBuiltins "isinstance" = some (.builtin "isinstance") := by decide +kernel
theorem de_isi {p : Pos} (hm : X.mg "isinstance" = none) (ha : DA X B [a, b] ga) (hg : Gl X "isinstance" := by rfl) (he : starEach [a, b] X.env = (false, eval a X.env) :: starEach [b] X.env := by rfl) (hpl : (backTo pos (starEach [b] X.env)).any (·.1) = false := by rfl) :
    DE X B (.Call (.Name "isinstance" p) [a, b] [] pos) (fun r M Ψ => ga r M fun ds M1 => isiD M1 ds Ψ) :=
  de_callB (CallR_or call_isi call_isiS) ok_isi hm boot_isinstance ha hg (by decide) (by decide) he hpl
end
end Z
namespace Z
open PySem PySem.Spec PyProof.Rows L2

def optK {α : Type} (o : Option α) (φ : α → Prop) : Prop := match o with
  | some d => φ d
  | none => False
theorem optK_some {α : Type} {o : Option α} {φ : α → Prop} (h : optK o φ) : ∃ d, o = some d ∧ φ d := by
  unfold optK at h
  split at h
  · exact ⟨_, rfl, h⟩
  · exact h.elim
theorem optK_of {α : Type} {o : Option α} {φ : α → Prop} {d : α} (e : o = some d) (h : φ d) : optK o φ := by rw [e]; exact h
/-! ### xs[i] -/
def ixD (M : Sto) (x y : D) (φ : D → Prop) : Prop := match x, y with
  | .tup l, .int i => optK (atI l i) φ
  | .str z, .int i => z.length ≤ sizeLine ∧ optK (atI z.cps.toList i) fun c => φ (.str ⟨#[c]⟩)
  | x, .int i => optK (lstOf M x) fun l => optK (atI l i) φ
  | _, _ => False
theorem RepL.atI {K : PySem.W.Frag} {G : Hp} {l : List D} {vs : List V} {i : Int} {d : D} (r : RepL K G l vs) (e : L2.atI l i = some d) : ∃ v, L2.atI vs i = some v ∧ Rep K G d v := by
  unfold L2.atI at e ⊢
  rw [← r.length]
  cases q : ixN l.length i with
  | none => rw [q] at e; cases e
  | some j => rw [q] at e; exact r.get e
theorem ok_ix {K : PySem.W.Frag} : Ok2 K (rIx K) ixD := fun M H G x y v u φ Q w rx ry h k => by
  unfold ixD at h
  split at h
  · rename_i l i
    obtain ⟨d, e, h⟩ := optK_some h
    obtain ⟨a, vs, rfl, h1, r1⟩ := tup_rep w rx (l := l) rfl
    cases ry
    obtain ⟨v, e2, p⟩ := r1.atI e
    exact .inr (.inl ⟨a, vs, _, v, rfl, rfl, h1, e2, k _ _ _ _ h (Grow.refl w.sub) p⟩)
  · obtain ⟨z, h⟩ := h
    obtain ⟨c, e, h⟩ := optK_some h
    cases rx; cases ry
    exact .inr (.inr ⟨_, _, c, rfl, rfl, z, e, k _ _ _ _ h (Grow.refl w.sub) .str⟩)
  · obtain ⟨l, e0, h⟩ := optK_some h
    obtain ⟨d, e, h⟩ := optK_some h
    obtain ⟨a, vs, rfl, h1, r1⟩ := lst_rep' w rx e0
    cases ry
    obtain ⟨v, e2, p⟩ := r1.atI e
    exact .inl ⟨a, vs, _, v, rfl, rfl, h1, e2, k _ _ _ _ h (Grow.refl w.sub) p⟩
  · exact h.elim
section
variable {X : Cx} {B : Bs} {pos apos p2 : Pos} {a b e o : Expr} {es : List Expr} {fa fb fo fc : DTE} {ga : DTA} {k : Nat}
theorem de_ix (ha : DE X B a fa) (hb : DE X B b fb) (hs : PlainIx b := by exact fun _ _ => rfl) : DE X B (.Subscript a b pos) (bin2 ixD fa fb) := PE_imp (pe_ix ix_seq ha hb hs) fun σ H Q h => tOp_ok ok_ix h
/-! ### slices -/
def liftO (K : PySem.W.Frag) (B : Bs) (f : En → Sto → (Option Int → Sto → Prop) → Prop) : TO := fun σ H Q => ∃ r M G Ψ, Rel K B r M σ H G ∧ f r M Ψ ∧ ∀ b M' H' G', Ψ b M' → Rel K B r M' σ H' G' → Sub G G' → Q b H'
theorem PO_imp {X : Cx} {e : Option Expr} {t t' : TO} (h : PO X e t) (i : ∀ σ H Q, t' σ H Q → t σ H Q) : PO X e t' := ⟨fun pins s σ H Q I q => h.run pins s σ H Q I (i _ _ _ q)⟩
abbrev DO (X : Cx) (B : Bs) (e : Option Expr) (f : En → Sto → (Option Int → Sto → Prop) → Prop) : Prop := PO X e (liftO X.K B f)
theorem do_none : DO X B none (fun _ M Ψ => Ψ none M) := PO_imp po_none fun σ H Q ⟨r, M, G, Ψ, R, h, k⟩ => k _ _ _ _ h R Sub.rfl'
def inK (d : D) (φ : Int → Prop) : Prop := match d with
  | .int i => φ i
  | _ => False
theorem do_some (h : DE X B e fa) : DO X B (some e) (fun r M Ψ => fa r M fun d M1 => inK d fun i => Ψ (some i) M1) := PO_imp (po_some h) fun σ H Q ⟨r, M, G, Ψ, R, h, k⟩ => by
  refine ⟨r, M, G, _, R, h, fun d M1 v H1 G1 q R1 s1 p1 => ?_⟩
  cases p1 with
  | int => exact ⟨_, rfl, k _ _ _ _ q R1 s1⟩
  | _ => exact q.elim
def cutD {α : Type} (xs : List α) (lo hi : Option Int) : List α := (xs.drop (HT.sIx xs.length 0 lo)).take (HT.sIx xs.length xs.length hi - HT.sIx xs.length 0 lo)
def slD (M : Sto) (x : D) (lo hi : Option Int) (φ : D → Prop) : Prop := match x with
  | .str z => z.length ≤ sizeLine ∧ φ (.str (cutS z lo hi))
  | .tup l => φ (.tup (cutD l lo hi))
  | .lk l => φ (.lst (cutD l lo hi))
  | x => optK (lstOf M x) fun l => φ (.lst (cutD l lo hi))
theorem RepL.cut {K : PySem.W.Frag} {G : Hp} {l : List D} {vs : List V} (r : RepL K G l vs) (lo hi : Option Int) : RepL K G (cutD l lo hi) (cutV vs lo hi) := by
  unfold cutD cutV
  rw [← r.length]
  exact (r.drop _).take _
def rSlAll (K : PySem.W.Frag) : V → Option Int → Option Int → Hp → VK → Prop := fun x lo hi H Q => rSlL K x lo hi H Q ∨ rSlA K x lo hi H Q ∨ rSlS x lo hi H Q
theorem cut_whole {α : Type} (l : List α) (lo hi : Option Int) (h : HT.sIx l.length 0 lo = 0 ∧ HT.sIx l.length l.length hi = l.length) : cutD l lo hi = l := by
  unfold cutD
  rw [h.1, h.2]
  simp
theorem sl_ok {K : PySem.W.Frag} {M : Sto} {H G : Hp} {x : D} {v : V} {lo hi : Option Int} {φ : D → Prop} {Q : VK} (w : Wd K M H G) (rx : Rep K G x v) (h : slD M x lo hi φ) (k : ∀ d w H' G', φ d → Grow H G H' G' → Rep K G' d w → Q w H') : rSlAll K v lo hi H Q := by
  unfold slD at h
  split at h
  · cases rx
    exact .inr (.inr ⟨_, rfl, h.1, k _ _ _ _ h.2 (Grow.refl w.sub) .str⟩)
  · rename_i l
    obtain ⟨a, vs, rfl, h1, r1⟩ := tup_rep w rx (l := l) rfl
    have hl := r1.length
    refine .inr (.inl ⟨a, vs, rfl, h1, fun e => ?_, fun e p hp => ?_⟩)
    · rw [← hl] at e
      rw [cut_whole l lo hi e] at h
      exact k _ _ _ _ h (Grow.refl w.sub) rx
    · have g := grow_upd (o := .tup (cutV vs lo hi)) w.sub hp
      exact k _ _ _ _ h g (.tup (SqT.of upd_same) ((r1.cut lo hi).mono g.gsub))
  · rename_i l
    cases rx with
    | @lk _ _ vs h1 r1 =>
      refine .inl ⟨_, vs, rfl, w.sub.sqL h1, fun p hp => ?_⟩
      have g := grow_upd (o := .lst (cutV vs lo hi)) w.sub hp
      exact k _ _ _ _ h g (.lst (.inl upd_same) ((r1.cut lo hi).mono g.gsub))
  · obtain ⟨l, e, h⟩ := optK_some h
    obtain ⟨a, vs, rfl, h1, r1⟩ := lst_rep' w rx e
    refine .inl ⟨a, vs, rfl, h1, fun p hp => ?_⟩
    have g := grow_upd (o := .lst (cutV vs lo hi)) w.sub hp
    exact k _ _ _ _ h g (.lst (.inl upd_same) ((r1.cut lo hi).mono g.gsub))
theorem de_slice {lo hi : Option Expr} {fl fh : En → Sto → (Option Int → Sto → Prop) → Prop} (he : DE X B e fa) (hl : DO X B lo fl) (hu : DO X B hi fh) :
    DE X B (.Subscript e (.Slice lo hi none p2) pos) (fun r M Ψ => fa r M fun x M1 => fl r M1 fun l M2 => fh r M2 fun u M3 => slD M3 x l u fun d => Ψ d M3) :=
  PE_imp (pe_slice (r := rSlAll X.K) (sl_list.or (sl_tupA.or sl_str)) he hl hu) fun σ H Q ⟨r, M, G, Ψ, R, h, k⟩ => by
    refine ⟨r, M, G, _, R, h, fun x M1 v H1 G1 q1 R1 s1 p1 => ?_⟩
    refine ⟨r, M1, G1, _, R1, q1, fun l M2 H2 G2 q2 R2 s2 => ?_⟩
    refine ⟨r, M2, G2, _, R2, q2, fun u M3 H3 G3 q3 R3 s3 => ?_⟩
    exact sl_ok R3.wd (p1.mono (s2.tr s3)) q3 fun d w H' G' f g p => k _ _ _ _ _ f (R3.grow g) (((s1.tr s2).tr s3).tr g.gsub) p
/-! ### xs[i] = e on a list that changes -/
def setD (d : D) (i : Int) (v : D) (M : Sto) (φ : Sto → Prop) : Prop := match d with
  | .ref p => match M p with
    | some (.lst l) => optK (ixN l.length i) fun j => φ (updM M p (.lst (l.set j v)))
    | _ => False
  | _ => False
theorem ds_setix {value : Expr} {p3 : Pos} (hv : DE X B value fc) (ho : DE X B a fa) (hi : DE X B b fb) (hs : swapsWithSole [.Subscript a b p3] value pos.line X.env = pure false := by rfl) (hw : swappedStores [.Subscript a b p3] value X.env = pure none := by rfl)
    (h1 : (assignEach [.Subscript a b p3] X.env).map (·.2) = [assign (.Subscript a b p3) X.env] := by rfl)
    (h2 : ∀ v, assign (.Subscript a b p3) X.env v = (do let ov ← holding [v] (eval a X.env); let iv ← holding [v, ov] (eval b X.env); standAt p3; holding [v, ov, iv] (setItem ov iv v); release [v, ov, iv] []) := by intro _; rfl) :
    DS X B (.Assign [.Subscript a b p3] value pos) (fun E r M => fc r M fun d M1 => fa r M1 fun x M2 => fb r M2 fun y M3 => inK y fun i => setD x i d M3 fun M4 => E.nx r M4) :=
  PS_imp (ps_asg hv (pg_sub ho hi set_list h2) hs hw h1) fun D' σ H h => by
    obtain ⟨r, M, G, E, R, q, k⟩ := EkOk.of h
    refine ⟨r, M, G, _, R, q, fun d M1 v H1 G1 q1 R1 s1 p1 => ?_⟩
    refine ⟨r, M1, G1, _, R1, q1, fun x M2 u H2 G2 q2 R2 s2 p2 => ?_⟩
    refine ⟨r, M2, G2, _, R2, q2, fun y M3 t H3 G3 q3 R3 s3 p3 => ?_⟩
    cases p3 with
    | int =>
      have q4 : setD x _ d M3 _ := q3
      unfold setD at q4
      split at q4
      · split at q4
        · rename_i p l e
          obtain ⟨j, ej, q5⟩ := optK_some q4
          cases p2
          obtain ⟨gp, vs, hp, rl⟩ := R3.wd.cells _ _ e
          obtain ⟨w, s⟩ := cell_put (c := .lst (l.set j d)) (o := .lst (vs.set j v)) R3.wd e ⟨_, upd_same, rl.set ((p1.mono s2).mono s3) j⟩
          exact ⟨_, vs, _, j, rfl, rfl, hp, by rw [← rl.length]; exact ej, k.nx _ _ _ _ _ q5 (R3.go w s) ((s1.tr s2).tr s3)⟩
        · exact q4.elim
      · exact q4.elim
    | _ => exact q3.elim

/-! ### walks over texts, zip, enumerate -/
def signs (x : Str) : List D := x.cps.toList.map fun c => .str ⟨#[c]⟩
theorem di_str {tg : Expr} (he : DE X B e fa) : DI X B tg e (fun r M Ψ => fa r M fun d M1 => match d with | .str x => Ψ (signs x) (fun _ => True) M1 | _ => False) := PI_imp (pi_str he) fun σ H Q ⟨r, M, G, Ψ, R, h, k⟩ => by
  refine ⟨r, M, G, _, R, h, fun d M1 v H1 G1 q R1 s1 p => ?_⟩
  cases p with
  | @str x =>
    refine ⟨x, rfl, k _ _ _ _ _ _ q R1 s1 fun i r2 M2 σ2 H2 G2 R2 t2 _ => ?_⟩
    have hl : (signs x).length = x.cps.size := by unfold signs; rw [List.length_map, Array.length_toList]
    rw [hl]
    refine ⟨fun hi => ⟨hi, fun y H' ⟨e1, c, e2, e3⟩ => ?_⟩, fun hi => hi⟩
    subst e1 e3
    refine ⟨G2, _, Grow.refl R2.wd.sub, ?_, .str⟩
    unfold signs
    rw [List.getElem?_map, Array.getElem?_toList, e2]; rfl
  | _ => exact q.elim
def zipD (xs ys : List D) : List D := (xs.zip ys).map fun p => .tup [p.1, p.2]
theorem yld_pair {K : PySem.W.Frag} {r : En} {M : Sto} {σ : L2.St} {H G : Hp} {T : Addr} {x y : V} {c d : D} (R : Rel K B r M σ H G) (hT : H T = none) (p1 : Rep K G c x) (p2 : Rep K G d y) :
    Grow H G (upd H T (.tup [x, y])) (upd G T (.tup [x, y])) ∧ Rep K (upd G T (.tup [x, y])) (.tup [c, d]) (.ref T) := by
  have g := grow_upd (o := .tup [x, y]) R.wd.sub hT
  exact ⟨g, .tup (SqT.of upd_same) (.cons (p1.mono g.gsub) (.cons (p2.mono g.gsub) .nil))⟩
theorem zip_get {xs ys : List D} {i : Nat} {x y : D} (h1 : xs[i]? = some x) (h2 : ys[i]? = some y) : (zipD xs ys)[i]? = some (.tup [x, y]) := by
  unfold zipD
  rw [List.getElem?_map, List.getElem?_zip_eq_some (z := (x, y)) |>.mpr ⟨h1, h2⟩]; rfl
theorem di_zip {e2 : Expr} {p tpos : Pos} {elts : List Expr} {kk : Nat} (hm : X.mg "zip" = none) (ha : DA X B [e, e2] ga) (hg : Gl X "zip" := by rfl) (hs : starEach [e, e2] X.env = (false, eval e X.env) :: starEach [e2] X.env := by rfl) (hpl : (backTo pos (starEach [e2] X.env)).any (·.1) = false := by rfl) :
    DI X B (.Tuple elts kk tpos) (.Call (.Name "zip" p) [e, e2] [] pos) (fun r M Ψ => ga r M fun ds M1 => match ds with
      | [.tup xs, .tup ys] => Ψ (zipD xs ys) (fun _ => True) M1
      | [x, y] => ∃ xs ys, lstOf M1 x = some xs ∧ lstOf M1 y = some ys ∧ Ψ (zipD xs ys) (fun M => lstOf M x = some xs ∧ lstOf M y = some ys) M1
      | _ => False) := PI_imp (RZ.pi_zipA hg hm ha hs hpl) fun σ H Q ⟨r, M, G, Ψ, R, h, k⟩ => by
  refine ⟨r, M, G, _, R, h, fun ds M1 vs H1 G1 q R1 s1 p => ?_⟩
  split at q
  · rename_i xs ys
    cases p with
    | cons p1 p => cases p with
      | cons p2 p =>
        cases p
        obtain ⟨a, us, rfl, h1, r1⟩ := tup_rep R1.wd p1 (l := xs) rfl
        obtain ⟨b, ws, rfl, h2, r2⟩ := tup_rep R1.wd p2 (l := ys) rfl
        refine ⟨a, b, us, ws, rfl, .inr ⟨h1, h2, k _ _ _ _ _ _ q R1 s1 fun i r3 M3 σ3 H3 G3 R3 t3 _ => ?_⟩⟩
        obtain ⟨a', us', ea, h1', r1'⟩ := tup_rep R3.wd (p1.mono t3) (l := xs) rfl
        obtain ⟨b', ws', eb, h2', r2'⟩ := tup_rep R3.wd (p2.mono t3) (l := ys) rfl
        cases ea; cases eb
        have l1 := r1'.length
        have l2 := r2'.length
        have hz : (zipD xs ys).length = min xs.length ys.length := by unfold zipD; rw [List.length_map, List.length_zip]
        rw [hz]
        refine ⟨fun hi => ?_, fun hi => ⟨us', ws', h1', h2', by omega⟩⟩
        have i1 : i < xs.length := by omega
        have i2 : i < ys.length := by omega
        obtain ⟨x, hx, px⟩ := r1'.get (i := i) (d := xs[i]) (by simp [i1])
        obtain ⟨y, hy, py⟩ := r2'.get (i := i) (d := ys[i]) (by simp [i2])
        refine ⟨⟨us', ws', x, y, h1', h2', hx, hy⟩, fun v H' ⟨T, x', y', e1, hT, e2, f1, f2⟩ => ?_⟩
        subst e1 e2
        have z1 := f1 us' h1'
        have z2 := f2 ws' h2'
        rw [hx] at z1; rw [hy] at z2
        cases z1; cases z2
        obtain ⟨w1, w3⟩ := yld_pair R3 hT px py
        exact ⟨_, _, w1, zip_get (by simp [i1]) (by simp [i2]), w3⟩
  · rename_i x0 y0 _
    obtain ⟨xs, ys, e1, e2, q⟩ := q
    cases p with
    | cons p1 p => cases p with
      | cons p2 p =>
        cases p
        obtain ⟨a, us, rfl, h1, r1⟩ := lst_rep' R1.wd p1 e1
        obtain ⟨b, ws, rfl, h2, r2⟩ := lst_rep' R1.wd p2 e2
        refine ⟨a, b, us, ws, rfl, .inl ⟨h1, h2, k _ _ _ _ _ _ q R1 s1 fun i r3 M3 σ3 H3 G3 R3 t3 hS => ?_⟩⟩
        obtain ⟨a', us', ea, h1', r1'⟩ := lst_rep' R3.wd (p1.mono t3) hS.1
        obtain ⟨b', ws', eb, h2', r2'⟩ := lst_rep' R3.wd (p2.mono t3) hS.2
        cases ea; cases eb
        have l1 := r1'.length
        have l2 := r2'.length
        have hz : (zipD xs ys).length = min xs.length ys.length := by unfold zipD; rw [List.length_map, List.length_zip]
        rw [hz]
        refine ⟨fun hi => ?_, fun hi => ⟨us', ws', h1', h2', by omega⟩⟩
        have i1 : i < xs.length := by omega
        have i2 : i < ys.length := by omega
        obtain ⟨x, hx, px⟩ := r1'.get (i := i) (d := xs[i]) (by simp [i1])
        obtain ⟨y, hy, py⟩ := r2'.get (i := i) (d := ys[i]) (by simp [i2])
        refine ⟨⟨us', ws', x, y, h1', h2', hx, hy⟩, fun v H' ⟨T, x', y', e1, hT, e2, f1, f2⟩ => ?_⟩
        subst e1 e2
        have z1 := f1 us' h1'
        have z2 := f2 ws' h2'
        rw [hx] at z1; rw [hy] at z2
        cases z1; cases z2
        obtain ⟨w1, w3⟩ := yld_pair R3 hT px py
        exact ⟨_, _, w1, zip_get (by simp [i1]) (by simp [i2]), w3⟩
  · exact q.elim
def enumD (xs : List D) : List D := zipD (rngD 0 xs.length) xs
theorem di_enum {p tpos : Pos} {elts : List Expr} {kk : Nat} (hm : X.mg "enumerate" = none) (ha : DA X B [e] ga) (hg : Gl X "enumerate" := by rfl) (hs : starEach [e] X.env = [(false, eval e X.env)] := by rfl) :
    DI X B (.Tuple elts kk tpos) (.Call (.Name "enumerate" p) [e] [] pos) (fun r M Ψ => ga r M fun ds M1 => match ds with
      | [x] => ∃ xs, lstOf M1 x = some xs ∧ Ψ (enumD xs) (fun M => lstOf M x = some xs) M1
      | _ => False) := PI_imp (pi_enum hg hm ha hs) fun σ H Q ⟨r, M, G, Ψ, R, h, k⟩ => by
  refine ⟨r, M, G, _, R, h, fun ds M1 vs H1 G1 q R1 s1 p => ?_⟩
  split at q
  · rename_i x0
    obtain ⟨xs, e1, q⟩ := q
    cases p with
    | cons p1 p =>
      cases p
      obtain ⟨a, us, rfl, h1, r1⟩ := lst_rep' R1.wd p1 e1
      refine ⟨a, us, rfl, h1, k _ _ _ _ _ _ q R1 s1 fun i r3 M3 σ3 H3 G3 R3 t3 hS => ?_⟩
      obtain ⟨a', us', ea, h1', r1'⟩ := lst_rep' R3.wd (p1.mono t3) hS
      cases ea
      have l1 := r1'.length
      have hz : (enumD xs).length = xs.length := by unfold enumD zipD; rw [List.length_map, List.length_zip, rng_len]; omega
      rw [hz]
      refine ⟨fun hi => ?_, fun hi => ⟨us', h1', by omega⟩⟩
      obtain ⟨x, hx, px⟩ := r1'.get (i := i) (d := xs[i]) (by simp [hi])
      refine ⟨⟨us', x, h1', hx⟩, fun v H' ⟨T, x', e1, hT, e2, f1⟩ => ?_⟩
      subst e1 e2
      have z1 := f1 us' h1'
      rw [hx] at z1
      cases z1
      obtain ⟨w1, w3⟩ := yld_pair (c := .int (i : Nat)) R3 hT .int px
      exact ⟨_, _, w1, zip_get (by rw [rng_get hi, Int.zero_add]) (by simp [hi]), w3⟩
  · exact q.elim
end
end Z
namespace Z
open PySem PySem.Spec PyProof.Rows L2

/-! ### comprehensions -/
theorem wipe_get {σ : L2.St} {j : Nat} : ∀ {vs : List Nat}, (wipe σ vs)[j]? = if j ∈ vs then (σ[j]?).map (fun _ => none) else σ[j]?
  | [] => by simp [wipe]
  | v :: vs => by
    unfold wipe
    have ih := @wipe_get σ j vs
    by_cases hv : v = j
    · subst hv
      rw [if_pos List.mem_cons_self]
      by_cases hl : v < (wipe σ vs).length
      · rw [List.getElem?_set_self hl]
        rw [wipe_length] at hl
        rw [List.getElem?_eq_getElem hl]; rfl
      · rw [List.getElem?_eq_none (by simpa using hl)]
        rw [wipe_length] at hl
        rw [List.getElem?_eq_none (by omega)]; rfl
    · rw [List.getElem?_set_ne hv, ih]
      have e : (j ∈ v :: vs) ↔ j ∈ vs := by
        rw [List.mem_cons]
        exact ⟨fun z => z.resolve_left fun q => hv q.symm, .inr⟩
      by_cases hm : j ∈ vs
      · rw [if_pos hm, if_pos (e.mpr hm)]
      · rw [if_neg hm, if_neg fun z => hm (e.mp z)]
theorem wipe_set {σ : L2.St} {i : Nat} {o : Option V} {vs : List Nat} (h : i ∈ vs) : wipe (σ.set i o) vs = wipe σ vs := by
  apply List.ext_getElem?
  intro j
  rw [wipe_get, wipe_get]
  by_cases hj : j ∈ vs
  · rw [if_pos hj, if_pos hj]
    by_cases hij : i = j
    · subst hij
      by_cases hl : i < σ.length
      · rw [List.getElem?_set_self hl, List.getElem?_eq_getElem hl]; rfl
      · rw [List.getElem?_eq_none (by simpa using hl), List.getElem?_eq_none (by omega)]
    · rw [List.getElem?_set_ne hij]
  · rw [if_neg hj, if_neg hj]
    exact List.getElem?_set_ne fun e => hj (by rw [← e]; exact h)
theorem wipe_wipe {σ : L2.St} {vs : List Nat} : wipe (wipe σ vs) vs = wipe σ vs := by
  apply List.ext_getElem?
  intro j
  rw [wipe_get]
  by_cases hj : j ∈ vs
  · rw [if_pos hj, wipe_get, if_pos hj]
    cases σ[j]? <;> rfl
  · rw [if_neg hj]
def wipeD (r : En) : List Nat → En
  | [] => r
  | v :: vs => (wipeD r vs).set v none
theorem Rel.wipe {K : PySem.W.Frag} {B : Bs} {r : En} {M : Sto} {σ : L2.St} {H G : Hp} (R : Rel K B r M σ H G) : ∀ vs : List Nat, Rel K B (wipeD r vs) M (L2.wipe σ vs) H G
  | [] => R
  | v :: vs => (R.wipe vs).unset v none
/-- how a target takes an item -/
def TgOk (K : PySem.W.Frag) (vs : List Nat) (g : TG) (as : D → En → (En → Prop) → Prop) : Prop := ∀ (B : Bs) (d : D) (v : V) (r : En) (M : Sto) (σ : L2.St) (H G : Hp) (Ψ : En → Prop) (Q : L2.St → Hp → Prop), Rel K B r M σ H G → Rep K G d v → as d r Ψ →
  (∀ r' σ', Ψ r' → Rel K B r' M σ' H G → L2.wipe σ' vs = L2.wipe σ vs → Q σ' H) → g v σ H Q
def asN (i : Nat) : D → En → (En → Prop) → Prop := fun d r Ψ => Ψ (r.set i (some d))
theorem tg_name {K : PySem.W.Frag} {vs : List Nat} {i : Nat} (h : i ∈ vs) : TgOk K vs (gName i) (asN i) := fun B d v r M σ H G Ψ Q R p a k => k _ _ a (R.set p i) (wipe_set h)
def asT2 (i j : Nat) : D → En → (En → Prop) → Prop := fun d r Ψ => match d with
  | .tup [a, b] => Ψ ((r.set i (some a)).set j (some b))
  | _ => False
theorem tg_tup2 {K : PySem.W.Frag} {vs : List Nat} {i j : Nat} (h : i ∈ vs) (h' : j ∈ vs) : TgOk K vs (gTup K 2 (gCons (gName i) (gCons (gName j) gNil))) (asT2 i j) := fun B d v r M σ H G Ψ Q R p a k => by
  unfold asT2 at a
  split at a
  · rename_i x y
    obtain ⟨t, us, rfl, h1, r1⟩ := tup_rep R.wd p rfl
    cases r1 with
    | cons r1 r2 => cases r2 with
      | cons r2 r3 =>
        cases r3
        exact ⟨t, _, rfl, h1, rfl, _, _, rfl, _, _, rfl, rfl, k _ _ a ((R.set r1 i).set r2 j) (by rw [wipe_set h', wipe_set h])⟩
  · exact a.elim
def asT3 (i j l : Nat) : D → En → (En → Prop) → Prop := fun d r Ψ => match d with
  | .tup [a, b, c] => Ψ (((r.set i (some a)).set j (some b)).set l (some c))
  | _ => False
theorem tg_tup3 {K : PySem.W.Frag} {vs : List Nat} {i j l : Nat} (h : i ∈ vs) (h' : j ∈ vs) (h'' : l ∈ vs) : TgOk K vs (gTup K 3 (gCons (gName i) (gCons (gName j) (gCons (gName l) gNil)))) (asT3 i j l) := fun B d v r M σ H G Ψ Q R p a k => by
  unfold asT3 at a
  split at a
  · rename_i x y
    obtain ⟨t, us, rfl, h1, r1⟩ := tup_rep R.wd p rfl
    cases r1 with
    | cons r1 r2 => cases r2 with
      | cons r2 r3 => cases r3 with
        | cons r3 r4 =>
          cases r4
          exact ⟨t, _, rfl, h1, rfl, _, _, rfl, _, _, rfl, _, _, rfl, rfl, k _ _ a (((R.set r1 i).set r2 j).set r3 l) (by rw [wipe_set h'', wipe_set h', wipe_set h])⟩
  · exact a.elim
def liftAny (K : PySem.W.Frag) (f : DTE) : TE := fun σ H Q => ∃ B, lift K B f σ H Q
def liftTAny (K : PySem.W.Frag) (f : DTT) : TT := fun σ H Q => ∃ B, liftT K B f σ H Q
/-- an object of no concern is written -/
theorem Rel.poke {K : PySem.W.Frag} {B : Bs} {r : En} {M : Sto} {σ : L2.St} {H G : Hp} {p : Addr} {xs ys : List V} (R : Rel K B r M σ H G) (hp : H p = some (.lst xs)) (h0 : B.H p = none) (hM : M p = none) (hG : G p = none) : Rel K B r M σ (upd H p (.lst ys)) G where
  wd := ⟨fun a o e => by rw [upd_ne (by intro z; rw [z, hG] at e; cases e)]; exact R.wd.sub _ _ e, fun a c e => by
    obtain ⟨h1, h2⟩ := R.wd.cells a c e
    exact ⟨h1, h2.move Sub.rfl' fun o z => by rw [upd_ne (by intro q; rw [q, hM] at e; cases e)]; exact z⟩⟩
  len := R.len
  slots := R.slots
  sin := ⟨fun a o h n => by rw [upd_ne (by intro z; rw [z, h0] at h; cases h)]; exact R.sin.keep a o h n, fun a h => by rw [upd_ne (by intro z; rw [z, h0] at h; exact h rfl)]; exact R.sin.stay a h, R.sin.gsub, R.sin.gnew, R.sin.mnew⟩
@[irreducible] def compD (vs : List Nat) (wi : DTI) (as : D → En → (En → Prop) → Prop) (tt : DTT) (fe : DTE) (r : En) (M : Sto) (Φ : List D → Sto → Prop) : Prop := wi r M fun xs S M1 => ∃ Iv : Nat → List D → Sto → Prop, Iv 0 [] M1 ∧ (∀ i acc M, Iv i acc M → S M) ∧
  (∀ i d acc M, xs[i]? = some d → Iv i acc M → as d (wipeD r vs) fun r2 => tt r2 M fun b M3 => if b = true then fe r2 M3 fun y M4 => acc.length < sizeLine ∧ Iv (i + 1) (acc ++ [y]) M4 else Iv (i + 1) acc M3) ∧ ∀ acc M, Iv xs.length acc M → Φ acc M
section
variable {X : Cx} {B : Bs} {pos apos p2 : Pos} {e o : Expr} {es : List Expr} {fa fe : DTE} {tt : DTT} {ga : DTA} {k : Nat}
theorem comp_core {vs : List Nat} {wi : DTI} {g : TG} {as : D → En → (En → Prop) → Prop} (tg : TgOk X.K vs g as) {σ : L2.St} {H : Hp} {Q : VK} {r : En} {M : Sto} {G : Hp} {Φ : List D → Sto → Prop} (R : Rel X.K B r M σ H G) (h : compD vs wi as tt fe r M Φ)
    (hQ : ∀ acc M' H' G' D us, Φ acc M' → Rel X.K B r M' σ H' G' → Sub G G' → H' D = some (.lst us) → RepL X.K G' acc us → B.H D = none → M' D = none → G' D = none → Q (.ref D) H') : tLc (liftI X.K B wi) g (liftTAny X.K tt) (liftAny X.K fe) vs σ H Q := by
  unfold compD at h
  refine ⟨r, M, G, _, R, h, fun xs S M1 J H1 G1 ⟨Iv, i0, hS, turn, fin⟩ R1 s1 y => fun D hD => ?_⟩
  have bD : B.H D = none := by
    cases q : B.H D with
    | none => rfl
    | some o => exact absurd hD (R1.sin.stay D (by rw [q]; simp))
  have gD : G1 D = none := by
    cases q : G1 D with
    | none => rfl
    | some u => rw [R1.wd.sub _ _ q] at hD; cases hD
  have mD := R1.wd.nomem hD
  have R1' : Rel X.K B r M1 σ (upd H1 D (.lst [])) G1 := by
    refine R1.go ⟨fun a o e => by rw [upd_ne (ne_of_none (R1.wd.sub _ _ e) hD)]; exact R1.wd.sub _ _ e, fun a c e => ?_⟩ ⟨fun a o h _ => by rw [upd_ne (ne_of_none h hD)]; exact h, fun a h => ?_, Sub.rfl', fun a h n => absurd n h, fun a h n => absurd n h⟩
    · obtain ⟨h1, h2⟩ := R1.wd.cells a c e
      exact ⟨h1, h2.move Sub.rfl' fun o z => by rw [upd_ne (ne_of_none z hD)]; exact z⟩
    · by_cases z : a = D
      · rw [z, upd_same]; simp
      · rw [upd_ne z]; exact h
  refine ⟨fun i m H => ∃ acc us M G2, Rel X.K B r M σ H G2 ∧ Sub G1 G2 ∧ H D = some (.lst us) ∧ RepL X.K G2 acc us ∧ M D = none ∧ G2 D = none ∧ Iv i acc M ∧ i ≤ xs.length ∧ m = xs.length - i, ⟨_, [], [], M1, G1, R1', Sub.rfl', upd_same, .nil, mD, gD, i0, Nat.zero_le _, rfl⟩, ?_⟩
  rintro i m H2 ⟨acc, us, M2, G2, R2, s2, hL, rl, mD2, gD2, i2, hi, rfl⟩
  obtain ⟨y1, y2⟩ := y i r M2 σ H2 G2 R2 s2 (hS _ _ _ i2)
  by_cases hl : i < xs.length
  · obtain ⟨y3, y4⟩ := y1 hl
    refine .inr ⟨y3, fun H => ∃ acc us M G2, Rel X.K B r M σ H G2 ∧ Sub G1 G2 ∧ H D = some (.lst us) ∧ RepL X.K G2 acc us ∧ M D = none ∧ G2 D = none ∧ Iv (i + 1) acc M, fun H ⟨acc, us, M, G2, a1, a2, a3, a4, a5, a6, a7⟩ => ⟨_, by omega, acc, us, M, G2, a1, a2, a3, a4, a5, a6, a7, hl, rfl⟩, fun x H3 hy => ?_⟩
    -- the item has come: the list is what it was
    obtain ⟨G3, d, g3, hd, p⟩ := y4 x H3 hy
    have R3 := R2.grow g3
    have hL3 := g3.same _ _ hL
    have mem_free : ∀ {H' G' : Hp}, Grow H2 G2 H' G' → G' D = none := fun {H' G'} g => by
      cases q : G' D with
      | none => rfl
      | some u => have z := g.gnew D (by rw [q]; simp) gD2; rw [hL] at z; cases z
    have gD3 := mem_free g3
    -- the base of this turn
    have Rw := R3.wipe vs
    have Ri : Rel X.K ⟨H3, G3, M2⟩ (wipeD r vs) M2 (L2.wipe σ vs) H3 G3 := ⟨Rw.wd, Rw.len, Rw.slots, Since.refl⟩
    have back : ∀ {r' : En} {M' : Sto} {σ' : L2.St} {H' G' : Hp}, Rel X.K ⟨H3, G3, M2⟩ r' M' σ' H' G' → Rel X.K B r M' σ H' G' ∧ Sub G3 G' ∧ H' D = some (.lst us) ∧ M' D = none ∧ G' D = none := fun {r' M' σ' H' G'} R' => by
      refine ⟨R3.go R'.wd R'.sin, R'.sin.gsub, R'.sin.keep D _ hL3 mD2, ?_, ?_⟩
      · cases q : M' D with
        | none => rfl
        | some c => have z := R'.sin.mnew D (by rw [q]; simp) mD2; rw [show (⟨H3, G3, M2⟩ : Bs).H D = H3 D from rfl, hL3] at z; cases z
      · cases q : G' D with
        | none => rfl
        | some c => have z := R'.sin.gnew D (by rw [q]; simp) gD3; rw [show (⟨H3, G3, M2⟩ : Bs).H D = H3 D from rfl, hL3] at z; cases z
    refine tg ⟨H3, G3, M2⟩ d x (wipeD r vs) M2 (L2.wipe σ vs) H3 G3 _ _ Ri p (turn i d acc M2 hd i2) fun r' σ' q' R' hw => ⟨by rw [hw, wipe_wipe], ⟨H3, G3, M2⟩, r', M2, G3, _, R', q', fun b M4 H4 G4 q4 R4 s4 => ?_⟩
    cases b with
    | false =>
      obtain ⟨b1, b2, b3, b4, b5⟩ := back R4
      exact ⟨acc, us, M4, G4, b1, (s2.tr g3.gsub).tr b2, b3, (rl.mono g3.gsub).mono b2, b4, b5, q4⟩
    | true =>
      refine ⟨⟨H3, G3, M2⟩, r', M4, G4, _, R4, q4, fun y M5 v H5 G5 ⟨z5, q5⟩ R5 s5 p5 => ?_⟩
      obtain ⟨b1, b2, b3, b4, b5⟩ := back R5
      have rl5 := (rl.mono g3.gsub).mono b2
      exact ⟨us, b3, by rw [← rl.length]; exact z5, acc ++ [y], us ++ [v], M5, G5, b1.poke b3 bD b4 b5, (s2.tr g3.gsub).tr b2, upd_same, rl5.app (.cons p5 .nil), b4, b5, q5⟩
  · have e : i = xs.length := by omega
    subst e
    exact .inl ⟨y2 (Nat.le_refl _), hQ _ _ _ _ _ _ (fin _ _ i2) R2 (s1.tr s2) hL rl bD mD2 gD2⟩
/-- .. handed on as a list that will not change -/
theorem frz_list {K : PySem.W.Frag} {r : En} {M : Sto} {σ : L2.St} {H G : Hp} {p : Addr} {us : List V} {acc : List D} (R : Rel K B r M σ H G) (hp : H p = some (.lst us)) (rl : RepL K G acc us) (h0 : B.H p = none) (hM : M p = none) (hG : G p = none) :
    Rel K B r M σ H (upd G p (.lst us)) ∧ Sub G (upd G p (.lst us)) ∧ Rep K (upd G p (.lst us)) (.lst acc) (.ref p) := by
  have s : Sub G (upd G p (.lst us)) := fun a o e => by rw [upd_ne (by intro z; rw [z, hG] at e; cases e)]; exact e
  refine ⟨⟨⟨fun a o e => ?_, fun a c e => ?_⟩, R.len, fun i d e => let ⟨v, h1, h2⟩ := R.slots i d e; ⟨v, h1, h2.mono s⟩, ⟨R.sin.keep, R.sin.stay, R.sin.gsub.tr s, fun a h n => ?_, R.sin.mnew⟩⟩, s, .lst (.inl upd_same) (rl.mono s)⟩
  · by_cases z : a = p
    · rw [z, upd_same] at e; cases e; rw [z]; exact hp
    · rw [upd_ne z] at e; exact R.wd.sub _ _ e
  · obtain ⟨h1, h2⟩ := R.wd.cells a c e
    refine ⟨?_, h2.move s fun _ z => z⟩
    rw [upd_ne (by intro z; rw [z, hM] at e; cases e)]; exact h1
  · by_cases z : a = p
    · rw [z]; exact h0
    · rw [upd_ne z] at h; exact R.sin.gnew a h n
/-- .. as one that may change -/
theorem mut_list {K : PySem.W.Frag} {r : En} {M : Sto} {σ : L2.St} {H G : Hp} {p : Addr} {us : List V} {acc : List D} (R : Rel K B r M σ H G) (hp : H p = some (.lst us)) (rl : RepL K G acc us) (h0 : B.H p = none) (hM : M p = none) (hG : G p = none) :
    Rel K B r (updM M p (.lst acc)) σ H G := by
  refine ⟨⟨R.wd.sub, fun a c e => ?_⟩, R.len, R.slots, ⟨R.sin.keep, R.sin.stay, R.sin.gsub, R.sin.gnew, fun a h n => ?_⟩⟩
  · by_cases z : a = p
    · subst z; rw [updM_same] at e; cases e; exact ⟨hG, us, hp, rl⟩
    · rw [updM_ne z] at e; exact R.wd.cells a c e
  · by_cases z : a = p
    · rw [z]; exact h0
    · rw [updM_ne z] at h; exact R.sin.mnew a h n
theorem de_lc {elt tg iter : Expr} {ifs : List Expr} {scope : Scope} {own : List (Str × Nat)} {wi : DTI} {g : TG} {as : D → En → (En → Prop) → Prop} (hc : X.calm = true) (hN : X.N.Nodup) (hi : DI X B tg iter wi) (ok : BlkOk X.N X.env.scope scope own) (tgk : TgOk X.K (own.map (·.2)) g as)
    (hg : ∀ (s : Shared) (H : Hp) (C : Addr) (cl : List (Str × Addr)) (fp : List Addr), PG (X.blk s H scope (compEnvC scope cl C X.env) fp) tg g)
    (ht : ∀ (B : Bs) (s : Shared) (H : Hp) (C : Addr) (cl : List (Str × Addr)) (fp : List Addr), PTs (X.blk s H scope (compEnvC scope cl C X.env) fp) ifs (liftT X.K B tt))
    (he : ∀ (B : Bs) (s : Shared) (H : Hp) (C : Addr) (cl : List (Str × Addr)) (fp : List Addr), PE (X.blk s H scope (compEnvC scope cl C X.env) fp) elt (lift X.K B fe)) (hs : ∀ x, foldedSetIterable iter X.env x = pure x := by intro _; rfl) :
    DE X B (.ListComp elt [⟨tg, iter, ifs, 0⟩] scope pos) (fun r M Ψ => compD (own.map (·.2)) wi as tt fe r M fun acc M' => Ψ (.lst acc) M') :=
  PE_imp (pe_lc hc hN hi ok hg (fun s H C cl fp => ⟨fun pins s1 σ H1 Q I ⟨B', q⟩ => (ht B' s H C cl fp).run pins s1 σ H1 Q I q⟩) (fun s H C cl fp => ⟨fun pins s1 σ H1 Q I ⟨B', q⟩ => (he B' s H C cl fp).run pins s1 σ H1 Q I q⟩) hs) fun σ H Q ⟨r, M, G, Ψ, R, h, k⟩ =>
    comp_core tgk R h fun acc M' H' G' D us q R' s hL rl h0 hM hG => by
      obtain ⟨a1, a2, a3⟩ := frz_list R' hL rl h0 hM hG
      exact k _ _ _ _ _ q a1 (s.tr a2) a3
theorem de_lcM {elt tg iter : Expr} {ifs : List Expr} {scope : Scope} {own : List (Str × Nat)} {wi : DTI} {g : TG} {as : D → En → (En → Prop) → Prop} (hc : X.calm = true) (hN : X.N.Nodup) (hi : DI X B tg iter wi) (ok : BlkOk X.N X.env.scope scope own) (tgk : TgOk X.K (own.map (·.2)) g as)
    (hg : ∀ (s : Shared) (H : Hp) (C : Addr) (cl : List (Str × Addr)) (fp : List Addr), PG (X.blk s H scope (compEnvC scope cl C X.env) fp) tg g)
    (ht : ∀ (B : Bs) (s : Shared) (H : Hp) (C : Addr) (cl : List (Str × Addr)) (fp : List Addr), PTs (X.blk s H scope (compEnvC scope cl C X.env) fp) ifs (liftT X.K B tt))
    (he : ∀ (B : Bs) (s : Shared) (H : Hp) (C : Addr) (cl : List (Str × Addr)) (fp : List Addr), PE (X.blk s H scope (compEnvC scope cl C X.env) fp) elt (lift X.K B fe)) (hs : ∀ x, foldedSetIterable iter X.env x = pure x := by intro _; rfl) :
    DE X B (.ListComp elt [⟨tg, iter, ifs, 0⟩] scope pos) (fun r M Ψ => compD (own.map (·.2)) wi as tt fe r M fun acc M' => ∀ p, M' p = none → Ψ (.ref p) (updM M' p (.lst acc))) :=
  PE_imp (pe_lc hc hN hi ok hg (fun s H C cl fp => ⟨fun pins s1 σ H1 Q I ⟨B', q⟩ => (ht B' s H C cl fp).run pins s1 σ H1 Q I q⟩) (fun s H C cl fp => ⟨fun pins s1 σ H1 Q I ⟨B', q⟩ => (he B' s H C cl fp).run pins s1 σ H1 Q I q⟩) hs) fun σ H Q ⟨r, M, G, Ψ, R, h, k⟩ =>
    comp_core tgk R h fun acc M' H' G' D us q R' s hL rl h0 hM hG => k _ _ _ _ _ (q D hM) (mut_list R' hL rl h0 hM hG) s .ref
/-- y = [..] on one line -/
theorem ds_setLc {i : Nat} {y : Str} {py spos : Pos} {elt tg iter : Expr} {ifs : List Expr} {scope : Scope} {own : List (Str × Nat)} {wi : DTI} {g : TG} {as : D → En → (En → Prop) → Prop} (hc : X.calm = true) (hN : X.N.Nodup) (hsw : swapsWith (.ListComp elt [⟨tg, iter, ifs, 0⟩] scope pos) (some (.Name y py)) spos.line X.env = pure true) (hi : DI X B tg iter wi) (ok : BlkOk X.N X.env.scope scope own) (tgk : TgOk X.K (own.map (·.2)) g as)
    (hg : ∀ (s : Shared) (H : Hp) (C : Addr) (cl : List (Str × Addr)) (fp : List Addr), PG (X.blk s H scope (compEnvC scope cl C X.env) fp) tg g)
    (ht : ∀ (B : Bs) (s : Shared) (H : Hp) (C : Addr) (cl : List (Str × Addr)) (fp : List Addr), PTs (X.blk s H scope (compEnvC scope cl C X.env) fp) ifs (liftT X.K B tt))
    (he : ∀ (B : Bs) (s : Shared) (H : Hp) (C : Addr) (cl : List (Str × Addr)) (fp : List Addr), PE (X.blk s H scope (compEnvC scope cl C X.env) fp) elt (lift X.K B fe)) (hs : ∀ x, foldedSetIterable iter X.env x = pure x := by intro _; rfl) (hy : X.N[i]? = some y := by rfl) (hyl : X.env.scope.names.lookup y = some .local := by rfl) :
    DS X B (.Assign [.Name y py] (.ListComp elt [⟨tg, iter, ifs, 0⟩] scope pos) spos) (fun E r M => compD (own.map (·.2)) wi as tt fe r M fun acc M' => E.nx (r.set i (some (.lst acc))) M') :=
  PS_imp (ps_setLc (tt := liftTAny X.K tt) (te := liftAny X.K fe) hc hN hy hyl hsw hi ok hg (fun s H C cl fp => ⟨fun pins s1 σ H1 Q I ⟨B', q⟩ => (ht B' s H C cl fp).run pins s1 σ H1 Q I q⟩) (fun s H C cl fp => ⟨fun pins s1 σ H1 Q I ⟨B', q⟩ => (he B' s H C cl fp).run pins s1 σ H1 Q I q⟩) hs) fun D' σ H h => by
    obtain ⟨r, M, G, E, R, h, k⟩ := EkOk.of h
    refine comp_core tgk R h fun acc M' H' G' D us q R' s hL rl h0 hM hG => ?_
    obtain ⟨a1, a2, a3⟩ := frz_list R' hL rl h0 hM hG
    exact k.nx _ _ _ _ _ q (a1.set a3 i) (s.tr a2)
theorem ds_setLcM {i : Nat} {y : Str} {py spos : Pos} {elt tg iter : Expr} {ifs : List Expr} {scope : Scope} {own : List (Str × Nat)} {wi : DTI} {g : TG} {as : D → En → (En → Prop) → Prop} (hc : X.calm = true) (hN : X.N.Nodup) (hsw : swapsWith (.ListComp elt [⟨tg, iter, ifs, 0⟩] scope pos) (some (.Name y py)) spos.line X.env = pure true) (hi : DI X B tg iter wi) (ok : BlkOk X.N X.env.scope scope own) (tgk : TgOk X.K (own.map (·.2)) g as)
    (hg : ∀ (s : Shared) (H : Hp) (C : Addr) (cl : List (Str × Addr)) (fp : List Addr), PG (X.blk s H scope (compEnvC scope cl C X.env) fp) tg g)
    (ht : ∀ (B : Bs) (s : Shared) (H : Hp) (C : Addr) (cl : List (Str × Addr)) (fp : List Addr), PTs (X.blk s H scope (compEnvC scope cl C X.env) fp) ifs (liftT X.K B tt))
    (he : ∀ (B : Bs) (s : Shared) (H : Hp) (C : Addr) (cl : List (Str × Addr)) (fp : List Addr), PE (X.blk s H scope (compEnvC scope cl C X.env) fp) elt (lift X.K B fe)) (hs : ∀ x, foldedSetIterable iter X.env x = pure x := by intro _; rfl) (hy : X.N[i]? = some y := by rfl) (hyl : X.env.scope.names.lookup y = some .local := by rfl) :
    DS X B (.Assign [.Name y py] (.ListComp elt [⟨tg, iter, ifs, 0⟩] scope pos) spos) (fun E r M => compD (own.map (·.2)) wi as tt fe r M fun acc M' => ∀ p, M' p = none → E.nx (r.set i (some (.ref p))) (updM M' p (.lst acc))) :=
  PS_imp (ps_setLc (tt := liftTAny X.K tt) (te := liftAny X.K fe) hc hN hy hyl hsw hi ok hg (fun s H C cl fp => ⟨fun pins s1 σ H1 Q I ⟨B', q⟩ => (ht B' s H C cl fp).run pins s1 σ H1 Q I q⟩) (fun s H C cl fp => ⟨fun pins s1 σ H1 Q I ⟨B', q⟩ => (he B' s H C cl fp).run pins s1 σ H1 Q I q⟩) hs) fun D' σ H h => by
    obtain ⟨r, M, G, E, R, h, k⟩ := EkOk.of h
    exact comp_core tgk R h fun acc M' H' G' D us q R' s hL rl h0 hM hG => k.nx _ _ _ _ _ (q D hM) ((mut_list R' hL rl h0 hM hG).set .ref i) s
/-! tests of a comprehension -/
theorem dts_nil : PTs X [] (liftT X.K B fun _ M Ψ => Ψ true M) := ⟨fun pins s σ H Q I ⟨r, M, G, Ψ, R, h, k⟩ => pts_nil.run pins s σ H Q I (k _ _ _ _ h R Sub.rfl')⟩
theorem dts_one {c : Expr} {ta : DTT} (h : DT X B c ta) : PTs X [c] (liftT X.K B ta) := pts_one h
end
end Z
namespace Z
open PySem PySem.Spec PyProof.Rows L2

/-! ### own exception classes: an __init__ that stores a tag, and one field or none -/
/-- what an __init__ leaves of a fresh exception -/
def spX (C : Addr) (n : Nat) (g : List V → List (Str × V)) : Sp := fun vs H Q _ => vs.length = n + 1 ∧ ∃ a ws, vs = .ref a :: ws ∧ H a = some (exo a C none) ∧
  ∀ dx H', H dx = none → dx ≠ a → H' a = some (exo a C (some dx)) → H' dx = some (exd dx (g ws)) → (∀ b, b ≠ a → b ≠ dx → H' b = H b) → Q .non H'
section
variable {P : Program} {w : World} {K : PySem.W.Frag} {mg : Str → Option Value} {base : Heap}
def tag2 (t fl : Str) : List V → List (Str × V) := fun ws => match ws with
  | [v] => [(fl, v), ("tag", .str t)]
  | _ => []
def tag1 (t : Str) : List V → List (Str × V) := fun _ => [("tag", .str t)]
theorem x1_ok {x qual : Str} {st : Stmt} {f C : Addr} {fd : FuncData} {t fl : Str} {j : Nat} {p1 p2 p3 p4 p5 p6 p7 p8 : Pos} {sc : Scope} (F : Fun K x qual st f fd) (T : OexC K C) (n1 : PySem.W.findIn K (.ref C) "tag" = some none) (n2 : PySem.W.findIn K (.ref C) fl = some none)
    (hb : defBody st = [.Assign [.Attribute (.Name "self" p1) "tag" p2] (.Constant (.str t) j p3) p4, .Assign [.Attribute (.Name "self" p5) fl p6] (.Name fl p7) p8]) (hs : defScope st = sc) (S : FnScope ["self", fl] ["self", fl] sc) (hv : sc.names.lookup ("self" : Str) = some .local) (hv2 : sc.names.lookup fl = some .local) (hd : (fl == ("__debug__" : Str)) = false)
    (hc : (fl == ("__classdict__" : Str)) = false) : FnOk P w K mg base (L2.CX P w) 1 f fd ["self", fl] (spX C 1 (tag2 t fl)) := by
  subst hs
  refine F.okX S (fun vs H Q E h => h.1) fun cdv A outer s H vs Q E hr h => ?_
  obtain ⟨hl, a, ws, rfl, ha, k⟩ := h
  obtain ⟨v, rfl⟩ : ∃ v, ws = [v] := by
    match ws, hl with
    | [v], _ => exact ⟨v, rfl⟩
  rw [hb]
  refine ⟨_, pss_cons (ps_ost (pe_var (i := 0) rfl (.inl hv)) pe_str) (pss_one (ps_ost (pe_var (i := 0) rfl (.inl hv)) (pe_var (i := 1) rfl (.inl hv2) hd hc))), ?_⟩
  refine ⟨_, rfl, a, C, rfl, T, n1, .inl ⟨ha, fun dx hdx hne => ?_⟩⟩
  refine ⟨_, rfl, _, rfl, a, C, rfl, T, n2, .inr ⟨dx, _, upd_same, by rw [upd_ne hne, upd_same], Nat.le_of_ble_eq_true rfl, ?_⟩⟩
  refine k dx _ hdx hne (by rw [upd_ne hne.symm, upd_same]) upd_same fun b h1 h2 => ?_
  rw [upd_ne h2, upd_ne h1, upd_ne h2]
theorem x0_ok {x qual : Str} {st : Stmt} {f C : Addr} {fd : FuncData} {t : Str} {j : Nat} {p1 p2 p3 p4 : Pos} {sc : Scope} (F : Fun K x qual st f fd) (T : OexC K C) (n1 : PySem.W.findIn K (.ref C) "tag" = some none)
    (hb : defBody st = [.Assign [.Attribute (.Name "self" p1) "tag" p2] (.Constant (.str t) j p3) p4]) (hs : defScope st = sc) (S : FnScope ["self"] ["self"] sc) (hv : sc.names.lookup ("self" : Str) = some .local) : FnOk P w K mg base (L2.CX P w) 1 f fd ["self"] (spX C 0 (tag1 t)) := by
  subst hs
  refine F.okX S (fun vs H Q E h => h.1) fun cdv A outer s H vs Q E hr h => ?_
  obtain ⟨hl, a, ws, rfl, ha, k⟩ := h
  rw [hb]
  refine ⟨_, pss_one (ps_ost (pe_var (i := 0) rfl (.inl hv)) pe_str), ?_⟩
  refine ⟨_, rfl, a, C, rfl, T, n1, .inl ⟨ha, fun dx hdx hne => ?_⟩⟩
  refine k dx _ hdx hne upd_same (by rw [upd_ne hne, upd_same]; rfl) fun b h1 h2 => ?_
  rw [upd_ne h1, upd_ne h2]
/-- an exception class of the module: x its name, at C, n fields' values, g the fields -/
structure Xf (P : Program) (w : World) (K : PySem.W.Frag) (mg : Str → Option Value) (base : Heap) (x : Str) (C : Addr) (n : Nat) (g : List V → List (Str × V)) : Prop where
  cls : OexC K C
  mgC : mg x = some (.ref C)
  ex : ∃ fI fd ps, PySem.W.findIn K (.ref C) "__init__" = some (some (.ref fI)) ∧ PySem.W.typeIn K (.ref fI) = some (.type "function") ∧ FnOk P w K mg base (L2.CX P w) 1 fI fd ps (spX C n g) ∧ Binds K fd ps [] ∧ ps.length = n + 1
end
section
variable {X : Cx} {B : Bs} {Ξ : XD → En → Sto → Prop} {pos p : Pos} {e : Expr} {es : List Expr} {ga : DTA} {k n : Nat} {x : Str} {C : Addr} {g : List V → List (Str × V)}
/-- the class is called: a made exception -/
theorem mk_x (XF : Xf X.prog X.w X.K X.mg X.base x C n g) (hr : Room k X.A) (hk : 2 ≤ k) {pins : List (Addr × Obj)} {s : Shared} {σ : L2.St} {H : Hp} {Q : XK} {us : List Value} {vs : List V} (I : L2.Inv X pins σ H s) (rv : Vals vs us) (hl : vs.length = n) (hn : n ≤ 1000)
    (q : ∀ d H', H d = none → H' d = some (.xd (g vs)) → (∀ b, b ≠ d → H' b = H b) → Q (.ref C) (some d) H') : wpAny (model X.prog X.w) X.A (call (.ref C) us) (MkP X pins σ Q) X.xe s := by
  obtain ⟨fI, fd, ps, iC, tI, FO, hb, lp⟩ := XF.ex
  have T := XF.cls
  obtain ⟨nm, qq, N, bs, bm, sn, sub, ab, col, dd, k0, k1, k2, k3, k5, hC, hbm⟩ := T.cls
  obtain ⟨hp, gn, dr, tk, os⟩ := s
  generalize ea : hp.objs.size + 1 = a
  have hsz : hp.objs.size ≤ a := by omega
  have na : H a = none := I.hok.fresh hsz
  have kk : ∀ b o, hp.get? b = some o → ((hp.push (PySem.W.kdv_tup us)).push (PySem.HandSPX.excO C hp.objs.size)).get? b = some o := fun b o z => Heap.get?_push_of_some _ (Heap.get?_push_of_some _ z)
  have hget : ((hp.push (PySem.W.kdv_tup us)).push (PySem.HandSPX.excO C hp.objs.size)).get? a = some (PySem.HandSPX.excO C hp.objs.size) := by rw [← ea]; heap_get
  have I2 : L2.Inv X pins σ (upd H a (exo a C none)) ⟨(hp.push (PySem.W.kdv_tup us)).push (PySem.HandSPX.excO C hp.objs.size), gn, dr, tk, os⟩ := I.laid (t' := tk) kk hsz (exo_ok hget)
  have r2 : Vals (V.ref a :: vs) (Value.ref a :: us) := .cons rfl rv
  have hul : (Value.ref a :: us ++ []).length = ps.length := by rw [List.append_nil, ← r2.length, lp, List.length_cons, hl]
  have hus : us.length ≤ sizeLine := by rw [← rv.length, hl, sizeLine_eq]; omega
  have hsp : spX C n g (V.ref a :: vs) (upd H a (exo a C none)) (fun v H2 => v = .non ∧ ∃ d, H d = none ∧ H2 a = some (exo a C (some d)) ∧ H2 d = some (exd d (g vs)) ∧ Q (.ref C) (some d) (upd (del H2 a) d (.xd (g vs)))) (fun _ _ _ => False) := by
    refine ⟨by rw [List.length_cons, hl], a, vs, rfl, upd_same, fun dx H' h1 h2 h3 h4 h5 => ⟨rfl, dx, ?_, h3, h4, q dx _ ?_ upd_same fun b hb => ?_⟩⟩
    · rw [upd_ne h2] at h1; exact h1
    · rw [upd_ne h2] at h1; exact h1
    · rw [upd_ne hb]
      by_cases z : b = a
      · rw [z, del_same, na]
      · rw [del_ne z, h5 b z hb, upd_ne z]
  refine wpAny_call (PySem.HandSPX.call_own PySem.F.excBase_ValueError (fun Y => PySem.HandSPX.refsVE_contains Y bm hbm) (I.kIn _ _ hC) (PySem.W.looks_findIn I.kIn iC) (fun self => PySem.W.bind_fn I.kIn self tI) hus ?_)
  rw [ea]
  refine codeAny_mono (FO.run _ X.stack _ _ ⟨Value.ref a :: us, []⟩ (Value.ref a :: us) _ _ (fun _ _ _ => False) ((hr.mono hk).make C us []) (I2.env0.make C us []) ?_ r2 hsp) fun r s' hq' => ?_
  · have z := hb ⟨(hp.push (PySem.W.kdv_tup us)).push (PySem.HandSPX.excO C hp.objs.size), gn, dr, tk, os⟩ (Value.ref a :: us) I2.kIn hul
    rw [List.append_nil] at z
    exact z
  · cases r with
    | error er =>
      obtain ⟨_, _, _, _, _, _, _, _, _, _, _, _, z⟩ := hq'
      exact z.elim
    | ok fl =>
      cases fl with
      | ret u =>
        obtain ⟨v, H2, os2, bare2, un2, hok2, rv2, ev, d, hd, e1, e2, q2⟩ := hq'
        subst ev
        obtain ⟨h2, g2, d2, t2, os'⟩ := s'
        exact ⟨rv2, mk_end (raises_own T.exC T.tyC) I hsz kk un2 hok2 os2 bare2 e1 e2 hd q2⟩
      | next => exact False.elim hq'
      | brk => exact False.elim hq'
      | cont => exact False.elim hq'
/-! raise X(e), raise X() -/
def fldX (t : Str) (fl : Option Str) (ds : List D) : List (Str × D) := match fl, ds with
  | some f, [d] => [(f, d), ("tag", .str t)]
  | none, [] => [("tag", .str t)]
  | _, _ => []
theorem ds_raise1 {t fl : Str} {p2 : Pos} (XF : Xf X.prog X.w X.K X.mg X.base x C 1 (tag2 t fl)) (hr : Room k X.A) (z : Zx X B Ξ) (hc : X.calm = true) (ha : DA X B [e] ga) (hk : 2 ≤ k := by decide) (hg : Gl X x := by rfl) (hdb : (x == ("__debug__" : Str)) = false := by decide)
    (he : starEach [e] X.env = (false, eval e X.env) :: starEach [] X.env := by rfl) : DS X B (.Raise (some (.Call (.Name x p) [e] [] p2)) none pos) (fun E r M => ga r M fun ds M1 => match ds with | [d] => Ξ (C, [(fl, d), ("tag", .str t)]) r M1 | _ => False) := by
  have mk : PMk X (.Call (.Name x p) [e] [] p2) (fun σ H Q => liftA X.K B ga σ H fun vs H1 => vs.length = 1 ∧ ∀ d H', H1 d = none → H' d = some (.xd (tag2 t fl vs)) → (∀ b, b ≠ d → H' b = H1 b) → Q (.ref C) (some d) H') := by
    intro pins s σ H Q I h
    refine wpAny_Call_Name_kw (ld_glob I hg XF.mgC ?_ hdb)
    exact PySem.W.callWith_K (h₀ := X.base) I.ok.mod.kin XF.cls.kC (thn (ha.run p2 pins s σ H _ I h) fun us s1 ⟨vs, H1, I1, rv, l1, q1⟩ => ⟨I1.kIn, mk_x XF hr hk I1 rv l1 (by omega) q1⟩) he rfl
  refine PS_imp (ps_raise hc z.tk mk) fun D' σ H h => ?_
  obtain ⟨r, M, G, E, R, q, _⟩ := EkOk.of h
  refine ⟨r, M, G, _, R, q, fun ds M1 vs H1 G1 q1 R1 s1 p1 => ?_⟩
  split at q1
  · rename_i d
    cases p1 with
    | @cons _ _ v _ p1 p2 =>
      cases p2
      refine ⟨rfl, fun dd H' hd h' hb => ⟨(C, [(fl, d), ("tag", .str t)]), r, M1, G1, q1, ?_, rfl, dd, _, rfl, h', .cons p1 (.cons .str .nil)⟩⟩
      have e : H' = upd H1 dd (.xd (tag2 t fl [v])) := by
        funext b
        by_cases z : b = dd
        · rw [z, upd_same]; exact h'
        · rw [upd_ne z]; exact hb b z
      rw [e]
      refine R1.go ⟨fun a o y => by rw [upd_ne (ne_of_none (R1.wd.sub _ _ y) hd)]; exact R1.wd.sub _ _ y, fun a c y => ?_⟩ ⟨fun a o y _ => by rw [upd_ne (ne_of_none y hd)]; exact y, fun a y => ?_, Sub.rfl', fun a y n => absurd n y, fun a y n => absurd n y⟩
      · obtain ⟨h1, h2⟩ := R1.wd.cells a c y
        exact ⟨h1, h2.move Sub.rfl' fun o z => by rw [upd_ne (ne_of_none z hd)]; exact z⟩
      · by_cases z : a = dd
        · rw [z, upd_same]; simp
        · rw [upd_ne z]; exact y
  · exact q1.elim
theorem ds_raise0 {t : Str} {p2 : Pos} (XF : Xf X.prog X.w X.K X.mg X.base x C 0 (tag1 t)) (hr : Room k X.A) (z : Zx X B Ξ) (hc : X.calm = true) (hk : 2 ≤ k := by decide) (hg : Gl X x := by rfl) (hdb : (x == ("__debug__" : Str)) = false := by decide) :
    DS X B (.Raise (some (.Call (.Name x p) [] [] p2)) none pos) (fun E r M => Ξ (C, [("tag", .str t)]) r M) := by
  have mk : PMk X (.Call (.Name x p) [] [] p2) (fun σ H Q => ∀ d H', H d = none → H' d = some (.xd (tag1 t [])) → (∀ b, b ≠ d → H' b = H b) → Q (.ref C) (some d) H') := by
    intro pins s σ H Q I h
    refine wpAny_Call_Name_kw (ld_glob I hg XF.mgC ?_ hdb)
    exact PySem.W.callWith_K0 I.kIn XF.cls.kC (mk_x (us := []) (vs := []) XF hr hk I .nil rfl (by omega) h)
  refine PS_imp (ps_raise hc z.tk mk) fun D' σ H h => ?_
  obtain ⟨r, M, G, E, R, q, _⟩ := EkOk.of h
  intro dd H' hd h' hb
  refine ⟨(C, [("tag", .str t)]), r, M, G, q, ?_, rfl, dd, _, rfl, h', .cons .str .nil⟩
  have e : H' = upd H dd (.xd (tag1 t [])) := by
    funext b
    by_cases z : b = dd
    · rw [z, upd_same]; exact h'
    · rw [upd_ne z]; exact hb b z
  rw [e]
  refine R.go ⟨fun a o y => by rw [upd_ne (ne_of_none (R.wd.sub _ _ y) hd)]; exact R.wd.sub _ _ y, fun a c y => ?_⟩ ⟨fun a o y _ => by rw [upd_ne (ne_of_none y hd)]; exact y, fun a y => ?_, Sub.rfl', fun a y n => absurd n y, fun a y n => absurd n y⟩
  · obtain ⟨h1, h2⟩ := R.wd.cells a c y
    exact ⟨h1, h2.move Sub.rfl' fun o z => by rw [upd_ne (ne_of_none z hd)]; exact z⟩
  · by_cases z : a = dd
    · rw [z, upd_same]; simp
    · rw [upd_ne z]; exact y
end
end Z
namespace Z
open PySem PySem.Spec PyProof.Rows L2

/-! ### instances -/
def objOf (M : Sto) : D → Option (Addr × List (Str × D))
  | .obj C fs => some (C, fs)
  | .ref p => match M p with
    | some (.ins C fs) => some (C, fs)
    | _ => none
  | _ => none
theorem objOf_ref {M : Sto} {a C : Addr} {fs : List (Str × D)} (e : objOf M (.ref a) = some (C, fs)) : M a = some (.ins C fs) := by
  have e' : (match M a with | some (.ins C fs) => some (C, fs) | _ => none) = some (C, fs) := e
  split at e'
  · rename_i l' q
    cases e'
    exact q
  · cases e'
theorem obj_rep {K : PySem.W.Frag} {M : Sto} {H G : Hp} {d : D} {v : V} {C : Addr} {fs : List (Str × D)} (w : Wd K M H G) (r : Rep K G d v) (e : objOf M d = some (C, fs)) : ∃ a dx fvs, v = .ref a ∧ H a = some (.ins C dx fvs) ∧ RepF K G fs fvs := by
  cases r with
  | obj h r => cases e; exact ⟨_, _, _, rfl, w.sub _ _ h, r⟩
  | ref =>
    obtain ⟨_, dx, fvs, h, r⟩ := w.cells _ _ (objOf_ref e)
    exact ⟨_, dx, fvs, rfl, h, r⟩
  | _ => cases e
/-- an instance of C, its fields -/
def isO (C : Addr) (M : Sto) (x : D) (φ : List (Str × D) → Prop) : Prop := match objOf M x with
  | some (C', fs) => C' = C ∧ φ fs
  | none => False
theorem isO_some {C : Addr} {M : Sto} {x : D} {φ : List (Str × D) → Prop} (h : isO C M x φ) : ∃ fs, objOf M x = some (C, fs) ∧ φ fs := by
  unfold isO at h
  split at h
  · rename_i C' fs e
    obtain ⟨rfl, h⟩ := h
    exact ⟨fs, e, h⟩
  · exact h.elim
theorem RepF.put {K : PySem.W.Frag} {G : Hp} {f : Str} {d : D} {v : V} (p : Rep K G d v) : ∀ {fs : List (Str × D)} {gs : List (Str × V)}, RepF K G fs gs → RepF K G (putD f d fs) (putF f v gs)
  | _, _, .nil => .cons p .nil
  | _, _, .cons (f := g) q r => by
    unfold putD putF
    by_cases e : g = f
    · rw [if_pos e, if_pos e]; exact .cons p r
    · rw [if_neg e, if_neg e]; exact .cons q (r.put p)
section
variable {X : Cx} {B : Bs} {Ξ : XD → En → Sto → Prop} {k j n : Nat} {c : Ct} {pos apos p p' : Pos} {e o : Expr} {es : List Expr} {kws : List Keyword} {ga gk : DTA} {fa fo : DTE} {C f : Addr} {fn m x : Str} {ks : List Str} {g : List D → List D → List D} {bs : List (Nat × List Str × (List D → List D → List D))}
/-- o.f -/
theorem de_fld (T : Cls X.K C) (nf : NoAttr X.K C fn) (ho : DE X B o fo) (hb : attributeBase o fn X.env (eval o X.env) = eval o X.env := by rfl) :
    DE X B (.Attribute o fn pos) (fun r M Ψ => fo r M fun x M1 => isO C M1 x fun fs => optK (fs.lookup fn) fun d => Ψ d M1) := PE_imp (pe_fld ho hb) fun σ H Q ⟨r, M, G, Ψ, R, h, k⟩ => by
  refine ⟨r, M, G, _, R, h, fun x M1 v H1 G1 q R1 s1 p1 => ?_⟩
  obtain ⟨fs, e1, q⟩ := isO_some q
  obtain ⟨d, e2, q⟩ := optK_some q
  obtain ⟨a, dx, fvs, rfl, h1, r1⟩ := obj_rep R1.wd p1 e1
  obtain ⟨u, e3, p3⟩ := r1.look e2
  exact ⟨a, C, dx, fvs, u, rfl, h1, T, nf, e3, k _ _ _ _ _ q R1 s1 p3⟩
/-- o.f = e, the instance may change -/
theorem ds_fld {value : Expr} (T : Cls X.K C) (nf : NoAttr X.K C fn) (hv : DE X B value fa) (ho : DE X B o fo) (hs : swapsWith value (some (.Attribute o fn p')) pos.line X.env = pure false := by rfl) :
    DS X B (.Assign [.Attribute o fn p'] value pos) (fun E r M => fa r M fun d M1 => fo r M1 fun x M2 => match x with
      | .ref a => match M2 a with
        | some (.ins C' fs) => C' = C ∧ fs.length < 1000 ∧ E.nx r (updM M2 a (.ins C (putD fn d fs)))
        | _ => False
      | _ => False) := PS_imp (ps_fld ho hv hs) fun D' σ H h => by
  obtain ⟨r, M, G, E, R, q, k⟩ := EkOk.of h
  refine ⟨r, M, G, _, R, q, fun d M1 v H1 G1 q1 R1 s1 p1 => ?_⟩
  refine ⟨r, M1, G1, _, R1, q1, fun x M2 u H2 G2 q2 R2 s2 p2 => ?_⟩
  split at q2
  · split at q2
    · rename_i a _ C' fs em
      obtain ⟨rfl, hl, q2⟩ := q2
      cases p2
      obtain ⟨ga, dx, fvs, h1, r1⟩ := R2.wd.cells _ _ em
      obtain ⟨w, s⟩ := cell_put (c := .ins C' (putD fn d fs)) (o := .ins C' dx (putF fn v fvs)) R2.wd em ⟨dx, _, upd_same, r1.put (p1.mono s2)⟩
      exact ⟨a, C', dx, fvs, rfl, h1, T, nf, by rw [← r1.length]; exact hl, k.nx _ _ _ _ _ q2 (R2.go w s) (s1.tr s2)⟩
    · exact q2.elim
  · exact q2.elim
/-! ### methods -/
structure Mf (P : Program) (w : World) (K : PySem.W.Frag) (mg : Str → Option Value) (base : Heap) (C : Addr) (m : Str) (k : Nat) (c : Ct) (bs : List (Nat × List Str × (List D → List D → List D))) : Prop where
  ex : ∃ f fd ps, Meth K C m f ∧ FnOk P w K mg base (L2.CX P w) k f fd ps (spC K ps.length c) ∧ ∀ b ∈ bs, BindD K fd ps b
theorem de_meth {pl : Sem Bool} (F : Mf X.prog X.w X.K X.mg X.base C m j c bs) (T : Cls X.K C) (hr : Room k X.A) (z : Zx X B Ξ) (hb : (n + 1, [], g) ∈ bs) (ho : DE X B o fo) (ha : DA X B (e :: es) ga) (hj : j ≤ k := by decide)
    (hst : starEach (e :: es) X.env = (false, eval e X.env) :: starEach es X.env := by rfl) (hpl : (backTo pos (starEach es X.env)).any (·.1) = false := by rfl)
    (ht : eval (.Call (.Attribute o m apos) (e :: es) [] pos) X.env = (do let ov ← eval o X.env; standAt apos.atName; let (f, first) ← holding [ov] (getMethod ov m pl); callWith pos f first (backTo pos (starEach (e :: es) X.env)) (backToKw pos (keywordEach [] X.env))) := by rfl) :
    DE X B (.Call (.Attribute o m apos) (e :: es) [] pos) (fun r M Ψ => fo r M fun x M1 => isO C M1 x fun fs => fs.lookup m = none ∧ ga r M1 fun ds M2 => callD (n + 1) 0 g c Ξ (x :: ds) [] r M2 Ψ) := by
  obtain ⟨f, fd, ps, mt, FO, hbs⟩ := F.ex
  refine ⟨fun pins s σ H Q I ⟨r, M, G, Ψ, R, h, kk⟩ => ?_⟩
  refine PySem.W.methodCall_KW (pl := pl) (thn (ho.run pins s σ H _ I ⟨r, M, G, _, R, h, fun x M1 v H1 G1 q R1 s1 p1 => (⟨x, M1, G1, q, R1, s1, p1⟩ : ∃ x M1 G1, (isO C M1 x fun fs => fs.lookup m = none ∧ ga r M1 fun ds M2 => callD (n + 1) 0 g c Ξ (x :: ds) [] r M2 Ψ) ∧ Rel X.K B r M1 σ H1 G1 ∧ Sub G G1 ∧ Rep X.K G1 x v)⟩) fun u s1 ⟨v, H1, I1, rx, x, M1, G1, q, R1, t1, p1⟩ => ?_) ht
  obtain ⟨fs, e1, l, q⟩ := isO_some q
  obtain ⟨a, dx, fvs, rfl, h1, r1⟩ := obj_rep R1.wd p1 e1
  obtain rfl : u = Value.ref a := rx
  refine getmeth_ok I1 h1 T mt (r1.none l) ?_
  refine PySem.W.callWith_K (first := [.ref a]) (h₀ := X.base) I.ok.mod.kin mt.kp (thn (ha.run pos pins s1 σ H1 _ I1 ⟨r, M1, G1, _, R1, q, fun ds M2 vs H2 G2 q R2 s2 p2 => (⟨ds, M2, G2, q, R2, s2, p2⟩ : ∃ ds M2 G2, callD (n + 1) 0 g c Ξ (x :: ds) [] r M2 Ψ ∧ Rel X.K B r M2 σ H2 G2 ∧ Sub G1 G2 ∧ RepL X.K G2 ds vs)⟩) fun us s2 ⟨vs, H2, I2, rv, ds, M2, G2, ⟨l1, _, q⟩, R2, t2, p2⟩ => ⟨I2.kIn, ?_⟩) hst hpl
  exact run_c (us := .ref a :: us) (vs := .ref a :: vs) (zs := []) (ws := []) (dz := []) FO (hr.mono hj) (hbs _ hb) z.tk I2 R2 (.cons rfl rv) .nil (.cons (p1.mono t2) p2) .nil l1 rfl q fun d M' v H' G' q R' s' p' => kk _ _ _ _ _ q R' ((t1.tr t2).tr s') p'
theorem de_meth0 {pl : Sem Bool} (F : Mf X.prog X.w X.K X.mg X.base C m j c bs) (T : Cls X.K C) (hr : Room k X.A) (z : Zx X B Ξ) (hb : (1, [], g) ∈ bs) (ho : DE X B o fo) (hj : j ≤ k := by decide)
    (ht : eval (.Call (.Attribute o m apos) [] [] pos) X.env = (do let ov ← eval o X.env; standAt apos.atName; let (f, first) ← holding [ov] (getMethod ov m pl); callWith pos f first (backTo pos (starEach [] X.env)) (backToKw pos (keywordEach [] X.env))) := by rfl) :
    DE X B (.Call (.Attribute o m apos) [] [] pos) (fun r M Ψ => fo r M fun x M1 => isO C M1 x fun fs => fs.lookup m = none ∧ callD 1 0 g c Ξ [x] [] r M1 Ψ) := by
  obtain ⟨f, fd, ps, mt, FO, hbs⟩ := F.ex
  refine ⟨fun pins s σ H Q I ⟨r, M, G, Ψ, R, h, kk⟩ => ?_⟩
  refine PySem.W.methodCall_KW (pl := pl) (thn (ho.run pins s σ H _ I ⟨r, M, G, _, R, h, fun x M1 v H1 G1 q R1 s1 p1 => (⟨x, M1, G1, q, R1, s1, p1⟩ : ∃ x M1 G1, (isO C M1 x fun fs => fs.lookup m = none ∧ callD 1 0 g c Ξ [x] [] r M1 Ψ) ∧ Rel X.K B r M1 σ H1 G1 ∧ Sub G G1 ∧ Rep X.K G1 x v)⟩) fun u s1 ⟨v, H1, I1, rx, x, M1, G1, q, R1, t1, p1⟩ => ?_) ht
  obtain ⟨fs, e1, l, l1, _, q⟩ := isO_some q
  obtain ⟨a, dx, fvs, rfl, h1, r1⟩ := obj_rep R1.wd p1 e1
  obtain rfl : u = Value.ref a := rx
  refine getmeth_ok I1 h1 T mt (r1.none l) ?_
  refine PySem.W.callWith_K0 (first := [.ref a]) I1.kIn mt.kp ?_
  exact run_c (us := [.ref a]) (vs := [.ref a]) (zs := []) (ws := []) (dz := []) FO (hr.mono hj) (hbs _ hb) z.tk I1 R1 (.cons rfl .nil) .nil (.cons p1 .nil) .nil l1 rfl q fun d M' v H' G' q R' s' p' => kk _ _ _ _ _ q R' (t1.tr s') p'
theorem de_methK {pl : Sem Bool} (F : Mf X.prog X.w X.K X.mg X.base C m j c bs) (T : Cls X.K C) (hr : Room k X.A) (z : Zx X B Ξ) (hb : (n + 1, ks, g) ∈ bs) (ho : DE X B o fo) (ha : DA X B (e :: es) ga) (hkw : DK X B kws gk) (hj : j ≤ k := by decide)
    (hall : (backToKw pos (keywordEach kws X.env)).all (·.1.isSome) = true := by rfl) (hks : (backToKw pos (keywordEach kws X.env)).filterMap (·.1) = ks := by rfl) (hst : starEach (e :: es) X.env = (false, eval e X.env) :: starEach es X.env := by rfl)
    (hpl : ((backTo pos (starEach (e :: es) X.env)).any (·.1) || (backToKw pos (keywordEach kws X.env)).any (·.1.isNone)) = false := by rfl)
    (ht : eval (.Call (.Attribute o m apos) (e :: es) kws pos) X.env = (do let ov ← eval o X.env; standAt apos.atName; let (f, first) ← holding [ov] (getMethod ov m pl); callWith pos f first (backTo pos (starEach (e :: es) X.env)) (backToKw pos (keywordEach kws X.env))) := by rfl) :
    DE X B (.Call (.Attribute o m apos) (e :: es) kws pos) (fun r M Ψ => fo r M fun x M1 => isO C M1 x fun fs => fs.lookup m = none ∧ ga r M1 fun ds M2 => gk r M2 fun dz M3 => callD (n + 1) ks.length g c Ξ (x :: ds) dz r M3 Ψ) := by
  obtain ⟨f, fd, ps, mt, FO, hbs⟩ := F.ex
  refine ⟨fun pins s σ H Q I ⟨r, M, G, Ψ, R, h, kk⟩ => ?_⟩
  refine PySem.W.methodCall_KW (pl := pl) (thn (ho.run pins s σ H _ I ⟨r, M, G, _, R, h, fun x M1 v H1 G1 q R1 s1 p1 => (⟨x, M1, G1, q, R1, s1, p1⟩ : ∃ x M1 G1, (isO C M1 x fun fs => fs.lookup m = none ∧ ga r M1 fun ds M2 => gk r M2 fun dz M3 => callD (n + 1) ks.length g c Ξ (x :: ds) dz r M3 Ψ) ∧ Rel X.K B r M1 σ H1 G1 ∧ Sub G G1 ∧ Rep X.K G1 x v)⟩) fun u s1 ⟨v, H1, I1, rx, x, M1, G1, q, R1, t1, p1⟩ => ?_) ht
  obtain ⟨fs, e1, l, q⟩ := isO_some q
  obtain ⟨a, dx, fvs, rfl, h1, r1⟩ := obj_rep R1.wd p1 e1
  obtain rfl : u = Value.ref a := rx
  refine getmeth_ok I1 h1 T mt (r1.none l) ?_
  refine PySem.W.callWith_KW (first := [.ref a]) (h₀ := X.base) I.ok.mod.kin mt.kp hall (thn (ha.run pos pins s1 σ H1 _ I1 ⟨r, M1, G1, _, R1, q, fun ds M2 vs H2 G2 q R2 s2 p2 => (⟨ds, M2, G2, q, R2, s2, p2⟩ : ∃ ds M2 G2, (gk r M2 fun dz M3 => callD (n + 1) ks.length g c Ξ (x :: ds) dz r M3 Ψ) ∧ Rel X.K B r M2 σ H2 G2 ∧ Sub G1 G2 ∧ RepL X.K G2 ds vs)⟩) fun us s2 ⟨vs, H2, I2, rv, ds, M2, G2, q, R2, t2, p2⟩ => ?_) hpl hst
  refine thn (hkw.run pos pins s2 σ H2 _ I2 ⟨r, M2, G2, _, R2, q, fun dz M3 us H3 G3 q R3 s3 p3 => (⟨dz, M3, G3, q, R3, s3, p3⟩ : ∃ dz M3 G3, callD (n + 1) ks.length g c Ξ (x :: ds) dz r M3 Ψ ∧ Rel X.K B r M3 σ H3 G3 ∧ Sub G2 G3 ∧ RepL X.K G3 dz us)⟩) fun ws s3 ⟨zs, H3, I3, rz, dz, M3, G3, ⟨l1, l2, q⟩, R3, t3, p3⟩ => ⟨I3.kIn, ?_⟩
  rw [hks]
  exact run_c (us := .ref a :: us) (vs := .ref a :: vs) FO (hr.mono hj) (hbs _ hb) z.tk I3 R3 (.cons rfl rv) rz (.cons (p1.mono (t2.tr t3)) (p2.mono t3)) p3 l1 l2 q fun d M' v H' G' q R' s' p' => kk _ _ _ _ _ q R' (((t1.tr t2).tr t3).tr s') p'
theorem de_methK0 {pl : Sem Bool} (F : Mf X.prog X.w X.K X.mg X.base C m j c bs) (T : Cls X.K C) (hr : Room k X.A) (z : Zx X B Ξ) (hb : (1, ks, g) ∈ bs) (ho : DE X B o fo) (hkw : DK X B kws gk) (hj : j ≤ k := by decide)
    (hall : (backToKw pos (keywordEach kws X.env)).all (·.1.isSome) = true := by rfl) (hks : (backToKw pos (keywordEach kws X.env)).filterMap (·.1) = ks := by rfl)
    (hpl : ((backTo pos (starEach [] X.env)).any (·.1) || (backToKw pos (keywordEach kws X.env)).any (·.1.isNone)) = false := by rfl)
    (ht : eval (.Call (.Attribute o m apos) [] kws pos) X.env = (do let ov ← eval o X.env; standAt apos.atName; let (f, first) ← holding [ov] (getMethod ov m pl); callWith pos f first (backTo pos (starEach [] X.env)) (backToKw pos (keywordEach kws X.env))) := by rfl) :
    DE X B (.Call (.Attribute o m apos) [] kws pos) (fun r M Ψ => fo r M fun x M1 => isO C M1 x fun fs => fs.lookup m = none ∧ gk r M1 fun dz M3 => callD 1 ks.length g c Ξ [x] dz r M3 Ψ) := by
  obtain ⟨f, fd, ps, mt, FO, hbs⟩ := F.ex
  refine ⟨fun pins s σ H Q I ⟨r, M, G, Ψ, R, h, kk⟩ => ?_⟩
  refine PySem.W.methodCall_KW (pl := pl) (thn (ho.run pins s σ H _ I ⟨r, M, G, _, R, h, fun x M1 v H1 G1 q R1 s1 p1 => (⟨x, M1, G1, q, R1, s1, p1⟩ : ∃ x M1 G1, (isO C M1 x fun fs => fs.lookup m = none ∧ gk r M1 fun dz M3 => callD 1 ks.length g c Ξ [x] dz r M3 Ψ) ∧ Rel X.K B r M1 σ H1 G1 ∧ Sub G G1 ∧ Rep X.K G1 x v)⟩) fun u s1 ⟨v, H1, I1, rx, x, M1, G1, q, R1, t1, p1⟩ => ?_) ht
  obtain ⟨fs, e1, l, q⟩ := isO_some q
  obtain ⟨a, dx, fvs, rfl, h1, r1⟩ := obj_rep R1.wd p1 e1
  obtain rfl : u = Value.ref a := rx
  refine getmeth_ok I1 h1 T mt (r1.none l) ?_
  refine PySem.W.callWith_KW0 (first := [.ref a]) (h₀ := X.base) I.ok.mod.kin mt.kp hall ?_ hpl
  refine thn (hkw.run pos pins s1 σ H1 _ I1 ⟨r, M1, G1, _, R1, q, fun dz M3 us H3 G3 q R3 s3 p3 => (⟨dz, M3, G3, q, R3, s3, p3⟩ : ∃ dz M3 G3, callD 1 ks.length g c Ξ [x] dz r M3 Ψ ∧ Rel X.K B r M3 σ H3 G3 ∧ Sub G1 G3 ∧ RepL X.K G3 dz us)⟩) fun ws s3 ⟨zs, H3, I3, rz, dz, M3, G3, ⟨l1, l2, q⟩, R3, t3, p3⟩ => ⟨I3.kIn, ?_⟩
  rw [hks]
  exact run_c (us := [.ref a]) (vs := [.ref a]) FO (hr.mono hj) (hbs _ hb) z.tk I3 R3 (.cons rfl .nil) rz (.cons (p1.mono t3) .nil) p3 l1 l2 q fun d M' v H' G' q R' s' p' => kk _ _ _ _ _ q R' ((t1.tr t3).tr s') p'
end
end Z
namespace Z
open PySem PySem.Spec PyProof.Rows L2

/-! ### own operators -/
abbrev noX : XD → Sto → Prop := fun _ _ => False
theorem Env0_at {P : Program} {w : World} {K : PySem.W.Frag} {mg : Str → Option Value} {base : Heap} {A A' : Around} {outer : List Env} {s : Shared} {H : Hp} (e : Env0 P w K mg base A outer s H) (h : A'.frames = A.frames) : Env0 P w K mg base A' outer s H :=
  ⟨h.trans e.frames, e.mod, e.bs, e.bsz, e.funs, e.frf, e.hok, e.bare⟩
section
variable {X : Cx} {B : Bs} {Ξ : XD → En → Sto → Prop} {k j n : Nat} {c : Ct} {pos apos p p' p1 p2 : Pos} {a b e o : Expr} {es : List Expr} {kws : List Keyword} {ga gk : DTA} {fa fb fo : DTE} {C : Addr} {fn m x : Str} {ks : List Str} {g : List D → List D → List D} {bs : List (Nat × List Str × (List D → List D → List D))}
/-- a callee that lets nothing out, run where the stack is the same -/
theorem run_n {f : Addr} {fd : FuncData} {ps : List Str} {pins : List (Addr × Obj)} {M : Sto} {σ : L2.St} {H G : Hp} {s : Shared} {Q : VK} {vs : List V} {us : List Value} {ds : List D} {Ψ : D → Sto → Prop} {A : Around} {E : Value → Shared → Prop}
    (F : FnOk X.prog X.w X.K X.mg X.base (L2.CX X.prog X.w) k f fd ps (spC X.K ps.length c)) (hr : Room k A) (hA : A.frames = X.A.frames) (hb : BindD X.K fd ps (ds.length, [], fun ds _ => ds)) (I : L2.Inv X pins σ H s) (w : Wd X.K M H G) (hv : Vals vs us) (rv : RepL X.K G ds vs)
    (hc : c ds M Ψ noX) (hQ : Post X.K H G M Ψ Q) : wpAny (model X.prog X.w) A (call (.ref f) us) (EP X pins σ Q) E s := by
  obtain ⟨hl, gl, gV, kb, rel⟩ := hb
  have rr := rel G ds vs [] [] rv .nil
  have u1 : us.length = ds.length := by rw [← hv.length, ← rv.length]
  have hsp : spC X.K ps.length c (gV vs []) H Q (fun _ _ _ => False) := ⟨by rw [← rr.length]; exact hl ds [] rfl rfl, _, G, M, Ψ, _, w, rr, hc, fun d M' v H' G' q w s p => hQ d M' v H' G' q w s p, fun _ _ _ _ _ _ z _ _ _ => z.elim⟩
  refine wpAny_call (codeAny_mono (F.run A X.stack s H ⟨us, []⟩ (gl us []) (gV vs []) Q _ hr (Env0_at I.env0 hA) (kb.to s us [] I.kIn u1 rfl) (kb.rel hv .nil) hsp) fun fr s' hq => ?_)
  cases fr with
  | error e =>
    obtain ⟨_, _, _, _, _, _, _, _, _, _, _, _, z⟩ := hq
    exact z.elim
  | ok fl =>
    cases fl with
    | ret u => exact I.after hq
    | next => exact False.elim hq
    | brk => exact False.elim hq
    | cont => exact False.elim hq
/-- a value of data is not NotImplemented -/
theorem cmp_back {pins : List (Addr × Obj)} {σ : L2.St} {Q : VK} {v : Value} {s' : Shared} (h : EP X pins σ Q v s') : PySem.W.CmpBack (EP X pins σ Q) v s' := by
  obtain ⟨x, H', I', r, q⟩ := id h
  cases x with
  | non => cases r; exact h
  | bl _ => cases r; exact h
  | int _ => obtain ⟨_, rfl⟩ := r; exact h
  | str _ => obtain ⟨_, rfl⟩ := r; exact h
  | byt _ => obtain ⟨_, rfl⟩ := r; exact h
  | flt _ => obtain ⟨_, rfl⟩ := r; exact h
  | ref _ => cases r; exact h
  | ty _ => cases r; exact h
/-- by values, the things that change too -/
def OkP2 (K : PySem.W.Frag) (r : R2) (g : Sto → D → D → PD → Prop) : Prop := ∀ (M : Sto) (H G : Hp) (x y : D) (v u : V) (φ : PD) (Q : VK), Wd K M H G → Rep K G x v → Rep K G y u → g M x y φ → Post K H G M φ Q → r v u H Q
theorem tOp_okP {r : R2} {g : Sto → D → D → PD → Prop} (ok : OkP2 X.K r g) {σ : L2.St} {H : Hp} {Q : VK} (h : lift X.K B (fun r M Ψ => fa r M fun x M1 => fb r M1 fun y M2 => g M2 x y Ψ) σ H Q) : tOp r (lift X.K B fa) (lift X.K B fb) σ H Q := by
  obtain ⟨r, M, G, Ψ, R, h, k⟩ := h
  refine ⟨r, M, G, _, R, h, fun d M1 v H1 G1 q1 R1 s1 p1 => ?_⟩
  refine ⟨r, M1, G1, _, R1, q1, fun y M2 u H2 G2 q2 R2 s2 p2 => ?_⟩
  exact ok M2 H2 G2 _ _ _ _ _ _ R2.wd (p1.mono s2) p2 q2 fun d M' w H' G' f w' s' p => k _ _ _ _ _ f (R2.go w' s') ((s1.tr s2).tr s'.gsub) p
theorem tOp_okPT {r : R2} {g : Sto → D → D → PD → Prop} (ok : OkP2 X.K r g) (σ : L2.St) (H : Hp) (Q : Bool → Hp → Prop) (h : liftT X.K B (fun r M Ψ => fa r M fun x M1 => fb r M1 fun y M2 => g M2 x y fun z M3 => blD (fun b => Ψ b M3) z) σ H Q) :
    tTest (tOp r (lift X.K B fa) (lift X.K B fb)) σ H Q := by
  obtain ⟨r, M, G, Ψ, R, h, k⟩ := h
  refine ⟨r, M, G, _, R, h, fun d M1 v H1 G1 q1 R1 s1 p1 => ?_⟩
  refine ⟨r, M1, G1, _, R1, q1, fun y M2 u H2 G2 q2 R2 s2 p2 => ?_⟩
  refine ok M2 H2 G2 _ _ _ _ _ _ R2.wd (p1.mono s2) p2 q2 fun d M' w H' G' f w' s' p => ?_
  unfold blD at f
  cases p with
  | bl => exact ⟨_, rfl, k _ _ _ _ f (R2.go w' s') ((s1.tr s2).tr s'.gsub)⟩
  | _ => exact f.elim
/-- an own method as an operator of two of a class -/
def rOwn (K : PySem.W.Frag) (C : Addr) (c : Ct) : R2 := fun v u H Q => ∃ a b dx dy fs gs, v = .ref a ∧ u = .ref b ∧ H a = some (.ins C dx fs) ∧ H b = some (.ins C dy gs) ∧ ∃ M G x y Ψ, Wd K M H G ∧ Rep K G x v ∧ Rep K G y u ∧ c [x, y] M Ψ noX ∧ Post K H G M Ψ Q
def ownD (C : Addr) (c : Ct) (M : Sto) (x y : D) (φ : PD) : Prop := isO C M x fun _ => isO C M y fun _ => c [x, y] M φ noX
theorem ok_own {K : PySem.W.Frag} {C : Addr} {c : Ct} : OkP2 K (rOwn K C c) (ownD C c) := fun M H G x y v u φ Q w rx ry h k => by
  obtain ⟨fs, e1, h⟩ := isO_some h
  obtain ⟨gs, e2, h⟩ := isO_some h
  obtain ⟨a, dx, fvs, rfl, h1, _⟩ := obj_rep w rx e1
  obtain ⟨b, dy, gvs, rfl, h2, _⟩ := obj_rep w ry e2
  exact ⟨a, b, dx, dy, _, _, rfl, rfl, h1, h2, M, G, x, y, φ, w, rx, ry, h, k⟩
theorem bind2 {fd : FuncData} {ps : List Str} {K : PySem.W.Frag} (h : BindD K fd ps (Z.pos 2)) {x y : D} : BindD K fd ps ([x, y].length, [], fun ds _ => ds) := h
theorem op_own {op : Operator} (F : Mf X.prog X.w X.K X.mg X.base C (PySem.dunder op.info.2) j c bs) (hr : Room k X.A) (hb : Z.pos 2 ∈ bs) (hc : PySem.W.selfFirst X.K C = true) (hj : j ≤ k := by decide) : OpR X (binaryOp op) (rOwn X.K C c) := by
  obtain ⟨f, fd, ps, mt, FO, hbs⟩ := F.ex
  intro pins s σ H x y v u Q I rx ry h
  obtain ⟨a, b, dx, dy, fs, gs, rfl, rfl, h1, h2, M, G, dx', dy', Ψ, w, r1, r2, hq, hP⟩ := h
  cases rx; cases ry
  obtain ⟨mA, J, _⟩ := ins_get I.hok h1
  obtain ⟨mB, J', _⟩ := ins_get I.hok h2
  obtain ⟨od, J, _⟩ := J.look
  obtain ⟨od', J', _⟩ := J'.look
  obtain ⟨m, hF⟩ := I.fr
  refine PySem.W.binop_K hF I.ok.mod.kin J J'.type hc mt.at_ mt.fn ?_
  exact wpAny_mono (run_n (vs := [.ref a, .ref b]) FO (hr.mono hj) rfl (bind2 (hbs _ hb)) I w (.cons rfl (.cons rfl .nil)) (.cons r1 (.cons r2 .nil)) hq hP) (fun _ _ z => cmp_back z) fun _ _ z => z
theorem de_bino {op : Operator} (F : Mf X.prog X.w X.K X.mg X.base C (PySem.dunder op.info.2) j c bs) (hr : Room k X.A) (hb : Z.pos 2 ∈ bs) (hc : PySem.W.selfFirst X.K C = true) (ha : DE X B a fa) (hb' : DE X B b fb) (hj : j ≤ k := by decide) :
    DE X B (.BinOp a op b pos) (fun r M Ψ => fa r M fun x M1 => fb r M1 fun y M2 => ownD C c M2 x y Ψ) := PE_imp (pe_op (op_own F hr hb hc hj) ha hb') fun σ H Q h => tOp_okP ok_own h
/-! ### own == -/
/-- what stands at the right of == -/
def eqR (K : PySem.W.Frag) (C : Addr) (M : Sto) (y : D) : Prop := (∃ fs, objOf M y = some (C, fs)) ∨ ∃ t, tyN M y = some t ∧ PySem.W.notFirst K C (.type t) = true
def rOwnE (K : PySem.W.Frag) (C : Addr) (c : Ct) (neg : Bool) : R2 := fun v u H Q => ∃ a dx fs t, v = .ref a ∧ H a = some (.ins C dx fs) ∧ (TyX K H u t ∨ ∃ b dy gs, u = .ref b ∧ H b = some (.ins C dy gs) ∧ t = .ref C) ∧ PySem.W.notFirst K C t = true ∧
  ∃ M G x y, Wd K M H G ∧ Rep K G x v ∧ Rep K G y u ∧ c [x, y] M (fun d M' => ∃ b, d = .bl b ∧ ∀ H' G', Wd K M' H' G' → Since H G M M' H' G' → Q (.bl (if neg then !b else b)) H') noX
def ownE (K : PySem.W.Frag) (C : Addr) (c : Ct) (neg : Bool) (M : Sto) (x y : D) (φ : PD) : Prop := isO C M x fun _ => eqR K C M y ∧ c [x, y] M (fun d M' => blD (fun b => φ (.bl (if neg then !b else b)) M') d) noX
/-- how a contract carries what is wanted -/
def Mono (c : Ct) : Prop := ∀ ds M (Ψ Ψ' : PD) (Ξ Ξ' : XD → Sto → Prop), (∀ d M', Ψ d M' → Ψ' d M') → (∀ x M', Ξ x M' → Ξ' x M') → c ds M Ψ Ξ → c ds M Ψ' Ξ'
theorem looks_ty {pins : List (Addr × Obj)} {σ : L2.St} {H : Hp} {s : Shared} {v : V} {u t : Value} (I : L2.Inv X pins σ H s) (r : RelV v u) (h : TyX X.K H v t ∨ ∃ b dy gs, v = .ref b ∧ H b = some (.ins C dy gs) ∧ t = .ref C) (M : Model) : PySem.W.Looks M s.heap (typeOf u) t := by
  rcases h with h | ⟨b, dy, gs, rfl, hb, rfl⟩
  · obtain ⟨P, k, p, _⟩ := kit_of I r h
    exact k.ty M _ I.kIn p
  · cases r
    obtain ⟨mB, J, _⟩ := ins_get I.hok hb
    obtain ⟨od, J, _⟩ := J.look
    exact J.type
end
theorem slot_ne : Slot "object" "__ne__" "object.__ne__" := .of (owner := "object") (n := "__ne__") (by rw [typeLookup_type, builtinLookup_eq_fast]; kernel_rfl) (by decide +kernel) (by decide +kernel) (by decide +kernel) (.inl (by decide +kernel)) (by rw [isSubtype_type]; kernel_rfl)
section
variable {prog : Program} {w : World} {A : Around} {E : Value → Shared → Prop} {s : Shared} {K : PySem.W.Frag} {x C L f : Addr} {h₀ : Heap} {m : Str → Option Value} {ox : Obj} {od : Option Obj} {b tb : Value}
theorem ne_entry {Q : Fin → Shared → Prop} (X : K.In s.heap) (hu : A.units < cLine) (I : PySem.W.InstAt s.heap x ox C od) (hs : PySem.W.findIn K (.ref C) "__eq__" = some (some (.ref f))) (hf : PySem.W.isFn K (.ref f) = true)
    (h : wpAny (model prog w) A (call (.ref f) [.ref x, b]) (fun v s' => ∃ y, v = .bool y ∧ Q (.done (.ret (.bool (!y)))) s') E s) : wpAny (model prog w) A (Builtin.«object.__ne__» ⟨[.ref x, b], []⟩) Q E s := by
  unfold Builtin.«object.__ne__»
  repeat (first
    | with_reducible refine wpAny_cRoomFor hu ?_
    | (refine wpAny_bind (m := callSpecialIfBound? (.ref x) (Str.ofString "__eq__") [b])
        (PySem.W.ifBound_K X I hs hf (wpAny_mono h (fun r s' hr => by
          obtain ⟨y, rfl, hq⟩ := hr
          repeat (first | exact hq | exact wpAny_pure hq | exact wpAny_truthy_bool hq | (refine wpAny_bind (m := truthy (.bool _)) (wpAny_truthy_bool ?_)) | wp_step)) fun _ _ e => e)))
    | wp_step)
theorem ne_K {Q : Value → Shared → Prop} (hu : A.units + 1 < cLine) (F : PyProof.Rows.Fr h₀ L s.heap m) (X₀ : K.In h₀) (I : PySem.W.InstAt s.heap x ox C od) (hb : PySem.W.Looks (model prog w) s.heap (typeOf b) tb) (hn : PySem.W.notFirst K C tb = true)
    (hne : PySem.W.findIn K (.ref C) "__ne__" = some (some (.builtin "object.__ne__"))) (hm : PySem.W.mroIn K C (.type "object") = some true) (hs : PySem.W.findIn K (.ref C) "__eq__" = some (some (.ref f))) (hf : PySem.W.isFn K (.ref f) = true)
    (h : wpAny (model prog w) A.in1 (call (.ref f) [.ref x, b]) (fun v s' => ∃ y, v = .bool y ∧ Q (.bool (!y)) s') E s) : wpAny (model prog w) A (richCompare .NotEq (.ref x) b) Q E s := by
  have X := X₀.keeps F.keep
  have cl : wpAny (model prog w) A (call (.builtin "object.__ne__") [.ref x, b]) (fun r s' => ∃ y, r = .bool y ∧ Q (.bool y) s') E s := by
    refine wpAny_call (codeAny_call_builtin slot_ne.plain PySem.F.cmpEntry_ne (PySem.W.check_slot PySem.F.cmpKind_ne PySem.F.cmpSplit_ne (I.type.andThen (PySem.W.looks_mroIn X hm)) (PySem.F.cmpArgs_ne _ _) (ne_entry (A := A.in1) X hu I hs hf (wpAny_mono h (fun v s' hv => ?_) fun _ _ e => e))))
    obtain ⟨y, rfl, hq⟩ := hv
    exact ⟨y, rfl, _, rfl, hq⟩
  have one : wpAny (model prog w) A (tryCompare (.ref x) (cmpInfo .NotEq).2.1 b) (fun r s' => ∃ v, r = some v ∧ Q v s') E s := by
    rw [cmpInfo_NotEq]
    unfold tryCompare
    simp only [callSpecialIfBound?, bindSpecialIfBound?]
    refine wpAny_bind (wpAny_holding (wpAny_bind (wpAny_bind (wpAny_bind (I.type.here ((PySem.W.looks_findIn X hne).here ?_))))))
    simp only [slot_ne.bind]
    refine wpAny_bind (wpAny_askSetting (wpAny_ite ?_))
    have fin : ∀ R : Option Value → Shared → Prop, (∀ y s', Q (.bool y) s' → R (some (.bool y)) s') → wpAny (model prog w) A (call (.builtin "object.__ne__") ([.ref x] ++ [b]) >>= fun v => pure (some v)) R E s := fun R hR =>
      wpAny_bind (wpAny_mono cl (fun v s' h' => by obtain ⟨y, rfl, hq⟩ := h'; exact wpAny_pure (hR _ _ hq)) fun _ _ h' => h')
    split
    · exact wpAny_bind (wpAny_pure (wpAny_pure (fin _ fun y s' hq => wpAny_pure ⟨_, rfl, hq⟩)))
    · exact wpAny_tryCatch (wpAny_bind (wpAny_pure (wpAny_pure (fin _ fun y s' hq => wpAny_pure ⟨_, rfl, hq⟩))))
  unfold richCompare
  simp only [oneThing_ref]
  refine wpAny_holding (wpAny_bind (wpAny_cRoomFor (Nat.lt_of_succ_lt hu) ?_))
  refine wpAny_bind (I.type.here (wpAny_bind (hb.here ?_)))
  split
  · rename_i q
    have e : PySem.W.subIn K tb (.ref C) = some false := by
      rcases Bool.or_eq_true_iff.mp hn with e | e
      · rw [beq_iff_eq.mp e] at q; simp at q
      · exact beq_iff_eq.mp e
    refine wpAny_bind ((PySem.W.looks_subIn X e).here ?_)
    simp only [Bool.false_eq_true, if_false]
    refine wpAny_bind (wpAny_mono one (fun r s' z => ?_) fun _ _ e => e)
    obtain ⟨v, rfl, hq⟩ := z
    exact wpAny_pure hq
  · refine wpAny_bind (wpAny_pure ?_)
    simp only [Bool.false_eq_true, if_false]
    refine wpAny_bind (wpAny_mono one (fun r s' z => ?_) fun _ _ e => e)
    obtain ⟨v, rfl, hq⟩ := z
    exact wpAny_pure hq
end
section
variable {X : Cx} {B : Bs} {Ξ : XD → En → Sto → Prop} {k j n : Nat} {c : Ct} {pos apos p p' p1 p2 : Pos} {a b e o : Expr} {es : List Expr} {kws : List Keyword} {ga gk : DTA} {fa fb fo : DTE} {C : Addr} {fn m x : Str} {ks : List Str} {g : List D → List D → List D} {bs : List (Nat × List Str × (List D → List D → List D))}
/-- what of a class its comparison needs -/
structure CmpF (K : PySem.W.Frag) (C : Addr) : Prop where
  ne : PySem.W.findIn K (.ref C) "__ne__" = some (some (.builtin "object.__ne__"))
  top : PySem.W.mroIn K C (.type "object") = some true
theorem ok_ownE {K : PySem.W.Frag} {C : Addr} {c : Ct} {neg : Bool} (hc : Mono c) : OkP2 K (rOwnE K C c neg) (ownE K C c neg) := fun M H G x y v u φ Q w rx ry h k => by
  obtain ⟨fs, e1, h, hc'⟩ := isO_some h
  obtain ⟨a, dx, fvs, rfl, h1, _⟩ := obj_rep w rx e1
  have fin : c [x, y] M (fun d M' => ∃ b, d = .bl b ∧ ∀ H' G', Wd K M' H' G' → Since H G M M' H' G' → Q (.bl (if neg then !b else b)) H') noX := hc _ _ _ _ _ _ (fun d M' z => by
    unfold blD at z
    cases d with
    | bl b => exact ⟨b, rfl, fun H' G' w' s' => k _ _ _ _ _ z w' s' .bl⟩
    | _ => exact z.elim) (fun _ _ z => z) hc'
  rcases h with ⟨gs, e2⟩ | ⟨t, e2, e3⟩
  · obtain ⟨b, dy, gvs, rfl, h2, _⟩ := obj_rep w ry e2
    exact ⟨a, dx, _, .ref C, rfl, h1, .inr ⟨b, dy, _, rfl, h2, rfl⟩, by simp [PySem.W.notFirst], M, G, x, y, w, rx, ry, fin⟩
  · exact ⟨a, dx, _, .type t, rfl, h1, .inl (tyN_x w ry e2), e3, M, G, x, y, w, rx, ry, fin⟩
theorem op_ownEq (F : Mf X.prog X.w X.K X.mg X.base C "__eq__" j c bs) (hr : Room k X.A) (hb : Z.pos 2 ∈ bs) (hj : j ≤ k := by decide) : OpR X (compareOp .Eq) (rOwnE X.K C c false) := by
  obtain ⟨f, fd, ps, mt, FO, hbs⟩ := F.ex
  intro pins s σ H x y v u Q I rx ry h
  obtain ⟨a, dx, fs, t, rfl, h1, h2, h3, M, G, x', y', w, r1, r2, hq⟩ := h
  cases rx
  obtain ⟨mA, J, _⟩ := ins_get I.hok h1
  obtain ⟨od, J, _⟩ := J.look
  obtain ⟨m, hF⟩ := I.fr
  show wpAny _ _ (richCompare .Eq _ _) _ _ _
  refine PySem.W.cmp_K (op := .Eq) hr.units0 hF I.ok.mod.kin J (looks_ty I ry h2 _) h3 mt.at_ mt.fn ?_
  refine wpAny_mono (run_n (Q := Q) (vs := [.ref a, y]) FO (hr.mono hj) rfl (bind2 (hbs _ hb)) I w (.cons rfl (.cons ry .nil)) (.cons r1 (.cons r2 .nil)) hq fun d M' v' H' G' z w' s' p => ?_) (fun _ _ z => cmp_back z) fun _ _ z => z
  obtain ⟨b, rfl, z⟩ := z
  cases p
  exact z H' G' w' s'
theorem op_ownNe (F : Mf X.prog X.w X.K X.mg X.base C "__eq__" j c bs) (T : CmpF X.K C) (hr : Room k X.A) (hb : Z.pos 2 ∈ bs) (hj : j + 1 ≤ k := by decide) : OpR X (compareOp .NotEq) (rOwnE X.K C c true) := by
  obtain ⟨f, fd, ps, mt, FO, hbs⟩ := F.ex
  intro pins s σ H x y v u Q I rx ry h
  obtain ⟨a, dx, fs, t, rfl, h1, h2, h3, M, G, x', y', w, r1, r2, hq⟩ := h
  cases rx
  obtain ⟨mA, J, _⟩ := ins_get I.hok h1
  obtain ⟨od, J, _⟩ := J.look
  obtain ⟨m, hF⟩ := I.fr
  show wpAny _ _ (richCompare .NotEq _ _) _ _ _
  have hr1 : Room (j + 1) X.A := hr.mono hj
  refine ne_K hr1.in1.units0 hF I.ok.mod.kin J (looks_ty I ry h2 _) h3 T.ne T.top mt.at_ mt.fn ?_
  refine wpAny_mono (run_n (Q := fun v H' => ∃ y, v = .bl y ∧ Q (.bl (!y)) H') (vs := [.ref a, y]) FO hr1.in1 rfl (bind2 (hbs _ hb)) I w (.cons rfl (.cons ry .nil)) (.cons r1 (.cons r2 .nil)) hq fun d M' v' H' G' z w' s' p => ?_) (fun u s' z => ?_) fun _ _ z => z
  · obtain ⟨b, rfl, z⟩ := z
    cases p
    exact ⟨b, rfl, z H' G' w' s'⟩
  · obtain ⟨v, H', I', r, b, rfl, q⟩ := z
    cases r
    exact ⟨b, rfl, .bl (!b), H', I', rfl, q⟩
theorem de_ownEq (F : Mf X.prog X.w X.K X.mg X.base C "__eq__" j c bs) (hc : Mono c) (hr : Room k X.A) (hb : Z.pos 2 ∈ bs) (ha : DE X B a fa) (hb' : DE X B b fb) (hm : behindInMarks .Eq b = false := by rfl) (hj : j ≤ k := by decide) :
    DE X B (.Compare a [.Eq] [b] pos) (fun r M Ψ => fa r M fun x M1 => fb r M1 fun y M2 => ownE X.K C c false M2 x y Ψ) := PE_imp (pe_cmpR (op_ownEq F hr hb hj) ha hb' hm) fun σ H Q h => tOp_okP (ok_ownE hc) h
theorem de_ownNe (F : Mf X.prog X.w X.K X.mg X.base C "__eq__" j c bs) (T : CmpF X.K C) (hc : Mono c) (hr : Room k X.A) (hb : Z.pos 2 ∈ bs) (ha : DE X B a fa) (hb' : DE X B b fb) (hm : behindInMarks .NotEq b = false := by rfl) (hj : j + 1 ≤ k := by decide) :
    DE X B (.Compare a [.NotEq] [b] pos) (fun r M Ψ => fa r M fun x M1 => fb r M1 fun y M2 => ownE X.K C c true M2 x y Ψ) := PE_imp (pe_cmpR (op_ownNe F T hr hb hj) ha hb' hm) fun σ H Q h => tOp_okP (ok_ownE hc) h
end
end Z
namespace Z
open PySem PySem.Spec PyProof.Rows L2

/-! ### C(..) -/
/-- a class: its name x in the module, the contract of its __init__ -/
structure Cf (P : Program) (w : World) (K : PySem.W.Frag) (mg : Str → Option Value) (base : Heap) (x : Str) (C : Addr) (k : Nat) (c : Ct) (bs : List (Nat × List Str × (List D → List D → List D))) : Prop where
  gl : mg x = some (.ref C)
  ex : ∃ f fd ps, Mk K C f ∧ FnOk P w K mg base (L2.CX P w) k f fd ps (spC K ps.length c) ∧ ∀ b ∈ bs, BindD K fd ps b
theorem own_new {K : PySem.W.Frag} {M : Sto} {H G : Hp} {p : Addr} {o : HO} (w : Wd K M H G) (hp : H p = none) : Wd K M (upd H p o) G ∧ Since H G M M (upd H p o) G := by
  refine ⟨⟨fun a u h => ?_, fun a u h => ?_⟩, ⟨fun a u h n => ?_, fun a h => ?_, Sub.rfl', fun a h n => absurd n h, fun a h n => absurd n h⟩⟩
  · rw [upd_ne (ne_of_none (w.sub _ _ h) hp)]; exact w.sub _ _ h
  · obtain ⟨h1, h2⟩ := w.cells a u h
    exact ⟨h1, h2.move Sub.rfl' fun o z => by rw [upd_ne (ne_of_none z hp)]; exact z⟩
  · rw [upd_ne (ne_of_none h hp)]; exact h
  · by_cases e : a = p
    · subst e; rw [upd_same]; simp
    · rw [upd_ne e]; exact h
/-- a new thing is taken for frozen -/
theorem ins_frz {K : PySem.W.Frag} {M : Sto} {H G H' G' : Hp} {p C : Addr} {fs : List (Str × D)} (wd : Wd K M H G) (hp : H p = none) (w : Wd K (updM M p (.ins C fs)) H' G') (s : Since H G M (updM M p (.ins C fs)) H' G') :
    Wd K M H' (frz1 p H' G') ∧ Since H G M M H' (frz1 p H' G') ∧ Sub G' (frz1 p H' G') ∧ Rep K (frz1 p H' G') (.obj C fs) (.ref p) := by
  obtain ⟨gp, dx, fvs, h1, r1⟩ := w.cells p _ updM_same
  have mp := wd.nomem hp
  have sg : Sub G' (frz1 p H' G') := fun a o e => by
    unfold frz1
    rw [if_neg (by intro z; rw [z, gp] at e; cases e)]; exact e
  refine ⟨⟨fun a o e => ?_, fun a u e => ?_⟩, ⟨s.keep, s.stay, s.gsub.tr sg, fun a e n => ?_, fun a e n => absurd n e⟩, sg, .obj (dx := dx) (by unfold frz1; rw [if_pos rfl]; exact h1) (r1.mono sg)⟩
  · unfold frz1 at e
    split at e
    · exact e
    · exact w.sub _ _ e
  · have z : a ≠ p := fun z => by rw [z, mp] at e; cases e
    obtain ⟨h2, h3⟩ := w.cells a u (by rw [updM_ne z]; exact e)
    exact ⟨by unfold frz1; rw [if_neg z]; exact h2, h3.move sg fun _ z => z⟩
  · unfold frz1 at e
    split at e
    · rename_i z; rw [z]; exact hp
    · exact s.gnew a e n
section
variable {X : Cx} {B : Bs} {Ξ : XD → En → Sto → Prop} {k j n : Nat} {c : Ct} {pos apos p p' : Pos} {e o : Expr} {es : List Expr} {kws : List Keyword} {ga gk : DTA} {fa fo : DTE} {C : Addr} {fn m x : Str} {ks : List Str} {g : List D → List D → List D} {bs : List (Nat × List Str × (List D → List D → List D))}
theorem run_mk {pins : List (Addr × Obj)} {r : En} {M : Sto} {σ : L2.St} {H G : Hp} {s : Shared} {Q : VK} {vs zs : List V} {us ws : List Value} {ds dz : List D} {b : Nat × List Str × (List D → List D → List D)} {f : Addr} {fd : FuncData} {ps : List Str} {Ψ : Addr → D → Sto → Prop} {Ξ' : Addr → XD → Sto → Prop}
    (mk : Mk X.K C f) (F : FnOk X.prog X.w X.K X.mg X.base (L2.CX X.prog X.w) k f fd ps (spC X.K ps.length c)) (hr : Room (k + 1) X.A) (hb : BindD X.K fd ps b) (tk : Takes X (wOf X.K B Ξ)) (I : L2.Inv X pins σ H s) (R : Rel X.K B r M σ H G)
    (hv : Vals vs us) (hz : Vals zs ws) (rv : RepL X.K G ds vs) (rz : RepL X.K G dz zs) (l1 : ds.length + 1 = b.1) (l2 : dz.length = b.2.1.length)
    (hc : ∀ p, M p = none → c (b.2.2 (.ref p :: ds) dz) (updM M p (.ins C [])) (Ψ p) (Ξ' p))
    (hQ : ∀ p d M' v H' G', H p = none → Ψ p d M' → Wd X.K M' H' G' → Since H G M M' H' G' → Rep X.K G' d v → v = .non ∧ Q (.ref p) H')
    (hE : ∀ p x M' H' G', H p = none → Ξ' p x M' → Wd X.K M' H' G' → Since H G M M' H' G' → ∃ M2 G2, Sub G' G2 ∧ Ξ x r M2 ∧ Wd X.K M2 H' G2 ∧ Since H G M M2 H' G2) :
    wpAny (model X.prog X.w) X.A (call (.ref C) us (b.2.1.zip ws)) (EP X pins σ Q) X.xe s := by
  obtain ⟨hl, gl, gV, kb, rel⟩ := hb
  have hx : H (s.heap.objs.size + 1) = none := I.hok.fresh (Nat.le_succ _)
  have hd : H s.heap.objs.size = none := I.hok.fresh (Nat.le_refl _)
  have hne : s.heap.objs.size + 1 ≠ s.heap.objs.size := (Nat.ne_of_lt (Nat.lt_succ_self _)).symm
  obtain ⟨w1, s1⟩ := own_new (o := .own (s.heap.objs.size + 1)) R.wd hd
  obtain ⟨w2, s2⟩ := cell_new (p := s.heap.objs.size + 1) (c := .ins C []) (o := .ins C s.heap.objs.size []) w1 (by rw [upd_ne hne]; exact hx) ⟨_, _, upd_same, .nil⟩
  have t2 := Since.trans w1 s1 s2
  have I2 := Inv.made (C := C) I
  have rr := rel G (.ref (s.heap.objs.size + 1) :: ds) (.ref (s.heap.objs.size + 1) :: vs) dz zs (.cons .ref rv) rz
  have l3 := hl (.ref (s.heap.objs.size + 1) :: ds) dz (by simpa using l1) l2
  have r1 : Vals (V.ref (s.heap.objs.size + 1) :: vs) (Value.ref (s.heap.objs.size + 1) :: us) := .cons rfl hv
  have u1 : (Value.ref (s.heap.objs.size + 1) :: us).length = b.1 := by rw [← r1.length, List.length_cons, ← rv.length]; exact l1
  have u2 : ws.length = b.2.1.length := by rw [← hz.length, ← rz.length]; exact l2
  have hsp : spC X.K ps.length c (gV (.ref (s.heap.objs.size + 1) :: vs) zs) (upd (upd H s.heap.objs.size (.own (s.heap.objs.size + 1))) (s.heap.objs.size + 1) (.ins C s.heap.objs.size [])) (fun v H2 => v = .non ∧ Q (.ref (s.heap.objs.size + 1)) H2) (fun cls d H' => wOf X.K B Ξ cls d σ H') := by
    refine ⟨by rw [← rr.length]; exact l3, _, G, _, _, _, w2, rr, hc _ (R.wd.nomem hx), fun d M' v H' G' q w s p => hQ _ d M' v H' G' hx q w (Since.trans w2 t2 s) p, fun x M' H' G' cls dd q w s rx => ?_⟩
    obtain ⟨M2, G2, g2, q2, w3, s3⟩ := hE _ x M' H' G' hx q w (Since.trans w2 t2 s)
    obtain ⟨e, dd', fvs, e1, e2, r2⟩ := rx
    exact ⟨x, r, M2, G2, q2, R.go w3 s3, e, dd', fvs, e1, e2, r2.mono g2⟩
  refine wpAny_call (make_map (f := f) I.kIn mk.makes mk.init (beq_iff_eq.mp mk.fn) (codeAny_mono (F.run _ X.stack _ _ ⟨Value.ref (s.heap.objs.size + 1) :: us, b.2.1.zip ws⟩ (gl (Value.ref (s.heap.objs.size + 1) :: us) ws) _ _ _ (hr.make C us (b.2.1.zip ws))
    (I2.env0.make C us (b.2.1.zip ws)) (kb.to _ (Value.ref (s.heap.objs.size + 1) :: us) ws I2.kIn u1 u2) (kb.rel r1 hz) hsp) fun r s' hq' => ?_))
  cases r with
  | error e => exact tk e s' (XE.of_call I2 (fun cls d H' h => h) hq')
  | ok fl =>
    cases fl with
    | ret u =>
      obtain ⟨v, H', I3, rv, ev, q3⟩ := I2.after hq'
      subst ev
      exact ⟨rv, ⟨V.ref (s.heap.objs.size + 1), H', I3, rfl, q3⟩⟩
    | next => exact False.elim hq'
    | brk => exact False.elim hq'
    | cont => exact False.elim hq'
/-- what C(..) asks: the new instance is taken for frozen; only it is changed -/
def mkD (n m : Nat) (g : List D → List D → List D) (C : Addr) (c : Ct) (Ξ : XD → En → Sto → Prop) (ds dz : List D) (r : En) (M : Sto) (Ψ : PD) : Prop := ds.length = n ∧ dz.length = m ∧ ∀ p, M p = none → c (g (.ref p :: ds) dz) (updM M p (.ins C []))
  (fun d M' => d = .non ∧ ∃ fs, M' = updM M p (.ins C fs) ∧ Ψ (.obj C fs) M) (fun x M' => ∃ fs, M' = updM M p (.ins C fs) ∧ Ξ x r M)
/-- .. it may change on -/
def mkM (n m : Nat) (g : List D → List D → List D) (C : Addr) (c : Ct) (Ξ : XD → En → Sto → Prop) (ds dz : List D) (r : En) (M : Sto) (Ψ : PD) : Prop := ds.length = n ∧ dz.length = m ∧ ∀ p, M p = none → c (g (.ref p :: ds) dz) (updM M p (.ins C []))
  (fun d M' => d = .non ∧ Ψ (.ref p) M') (fun x M' => Ξ x r M')
theorem run_mkD {pins : List (Addr × Obj)} {r : En} {M : Sto} {σ : L2.St} {H G : Hp} {s : Shared} {Q : VK} {vs zs : List V} {us ws : List Value} {ds dz : List D} {b : Nat × List Str × (List D → List D → List D)} {f : Addr} {fd : FuncData} {ps : List Str} {Ψ : PD}
    (mk : Mk X.K C f) (F : FnOk X.prog X.w X.K X.mg X.base (L2.CX X.prog X.w) k f fd ps (spC X.K ps.length c)) (hr : Room (k + 1) X.A) (hb : BindD X.K fd ps b) (tk : Takes X (wOf X.K B Ξ)) (I : L2.Inv X pins σ H s) (R : Rel X.K B r M σ H G)
    (hv : Vals vs us) (hz : Vals zs ws) (rv : RepL X.K G ds vs) (rz : RepL X.K G dz zs) (l1 : ds.length + 1 = b.1) (l2 : dz.length = b.2.1.length) (hc : mkD ds.length dz.length b.2.2 C c Ξ ds dz r M Ψ)
    (hQ : ∀ d M' v H' G', Ψ d M' → Rel X.K B r M' σ H' G' → Sub G G' → Rep X.K G' d v → Q v H') : wpAny (model X.prog X.w) X.A (call (.ref C) us (b.2.1.zip ws)) (EP X pins σ Q) X.xe s := by
  refine run_mk mk F hr hb tk I R hv hz rv rz l1 l2 hc.2.2 (fun p d M' v H' G' hp q w s rp => ?_) fun p x M' H' G' hp q w s => ?_
  · obtain ⟨rfl, fs, rfl, q⟩ := q
    cases rp
    obtain ⟨w1, s1, g1, p1⟩ := ins_frz R.wd hp w s
    exact ⟨rfl, hQ _ _ _ _ _ q (R.go w1 s1) s1.gsub p1⟩
  · obtain ⟨fs, rfl, q⟩ := q
    obtain ⟨w1, s1, g1, p1⟩ := ins_frz R.wd hp w s
    exact ⟨M, _, g1, q, w1, s1⟩
theorem run_mkM {pins : List (Addr × Obj)} {r : En} {M : Sto} {σ : L2.St} {H G : Hp} {s : Shared} {Q : VK} {vs zs : List V} {us ws : List Value} {ds dz : List D} {b : Nat × List Str × (List D → List D → List D)} {f : Addr} {fd : FuncData} {ps : List Str} {Ψ : PD}
    (mk : Mk X.K C f) (F : FnOk X.prog X.w X.K X.mg X.base (L2.CX X.prog X.w) k f fd ps (spC X.K ps.length c)) (hr : Room (k + 1) X.A) (hb : BindD X.K fd ps b) (tk : Takes X (wOf X.K B Ξ)) (I : L2.Inv X pins σ H s) (R : Rel X.K B r M σ H G)
    (hv : Vals vs us) (hz : Vals zs ws) (rv : RepL X.K G ds vs) (rz : RepL X.K G dz zs) (l1 : ds.length + 1 = b.1) (l2 : dz.length = b.2.1.length) (hc : mkM ds.length dz.length b.2.2 C c Ξ ds dz r M Ψ)
    (hQ : ∀ d M' v H' G', Ψ d M' → Rel X.K B r M' σ H' G' → Sub G G' → Rep X.K G' d v → Q v H') : wpAny (model X.prog X.w) X.A (call (.ref C) us (b.2.1.zip ws)) (EP X pins σ Q) X.xe s := by
  refine run_mk mk F hr hb tk I R hv hz rv rz l1 l2 hc.2.2 (fun p d M' v H' G' hp q w s rp => ?_) fun p x M' H' G' hp q w s => ⟨M', G', Sub.rfl', q, w, s⟩
  obtain ⟨rfl, q⟩ := q
  cases rp
  exact ⟨rfl, hQ _ _ _ _ _ q (R.go w s) s.gsub .ref⟩
theorem de_make (F : Cf X.prog X.w X.K X.mg X.base x C j c bs) (hr : Room k X.A) (z : Zx X B Ξ) (hb : (n + 1, [], g) ∈ bs) (ha : DA X B (e :: es) ga) (hj : j + 1 ≤ k := by decide) (hg : Gl X x := by rfl) (hdb : (x == ("__debug__" : Str)) = false := by decide)
    (he : starEach (e :: es) X.env = (false, eval e X.env) :: starEach es X.env := by rfl) (hpl : (backTo pos (starEach es X.env)).any (·.1) = false := by rfl) :
    DE X B (.Call (.Name x p) (e :: es) [] pos) (fun r M Ψ => ga r M fun ds M1 => mkD n 0 g C c Ξ ds [] r M1 Ψ) := by
  obtain ⟨f, fd, ps, mk, FO, hbs⟩ := F.ex
  refine ⟨fun pins s σ H Q I ⟨r, M, G, Ψ, R, h, kk⟩ => ?_⟩
  refine wpAny_Call_Name_kw (ld_glob I hg F.gl ?_ hdb)
  refine PySem.W.callWith_K (h₀ := X.base) I.ok.mod.kin mk.kp (thn (ha.run pos pins s σ H _ I ⟨r, M, G, _, R, h, fun ds M1 vs H1 G1 q R1 s1 p1 => (⟨ds, M1, G1, q, R1, s1, p1⟩ : ∃ ds M1 G1, mkD n 0 g C c Ξ ds [] r M1 Ψ ∧ Rel X.K B r M1 σ H1 G1 ∧ Sub G G1 ∧ RepL X.K G1 ds vs)⟩) fun us s1 ⟨vs, H1, I1, rv, ds, M1, G1, q, R1, t1, p1⟩ => ⟨I1.kIn, ?_⟩) he hpl
  obtain ⟨l1, l2, q⟩ := q
  exact run_mkD (zs := []) (ws := []) (dz := []) (b := (n + 1, [], g)) mk FO (hr.mono hj) (hbs _ hb) z.tk I1 R1 rv .nil p1 .nil (congrArg Nat.succ l1) rfl ⟨rfl, rfl, q⟩ fun d M' v H' G' q R' s' p' => kk _ _ _ _ _ q R' (t1.tr s') p'
theorem de_make0 (F : Cf X.prog X.w X.K X.mg X.base x C j c bs) (hr : Room k X.A) (z : Zx X B Ξ) (hb : (1, [], g) ∈ bs) (hj : j + 1 ≤ k := by decide) (hg : Gl X x := by rfl) (hdb : (x == ("__debug__" : Str)) = false := by decide) :
    DE X B (.Call (.Name x p) [] [] pos) (fun r M Ψ => mkD 0 0 g C c Ξ [] [] r M Ψ) := by
  obtain ⟨f, fd, ps, mk, FO, hbs⟩ := F.ex
  refine ⟨fun pins s σ H Q I ⟨r, M, G, Ψ, R, h, kk⟩ => ?_⟩
  refine wpAny_Call_Name_kw (ld_glob I hg F.gl ?_ hdb)
  refine PySem.W.callWith_K0 I.kIn mk.kp ?_
  exact run_mkD (vs := []) (us := []) (ds := []) (zs := []) (ws := []) (dz := []) (b := (1, [], g)) mk FO (hr.mono hj) (hbs _ hb) z.tk I R .nil .nil .nil .nil rfl rfl h fun d M' v H' G' q R' s' p' => kk _ _ _ _ _ q R' s' p'
theorem de_makeK (F : Cf X.prog X.w X.K X.mg X.base x C j c bs) (hr : Room k X.A) (z : Zx X B Ξ) (hb : (n + 1, ks, g) ∈ bs) (ha : DA X B (e :: es) ga) (hkw : DK X B kws gk) (hj : j + 1 ≤ k := by decide) (hg : Gl X x := by rfl) (hdb : (x == ("__debug__" : Str)) = false := by decide)
    (hall : (backToKw pos (keywordEach kws X.env)).all (·.1.isSome) = true := by rfl) (hks : (backToKw pos (keywordEach kws X.env)).filterMap (·.1) = ks := by rfl) (he : starEach (e :: es) X.env = (false, eval e X.env) :: starEach es X.env := by rfl)
    (hpl : ((backTo pos (starEach (e :: es) X.env)).any (·.1) || (backToKw pos (keywordEach kws X.env)).any (·.1.isNone)) = false := by rfl) :
    DE X B (.Call (.Name x p) (e :: es) kws pos) (fun r M Ψ => ga r M fun ds M1 => gk r M1 fun dz M2 => mkD n ks.length g C c Ξ ds dz r M2 Ψ) := by
  obtain ⟨f, fd, ps, mk, FO, hbs⟩ := F.ex
  refine ⟨fun pins s σ H Q I ⟨r, M, G, Ψ, R, h, kk⟩ => ?_⟩
  refine wpAny_Call_Name_kw (ld_glob I hg F.gl ?_ hdb)
  refine PySem.W.callWith_KW (h₀ := X.base) I.ok.mod.kin mk.kp hall (thn (ha.run pos pins s σ H _ I ⟨r, M, G, _, R, h, fun ds M1 vs H1 G1 q R1 s1 p1 => (⟨ds, M1, G1, q, R1, s1, p1⟩ : ∃ ds M1 G1, (gk r M1 fun dz M2 => mkD n ks.length g C c Ξ ds dz r M2 Ψ) ∧ Rel X.K B r M1 σ H1 G1 ∧ Sub G G1 ∧ RepL X.K G1 ds vs)⟩) fun us s1 ⟨vs, H1, I1, rv, ds, M1, G1, q, R1, t1, p1⟩ => ?_) hpl he
  refine thn (hkw.run pos pins s1 σ H1 _ I1 ⟨r, M1, G1, _, R1, q, fun dz M2 us H2 G2 q R2 s2 p2 => (⟨dz, M2, G2, q, R2, s2, p2⟩ : ∃ dz M2 G2, mkD n ks.length g C c Ξ ds dz r M2 Ψ ∧ Rel X.K B r M2 σ H2 G2 ∧ Sub G1 G2 ∧ RepL X.K G2 dz us)⟩) fun ws s2 ⟨zs, H2, I2, rz, dz, M2, G2, q, R2, t2, p2⟩ => ⟨I2.kIn, ?_⟩
  obtain ⟨l1, l2, q⟩ := q
  rw [hks]
  exact run_mkD (b := (n + 1, ks, g)) mk FO (hr.mono hj) (hbs _ hb) z.tk I2 R2 rv rz (p1.mono t2) p2 (congrArg Nat.succ l1) l2 ⟨rfl, rfl, q⟩ fun d M' v H' G' q R' s' p' => kk _ _ _ _ _ q R' ((t1.tr t2).tr s') p'
theorem de_makeK0 (F : Cf X.prog X.w X.K X.mg X.base x C j c bs) (hr : Room k X.A) (z : Zx X B Ξ) (hb : (1, ks, g) ∈ bs) (hkw : DK X B kws gk) (hj : j + 1 ≤ k := by decide) (hg : Gl X x := by rfl) (hdb : (x == ("__debug__" : Str)) = false := by decide)
    (hall : (backToKw pos (keywordEach kws X.env)).all (·.1.isSome) = true := by rfl) (hks : (backToKw pos (keywordEach kws X.env)).filterMap (·.1) = ks := by rfl)
    (hpl : ((backTo pos (starEach [] X.env)).any (·.1) || (backToKw pos (keywordEach kws X.env)).any (·.1.isNone)) = false := by rfl) :
    DE X B (.Call (.Name x p) [] kws pos) (fun r M Ψ => gk r M fun dz M2 => mkD 0 ks.length g C c Ξ [] dz r M2 Ψ) := by
  obtain ⟨f, fd, ps, mk, FO, hbs⟩ := F.ex
  refine ⟨fun pins s σ H Q I ⟨r, M, G, Ψ, R, h, kk⟩ => ?_⟩
  refine wpAny_Call_Name_kw (ld_glob I hg F.gl ?_ hdb)
  refine PySem.W.callWith_KW0 (h₀ := X.base) I.ok.mod.kin mk.kp hall ?_ hpl
  refine thn (hkw.run pos pins s σ H _ I ⟨r, M, G, _, R, h, fun dz M2 us H2 G2 q R2 s2 p2 => (⟨dz, M2, G2, q, R2, s2, p2⟩ : ∃ dz M2 G2, mkD 0 ks.length g C c Ξ [] dz r M2 Ψ ∧ Rel X.K B r M2 σ H2 G2 ∧ Sub G G2 ∧ RepL X.K G2 dz us)⟩) fun ws s2 ⟨zs, H2, I2, rz, dz, M2, G2, q, R2, t2, p2⟩ => ⟨I2.kIn, ?_⟩
  obtain ⟨l1, l2, q⟩ := q
  rw [hks]
  exact run_mkD (vs := []) (us := []) (ds := []) (b := (1, ks, g)) mk FO (hr.mono hj) (hbs _ hb) z.tk I2 R2 .nil rz .nil p2 rfl l2 ⟨rfl, rfl, q⟩ fun d M' v H' G' q R' s' p' => kk _ _ _ _ _ q R' (t2.tr s') p'
theorem de_makeM (F : Cf X.prog X.w X.K X.mg X.base x C j c bs) (hr : Room k X.A) (z : Zx X B Ξ) (hb : (n + 1, [], g) ∈ bs) (ha : DA X B (e :: es) ga) (hj : j + 1 ≤ k := by decide) (hg : Gl X x := by rfl) (hdb : (x == ("__debug__" : Str)) = false := by decide)
    (he : starEach (e :: es) X.env = (false, eval e X.env) :: starEach es X.env := by rfl) (hpl : (backTo pos (starEach es X.env)).any (·.1) = false := by rfl) :
    DE X B (.Call (.Name x p) (e :: es) [] pos) (fun r M Ψ => ga r M fun ds M1 => mkM n 0 g C c Ξ ds [] r M1 Ψ) := by
  obtain ⟨f, fd, ps, mk, FO, hbs⟩ := F.ex
  refine ⟨fun pins s σ H Q I ⟨r, M, G, Ψ, R, h, kk⟩ => ?_⟩
  refine wpAny_Call_Name_kw (ld_glob I hg F.gl ?_ hdb)
  refine PySem.W.callWith_K (h₀ := X.base) I.ok.mod.kin mk.kp (thn (ha.run pos pins s σ H _ I ⟨r, M, G, _, R, h, fun ds M1 vs H1 G1 q R1 s1 p1 => (⟨ds, M1, G1, q, R1, s1, p1⟩ : ∃ ds M1 G1, mkM n 0 g C c Ξ ds [] r M1 Ψ ∧ Rel X.K B r M1 σ H1 G1 ∧ Sub G G1 ∧ RepL X.K G1 ds vs)⟩) fun us s1 ⟨vs, H1, I1, rv, ds, M1, G1, q, R1, t1, p1⟩ => ⟨I1.kIn, ?_⟩) he hpl
  obtain ⟨l1, l2, q⟩ := q
  exact run_mkM (zs := []) (ws := []) (dz := []) (b := (n + 1, [], g)) mk FO (hr.mono hj) (hbs _ hb) z.tk I1 R1 rv .nil p1 .nil (congrArg Nat.succ l1) rfl ⟨rfl, rfl, q⟩ fun d M' v H' G' q R' s' p' => kk _ _ _ _ _ q R' (t1.tr s') p'
theorem de_makeM0 (F : Cf X.prog X.w X.K X.mg X.base x C j c bs) (hr : Room k X.A) (z : Zx X B Ξ) (hb : (1, [], g) ∈ bs) (hj : j + 1 ≤ k := by decide) (hg : Gl X x := by rfl) (hdb : (x == ("__debug__" : Str)) = false := by decide) :
    DE X B (.Call (.Name x p) [] [] pos) (fun r M Ψ => mkM 0 0 g C c Ξ [] [] r M Ψ) := by
  obtain ⟨f, fd, ps, mk, FO, hbs⟩ := F.ex
  refine ⟨fun pins s σ H Q I ⟨r, M, G, Ψ, R, h, kk⟩ => ?_⟩
  refine wpAny_Call_Name_kw (ld_glob I hg F.gl ?_ hdb)
  refine PySem.W.callWith_K0 I.kIn mk.kp ?_
  exact run_mkM (vs := []) (us := []) (ds := []) (zs := []) (ws := []) (dz := []) (b := (1, [], g)) mk FO (hr.mono hj) (hbs _ hb) z.tk I R .nil .nil .nil .nil rfl rfl h fun d M' v H' G' q R' s' p' => kk _ _ _ _ _ q R' s' p'
theorem de_makeMK (F : Cf X.prog X.w X.K X.mg X.base x C j c bs) (hr : Room k X.A) (z : Zx X B Ξ) (hb : (n + 1, ks, g) ∈ bs) (ha : DA X B (e :: es) ga) (hkw : DK X B kws gk) (hj : j + 1 ≤ k := by decide) (hg : Gl X x := by rfl) (hdb : (x == ("__debug__" : Str)) = false := by decide)
    (hall : (backToKw pos (keywordEach kws X.env)).all (·.1.isSome) = true := by rfl) (hks : (backToKw pos (keywordEach kws X.env)).filterMap (·.1) = ks := by rfl) (he : starEach (e :: es) X.env = (false, eval e X.env) :: starEach es X.env := by rfl)
    (hpl : ((backTo pos (starEach (e :: es) X.env)).any (·.1) || (backToKw pos (keywordEach kws X.env)).any (·.1.isNone)) = false := by rfl) :
    DE X B (.Call (.Name x p) (e :: es) kws pos) (fun r M Ψ => ga r M fun ds M1 => gk r M1 fun dz M2 => mkM n ks.length g C c Ξ ds dz r M2 Ψ) := by
  obtain ⟨f, fd, ps, mk, FO, hbs⟩ := F.ex
  refine ⟨fun pins s σ H Q I ⟨r, M, G, Ψ, R, h, kk⟩ => ?_⟩
  refine wpAny_Call_Name_kw (ld_glob I hg F.gl ?_ hdb)
  refine PySem.W.callWith_KW (h₀ := X.base) I.ok.mod.kin mk.kp hall (thn (ha.run pos pins s σ H _ I ⟨r, M, G, _, R, h, fun ds M1 vs H1 G1 q R1 s1 p1 => (⟨ds, M1, G1, q, R1, s1, p1⟩ : ∃ ds M1 G1, (gk r M1 fun dz M2 => mkM n ks.length g C c Ξ ds dz r M2 Ψ) ∧ Rel X.K B r M1 σ H1 G1 ∧ Sub G G1 ∧ RepL X.K G1 ds vs)⟩) fun us s1 ⟨vs, H1, I1, rv, ds, M1, G1, q, R1, t1, p1⟩ => ?_) hpl he
  refine thn (hkw.run pos pins s1 σ H1 _ I1 ⟨r, M1, G1, _, R1, q, fun dz M2 us H2 G2 q R2 s2 p2 => (⟨dz, M2, G2, q, R2, s2, p2⟩ : ∃ dz M2 G2, mkM n ks.length g C c Ξ ds dz r M2 Ψ ∧ Rel X.K B r M2 σ H2 G2 ∧ Sub G1 G2 ∧ RepL X.K G2 dz us)⟩) fun ws s2 ⟨zs, H2, I2, rz, dz, M2, G2, q, R2, t2, p2⟩ => ⟨I2.kIn, ?_⟩
  obtain ⟨l1, l2, q⟩ := q
  rw [hks]
  exact run_mkM (b := (n + 1, ks, g)) mk FO (hr.mono hj) (hbs _ hb) z.tk I2 R2 rv rz (p1.mono t2) p2 (congrArg Nat.succ l1) l2 ⟨rfl, rfl, q⟩ fun d M' v H' G' q R' s' p' => kk _ _ _ _ _ q R' ((t1.tr t2).tr s') p'
theorem de_makeMK0 (F : Cf X.prog X.w X.K X.mg X.base x C j c bs) (hr : Room k X.A) (z : Zx X B Ξ) (hb : (1, ks, g) ∈ bs) (hkw : DK X B kws gk) (hj : j + 1 ≤ k := by decide) (hg : Gl X x := by rfl) (hdb : (x == ("__debug__" : Str)) = false := by decide)
    (hall : (backToKw pos (keywordEach kws X.env)).all (·.1.isSome) = true := by rfl) (hks : (backToKw pos (keywordEach kws X.env)).filterMap (·.1) = ks := by rfl)
    (hpl : ((backTo pos (starEach [] X.env)).any (·.1) || (backToKw pos (keywordEach kws X.env)).any (·.1.isNone)) = false := by rfl) :
    DE X B (.Call (.Name x p) [] kws pos) (fun r M Ψ => gk r M fun dz M2 => mkM 0 ks.length g C c Ξ [] dz r M2 Ψ) := by
  obtain ⟨f, fd, ps, mk, FO, hbs⟩ := F.ex
  refine ⟨fun pins s σ H Q I ⟨r, M, G, Ψ, R, h, kk⟩ => ?_⟩
  refine wpAny_Call_Name_kw (ld_glob I hg F.gl ?_ hdb)
  refine PySem.W.callWith_KW0 (h₀ := X.base) I.ok.mod.kin mk.kp hall ?_ hpl
  refine thn (hkw.run pos pins s σ H _ I ⟨r, M, G, _, R, h, fun dz M2 us H2 G2 q R2 s2 p2 => (⟨dz, M2, G2, q, R2, s2, p2⟩ : ∃ dz M2 G2, mkM 0 ks.length g C c Ξ [] dz r M2 Ψ ∧ Rel X.K B r M2 σ H2 G2 ∧ Sub G G2 ∧ RepL X.K G2 dz us)⟩) fun ws s2 ⟨zs, H2, I2, rz, dz, M2, G2, q, R2, t2, p2⟩ => ⟨I2.kIn, ?_⟩
  obtain ⟨l1, l2, q⟩ := q
  rw [hks]
  exact run_mkM (vs := []) (us := []) (ds := []) (b := (1, ks, g)) mk FO (hr.mono hj) (hbs _ hb) z.tk I2 R2 .nil rz .nil p2 rfl l2 ⟨rfl, rfl, q⟩ fun d M' v H' G' q R' s' p' => kk _ _ _ _ _ q R' (t2.tr s') p'
end
end Z
namespace Z
open PySem PySem.Spec PyProof.Rows L2

/-! ### staticmethods, properties -/
structure Sf (P : Program) (w : World) (K : PySem.W.Frag) (mg : Str → Option Value) (base : Heap) (C : Addr) (m : Str) (k : Nat) (c : Ct) (bs : List (Nat × List Str × (List D → List D → List D))) : Prop where
  ex : ∃ f fd ps p rest mc, PySem.W.readsIn K C mc = true ∧ PySem.W.specialIn K (.ref C) "__getattribute__" = some (some (.builtin "type.__getattribute__")) ∧ PySem.W.findCls K (.ref C) mc m = some (.get (.builtin "staticmethod.__get__") (.ref p) .none (.ref C)) ∧
    PySem.W.recIn K p "staticmethod" = some (.ref f :: rest) ∧ PySem.W.keepIn K (.ref f) = true ∧ FnOk P w K mg base (L2.CX P w) k f fd ps (spC K ps.length c) ∧ ∀ b ∈ bs, BindD K fd ps b
structure Pf (P : Program) (w : World) (K : PySem.W.Frag) (mg : Str → Option Value) (base : Heap) (C : Addr) (m : Str) (k : Nat) (c : Ct) : Prop where
  ex : ∃ f fd ps p, PropOf K C m p f ∧ FnOk P w K mg base (L2.CX P w) k f fd ps (spC K ps.length c) ∧ BindD K fd ps (Z.pos 1)
section
variable {X : Cx} {B : Bs} {Ξ : XD → En → Sto → Prop} {k j n : Nat} {c : Ct} {pos apos p p' : Pos} {e o : Expr} {es : List Expr} {kws : List Keyword} {ga gk : DTA} {fa fo : DTE} {C : Addr} {fn m x : Str} {ks : List Str} {g : List D → List D → List D} {bs : List (Nat × List Str × (List D → List D → List D))}
theorem getsm_ok {pins : List (Addr × Obj)} {σ : L2.St} {H : Hp} {s : Shared} {A : Around} {E : Value → Shared → Prop} {pl : Sem Bool} {Q : Value × List Value → Shared → Prop} {f p : Addr} {rest : List Value} {mc : Value} (I : L2.Inv X pins σ H s) (h1 : PySem.W.readsIn X.K C mc = true)
    (h2 : PySem.W.specialIn X.K (.ref C) "__getattribute__" = some (some (.builtin "type.__getattribute__"))) (h3 : PySem.W.findCls X.K (.ref C) mc m = some (.get (.builtin "staticmethod.__get__") (.ref p) .none (.ref C)))
    (h4 : PySem.W.recIn X.K p "staticmethod" = some (.ref f :: rest)) (h : Q (.ref f, []) { s with toks := s.toks + 1 }) : wpAny (model X.prog X.w) A (getMethod (.ref C) m pl) Q E s :=
  PySem.W.method_cls I.kIn h2 (PySem.W.cls_bind I.kIn h1 h3 (wpAny_call (PySem.W.sm_get (s := { s with toks := s.toks + 1 }) I.kIn h4 (PySem.W.handed_on rfl h))))
/-- C.m(e, ..) -/
theorem de_sm {pl : Sem Bool} (F : Sf X.prog X.w X.K X.mg X.base C m j c bs) (hm : X.mg x = some (.ref C)) (hr : Room k X.A) (z : Zx X B Ξ) (hb : (n, [], g) ∈ bs) (ha : DA X B (e :: es) ga) (hj : j ≤ k := by decide) (hg : Gl X x := by rfl) (hdb : (x == ("__debug__" : Str)) = false := by decide)
    (hst : starEach (e :: es) X.env = (false, eval e X.env) :: starEach es X.env := by rfl) (hpl : (backTo pos (starEach es X.env)).any (·.1) = false := by rfl)
    (ht : eval (.Call (.Attribute (.Name x p) m apos) (e :: es) [] pos) X.env = (do let ov ← eval (.Name x p) X.env; standAt apos.atName; let (f, first) ← holding [ov] (getMethod ov m pl); callWith pos f first (backTo pos (starEach (e :: es) X.env)) (backToKw pos (keywordEach [] X.env))) := by rfl) :
    DE X B (.Call (.Attribute (.Name x p) m apos) (e :: es) [] pos) (fun r M Ψ => ga r M fun ds M2 => callD n 0 g c Ξ ds [] r M2 Ψ) := by
  obtain ⟨f, fd, ps, q, rest, mc, h1, h2, h3, h4, kp, FO, hbs⟩ := F.ex
  refine ⟨fun pins s σ H Q I ⟨r, M, G, Ψ, R, h, kk⟩ => ?_⟩
  refine PySem.W.methodCall_KW (pl := pl) (thn ((pe_glob (pos := p) (v := .ref C) hg hm rfl hdb).run pins s σ H (fun v H1 => v = .ref C ∧ H1 = H) I ⟨rfl, rfl⟩) fun u s1 ⟨v, H1, I1, rx, q1⟩ => ?_) ht
  obtain ⟨rfl, rfl⟩ := q1
  obtain rfl : u = Value.ref C := rx
  refine getsm_ok I1 h1 h2 h3 h4 ?_
  have I1' := I1.tok (s1.toks + 1)
  refine PySem.W.callWith_K (first := []) (h₀ := X.base) I.ok.mod.kin kp (thn (ha.run pos pins _ σ H1 _ I1' ⟨r, M, G, _, R, h, fun ds M2 vs H2 G2 q R2 s2 p2 => (⟨ds, M2, G2, q, R2, s2, p2⟩ : ∃ ds M2 G2, callD n 0 g c Ξ ds [] r M2 Ψ ∧ Rel X.K B r M2 σ H2 G2 ∧ Sub G G2 ∧ RepL X.K G2 ds vs)⟩) fun us s2 ⟨vs, H2, I2, rv, ds, M2, G2, ⟨l1, _, q⟩, R2, t2, p2⟩ => ⟨I2.kIn, ?_⟩) hst hpl
  exact run_c (zs := []) (ws := []) (dz := []) FO (hr.mono hj) (hbs _ hb) z.tk I2 R2 rv .nil p2 .nil l1 rfl q fun d M' v H' G' q R' s' p' => kk _ _ _ _ _ q R' (t2.tr s') p'
theorem de_smK0 {pl : Sem Bool} (F : Sf X.prog X.w X.K X.mg X.base C m j c bs) (hm : X.mg x = some (.ref C)) (hr : Room k X.A) (z : Zx X B Ξ) (hb : (0, ks, g) ∈ bs) (hkw : DK X B kws gk) (hj : j ≤ k := by decide) (hg : Gl X x := by rfl) (hdb : (x == ("__debug__" : Str)) = false := by decide)
    (hall : (backToKw pos (keywordEach kws X.env)).all (·.1.isSome) = true := by rfl) (hks : (backToKw pos (keywordEach kws X.env)).filterMap (·.1) = ks := by rfl)
    (hpl : ((backTo pos (starEach [] X.env)).any (·.1) || (backToKw pos (keywordEach kws X.env)).any (·.1.isNone)) = false := by rfl)
    (ht : eval (.Call (.Attribute (.Name x p) m apos) [] kws pos) X.env = (do let ov ← eval (.Name x p) X.env; standAt apos.atName; let (f, first) ← holding [ov] (getMethod ov m pl); callWith pos f first (backTo pos (starEach [] X.env)) (backToKw pos (keywordEach kws X.env))) := by rfl) :
    DE X B (.Call (.Attribute (.Name x p) m apos) [] kws pos) (fun r M Ψ => gk r M fun dz M2 => callD 0 ks.length g c Ξ [] dz r M2 Ψ) := by
  obtain ⟨f, fd, ps, q, rest, mc, h1, h2, h3, h4, kp, FO, hbs⟩ := F.ex
  refine ⟨fun pins s σ H Q I ⟨r, M, G, Ψ, R, h, kk⟩ => ?_⟩
  refine PySem.W.methodCall_KW (pl := pl) (thn ((pe_glob (pos := p) (v := .ref C) hg hm rfl hdb).run pins s σ H (fun v H1 => v = .ref C ∧ H1 = H) I ⟨rfl, rfl⟩) fun u s1 ⟨v, H1, I1, rx, q1⟩ => ?_) ht
  obtain ⟨rfl, rfl⟩ := q1
  obtain rfl : u = Value.ref C := rx
  refine getsm_ok I1 h1 h2 h3 h4 ?_
  have I1' := I1.tok (s1.toks + 1)
  refine PySem.W.callWith_KW0 (first := []) (h₀ := X.base) I.ok.mod.kin kp hall ?_ hpl
  refine thn (hkw.run pos pins _ σ H1 _ I1' ⟨r, M, G, _, R, h, fun dz M3 us H3 G3 q R3 s3 p3 => (⟨dz, M3, G3, q, R3, s3, p3⟩ : ∃ dz M3 G3, callD 0 ks.length g c Ξ [] dz r M3 Ψ ∧ Rel X.K B r M3 σ H3 G3 ∧ Sub G G3 ∧ RepL X.K G3 dz us)⟩) fun ws s3 ⟨zs, H3, I3, rz, dz, M3, G3, ⟨l1, l2, q⟩, R3, t3, p3⟩ => ⟨I3.kIn, ?_⟩
  rw [hks]
  exact run_c (us := []) (vs := []) (ds := []) FO (hr.mono hj) (hbs _ hb) z.tk I3 R3 .nil rz .nil p3 l1 l2 q fun d M' v H' G' q R' s' p' => kk _ _ _ _ _ q R' (t3.tr s') p'
/-- o.m, a property -/
theorem de_prop (F : Pf X.prog X.w X.K X.mg X.base C fn j c) (T : Cls X.K C) (hr : Room k X.A) (ho : DE X B o fo) (hj : j + 1 ≤ k := by decide) (hab : attributeBase o fn X.env (eval o X.env) = eval o X.env := by rfl) :
    DE X B (.Attribute o fn pos) (fun r M Ψ => fo r M fun x M1 => isO C M1 x fun _ => c [x] M1 Ψ noX) := by
  obtain ⟨f, fd, ps, q, hp, FO, hb⟩ := F.ex
  refine ⟨fun pins s σ H Q I ⟨r, M, G, Ψ, R, h, kk⟩ => ?_⟩
  refine attr_of hab (thn (ho.run pins s σ H _ I ⟨r, M, G, _, R, h, fun x M1 v H1 G1 q R1 s1 p1 => (⟨x, M1, G1, q, R1, s1, p1⟩ : ∃ x M1 G1, (isO C M1 x fun _ => c [x] M1 Ψ noX) ∧ Rel X.K B r M1 σ H1 G1 ∧ Sub G G1 ∧ Rep X.K G1 x v)⟩) fun u s1 ⟨v, H1, I1, rx, x, M1, G1, q, R1, t1, p1⟩ => ?_)
  obtain ⟨fs, e1, q⟩ := isO_some q
  obtain ⟨a, dx, fvs, rfl, h1, r1⟩ := obj_rep R1.wd p1 e1
  obtain rfl : u = Value.ref a := rx
  obtain ⟨mA, O, _, _, _, _⟩ := ins_get I1.hok h1
  obtain ⟨od, J, _⟩ := O.look
  obtain ⟨rest, hrec⟩ := hp.rec_
  have I2 := I1.tok (s1.toks + 1)
  have hc : (PySem.W.clsIn X.K C).isSome = true := by
    obtain ⟨cd, hc, _⟩ := PySem.W.any_some T.hd
    rw [hc]
    rfl
  have hr1 : Room (j + 1) X.A := hr.mono hj
  obtain ⟨hl, gl, gV, kb, rel⟩ := hb
  have rr := rel G1 [x] [.ref a] [] [] (.cons p1 .nil) .nil
  have hsp : spC X.K ps.length c (gV [.ref a] []) H1 Q (fun _ _ _ => False) := ⟨by rw [← rr.length]; exact hl [x] [] rfl rfl, _, G1, M1, Ψ, _, R1.wd, rr, q, fun d M' v H' G' q w s p => kk _ _ _ _ _ q (R1.go w s) (t1.tr s.gsub) p, fun _ _ _ _ _ _ z _ _ _ => z.elim⟩
  refine PySem.W.get_bind I1.kIn J (PySem.W.plainGet_of (T.get fn)).1 (PySem.W.findObj_data hc hp.at_ hp.get hp.tak) (PySem.W.plainGet_of (T.get fn)).2 (wpAny_call (PySem.W.prop_get (s := { s1 with toks := s1.toks + 1 }) I1.kIn hrec ?_))
  refine codeAny_mono (FO.run X.A.in1 X.stack { s1 with toks := s1.toks + 1 } H1 ⟨[.ref a], []⟩ (gl [.ref a] []) (gV [.ref a] []) Q _ hr1.in1 I2.env0.in1 (kb.to _ [.ref a] [] I1.kIn rfl rfl) (kb.rel (.cons rfl .nil) .nil) hsp) fun r s' hq => ?_
  cases r with
  | error e =>
    obtain ⟨_, _, _, _, _, _, _, _, _, _, _, _, z⟩ := hq
    exact z.elim
  | ok fl =>
    cases fl with
    | ret u =>
      obtain ⟨v, H', I3, rv, q3⟩ := I2.after hq
      show wpAny _ _ (handedOut u) _ _ _
      rw [PySem.W.handedOut_of (handed_of rv)]
      exact wpAny_pure ⟨v, H', I3, rv, q3⟩
    | next => exact False.elim hq
    | brk => exact False.elim hq
    | cont => exact False.elim hq

/-! ### methods of texts -/
def OkM (K : PySem.W.Frag) (r : V → List V → Hp → VK → Prop) (g : Sto → D → List D → PD → Prop) : Prop := ∀ (M : Sto) (H G : Hp) (x : D) (v : V) (ds : List D) (vs : List V) (φ : PD) (Q : VK), Wd K M H G → Rep K G x v → RepL K G ds vs → g M x ds φ → Post K H G M φ Q → r v vs H Q
def isS : D → Prop
  | .str _ => True
  | _ => False
theorem de_sm1 {id : String} {name : Str} {r : V → List V → Hp → VK → Prop} {g : Sto → D → List D → PD → Prop} (slot : Slot "str" name id) (ty : typeOf (.builtin id) = pure (.type "method_descriptor")) (rule : MtR X id r) (ok : OkM X.K r g) (ho : DE X B o fo) (he : DE X B e fa)
    (hs : starEach [e] X.env = [(false, eval e X.env)] := by rfl) (hbase : attributeBase o name X.env (eval o X.env) = eval o X.env := by rfl) (hline : (apos.endLine == pos.line) = true := by rfl) :
    DE X B (.Call (.Attribute o name apos) [e] [] pos) (fun r M Ψ => fo r M fun x M1 => isS x ∧ fa r M1 fun y M2 => g M2 x [y] Ψ) := PE_imp (pe_m1 slot ty rule ho he hs hbase hline) fun σ H Q ⟨r, M, G, Ψ, R, h, k⟩ => by
  refine ⟨r, M, G, _, R, h, fun x M1 v H1 G1 ⟨q1, q⟩ R1 s1 p1 => ⟨?_, r, M1, G1, _, R1, q, fun y M2 u H2 G2 q2 R2 s2 p2 => ?_⟩⟩
  · cases p1 <;> first | exact ⟨_, rfl⟩ | exact q1.elim
  · exact ok M2 H2 G2 _ _ _ _ _ _ R2.wd (p1.mono s2) (.cons p2 .nil) q2 fun d M' w H' G' f w' s' p => k _ _ _ _ _ f (R2.go w' s') ((s1.tr s2).tr s'.gsub) p
theorem de_sm0 {id : String} {name : Str} {r : V → List V → Hp → VK → Prop} {g : Sto → D → List D → PD → Prop} (slot : Slot "str" name id) (ty : typeOf (.builtin id) = pure (.type "method_descriptor")) (rule : MtR X id r) (ok : OkM X.K r g) (ho : DE X B o fo)
    (hbase : attributeBase o name X.env (eval o X.env) = eval o X.env := by rfl) (hline : (apos.endLine == pos.line) = true := by rfl) :
    DE X B (.Call (.Attribute o name apos) [] [] pos) (fun r M Ψ => fo r M fun x M1 => isS x ∧ g M1 x [] Ψ) := PE_imp (pe_m0 slot ty rule ho hbase hline) fun σ H Q ⟨r, M, G, Ψ, R, h, k⟩ => by
  refine ⟨r, M, G, _, R, h, fun x M1 v H1 G1 ⟨q1, q⟩ R1 s1 p1 => ⟨?_, ?_⟩⟩
  · cases p1 <;> first | exact ⟨_, rfl⟩ | exact q1.elim
  · exact ok M1 H1 G1 _ _ _ _ _ _ R1.wd p1 .nil q fun d M' w H' G' f w' s' p => k _ _ _ _ _ f (R1.go w' s') (s1.tr s'.gsub) p
/-- texts -/
def strsD : List D → Option (List Str)
  | [] => some []
  | .str a :: l => (strsD l).map (a :: ·)
  | _ => none
theorem strsD_rep {K : PySem.W.Frag} {G : Hp} : ∀ {l : List D} {vs : List V} {ys : List Str}, RepL K G l vs → strsD l = some ys → vs = ys.map V.str
  | _, _, ys, .nil, h => by cases h; rfl
  | _, _, ys, .cons (d := d) p r, h => by
    cases p with
    | str =>
      unfold strsD at h
      obtain ⟨zs, e, rfl⟩ := Option.map_eq_some_iff.mp h
      rw [strsD_rep r e]; rfl
    | _ => cases h
theorem strsD_map : ∀ ys : List Str, strsD (ys.map D.str) = some ys
  | [] => rfl
  | y :: r => by show (strsD (r.map D.str)).map (y :: ·) = _; rw [strsD_map r]; rfl
def joinD (M : Sto) (x : D) (ds : List D) (φ : PD) : Prop := match x, ds with
  | .str a, [d] => ∃ l ys, (lstOf M d = some l ∨ tupOf d = some l) ∧ strsD l = some ys ∧ (ys.map (·.length)).sum + ys.length * a.length ≤ 16777216 ∧ φ (.str (Txt.join a ys)) M
  | _, _ => False
theorem ok_join {K : PySem.W.Frag} : OkM K (fun x xs H Q => ∃ a p, ∃ ys : List Str, x = .str a ∧ xs = [.ref p] ∧ (SqL K H p (ys.map V.str) ∨ SqT K H p (ys.map V.str)) ∧ (ys.map (·.length)).sum + ys.length * a.length ≤ 16777216 ∧ Q (.str (Txt.join a ys)) H) joinD := fun M H G x v ds vs φ Q w r rs h k => by
  unfold joinD at h
  split at h
  · cases r
    cases rs with
    | cons r1 rs =>
      cases rs
      obtain ⟨l, ys, h1, h2, h3, h4⟩ := h
      rcases h1 with h1 | h1
      · obtain ⟨a, us, e0, e, r2⟩ := one_lst w (.cons r1 .nil) h1
        cases e0
        rw [strsD_rep r2 h2] at e
        exact ⟨_, a, ys, rfl, rfl, .inl e, h3, Post.id k w h4 .str⟩
      · obtain ⟨a, us, rfl, e, r2⟩ := tup_rep w r1 h1
        rw [strsD_rep r2 h2] at e
        exact ⟨_, a, ys, rfl, rfl, .inr e, h3, Post.id k w h4 .str⟩
  · exact h.elim
theorem de_join (ho : DE X B o fo) (he : DE X B e fa) (hs : starEach [e] X.env = [(false, eval e X.env)] := by rfl) (hbase : attributeBase o "join" X.env (eval o X.env) = eval o X.env := by rfl) (hline : (apos.endLine == pos.line) = true := by rfl) :
    DE X B (.Call (.Attribute o "join" apos) [e] [] pos) (fun r M Ψ => fo r M fun x M1 => isS x ∧ fa r M1 fun y M2 => joinD M2 x [y] Ψ) := de_sm1 PySem.F.slot_str_join PySem.F.type_str_join mt_join ok_join ho he hs hbase hline

/-! ### f'..' -/
def fmtD (d : D) (φ : Str → Prop) : Prop := match d with
  | .str y => y.length ≤ sizeLine ∧ φ y
  | .int i => i.natAbs.log2 < 1920 ∧ φ (toString i)
  | _ => False
theorem de_fmt (he : DE X B e fa) : DE X B (.FormattedValue e (-1) none pos) (fun r M Ψ => fa r M fun d M1 => fmtD d fun y => Ψ (.str y) M1) := PE_imp (pe_fmt he) fun σ H Q ⟨r, M, G, Ψ, R, h, k⟩ => by
  refine ⟨r, M, G, _, R, h, fun d M1 v H1 G1 q R1 s1 p1 => ?_⟩
  unfold fmtD at q
  split at q
  · cases p1; exact .inl ⟨_, rfl, q.1, k _ _ _ _ _ q.2 R1 s1 .str⟩
  · cases p1; exact .inr ⟨_, rfl, q.1, k _ _ _ _ _ q.2 R1 s1 .str⟩
  · exact q.elim
def fmtRD (d : D) (φ : Str → Prop) : Prop := match d with
  | .str y => (reprText y).length ≤ sizeLine ∧ φ (reprText y)
  | .int i => i.natAbs.log2 < 1920 ∧ φ (toString i)
  | _ => False
theorem de_fmtR (he : DE X B e fa) : DE X B (.FormattedValue e 114 none pos) (fun r M Ψ => fa r M fun d M1 => fmtRD d fun y => Ψ (.str y) M1) := PE_imp (pe_fmtR he) fun σ H Q ⟨r, M, G, Ψ, R, h, k⟩ => by
  refine ⟨r, M, G, _, R, h, fun d M1 v H1 G1 q R1 s1 p1 => ?_⟩
  unfold fmtRD at q
  split at q
  · cases p1; exact .inl ⟨_, rfl, q.1, k _ _ _ _ _ q.2 R1 s1 .str⟩
  · cases p1; exact .inr ⟨_, rfl, q.1, k _ _ _ _ _ q.2 R1 s1 .str⟩
  · exact q.elim
inductive DJ (X : Cx) (B : Bs) : List Expr → List DTE → Prop where
  | nil : DJ X B [] []
  | cons {e : Expr} {t : DTE} {es : List Expr} {ts : List DTE} (h : DE X B e t) (r : DJ X B es ts) : DJ X B (e :: es) (t :: ts)
theorem DJ.pj : ∀ {es : List Expr} {ts : List DTE}, DJ X B es ts → PJ X es (ts.map (lift X.K B))
  | _, _, .nil => .nil
  | _, _, .cons h r => .cons h r.pj
def jsD : List DTE → Str → En → Sto → (Str → Sto → Prop) → Prop
  | [], acc, _, M, φ => φ acc M
  | t :: ts, acc, r, M, φ => t r M fun d M1 => match d with
    | .str y => (acc ++ y).length ≤ sizeLine ∧ jsD ts (acc ++ y) r M1 φ
    | _ => False
theorem js_ok {σ : L2.St} {Q : Str → Hp → Prop} {φ : Str → Sto → Prop} {r : En} : ∀ {ts : List DTE} {acc : Str} {M : Sto} {H G : Hp}, Rel X.K B r M σ H G → jsD ts acc r M φ →
    (∀ y M' H' G', φ y M' → Rel X.K B r M' σ H' G' → Sub G G' → Q y H') → tJs (ts.map (lift X.K B)) acc σ H Q
  | [], acc, M, H, G, R, h, k => k _ _ _ _ h R Sub.rfl'
  | t :: ts, acc, M, H, G, R, h, k => ⟨r, M, G, _, R, h, fun d M1 v H1 G1 q R1 s1 p1 => by
    split at q
    · cases p1
      exact ⟨_, rfl, q.1, js_ok R1 q.2 fun y M' H' G' q R' s => k y M' H' G' q R' (s1.tr s)⟩
    · exact q.elim⟩
theorem de_joined {v1 v2 : Expr} {rest : List Expr} {ts : List DTE} (h : DJ X B (v1 :: v2 :: rest) ts) : DE X B (.JoinedStr (v1 :: v2 :: rest) pos) (fun r M Ψ => jsD ts Str.empty r M fun y M1 => Ψ (.str y) M1) := PE_imp (pe_joined h.pj) fun σ H Q ⟨r, M, G, Ψ, R, h, k⟩ =>
  js_ok R h fun y M' H' G' q R' s => k _ _ _ _ _ q R' s .str
theorem de_joined1 (h : DE X B e fa) : DE X B (.JoinedStr [e] pos) fa := pe_joined1 h
end
end Z
namespace Z
open PySem PySem.Spec PyProof.Rows L2

/-! ### a def with its defaults, by contract -/
section
variable {P : Program} {w : World} {K : PySem.W.Frag} {mg : Str → Option Value} {base : Heap} {x qual : Str} {st : Stmt} {f : Addr} {fd : FuncData} {N ps : List Str} {k : Nat} {dvs : List V} {kws : List (Str × V)}
abbrev FnZ (K : PySem.W.Frag) (x qual : Str) (st : Stmt) (dvs : List V) (kws : List (Str × V)) (f : Addr) (fd : FuncData) : Prop := FunD K x qual (defArgs st) (defBody st) (defScope st) dvs kws f fd
theorem fnD (F : FnZ K x qual st dvs kws f fd) (S : FnScope N ps (defScope st)) (c : Ct)
    (hb : ∀ (cdv : Value) (A : Around) (outer : List Env) (s : Shared) (H : Hp) (E : XK) (B : Bs) (Ξ : XD → Sto → Prop), Room k (A.deeper (envOfC qual (defScope st) s.heap.objs.size f cdv)) →
      Zx (cxOf (L2.CX P w) P w K mg base N qual (defScope st) f cdv A outer s H E) B (exF B.M Ξ) →
      ∃ t, DSs (cxOf (L2.CX P w) P w K mg base N qual (defScope st) f cdv A outer s H E) B (defBody st) t ∧
        ∀ (ds : List D) (Ψ : D → Sto → Prop), ds.length = ps.length → c ds B.M Ψ Ξ → t { nx := fun _ M' => rtF B.M Ψ .non M', rt := rtF B.M Ψ } (ent N.length ds) B.M) :
    FnOk P w K mg base (L2.CX P w) (k + 1) f fd ps (spC K ps.length c) := by
  refine F.ok S (fun vs H Q E h => h.1) fun cdv A outer s H vs Q E hr h => ?_
  obtain ⟨hl, ds, G, M, Ψ, Ξ, wd, r, hc, hQ, hE⟩ := h
  have tk0 : Takes (cxOf (L2.CX P w) P w K mg base N qual (defScope st) f cdv A outer s H E) (fun cls d _ H => E cls d H) := takes_of rfl rfl rfl rfl
  obtain ⟨t, ht, q⟩ := hb cdv A outer s H E ⟨H, G, M⟩ Ξ hr ⟨tk0.imp (exF_take (B := ⟨H, G, M⟩) hE), passes_of rfl⟩
  have end_ : ∀ (d : D) (r' : En) (M' : Sto) (v : V) (σ' : L2.St) (H' G' : Hp), rtF M Ψ d M' → Rel K ⟨H, G, M⟩ r' M' σ' H' G' → Rep K G' d v → Q v H' := fun d r' M' v σ' H' G' ⟨d', M'', fr, q⟩ R' p => by
    cases fr with
    | same => exact hQ _ _ _ _ _ q R'.wd R'.sin p
    | drop =>
      obtain ⟨w1, s1⟩ := frz_end R'.wd R'.sin
      exact hQ _ _ _ _ _ q w1 s1 (p.mono frzG_sub)
    | frz n =>
      obtain ⟨w1, s1⟩ := frz_end R'.wd R'.sin
      exact hQ _ _ _ _ _ q w1 s1 ((p.mono frzG_sub).sb (rep_frz R'.wd n))
  refine ⟨_, ht, ent N.length ds, M, G, _, rel_start wd r, q ds Ψ (r.length.trans hl) hc, ⟨fun r' M' σ' H' G' q' R' s' => ?_, fun d r' M' v σ' H' G' q' R' p => end_ d r' M' v σ' H' G' q' R' p, fun _ _ _ _ _ q' _ _ => q'.elim, fun _ _ _ _ _ q' _ _ => q'.elim⟩⟩
  exact end_ .non r' M' .non σ' H' G' q' R' .non
theorem fun_of (F : FnZ K x qual st [] kws f fd) : Fun K x qual st f fd := by
  obtain ⟨oc, od, dV, kV, doc, pm, an, cdv, ct, osl, rfl, lk, hcd, hD, _⟩ := F.ex
  rcases hD with ⟨_, rfl⟩ | ⟨e, _⟩
  · exact ⟨⟨oc, od, kV, doc, pm, an, cdv, ct, osl, rfl, lk, hcd⟩, F.kp⟩
  · exact absurd rfl e
/-- where the parameters' values come from: the i-th positional value, keyword's value, default -/
inductive Src where
  | p (i : Nat) | k (i : Nat) | d (i : Nat)
def srcO {α : Type} (us its ws : List α) : Src → Option α
  | .p i => us[i]?
  | .k i => ws[i]?
  | .d i => its[i]?
def gS {α : Type} : List Src → List α → List α → List α → List α
  | [], _, _, _ => []
  | s :: ss, us, its, ws => match srcO us its ws s with
    | some a => a :: gS ss us its ws
    | none => gS ss us its ws
theorem get_vals {as : List V} {bs : List Value} (r : Vals as bs) (i : Nat) : (as[i]? = none ∧ bs[i]? = none) ∨ ∃ a b, as[i]? = some a ∧ bs[i]? = some b ∧ L2.RelV a b := by
  rcases Nat.lt_or_ge i as.length with h | h
  · obtain ⟨u, hu, ru⟩ := r.get (List.getElem?_eq_getElem h)
    exact .inr ⟨_, _, List.getElem?_eq_getElem h, hu, ru⟩
  · exact .inl ⟨List.getElem?_eq_none h, List.getElem?_eq_none (r.length ▸ h)⟩
theorem get_reps {G : Hp} {as : List D} {bs : List V} (r : RepL K G as bs) (i : Nat) : (as[i]? = none ∧ bs[i]? = none) ∨ ∃ a b, as[i]? = some a ∧ bs[i]? = some b ∧ Rep K G a b := by
  rcases Nat.lt_or_ge i as.length with h | h
  · obtain ⟨u, hu, ru⟩ := r.get (List.getElem?_eq_getElem h)
    exact .inr ⟨_, _, List.getElem?_eq_getElem h, hu, ru⟩
  · exact .inl ⟨List.getElem?_eq_none h, List.getElem?_eq_none (r.length ▸ h)⟩
theorem vals_gS {us its ws : List Value} {vs ds zs : List V} (r1 : Vals vs us) (r2 : Vals ds its) (r3 : Vals zs ws) : ∀ ss : List Src, Vals (gS ss vs ds zs) (gS ss us its ws)
  | [] => .nil
  | s :: ss => by
    have ih := vals_gS r1 r2 r3 ss
    have g : (srcO vs ds zs s = none ∧ srcO us its ws s = none) ∨ ∃ a b, srcO vs ds zs s = some a ∧ srcO us its ws s = some b ∧ L2.RelV a b := by
      cases s with
      | p i => exact get_vals r1 i
      | k i => exact get_vals r3 i
      | d i => exact get_vals r2 i
    rcases g with ⟨h1, h2⟩ | ⟨a, b, h1, h2, r⟩
    · simp only [gS, h1, h2]; exact ih
    · simp only [gS, h1, h2]; exact .cons r ih
theorem rep_gS {G : Hp} {us its ws : List V} {vs ds zs : List D} (r1 : RepL K G vs us) (r2 : RepL K G ds its) (r3 : RepL K G zs ws) : ∀ ss : List Src, RepL K G (gS ss vs ds zs) (gS ss us its ws)
  | [] => .nil
  | s :: ss => by
    have ih := rep_gS r1 r2 r3 ss
    have g : (srcO vs ds zs s = none ∧ srcO us its ws s = none) ∨ ∃ a b, srcO vs ds zs s = some a ∧ srcO us its ws s = some b ∧ Rep K G a b := by
      cases s with
      | p i => exact get_reps r1 i
      | k i => exact get_reps r3 i
      | d i => exact get_reps r2 i
    rcases g with ⟨h1, h2⟩ | ⟨a, b, h1, h2, r⟩
    · simp only [gS, h1, h2]; exact ih
    · simp only [gS, h1, h2]; exact .cons r ih
/-- n values all of the parameters, no defaults stand -/
theorem bind0 (F : FnZ K x qual st [] kws f fd) (n : Nat) (hn : ps.length = n)
    (h : ∀ (kV doc pm : Value) (an : Option Addr) (cdv ct : Value) (us : List Value), us.length = n → bindArgs (PySem.W.fnOf x qual (defArgs st) (defBody st) (defScope st) .none kV doc pm an cdv ct) ⟨us, []⟩ = pure (ps.zip us)) : BindD K fd ps (Z.pos n) := by
  obtain ⟨oc, od, dV, kV, doc, pm, an, cdv, ct, osl, rfl, lk, hcd, hD, _⟩ := F.ex
  rcases hD with ⟨_, rfl⟩ | ⟨e, _⟩
  · exact ⟨fun ds zs h _ => h.trans hn.symm, fun us _ => us, fun vs _ => vs, ⟨fun s us ws _ h1 h2 => .of_eq (by
      have e : ws = [] := List.length_eq_zero_iff.mp h2
      rw [e]; exact h kV doc pm an cdv ct us h1), fun r _ => r⟩, fun G ds vs zs us r _ => r⟩
  · exact absurd rfl e
theorem bind0k (F : FnZ K x qual st [] kws f fd) (n : Nat) (ks : List Str) (ss : List Src) (hl : ∀ {α : Type} (us its ws : List α), us.length = n → its.length = 0 → ws.length = ks.length → (gS ss us its ws).length = ps.length)
    (h : ∀ (kV doc pm : Value) (an : Option Addr) (cdv ct : Value) (us ws : List Value), us.length = n → ws.length = ks.length → bindArgs (PySem.W.fnOf x qual (defArgs st) (defBody st) (defScope st) .none kV doc pm an cdv ct) ⟨us, ks.zip ws⟩ = pure (ps.zip (gS ss us [] ws))) :
    BindD K fd ps (n, ks, fun ds dz => gS ss ds [] dz) := by
  obtain ⟨oc, od, dV, kV, doc, pm, an, cdv, ct, osl, rfl, lk, hcd, hD, _⟩ := F.ex
  rcases hD with ⟨_, rfl⟩ | ⟨e, _⟩
  · exact ⟨fun ds zs h1 h2 => hl ds [] zs h1 rfl h2, fun us ws => gS ss us [] ws, fun us ws => gS ss us [] ws, ⟨fun s us ws _ h1 h2 => .of_eq (h kV doc pm an cdv ct us ws h1 h2), fun r1 r2 => vals_gS r1 .nil r2 ss⟩, fun G ds vs zs us r1 r2 => rep_gS r1 .nil r2 ss⟩
  · exact absurd rfl e
/-- with the defaults dd -/
theorem bindd (F : FnZ K x qual st dvs kws f fd) (n : Nat) (ks : List Str) (ss : List Src) (dd : List D) (hdd : ∀ G, RepL K G dd dvs) (hd : dvs ≠ []) (hl : ∀ {α : Type} (us its ws : List α), us.length = n → its.length = dd.length → ws.length = ks.length → (gS ss us its ws).length = ps.length)
    (h : ∀ (T : Addr) (kV doc pm : Value) (an : Option Addr) (cdv ct : Value) (us its ws : List Value), us.length = n → its.length = dd.length → ws.length = ks.length →
      ∃ k, bindArgs (PySem.W.fnOf x qual (defArgs st) (defBody st) (defScope st) (.ref T) kV doc pm an cdv ct) ⟨us, ks.zip ws⟩ = seqItems? (.ref T) >>= k ∧ k (some its.toArray) = pure (ps.zip (gS ss us its ws))) :
    BindD K fd ps (n, ks, fun ds dz => gS ss ds dd dz) := by
  obtain ⟨oc, od, dV, kV, doc, pm, an, cdv, ct, osl, rfl, lk, hcd, hD, _⟩ := F.ex
  rcases hD with ⟨e, _⟩ | ⟨_, T, o, its, m, rfl, lT, oT, rT⟩
  · exact absurd e hd
  · have l1 : its.length = dd.length := rT.length.symm.trans (hdd (fun _ => none)).length.symm
    refine ⟨fun ds zs h1 h2 => hl ds dd zs h1 rfl h2, fun us ws => gS ss us its ws, fun us ws => gS ss us dvs ws, ⟨fun s us ws X h1 h2 => ?_, fun r1 r2 => vals_gS r1 rT r2 ss⟩, fun G ds vs zs us r1 r2 => rep_gS r1 (hdd G) r2 ss⟩
    obtain ⟨k, e1, e2⟩ := h T kV doc pm an cdv ct us its ws h1 l1 h2
    refine BindsTo.of_looks fun M => ?_
    rw [e1]
    exact looks_items X lT oT (.of_pure e2)
/-- with the defaults dd and the lacking keyword-only ones md -/
theorem bindk (F : FnZ K x qual st dvs kws f fd) (n : Nat) (ks : List Str) (ss : List Src) (dd md : List D) (ms : List (Str × V)) (hdd : ∀ G, RepL K G dd dvs) (hmd : ∀ G, RepL K G md (ms.map (·.2))) (hd : dvs ≠ []) (hk : kws ≠ []) (hms : ∀ q ∈ ms, q ∈ kws)
    (hl : ∀ {α : Type} (us its ws : List α), us.length = n → its.length = (dd ++ md).length → ws.length = ks.length → (gS ss us its ws).length = ps.length)
    (h : ∀ (T D' : Addr) (doc pm : Value) (an : Option Addr) (cdv ct : Value) (us its mv ws : List Value), us.length = n → its.length = dd.length → mv.length = md.length → ws.length = ks.length →
      ∃ k, bindArgs (PySem.W.fnOf x qual (defArgs st) (defBody st) (defScope st) (.ref T) (.ref D') doc pm an cdv ct) ⟨us, ks.zip ws⟩ = seqItems? (.ref T) >>= k ∧ KwChain D' ((ms.map (·.1)).zip mv) (k (some its.toArray)) (ps.zip (gS ss us (its ++ mv) ws))) :
    BindD K fd ps (n, ks, fun ds dz => gS ss ds (dd ++ md) dz) := by
  have l1 : dd.length = dvs.length := (hdd (fun _ => none)).length
  have l2 : md.length = ms.length := by rw [(hmd (fun _ => none)).length, List.length_map]
  obtain ⟨its, mv, kb⟩ := FunD.kbinds (ps := ps) F n ks ms (fun us its mv ws => gS ss us (its ++ mv) ws) hd hk hms (fun r1 r2 r3 r4 => vals_gS r1 (r2.append r3) r4 ss) (fun T D' doc pm an cdv ct us its mv ws h1 h2 h3 h4 => h T D' doc pm an cdv ct us its mv ws h1 (h2.trans l1.symm) (h3.trans l2.symm) h4)
  exact ⟨fun ds zs h1 h2 => hl ds (dd ++ md) zs h1 rfl h2, _, _, kb, fun G ds vs zs us r1 r2 => rep_gS r1 ((hdd G).app (hmd G)) r2 ss⟩
/-- keyword-only ones alone -/
theorem bindk0 (F : FnZ K x qual st [] kws f fd) (n : Nat) (ks : List Str) (ss : List Src) (md : List D) (ms : List (Str × V)) (hmd : ∀ G, RepL K G md (ms.map (·.2))) (hk : kws ≠ []) (hms : ∀ q ∈ ms, q ∈ kws)
    (hl : ∀ {α : Type} (us its ws : List α), us.length = n → its.length = md.length → ws.length = ks.length → (gS ss us its ws).length = ps.length)
    (h : ∀ (D' : Addr) (doc pm : Value) (an : Option Addr) (cdv ct : Value) (us mv ws : List Value), us.length = n → mv.length = md.length → ws.length = ks.length →
      KwChain D' ((ms.map (·.1)).zip mv) (bindArgs (PySem.W.fnOf x qual (defArgs st) (defBody st) (defScope st) .none (.ref D') doc pm an cdv ct) ⟨us, ks.zip ws⟩) (ps.zip (gS ss us mv ws))) :
    BindD K fd ps (n, ks, fun ds dz => gS ss ds md dz) := by
  have l2 : md.length = ms.length := by rw [(hmd (fun _ => none)).length, List.length_map]
  obtain ⟨mv, kb⟩ := FunD.kbinds0 (ps := ps) F n ks ms (fun us mv ws => gS ss us mv ws) hk hms (fun r1 r3 r4 => vals_gS r1 r3 r4 ss) (fun D' doc pm an cdv ct us mv ws h1 h3 h4 => h D' doc pm an cdv ct us mv ws h1 (h3.trans l2.symm) h4)
  exact ⟨fun ds zs h1 h2 => hl ds md zs h1 rfl h2, _, _, kb, fun G ds vs zs us r1 r2 => rep_gS r1 (hmd G) r2 ss⟩
theorem all_nil {α : Type} {p : α → Prop} : ∀ b ∈ ([] : List α), p b := fun _ h => by cases h
theorem all_cons {α : Type} {p : α → Prop} {a : α} {l : List α} (h : p a) (r : ∀ b ∈ l, p b) : ∀ b ∈ a :: l, p b := fun b hb => by
  rcases List.mem_cons.mp hb with e | e
  · rw [e]; exact h
  · exact r b e
end

/-! ### the head: facts as functions of the written part -/
abbrev FF := PySem.W.Frag → Bool
/-- the function object of a def: a global; a class's method, getter, static -/
def gaM (x m : Str) (K : PySem.W.Frag) : Addr := He.ma K (He.ga K x) m
def recA (T : String) (p : Addr) (K : PySem.W.Frag) : Addr := match PySem.W.recIn K p T with
  | some (.ref g :: _) => g
  | _ => 0
inductive At where
  | g (x : Str)
  | mt (x m : Str)
  | pr (x m : Str)
  | sm (x m : Str)
def At.ad (K : PySem.W.Frag) : At → Addr
  | .g x => He.ga K x
  | .mt x m => gaM x m K
  | .pr x m => recA "property" (gaM x m K) K
  | .sm x m => recA "staticmethod" (gaM x m K) K
def fnA (K : PySem.W.Frag) (a : Addr) : He.FnW := match K.lookup a with
  | some ⟨_, _, .func fd, _⟩ => some (fd.name, fd.qualname, fd.params, fd.body, fd.scope, fd.globals, fd.closure, fd.builtins)
  | _ => none
structure DefZ where
  at_ : At
  name : Str
  qual : Str
  st : Stmt
  dfl : List He.Dv := []
  kdf : List (Str × He.Dv) := []
def DefZ.val (d : DefZ) : He.FnW := some (d.name, d.qual, defArgs d.st, .stmts (defBody d.st), defScope d.st, mainGlobals, [], builtinsNs)
def DefZ.dvs (K : PySem.W.Frag) (d : DefZ) : List V := d.dfl.map (He.Dv.v K)
def DefZ.kws (K : PySem.W.Frag) (d : DefZ) : List (Str × V) := d.kdf.map fun q => (q.1, q.2.v K)
def DefZ.ok (K : PySem.W.Frag) (d : DefZ) : Bool := PySem.W.keepIn K (.ref (d.at_.ad K)) && (match K.lookup (d.at_.ad K) with
  | some ⟨_, _, .func fd, _⟩ => PySem.W.codeIn K fd.code d.qual && (He.dflB K fd.defaults (d.dvs K) && He.kwdB K fd.kwdefaults (d.kws K))
  | _ => false)
theorem DefZ.funD {K : PySem.W.Frag} {d : DefZ} (e : fnA K (d.at_.ad K) = d.val) (c : d.ok K = true) : ∃ fd, FnZ K d.name d.qual d.st (d.dvs K) (d.kws K) (d.at_.ad K) fd := by
  obtain ⟨kp, c2⟩ := He.ba c
  unfold fnA at e
  cases q : K.lookup (d.at_.ad K) with
  | none =>
    rw [q] at c2
    cases c2
  | some o =>
    obtain ⟨oc, od, dt, osl⟩ := o
    rw [q] at c2 e
    cases dt with
    | func fd =>
      obtain ⟨n1, n2, n3, n4, n5, n6, n7, n8, n9, n10, n11, n12, n13, n14, n15⟩ := fd
      have e2 : (some (n1, n2, n3, n4, n5, n6, n7, n15) : He.FnW) = some (d.name, d.qual, defArgs d.st, .stmts (defBody d.st), defScope d.st, mainGlobals, [], builtinsNs) := e
      simp only [Option.some.injEq, Prod.mk.injEq] at e2
      obtain ⟨h1, h2, h3, h4, h5, h6, h7, h8⟩ := e2
      subst h1 h2 h3 h4 h5 h6 h7 h8
      have c3 : (PySem.W.codeIn K n13 d.qual && (He.dflB K n8 (d.dvs K) && He.kwdB K n9 (d.kws K))) = true := c2
      obtain ⟨k1, k2⟩ := He.ba c3
      obtain ⟨k2, k3⟩ := He.ba k2
      exact ⟨_, ⟨oc, od, n8, n9, n10, n11, n12, n13, n14, osl, rfl, q, k1, He.dflB_ok k2, He.kwdB_ok k3⟩, kp⟩
    | _ => cases c2
def asZ (g : Addr → Option Obj) : Nat → List Addr
  | 0 => [mainGlobals, cStatics]
  | n + 1 => He.growD g (asZ g n)
def obsZ (fa : List FF) (fn : List DefZ) (K : PySem.W.Frag) : He.AlD := ((fa.all fun f => f K) && fn.all fun d => d.ok K, fn.map fun d => fnA K (d.at_.ad K))
def valZ (fn : List DefZ) : He.AlD := (true, fn.map DefZ.val)
def SaysZ (fa : List FF) (fn : List DefZ) (K : PySem.W.Frag) : Prop := obsZ fa fn K = valZ fn
def obsZG (n : Nat) (fa : List FF) (fn : List DefZ) (g : Addr → Option Obj) : He.AlD := obsZ fa fn (He.frG g (asZ g n))
def hookZ (n : Nat) (fa : List FF) (fn : List DefZ) : PySem.W.Hook where
  α := He.AlD
  obs := fun s => obsZG n fa fn s.heap.get?
  val := fun _ => valZ fn
  says := fun _ h => ∃ K : PySem.W.Frag, K.In h ∧ SaysZ fa fn K
  of := fun _ _ e => ⟨_, He.frG_in, e⟩
  keeps := fun _ _ _ ⟨K, hK, c⟩ k => ⟨K, PySem.W.Frag.In.keeps hK k, c⟩
theorem obsZG_eq {n : Nat} {fa : List FF} {fn : List DefZ} {g : Addr → Option Obj} {s : Shared} (h : ∀ a, g a = s.heap.get? a) : obsZG n fa fn g = (hookZ n fa fn).obs s := by
  have e : g = s.heap.get? := funext h
  rw [e] <;> rfl
section
variable {fa : List FF} {fn : List DefZ} {K : PySem.W.Frag}
theorem SaysZ.fact (c : SaysZ fa fn K) (i : Nat) {f : FF} (h : fa[i]? = some f := by rfl) : f K = true := by
  have c1 := (He.ba (show ((fa.all fun f => f K) && fn.all fun d => d.ok K) = true from congrArg (fun z : He.AlD => z.1) c)).1
  exact List.all_eq_true.mp c1 f (List.mem_of_getElem? h)
theorem SaysZ.def_ (c : SaysZ fa fn K) (i : Nat) {d : DefZ} (h : fn[i]? = some d := by rfl) : ∃ fd, FnZ K d.name d.qual d.st (d.dvs K) (d.kws K) (d.at_.ad K) fd := by
  have c2 := (He.ba (show ((fa.all fun f => f K) && fn.all fun d => d.ok K) = true from congrArg (fun z : He.AlD => z.1) c)).2
  have e : fn.map (fun d => fnA K (d.at_.ad K)) = fn.map DefZ.val := congrArg (fun z : He.AlD => z.2) c
  have e2 : (fn.map fun d => fnA K (d.at_.ad K))[i]? = (fn.map DefZ.val)[i]? := by rw [e]
  rw [List.getElem?_map, List.getElem?_map, h] at e2
  exact DefZ.funD (Option.some.inj e2) (List.all_eq_true.mp c2 d (List.mem_of_getElem? h))
end
/-! facts -/
def isF (f : He.Fa) : FF := fun K => f.ok K
/-- a class that is compared: object's != -/
def cmpF (x : Str) : FF := fun K => He.eqO (PySem.W.findIn K (.ref (He.ga K x)) "__ne__") (some (some (.builtin "object.__ne__"))) && decide (PySem.W.mroIn K (He.ga K x) (.type "object") = some true)
theorem cmpF_ok {x : Str} {K : PySem.W.Frag} (c : cmpF x K = true) : CmpF K (He.ga K x) := ⟨He.eqO_ok (He.ba c).1, of_decide_eq_true (He.ba c).2⟩
def selfF (x : Str) : FF := fun K => PySem.W.selfFirst K (He.ga K x)
def notF (x : Str) (t : String) : FF := fun K => PySem.W.notFirst K (He.ga K x) (.type t)
/-- own method, its def at At.m -/
def smF (x m : Str) : FF := fun K => PySem.W.readsIn K (He.ga K x) (.type "type") && (He.eqO (PySem.W.specialIn K (.ref (He.ga K x)) "__getattribute__") (some (some (.builtin "type.__getattribute__"))) &&
  ((match PySem.W.findCls K (.ref (He.ga K x)) (.type "type") m with
    | some (.get (.builtin i) (.ref p) .none (.ref C)) => decide (i = "staticmethod.__get__") && (decide (p = gaM x m K) && decide (C = He.ga K x))
    | _ => false) && (match PySem.W.recIn K (gaM x m K) "staticmethod" with
    | some (.ref _ :: _) => true
    | _ => false)))
def prF (x m : Str) : FF := fun K => He.eqO (PySem.W.findIn K (.ref (He.ga K x)) m) (some (some (.ref (gaM x m K)))) && (He.eqO (PySem.W.specialIn K (.ref (gaM x m K)) "__get__") (some (some (.builtin "property.__get__"))) && (decide (PySem.W.takesIn K (.ref (gaM x m K)) = some true) &&
  (match PySem.W.recIn K (gaM x m K) "property" with
    | some (.ref _ :: _) => true
    | _ => false)))
theorem prF_ok {x m : Str} {K : PySem.W.Frag} (c : prF x m K = true) : PropOf K (He.ga K x) m (gaM x m K) ((At.pr x m).ad K) := by
  obtain ⟨c1, c⟩ := He.ba c
  obtain ⟨c2, c⟩ := He.ba c
  obtain ⟨c3, c4⟩ := He.ba c
  refine ⟨He.eqO_ok c1, He.eqO_ok c2, of_decide_eq_true c3, ?_⟩
  show ∃ rest, PySem.W.recIn K (gaM x m K) "property" = some (.ref (recA "property" (gaM x m K) K) :: rest)
  unfold recA
  split at c4
  · rename_i g rest e
    rw [e]
    exact ⟨rest, rfl⟩
  · cases c4
theorem smF_ok {x m : Str} {K : PySem.W.Frag} (c : smF x m K = true) : PySem.W.readsIn K (He.ga K x) (.type "type") = true ∧ PySem.W.specialIn K (.ref (He.ga K x)) "__getattribute__" = some (some (.builtin "type.__getattribute__")) ∧
    PySem.W.findCls K (.ref (He.ga K x)) (.type "type") m = some (.get (.builtin "staticmethod.__get__") (.ref (gaM x m K)) .none (.ref (He.ga K x))) ∧ ∃ rest, PySem.W.recIn K (gaM x m K) "staticmethod" = some (.ref ((At.sm x m).ad K) :: rest) := by
  obtain ⟨c1, c⟩ := He.ba c
  obtain ⟨c2, c⟩ := He.ba c
  obtain ⟨c3, c4⟩ := He.ba c
  refine ⟨c1, He.eqO_ok c2, ?_, ?_⟩
  · split at c3
    · rename_i i p C e
      obtain ⟨h1, h2⟩ := He.ba c3
      obtain ⟨h2, h3⟩ := He.ba h2
      rw [e, of_decide_eq_true h1, of_decide_eq_true h2, of_decide_eq_true h3]
    · cases c3
  · show ∃ rest, PySem.W.recIn K (gaM x m K) "staticmethod" = some (.ref (recA "staticmethod" (gaM x m K) K) :: rest)
    unfold recA
    split at c4
    · rename_i g rest e
      rw [e]
      exact ⟨rest, rfl⟩
    · cases c4
end Z
namespace Z
open PySem PySem.Spec PyProof.Rows L2
/-! ### more facts -/
/-- an own exception class over ValueError -/
def excF (x : Str) : FF := fun K => (match K.lookup (He.ga K x) with
  | some ⟨.type t, _, .cls cd, sl⟩ => decide (t = "type") && ((match cd.mro, sl.toList with
    | .ref C :: bm, [_, _, _, _, some (.builtin n), _] => decide (C = He.ga K x) && (decide (n = "ValueError.__new__") && (PySem.HandSPX.refsVE bm && (cd.hasDict && !cd.hasDel)))
    | _, _ => false))
  | _ => false) && (He.eqO (PySem.W.findIn K (.ref (He.ga K x)) "__setattr__") (some (some (.builtin "object.__setattr__"))) && (decide (PySem.W.subIn K (.ref (He.ga K x)) (.type "BaseException") = some true) &&
    (decide (PySem.W.typeIn K (.ref (He.ga K x)) = some (.type "type")) && PySem.W.keepIn K (.ref (He.ga K x)))))
theorem excF_ok {x : Str} {K : PySem.W.Frag} (c : excF x K = true) : OexC K (He.ga K x) := by
  obtain ⟨c0, c⟩ := He.ba c
  obtain ⟨c1, c⟩ := He.ba c
  obtain ⟨c2, c⟩ := He.ba c
  obtain ⟨c3, c4⟩ := He.ba c
  refine ⟨?_, He.eqO_ok c1, of_decide_eq_true c2, of_decide_eq_true c3, c4⟩
  split at c0
  · rename_i t dd cd sl e
    obtain ⟨h1, h2⟩ := He.ba c0
    split at h2
    · rename_i C bm k0 k1 k2 k3 n k5 em es
      obtain ⟨h3, h4⟩ := He.ba h2
      obtain ⟨h5, h6⟩ := He.ba h4
      obtain ⟨h7, h8⟩ := He.ba h6
      obtain ⟨h9, h10⟩ := He.ba h8
      obtain ⟨nm, bs, mro, N, q, hd, sn, sub, ab, col, del⟩ := cd
      have e1 := of_decide_eq_true h1
      have e3 := of_decide_eq_true h3
      have e5 := of_decide_eq_true h5
      obtain ⟨sl⟩ := sl
      simp only at em es h9 h10
      subst em es e1 e5 h9
      have e10 : del = false := by cases del <;> simp_all
      subst e10
      refine ⟨nm, q, N, bs, bm, sn, sub, ab, col, dd, k0, k1, k2, k3, k5, ?_, h7⟩
      rw [e, e3]
    · cases h2
  · cases c0
theorem methF_ok {x m : Str} {K : PySem.W.Frag} (c : isF (.meth x m) K = true) : Meth K (He.ga K x) m ((At.mt x m).ad K) := He.meth_ok c
theorem mkrF_ok {x : Str} {K : PySem.W.Frag} (c : isF (.mkr x) K = true) : Mk K (He.ga K x) ((At.mt x "__init__").ad K) := He.mkr_ok c
/-- a tuple of constants at the name x -/
def tupF (x : Str) (vs : List He.Dv) : FF := fun K => (He.Fa.glo x).ok K && He.tupB K x vs
inductive Fl : D → He.Dv → Prop
  | non : Fl .non .non
  | bl {b} : Fl (.bl b) (.bl b)
  | int {i} : Fl (.int i) (.int i)
  | str {x} : Fl (.str x) (.str x)
theorem Fl.rep {K : PySem.W.Frag} {G : Hp} {d : D} {v : He.Dv} (h : Fl d v) : Rep K G d (v.v K) := by
  cases h with
  | non => exact .non
  | bl => exact .bl
  | int => exact .int
  | str => exact .str
inductive FlL : List D → List He.Dv → Prop
  | nil : FlL [] []
  | cons {d v ds vs} : Fl d v → FlL ds vs → FlL (d :: ds) (v :: vs)
theorem FlL.rep {K : PySem.W.Frag} {G : Hp} : ∀ {ds : List D} {vs : List He.Dv}, FlL ds vs → RepL K G ds (vs.map (He.Dv.v K))
  | _, _, .nil => .nil
  | _, _, .cons h r => .cons h.rep r.rep
section
variable {K : PySem.W.Frag} {h : Heap} {mg : Str → Option Value}
structure TupG (K : PySem.W.Frag) (mg : Str → Option Value) (x : Str) (ds : List D) : Prop where
  ex : ∃ a, mg x = some (.ref a) ∧ ∀ G, Rep K G (.tup ds) (.ref a)
theorem tupF_ok (X : K.In h) (G : h.Ns mainGlobals mg) {x : Str} {vs : List He.Dv} {ds : List D} (c : tupF x vs K = true) (f : FlL ds vs) : TupG K mg x ds :=
  ⟨_, He.glo_ok X G (He.ba c).1, fun H => .tup (He.tupB_ok (He.ba c).2 H) f.rep⟩
end
section
variable {X : Cx} {B : Bs} {pos : Pos}
theorem de_gtup {x : Str} {ds : List D} (T : TupG X.K X.mg x ds) (hg : Gl X x := by rfl) (hd : (x == ("__debug__" : Str)) = false := by decide) : DE X B (.Name x pos) (fun _ M Ψ => Ψ (.tup ds) M) := by
  obtain ⟨a, h1, h2⟩ := T.ex
  exact de_glob h1 (v := .ref a) rfl h2 hg hd
theorem de_gstr {x z : Str} (h : ∃ t, X.mg x = some (.str z t)) (hg : Gl X x := by rfl) (hd : (x == ("__debug__" : Str)) = false := by decide) : DE X B (.Name x pos) (fun _ M Ψ => Ψ (.str z) M) := by
  obtain ⟨t, h⟩ := h
  exact de_glob h (v := .str z) ⟨t, rfl⟩ (fun _ => .str) hg hd
theorem de_gint {x : Str} {i : Int} (h : ∃ t, X.mg x = some (.int i t)) (hg : Gl X x := by rfl) (hd : (x == ("__debug__" : Str)) = false := by decide) : DE X B (.Name x pos) (fun _ M Ψ => Ψ (.int i) M) := by
  obtain ⟨t, h⟩ := h
  exact de_glob h (v := .int i) ⟨t, rfl⟩ (fun _ => .int) hg hd
end
/-! ### the end -/
def scr (ns : List Int) : D := .lk (ns.map .int)
def noM : Sto := fun _ => none
theorem repL_scr {K : PySem.W.Frag} {G : Hp} : ∀ ns : List Int, RepL K G (ns.map D.int) (ns.map V.int)
  | [] => .nil
  | _ :: r => .cons .int (repL_scr r)
theorem law_at {l : PySem.W.OpenLaw} {w : World} {K : PySem.W.Frag} {k : Nat} {mg : Str → Option Value} {fa : Addr} {h : Heap} {fd : FuncData} {c : Ct} {x : Str} (hb : ∀ (s : Shared) (u : Value), BindsTo s fd ⟨[u], []⟩ [(x, u)])
    (F : ∀ base : Heap, K.In base → base.Ns mainGlobals mg → FnOk l.prog w K mg base (L2.CX l.prog w) k fa fd [x] (spC K 1 c))
    (hc : ∀ (ns : List Int), ns.length ≤ 63 → (∀ z ∈ ns, Builtin.Int.intBits z ≤ 1048576) → c [scr ns] noM (fun d _ => d = .bl true) noX) : LamX.LawAtS l w K (L2.CX l.prog w) k 63 x mg fa h := by
  refine ⟨fd, [], spC K 1 c, (fun p hp => nomatch hp), (fun p hp => nomatch hp), (fun p hp => nomatch hp), hb, fun H a ns hl hbits _ hS => ?_, fun base KX G _ => F base KX G⟩
  refine ⟨rfl, [scr ns], H, noM, _, _, ⟨Sub.rfl', fun a c e => nomatch (show (none : Option Cell) = some c from e)⟩, .cons (.lk hS (repL_scr ns)) .nil, hc ns hl hbits, fun d M' v H' G' q _ _ r => ?_, fun _ _ _ _ _ _ z _ _ _ => z⟩
  subst q
  cases r
  rfl
end Z
namespace Z
open PySem PySem.Spec PyProof.Rows L2
/-! ### built-ins called by name -/
theorem bt_abs : bootBuiltins "abs" = some (.builtin "abs") := by decide +kernel
theorem bt_all : bootBuiltins "all" = some (.builtin "all") := by decide +kernel
theorem bt_any : bootBuiltins "any" = some (.builtin "any") := by decide +kernel
theorem bt_int : bootBuiltins "int" = some (.type "int") := by decide +kernel
theorem bt_list : bootBuiltins "list" = some (.type "list") := by decide +kernel
theorem bt_max : bootBuiltins "max" = some (.builtin "max") := by decide +kernel
theorem bt_min : bootBuiltins "min" = some (.builtin "min") := by decide +kernel
theorem bt_str : bootBuiltins "str" = some (.type "str") := by decide +kernel
theorem bt_sum : bootBuiltins "sum" = some (.builtin "sum") := by decide +kernel
theorem bt_tuple : bootBuiltins "tuple" = some (.type "tuple") := by decide +kernel
section
variable {X : Cx} {B : Bs} {pos p : Pos} {a b : Expr} {ga : DTA}
theorem de_abs1 (hm : X.mg "abs" = none) (ha : DA X B [a] ga) (hg : Gl X "abs" := by rfl) (he : starEach [a] X.env = (false, eval a X.env) :: starEach [] X.env := by rfl) : DE X B (.Call (.Name "abs" p) [a] [] pos) (fun r M Ψ => ga r M fun ds M1 => absD M1 ds Ψ) :=
  de_callB call_abs ok_abs hm bt_abs ha hg (by decide) (by decide) he rfl
theorem de_max2 (hc : X.calm = true) (hm : X.mg "max" = none) (ha : DA X B [a, b] ga) (hg : Gl X "max" := by rfl) (he : starEach [a, b] X.env = (false, eval a X.env) :: starEach [b] X.env := by rfl) (hpl : (backTo pos (starEach [b] X.env)).any (·.1) = false := by rfl) : DE X B (.Call (.Name "max" p) [a, b] [] pos) (fun r M Ψ => ga r M fun ds M1 => max2D M1 ds Ψ) :=
  de_callB (call_max2 hc) ok_max2 hm bt_max ha hg (by decide) (by decide) he hpl
theorem de_min2 (hc : X.calm = true) (hm : X.mg "min" = none) (ha : DA X B [a, b] ga) (hg : Gl X "min" := by rfl) (he : starEach [a, b] X.env = (false, eval a X.env) :: starEach [b] X.env := by rfl) (hpl : (backTo pos (starEach [b] X.env)).any (·.1) = false := by rfl) : DE X B (.Call (.Name "min" p) [a, b] [] pos) (fun r M Ψ => ga r M fun ds M1 => min2D M1 ds Ψ) :=
  de_callB (call_min2 hc) ok_min2 hm bt_min ha hg (by decide) (by decide) he hpl
theorem de_int1 (hm : X.mg "int" = none) (ha : DA X B [a] ga) (hg : Gl X "int" := by rfl) (he : starEach [a] X.env = (false, eval a X.env) :: starEach [] X.env := by rfl) : DE X B (.Call (.Name "int" p) [a] [] pos) (fun r M Ψ => ga r M fun ds M1 => intD M1 ds Ψ) :=
  de_callT call_int1 ok_int1 hm bt_int ha hg (by decide) (by decide) he rfl
theorem de_str1 (hm : X.mg "str" = none) (ha : DA X B [a] ga) (hg : Gl X "str" := by rfl) (he : starEach [a] X.env = (false, eval a X.env) :: starEach [] X.env := by rfl) : DE X B (.Call (.Name "str" p) [a] [] pos) (fun r M Ψ => ga r M fun ds M1 => strD M1 ds Ψ) :=
  de_callT call_str_int ok_str1 hm bt_str ha hg (by decide) (by decide) he rfl
theorem de_sum1 (hc : X.calm = true) (hm : X.mg "sum" = none) (ha : DA X B [a] ga) (hg : Gl X "sum" := by rfl) (he : starEach [a] X.env = (false, eval a X.env) :: starEach [] X.env := by rfl) : DE X B (.Call (.Name "sum" p) [a] [] pos) (fun r M Ψ => ga r M fun ds M1 => sumD M1 ds Ψ) :=
  de_callB (cr_sum hc) ok_sum hm bt_sum ha hg (by decide) (by decide) he rfl
theorem de_all1 (hc : X.calm = true) (hm : X.mg "all" = none) (ha : DA X B [a] ga) (hg : Gl X "all" := by rfl) (he : starEach [a] X.env = (false, eval a X.env) :: starEach [] X.env := by rfl) : DE X B (.Call (.Name "all" p) [a] [] pos) (fun r M Ψ => ga r M fun ds M1 => allD M1 ds Ψ) :=
  de_callB (cr_all hc) ok_all hm bt_all ha hg (by decide) (by decide) he rfl
theorem de_any1 (hc : X.calm = true) (hm : X.mg "any" = none) (ha : DA X B [a] ga) (hg : Gl X "any" := by rfl) (he : starEach [a] X.env = (false, eval a X.env) :: starEach [] X.env := by rfl) : DE X B (.Call (.Name "any" p) [a] [] pos) (fun r M Ψ => ga r M fun ds M1 => anyD M1 ds Ψ) :=
  de_callB (cr_any hc) ok_any hm bt_any ha hg (by decide) (by decide) he rfl
theorem de_max1 (hc : X.calm = true) (hm : X.mg "max" = none) (ha : DA X B [a] ga) (hg : Gl X "max" := by rfl) (he : starEach [a] X.env = (false, eval a X.env) :: starEach [] X.env := by rfl) : DE X B (.Call (.Name "max" p) [a] [] pos) (fun r M Ψ => ga r M fun ds M1 => maxD M1 ds Ψ) :=
  de_callB (cr_max hc) ok_maxL hm bt_max ha hg (by decide) (by decide) he rfl
theorem de_min1 (hc : X.calm = true) (hm : X.mg "min" = none) (ha : DA X B [a] ga) (hg : Gl X "min" := by rfl) (he : starEach [a] X.env = (false, eval a X.env) :: starEach [] X.env := by rfl) : DE X B (.Call (.Name "min" p) [a] [] pos) (fun r M Ψ => ga r M fun ds M1 => minD M1 ds Ψ) :=
  de_callB (cr_min hc) ok_minL hm bt_min ha hg (by decide) (by decide) he rfl
theorem de_list1 (hm : X.mg "list" = none) (ha : DA X B [a] ga) (hg : Gl X "list" := by rfl) (he : starEach [a] X.env = (false, eval a X.env) :: starEach [] X.env := by rfl) : DE X B (.Call (.Name "list" p) [a] [] pos) (fun r M Ψ => ga r M fun ds M1 => listD M1 ds Ψ) :=
  de_callT call_list_of ok_list1 hm bt_list ha hg (by decide) (by decide) he rfl
theorem de_tuple1 (hm : X.mg "tuple" = none) (ha : DA X B [a] ga) (hg : Gl X "tuple" := by rfl) (he : starEach [a] X.env = (false, eval a X.env) :: starEach [] X.env := by rfl) : DE X B (.Call (.Name "tuple" p) [a] [] pos) (fun r M Ψ => ga r M fun ds M1 => tupleD M1 ds Ψ) :=
  de_callT call_tuple_of ok_tuple1 hm bt_tuple ha hg (by decide) (by decide) he rfl
end
theorem zx_blk {X : Cx} {B : Bs} {s : Shared} {H : Hp} {scope : Scope} {ce : Env} {fp : List Addr} : Zx (X.blk s H scope ce fp) B (fun _ _ _ => False) := ⟨takes0.imp fun _ _ _ _ ⟨_, _, _, _, z, _⟩ => z.elim, PassesOwn.never⟩
/-! ### the plain side -/
theorem getS_at {r : En} {i : Nat} {k : D → Prop} {d : D} (h : r[i]? = some (some d)) (q : k d) : getS r i k := by
  unfold getS
  rw [h]
  exact q
end Z
namespace Z
open PySem PySem.Spec PyProof.Rows L2
/-! ### isinstance of an own class -/
structure OwnF (K : PySem.W.Frag) (C : Addr) : Prop where
  cl : Cls K C
  ha : PySem.W.findIn K (.ref C) "__class__" = some (some (.builtin "object.__class__"))
  hn : PySem.W.specialIn K (.builtin "object.__class__") "__get__" = some (some (.builtin "getset_descriptor.__get__"))
  htk : PySem.W.takesIn K (.builtin "object.__class__") = some true
  hm : PySem.W.mroIn K C (.type "object") = some true
  self : PySem.W.kitOne K (.ref C) (.ref C) = some true
  other : ∀ t ∈ okTy, PySem.W.kitOne K (.type t) (.ref C) = some false
def ownF (x : Str) : FF := fun K => (isF (.cls x) K && (He.eqO (PySem.W.findIn K (.ref (He.ga K x)) "__class__") (some (some (.builtin "object.__class__"))) && (He.eqO (PySem.W.specialIn K (.builtin "object.__class__") "__get__") (some (some (.builtin "getset_descriptor.__get__"))) &&
  (decide (PySem.W.takesIn K (.builtin "object.__class__") = some true) && (decide (PySem.W.mroIn K (He.ga K x) (.type "object") = some true) && (decide (PySem.W.kitOne K (.ref (He.ga K x)) (.ref (He.ga K x)) = some true) && okTy.all fun t => decide (PySem.W.kitOne K (.type t) (.ref (He.ga K x)) = some false)))))))
theorem ownF_ok {x : Str} {K : PySem.W.Frag} (c : ownF x K = true) : OwnF K (He.ga K x) := by
  obtain ⟨c1, c⟩ := He.ba c
  obtain ⟨c2, c⟩ := He.ba c
  obtain ⟨c3, c⟩ := He.ba c
  obtain ⟨c4, c⟩ := He.ba c
  obtain ⟨c5, c⟩ := He.ba c
  obtain ⟨c6, c7⟩ := He.ba c
  exact ⟨He.cls_ok c1, He.eqO_ok c2, He.eqO_ok c3, of_decide_eq_true c4, of_decide_eq_true c5, of_decide_eq_true c6, fun t ht => of_decide_eq_true (List.all_eq_true.mp c7 t ht)⟩
/-- isinstance(d, C) -/
def isiO (C : Addr) (M : Sto) (ds : List D) (φ : PD) : Prop := match ds with
  | [d, .ref C'] => C' = C ∧ ((∃ fs, objOf M d = some (C, fs) ∧ φ (.bl true) M) ∨ ∃ t, tyN M d = some t ∧ φ (.bl false) M)
  | _ => False
theorem ok_isiO {K : PySem.W.Frag} {C : Addr} (F : OwnF K C) : OkC K (rIsi K) (isiO C) := fun M H G ds vs φ Q w r h k => by
  unfold isiO at h
  split at h
  · obtain ⟨rfl, h⟩ := h
    cases r with
    | cons r1 r2 => cases r2 with
      | cons r2 r3 =>
        cases r3; cases r2
        rcases h with ⟨fs, e, h⟩ | ⟨t, e, h⟩
        · obtain ⟨a, dx, fvs, rfl, h1, _⟩ := obj_rep w r1 e
          exact ⟨_, _, _, _, _, rfl, .own _, .base (.ins h1 F.cl F.ha F.hn F.htk F.hm), F.self, k.id w h .bl⟩
        · exact ⟨_, _, _, _, _, rfl, .own _, tyN_x w r1 e, F.other t (tyN_ok e), k.id w h .bl⟩
  · exact h.elim
section
variable {X : Cx} {B : Bs} {pos p : Pos} {a b : Expr} {ga : DTA} {C : Addr}
theorem de_isio (hm : X.mg "isinstance" = none) (F : OwnF X.K C) (ha : DA X B [a, b] ga) (hg : Gl X "isinstance" := by rfl) (he : starEach [a, b] X.env = (false, eval a X.env) :: starEach [b] X.env := by rfl) (hpl : (backTo pos (starEach [b] X.env)).any (·.1) = false := by rfl) :
    DE X B (.Call (.Name "isinstance" p) [a, b] [] pos) (fun r M Ψ => ga r M fun ds M1 => isiO C M1 ds Ψ) := de_callB call_isi (ok_isiO F) hm boot_isinstance ha hg (by decide) (by decide) he hpl
end
/-! ### assembling -/
section
variable {P : Program} {w : World} {K : PySem.W.Frag} {mg : Str → Option Value} {base : Heap} {h : Heap} {x m : Str} {k : Nat} {c : Ct} {ps : List Str} {fd : FuncData} {bs : List (Nat × List Str × (List D → List D → List D))} {qual nm : Str} {st : Stmt} {dvs : List V} {kws : List (Str × V)}
theorem gf_mk (hg : mg x = some (.ref ((At.g x).ad K))) (F : FnZ K nm qual st dvs kws ((At.g x).ad K) fd) (ok : FnOk P w K mg base (L2.CX P w) k ((At.g x).ad K) fd ps (spC K ps.length c)) (hb : ∀ b ∈ bs, BindD K fd ps b) : Gf P w K mg base x k c bs := ⟨_, fd, ps, hg, F.kp, ok, hb⟩
theorem mf_mk (hm : Meth K (He.ga K x) m ((At.mt x m).ad K)) (ok : FnOk P w K mg base (L2.CX P w) k ((At.mt x m).ad K) fd ps (spC K ps.length c)) (hb : ∀ b ∈ bs, BindD K fd ps b) : Mf P w K mg base (He.ga K x) m k c bs := ⟨_, fd, ps, hm, ok, hb⟩
theorem cf_mk (hg : mg x = some (.ref (He.ga K x))) (hm : Mk K (He.ga K x) ((At.mt x "__init__").ad K)) (ok : FnOk P w K mg base (L2.CX P w) k ((At.mt x "__init__").ad K) fd ps (spC K ps.length c)) (hb : ∀ b ∈ bs, BindD K fd ps b) : Cf P w K mg base x (He.ga K x) k c bs := ⟨hg, _, fd, ps, hm, ok, hb⟩
theorem pf_mk (hp : PropOf K (He.ga K x) m (gaM x m K) ((At.pr x m).ad K)) (ok : FnOk P w K mg base (L2.CX P w) k ((At.pr x m).ad K) fd ps (spC K ps.length c)) (hb : BindD K fd ps (Z.pos 1)) : Pf P w K mg base (He.ga K x) m k c := ⟨_, fd, ps, _, hp, ok, hb⟩
theorem sf_mk (hs : smF x m K = true) (F : FnZ K nm qual st dvs kws ((At.sm x m).ad K) fd) (ok : FnOk P w K mg base (L2.CX P w) k ((At.sm x m).ad K) fd ps (spC K ps.length c)) (hb : ∀ b ∈ bs, BindD K fd ps b) : Sf P w K mg base (He.ga K x) m k c bs := by
  obtain ⟨h1, h2, h3, rest, h4⟩ := smF_ok hs
  exact ⟨_, fd, ps, _, rest, _, h1, h2, h3, h4, F.kp, ok, hb⟩
end
end Z
namespace Z
open PySem PySem.Spec PyProof.Rows L2
section
variable {X : Cx} {B : Bs} {Ξ : XD → En → Sto → Prop} {k j n : Nat} {c : Ct} {pos : Pos} {a b : Expr} {fa fb : DTE} {C : Addr} {bs : List (Nat × List Str × (List D → List D → List D))}
theorem dt_ownEq (F : Mf X.prog X.w X.K X.mg X.base C "__eq__" j c bs) (hc : Mono c) (hr : Room k X.A) (hb : Z.pos 2 ∈ bs) (ha : DE X B a fa) (hb' : DE X B b fb) (hm : behindInMarks .Eq b = false := by rfl) (hj : j ≤ k := by decide) :
    DT X B (.Compare a [.Eq] [b] pos) (fun r M Ψ => fa r M fun x M1 => fb r M1 fun y M2 => ownE X.K C c false M2 x y fun z M3 => blD (fun b => Ψ b M3) z) := PT_imp (pt_cmpR (op_ownEq F hr hb hj) ha hb' hm) (tOp_okPT (ok_ownE hc))
theorem dt_ownNe (F : Mf X.prog X.w X.K X.mg X.base C "__eq__" j c bs) (T : CmpF X.K C) (hc : Mono c) (hr : Room k X.A) (hb : Z.pos 2 ∈ bs) (ha : DE X B a fa) (hb' : DE X B b fb) (hm : behindInMarks .NotEq b = false := by rfl) (hj : j + 1 ≤ k := by decide) :
    DT X B (.Compare a [.NotEq] [b] pos) (fun r M Ψ => fa r M fun x M1 => fb r M1 fun y M2 => ownE X.K C c true M2 x y fun z M3 => blD (fun b => Ψ b M3) z) := PT_imp (pt_cmpR (op_ownNe F T hr hb hj) ha hb' hm) (tOp_okPT (ok_ownE hc))
end
/-! ### plain side: comprehensions, loops -/
section
variable {vs : List Nat} {as : D → En → (En → Prop) → Prop} {tt : DTT} {fe : DTE} {r : En} {M : Sto} {Φ : List D → Sto → Prop} {xs : List D} {S : Sto → Prop}
abbrev CompB (vs : List Nat) (as : D → En → (En → Prop) → Prop) (tt : DTT) (fe : DTE) (r : En) (M : Sto) (xs : List D) (S : Sto → Prop) (Φ : List D → Sto → Prop) : Prop := ∃ Iv : Nat → List D → Sto → Prop, Iv 0 [] M ∧ (∀ i acc M, Iv i acc M → S M) ∧
  (∀ i d acc M, xs[i]? = some d → Iv i acc M → as d (wipeD r vs) fun r2 => tt r2 M fun b M3 => if b = true then fe r2 M3 fun y M4 => acc.length < sizeLine ∧ Iv (i + 1) (acc ++ [y]) M4 else Iv (i + 1) acc M3) ∧ ∀ acc M, Iv xs.length acc M → Φ acc M
/-- items kept by a test, turned by a function -/
theorem comp_fm (keep : D → Bool) (g : D → D) (hS : S M) (hl : xs.length ≤ sizeLine) (he : ∀ d ∈ xs, ∀ (Q : D → Sto → Prop) (R : Sto → Prop), (if keep d = true then Q (g d) M else R M) → as d (wipeD r vs) fun r2 => tt r2 M fun b M3 => if b = true then fe r2 M3 Q else R M3)
    (fin : Φ ((xs.filter keep).map g) M) : CompB vs as tt fe r M xs S Φ := by
  refine ⟨fun i acc M' => M' = M ∧ acc = ((xs.take i).filter keep).map g, ⟨rfl, rfl⟩, fun i acc M' h => h.1 ▸ hS, fun i d acc M' hd h => ?_, fun acc M' h => ?_⟩
  · obtain ⟨rfl, rfl⟩ := h
    have hi : i < xs.length := (List.getElem?_eq_some_iff.mp hd).1
    have ed : xs[i] = d := (List.getElem?_eq_some_iff.mp hd).2
    have et : xs.take (i + 1) = xs.take i ++ [d] := by rw [List.take_succ, hd]; rfl
    refine he d (ed ▸ List.getElem_mem hi) _ _ ?_
    cases q : keep d with
    | true =>
      rw [if_pos rfl]
      refine ⟨?_, rfl, ?_⟩
      · rw [List.length_map]
        have := List.length_filter_le keep (xs.take i)
        rw [List.length_take] at this
        omega
      · rw [et, List.filter_append, List.map_append, List.filter_cons, if_pos q]; rfl
    | false =>
      rw [if_neg (by simp)]
      refine ⟨rfl, ?_⟩
      rw [et, List.filter_append, List.map_append, List.filter_cons, if_neg (by rw [q]; simp)]
      simp
  · obtain ⟨rfl, rfl⟩ := h
    rw [List.take_length]
    exact fin
/-- every item, turned by a function -/
theorem comp_map (g : D → D) (hS : S M) (hl : xs.length ≤ sizeLine) (he : ∀ d ∈ xs, ∀ (Q : D → Sto → Prop), Q (g d) M → as d (wipeD r vs) fun r2 => fe r2 M Q) (fin : Φ (xs.map g) M) : CompB vs as (fun _ M Ψ => Ψ true M) fe r M xs S Φ := by
  refine comp_fm (fun _ => true) g hS hl (fun d hd Q R q => ?_) ?_
  · rw [if_pos rfl] at q
    have h := he d hd Q q
    have e : (fun r2 => fe r2 M Q) = (fun r2 => (fun _ M Ψ => Ψ true M : DTT) r2 M fun b M3 => if b = true then fe r2 M3 Q else R M3) := by
      funext r2
      show _ = (if true = true then fe r2 M Q else R M)
      rw [if_pos rfl]
    rw [e] at h
    exact h
  · rw [List.filter_eq_self.mpr (fun _ _ => rfl)]; exact fin
/-- every item, by a changing world -/
theorem comp_st (I : Sto → Prop) (Pg : D → D → Prop) (h0 : I M) (hS : ∀ M', I M' → S M') (hl : xs.length ≤ sizeLine) (he : ∀ d ∈ xs, ∀ M', I M' → ∀ (Q : D → Sto → Prop), (∀ y M4, I M4 → Pg d y → Q y M4) → as d (wipeD r vs) fun r2 => fe r2 M' Q)
    (fin : ∀ acc M', I M' → acc.length = xs.length → (∀ (i : Nat) d y, xs[i]? = some d → acc[i]? = some y → Pg d y) → Φ acc M') : CompB vs as (fun _ M Ψ => Ψ true M) fe r M xs S Φ := by
  refine ⟨fun i acc M' => I M' ∧ acc.length = i ∧ ∀ (j : Nat) d y, xs[j]? = some d → acc[j]? = some y → Pg d y, ⟨h0, rfl, fun j d y _ h => by simp at h⟩, fun i acc M' h => hS _ h.1, fun i d acc M' hd h => ?_, fun acc M' h => fin acc M' h.1 h.2.1 h.2.2⟩
  obtain ⟨h1, h2, h3⟩ := h
  have hi : i < xs.length := (List.getElem?_eq_some_iff.mp hd).1
  have ed : xs[i] = d := (List.getElem?_eq_some_iff.mp hd).2
  have h := he d (ed ▸ List.getElem_mem hi) M' h1 (fun y M4 => acc.length < sizeLine ∧ I M4 ∧ (acc ++ [y]).length = i + 1 ∧ ∀ (j : Nat) d y', xs[j]? = some d → (acc ++ [y])[j]? = some y' → Pg d y') (fun y M4 a b => ⟨by omega, a, by rw [List.length_append, h2]; rfl, fun j d' y' e1 e2 => by
    rcases Nat.lt_or_ge j acc.length with hj | hj
    · rw [List.getElem?_append_left hj] at e2; exact h3 j d' y' e1 e2
    · rw [List.getElem?_append_right hj] at e2
      have hj2 : j = i := by
        have := (List.getElem?_eq_some_iff.mp e2).1
        simp at this; omega
      subst hj2
      rw [h2, Nat.sub_self] at e2
      cases e2
      rw [hd] at e1; cases e1
      exact b⟩)
  have e : (fun r2 => fe r2 M' (fun y M4 => acc.length < sizeLine ∧ I M4 ∧ (acc ++ [y]).length = i + 1 ∧ ∀ (j : Nat) d y', xs[j]? = some d → (acc ++ [y])[j]? = some y' → Pg d y')) = (fun r2 => (fun _ M Ψ => Ψ true M : DTT) r2 M' fun b M3 => if b = true then fe r2 M3 (fun y M4 => acc.length < sizeLine ∧ I M4 ∧ (acc ++ [y]).length = i + 1 ∧ ∀ (j : Nat) d y', xs[j]? = some d → (acc ++ [y])[j]? = some y' → Pg d y') else (I M3 ∧ acc.length = i + 1 ∧ ∀ (j : Nat) d y, xs[j]? = some d → acc[j]? = some y → Pg d y)) := by
    funext r2
    show _ = (if true = true then _ else _)
    rw [if_pos rfl]
  rw [e] at h
  exact h
end
/-- a loop over n items by an invariant that needs no freezing -/
theorem for_n {M0 : Sto} {xs : List D} {S : Sto → Prop} {r : En} {M : Sto} {g : DTG} {f : DTS} {E : Ek} (Iv : Nat → En → Sto → Prop) (h0 : Iv 0 r M) (hS : ∀ i r M, Iv i r M → S M)
    (turn : ∀ i d r M, xs[i]? = some d → Iv i r M → g d r M fun r' M' => f { E with nx := Cl M0 (Iv (i + 1)), ct := Cl M0 (Iv (i + 1)), bk := E.nx } r' M') (fin : ∀ r M, Iv xs.length r M → E.nx r M) :
    ∃ Iv : Nat → En → Sto → Prop, Cl M0 (Iv 0) r M ∧ (∀ i r M, Iv i r M → S M) ∧ (∀ i d r M, xs[i]? = some d → Iv i r M → g d r M fun r' M' => f { E with nx := Cl M0 (Iv (i + 1)), ct := Cl M0 (Iv (i + 1)), bk := E.nx } r' M') ∧ ∀ r M, Iv xs.length r M → E.nx r M := ⟨Iv, .of h0, hS, turn, fin⟩
section
variable {vs : List Nat} {wi : DTI} {as : D → En → (En → Prop) → Prop} {tt : DTT} {fe : DTE} {r : En} {M : Sto} {Φ : List D → Sto → Prop}
/-- by what is walked -/
theorem compD_of (Pw : List D → (Sto → Prop) → Sto → Prop) (hw : ∀ K : List D → (Sto → Prop) → Sto → Prop, (∀ xs S M1, Pw xs S M1 → K xs S M1) → wi r M K) (h : ∀ xs S M1, Pw xs S M1 → CompB vs as tt fe r M1 xs S Φ) : compD vs wi as tt fe r M Φ := by unfold compD; exact hw _ h
theorem compD_map {xs : List D} {S : Sto → Prop} (hw : ∀ K : List D → (Sto → Prop) → Sto → Prop, K xs S M → wi r M K) (g : D → D) (hS : S M) (hl : xs.length ≤ sizeLine) (he : ∀ d ∈ xs, ∀ (Q : D → Sto → Prop), Q (g d) M → as d (wipeD r vs) fun r2 => fe r2 M Q) (fin : Φ (xs.map g) M) :
    compD vs wi as (fun _ M Ψ => Ψ true M) fe r M Φ := by unfold compD; exact hw _ (comp_map g hS hl he fin)
theorem compD_fm {xs : List D} {S : Sto → Prop} (hw : ∀ K : List D → (Sto → Prop) → Sto → Prop, K xs S M → wi r M K) (keep : D → Bool) (g : D → D) (hS : S M) (hl : xs.length ≤ sizeLine)
    (he : ∀ d ∈ xs, ∀ (Q : D → Sto → Prop) (R : Sto → Prop), (if keep d = true then Q (g d) M else R M) → as d (wipeD r vs) fun r2 => tt r2 M fun b M3 => if b = true then fe r2 M3 Q else R M3)
    (fin : Φ ((xs.filter keep).map g) M) : compD vs wi as tt fe r M Φ := by unfold compD; exact hw _ (comp_fm keep g hS hl he fin)
end
section
variable {M0 : Sto} {wi : DTI} {g : DTG} {f : DTS} {E : Ek} {r : En} {M : Sto}
abbrev ForB (M0 : Sto) (g : DTG) (f : DTS) (E : Ek) (r : En) (M : Sto) (xs : List D) (S : Sto → Prop) : Prop := ∃ Iv : Nat → En → Sto → Prop, Cl M0 (Iv 0) r M ∧ (∀ i r M, Iv i r M → S M) ∧
  (∀ i d r M, xs[i]? = some d → Iv i r M → g d r M fun r' M' => f { E with nx := Cl M0 (Iv (i + 1)), ct := Cl M0 (Iv (i + 1)), bk := E.nx } r' M') ∧ ∀ r M, Iv xs.length r M → E.nx r M
theorem forD_of (Pw : List D → (Sto → Prop) → Sto → Prop) (hw : ∀ K : List D → (Sto → Prop) → Sto → Prop, (∀ xs S M1, Pw xs S M1 → K xs S M1) → wi r M K) (h : ∀ xs S M1, Pw xs S M1 → ForB M0 g f E r M1 xs S) : forD M0 wi g f E r M := by unfold forD; exact hw _ h
theorem forD_n {xs : List D} {S : Sto → Prop} (hw : ∀ K : List D → (Sto → Prop) → Sto → Prop, K xs S M → wi r M K) (Iv : Nat → En → Sto → Prop) (h0 : Iv 0 r M) (hS : ∀ i r M, Iv i r M → S M)
    (turn : ∀ i d r M, xs[i]? = some d → Iv i r M → g d r M fun r' M' => f { E with nx := Cl M0 (Iv (i + 1)), ct := Cl M0 (Iv (i + 1)), bk := E.nx } r' M') (fin : ∀ r M, Iv xs.length r M → E.nx r M) : forD M0 wi g f E r M := by unfold forD; exact hw _ (for_n Iv h0 hS turn fin)
end
/-! ### the draws -/
structure Hand where
  cs : List Int
  i : Int
  r : Int
  m : Int
def hd (h : Hand) : Cell := .lst [.lst (h.cs.map .int), .int h.i, .int h.r, .int h.m]
/-- at p a hand of draws -/
def HandAt (M : Sto) (p : Addr) : Prop := ∃ h, M p = some (hd h) ∧ h.cs.length ≤ 63 ∧ 0 ≤ h.i
/-- only p may have changed, it is a hand still -/
def Dr (p : Addr) (M M' : Sto) : Prop := HandAt M' p ∧ ∀ q, q ≠ p → M' q = M q
theorem Dr.refl {p : Addr} {M : Sto} (h : HandAt M p) : Dr p M M := ⟨h, fun _ _ => rfl⟩
theorem Dr.trans {p : Addr} {M M1 M2 : Sto} (a : Dr p M M1) (b : Dr p M1 M2) : Dr p M M2 := ⟨b.1, fun q h => (b.2 q h).trans (a.2 q h)⟩
end Z
namespace Z
open PySem PySem.Spec PyProof.Rows L2
/-! ### small steps of the plain side -/
theorem big_ok : (1000000 : Nat) ≤ sizeLine := by decide
theorem ite_t {c : Bool} {p q : Prop} (h : c = true) (x : p) : if c = true then p else q := by rw [if_pos h]; exact x
theorem ite_f {c : Bool} {p q : Prop} (h : c = false) (x : q) : if c = true then p else q := by rw [if_neg (by rw [h]; simp)]; exact x
theorem ite_c {c : Bool} {p q : Prop} (h1 : c = true → p) (h2 : c = false → q) : if c = true then p else q := by
  cases c with
  | true => exact ite_t rfl (h1 rfl)
  | false => exact ite_f rfl (h2 rfl)
theorem bl_t {f : Bool → Prop} {c : Bool} (h : c = true) (x : f true) : blD f (.bl c) := by rw [h]; unfold blD; exact x
theorem bl_f {f : Bool → Prop} {c : Bool} (h : c = false) (x : f false) : blD f (.bl c) := by rw [h]; unfold blD; exact x
theorem bl_c {f : Bool → Prop} {c : Bool} (h1 : c = true → f true) (h2 : c = false → f false) : blD f (.bl c) := by
  unfold blD
  cases c with
  | true => exact h1 rfl
  | false => exact h2 rfl
theorem ln {l : List D} {n : Nat} (h : l.length = n) (hn : n ≤ 1000000) : l.length ≤ sizeLine := h ▸ Nat.le_trans hn big_ok
theorem eqI {M : Sto} {i j : Int} {φ : D → Prop} (h : φ (.bl (decide (i = j)))) : eqD M (.int i) (.int j) φ := by unfold eqD; exact h
theorem ix_ref {M : Sto} {p : Addr} {i : Int} {l : List D} {φ : D → Prop} (e : M p = some (.lst l)) (h : optK (L2.atI l i) φ) : ixD M (.ref p) (.int i) φ := by
  unfold ixD
  simp only [lstOf, e]
  exact h
theorem set_ref {M : Sto} {p : Addr} {i : Int} {l : List D} {v : D} {j : Nat} {φ : Sto → Prop} (e : M p = some (.lst l)) (hj : L2.ixN l.length i = some j) (h : φ (updM M p (.lst (l.set j v)))) : setD (.ref p) i v M φ := by
  unfold setD
  simp only [e, hj, optK]
  exact h
theorem len_ref {M : Sto} {p : Addr} {l : List D} {φ : PD} (e : lstOf M (.ref p) = some l) (h : φ (.int l.length) M) : ∃ l, lstOf M (.ref p) = some l ∧ φ (.int l.length) M := ⟨l, e, h⟩
theorem fld_hd {f : Str} {d : D} {fs : List (Str × D)} {φ : D → Prop} (h : φ d) : optK (((f, d) :: fs).lookup f) φ := optK_of List.lookup_cons_self h
theorem look_ne {f g : Str} {d : D} (h : (f == g) = false) : List.lookup f [(g, d)] = none := by
  rw [List.lookup_cons, h]; rfl
theorem lmem {α : Type} {xs : List α} {i : Nat} {d : α} (h : xs[i]? = some d) : d ∈ xs := by
  obtain ⟨h1, h2⟩ := List.getElem?_eq_some_iff.mp h
  exact h2 ▸ List.getElem_mem h1
theorem ty_int {M : Sto} {d : D} (h : tyN M d = some "int") : ∃ i, d = .int i := by
  unfold tyN at h
  split at h <;> first | exact ⟨_, rfl⟩ | (exfalso; revert h; decide) | (split at h <;> (exfalso; revert h; decide)) | cases h
theorem ty_str {M : Sto} {d : D} (h : tyN M d = some "str") : ∃ x, d = .str x := by
  unfold tyN at h
  split at h <;> first | exact ⟨_, rfl⟩ | (exfalso; revert h; decide) | (split at h <;> (exfalso; revert h; decide)) | cases h
theorem signs_mem {x : Str} {d : D} (h : d ∈ signs x) : ∃ c ∈ x.cps.toList, d = .str ⟨#[c]⟩ := by
  obtain ⟨c, hc, e⟩ := List.mem_map.mp h
  exact ⟨c, hc, e.symm⟩
theorem signs_get {x : Str} {i : Nat} {d : D} (h : (signs x)[i]? = some d) : ∃ c, x.cps.toList[i]? = some c ∧ d = .str ⟨#[c]⟩ := by
  unfold signs at h
  rw [List.getElem?_map] at h
  obtain ⟨c, hc, e⟩ := Option.map_eq_some_iff.mp h
  exact ⟨c, hc, e.symm⟩
theorem signs_len {x : Str} : (signs x).length = x.cps.size := by unfold signs; rw [List.length_map, Array.length_toList]
theorem mok_s {i j : Int} (h : j.natAbs < 2 ^ 40) : IntMulOk i j := IntMulOk.of_right (by
  have := PyProof.Rows.intBits_le h
  omega)
theorem mok_l {i j : Int} (h : i.natAbs < 2 ^ 40) : IntMulOk i j := IntMulOk.of_left (by
  have := PyProof.Rows.intBits_le h
  omega)
theorem rng_at {lo : Int} {n i : Nat} {d : D} (h : (rngD lo n)[i]? = some d) : i < n ∧ d = .int (lo + i) := by
  have hi : i < n := by
    have := (List.getElem?_eq_some_iff.mp h).1
    rw [rng_len] at this; exact this
  rw [rng_get hi] at h
  cases h
  exact ⟨hi, rfl⟩
theorem rng_mem {lo : Int} {n : Nat} {d : D} (h : d ∈ rngD lo n) : ∃ k : Nat, k < n ∧ d = .int (lo + k) := by
  obtain ⟨k, hk, e⟩ := List.mem_map.mp h
  exact ⟨k, List.mem_range.mp hk, e.symm⟩
/-! ### tables -/
abbrev T4 := Int × Int × Int × Int
def tL (t : T4) : List D := [.int t.1, .int t.2.1, .int t.2.2.1, .int t.2.2.2]
def tD (t : T4) : D := .tup (tL t)
def mul4 (s t : T4) : T4 := (s.1 * t.1 + s.2.1 * t.2.2.1, s.1 * t.2.1 + s.2.1 * t.2.2.2, s.2.2.1 * t.1 + s.2.2.2 * t.2.2.1, s.2.2.1 * t.2.1 + s.2.2.2 * t.2.2.2)
def det4 (t : T4) : Int := t.1 * t.2.2.2 - t.2.1 * t.2.2.1
def O4 : T4 := (1, 0, 0, 1)
def L4 : T4 := (1, 0, 1, 1)
def R4 : T4 := (1, 1, 0, 1)
def pow4 (t : T4) : Nat → T4
  | 0 => O4
  | n + 1 => mul4 (pow4 t n) t
theorem det_mul (s t : T4) : det4 (mul4 s t) = det4 s * det4 t := by unfold det4 mul4; simp only; grind
theorem mul_assoc4 (r s t : T4) : mul4 (mul4 r s) t = mul4 r (mul4 s t) := by
  unfold mul4
  simp only [Prod.mk.injEq]
  refine ⟨?_, ?_, ?_, ?_⟩ <;> grind
theorem one_mul4 (t : T4) : mul4 O4 t = t := by
  obtain ⟨a, b, c, d⟩ := t
  unfold mul4 O4
  simp
theorem mul_one4 (t : T4) : mul4 t O4 = t := by
  obtain ⟨a, b, c, d⟩ := t
  unfold mul4 O4
  simp
theorem pow_one4 (t : T4) : pow4 t 1 = t := one_mul4 t
/-- entries below 2 ^ n -/
def Sm (n : Nat) (t : T4) : Prop := t.1.natAbs < 2 ^ n ∧ t.2.1.natAbs < 2 ^ n ∧ t.2.2.1.natAbs < 2 ^ n ∧ t.2.2.2.natAbs < 2 ^ n
theorem abs_lt {i : Int} {n : Nat} (h : -(2 ^ n : Nat) < i) (h' : i < (2 ^ n : Nat)) : i.natAbs < 2 ^ n := by omega
theorem sm_add {i j : Int} {n : Nat} (h : i.natAbs < 2 ^ n) (h' : j.natAbs < 2 ^ n) : (i + j).natAbs < 2 ^ (n + 1) := by
  rw [Nat.pow_succ]; omega
theorem sm_mono {i : Int} {n m : Nat} (h : i.natAbs < 2 ^ n) (hm : n ≤ m) : i.natAbs < 2 ^ m := Nat.lt_of_lt_of_le h (Nat.pow_le_pow_right (by decide) hm)
theorem Sm.mono {n m : Nat} {t : T4} (h : Sm n t) (hm : n ≤ m) : Sm m t := ⟨sm_mono h.1 hm, sm_mono h.2.1 hm, sm_mono h.2.2.1 hm, sm_mono h.2.2.2 hm⟩
theorem Sm.mul {n m : Nat} {s t : T4} (h : Sm n s) (h' : Sm m t) : Sm (n + m + 1) (mul4 s t) := by
  obtain ⟨a1, a2, a3, a4⟩ := h
  obtain ⟨b1, b2, b3, b4⟩ := h'
  exact ⟨sm_add (wide_lt a1 b1) (wide_lt a2 b3), sm_add (wide_lt a1 b2) (wide_lt a2 b4), sm_add (wide_lt a3 b1) (wide_lt a4 b3), sm_add (wide_lt a3 b2) (wide_lt a4 b4)⟩
theorem sm_O : Sm 1 O4 := by unfold Sm O4; decide
theorem sm_L : Sm 1 L4 := by unfold Sm L4; decide
theorem sm_R : Sm 1 R4 := by unfold Sm R4; decide
/-- a turn's table, a word's -/
def turnT (c : Nat) : T4 := if (⟨#[c]⟩ : Str) = ("R" : Str) then R4 else L4
theorem sm_turn (c : Nat) : Sm 1 (turnT c) := by unfold turnT; split; exact sm_R; exact sm_L
theorem det_turn (c : Nat) : det4 (turnT c) = 1 := by unfold turnT; split <;> decide
def wL (l : List Nat) : T4 := l.foldl (fun t c => mul4 t (turnT c)) O4
theorem wL_snoc (l : List Nat) (c : Nat) : wL (l ++ [c]) = mul4 (wL l) (turnT c) := by unfold wL; rw [List.foldl_append]; rfl
theorem wL_take {l : List Nat} {i : Nat} {c : Nat} (h : l[i]? = some c) : wL (l.take (i + 1)) = mul4 (wL (l.take i)) (turnT c) := by
  rw [List.take_succ, h]; exact wL_snoc _ _
theorem wL_from (l : List Nat) : ∀ t, l.foldl (fun t c => mul4 t (turnT c)) t = mul4 t (wL l) := by
  unfold wL
  induction l with
  | nil => intro t; exact (mul_one4 t).symm
  | cons c l ih =>
    intro t
    rw [List.foldl_cons, List.foldl_cons, ih, ih (mul4 O4 (turnT c)), one_mul4, mul_assoc4]
theorem wL_app (l l' : List Nat) : wL (l ++ l') = mul4 (wL l) (wL l') := by
  conv => lhs; unfold wL
  rw [List.foldl_append, wL_from]; rfl
theorem sm_fold (l : List Nat) : ∀ (t : T4) (n : Nat), Sm n t → Sm (n + 2 * l.length) (l.foldl (fun t c => mul4 t (turnT c)) t) := by
  induction l with
  | nil => intro t n h; exact h
  | cons c l ih =>
    intro t n h
    rw [List.foldl_cons]
    exact (ih _ _ (h.mul (sm_turn c))).mono (by rw [List.length_cons]; omega)
theorem sm_wL (l : List Nat) : Sm (2 * l.length + 1) (wL l) := (sm_fold l O4 1 sm_O).mono (by omega)
theorem det_fold (l : List Nat) : ∀ t : T4, det4 (l.foldl (fun t c => mul4 t (turnT c)) t) = det4 t := by
  induction l with
  | nil => intro t; rfl
  | cons c l ih => intro t; rw [List.foldl_cons, ih, det_mul, det_turn, Int.mul_one]
theorem det_wL (l : List Nat) : det4 (wL l) = 1 := (det_fold l O4).trans (by decide)
/-- == of tables as tuples -/
theorem eqv_t (s t : T4) : PyData.eqv (.tuple [.int s.1, .int s.2.1, .int s.2.2.1, .int s.2.2.2]) (.tuple [.int t.1, .int t.2.1, .int t.2.2.1, .int t.2.2.2]) = decide (s = t) := by
  obtain ⟨a, b, c, d⟩ := s
  obtain ⟨e, f, g, h⟩ := t
  simp only [PyData.eqv, PyData.eqvAll, Prod.mk.injEq]
  rw [Bool.eq_iff_iff]
  simp
theorem eqvT {M : Sto} {s t : T4} {φ : Bool → Prop} (h : φ (decide (s = t))) : eqvD M (tD s) (tD t) φ := by
  refine ⟨.tuple [.int s.1, .int s.2.1, .int s.2.2.1, .int s.2.2.2], .tuple [.int t.1, .int t.2.1, .int t.2.2.1, .int t.2.2.2], rfl, rfl, rfl, rfl, ?_⟩
  rw [eqv_t]
  exact h
theorem eqT {M : Sto} {s t : T4} {φ : D → Prop} (h : φ (.bl (decide (s = t)))) : eqD M (tD s) (tD t) φ := by unfold eqD; exact eqvT (φ := fun b => φ (.bl b)) h
theorem neT {M : Sto} {s t : T4} {φ : D → Prop} (h : φ (.bl (!decide (s = t)))) : neD M (tD s) (tD t) φ := by unfold neD; exact eqvT (φ := fun b => φ (.bl (!b))) h
theorem eqS {M : Sto} {i j : Str} {φ : D → Prop} (h : φ (.bl (decide (i = j)))) : eqD M (.str i) (.str j) φ := by unfold eqD; exact h
theorem neS {M : Sto} {i j : Str} {φ : D → Prop} (h : φ (.bl (!decide (i = j)))) : neD M (.str i) (.str j) φ := by unfold neD; exact h
theorem neI {M : Sto} {i j : Int} {φ : D → Prop} (h : φ (.bl (!decide (i = j)))) : neD M (.int i) (.int j) φ := by unfold neD; exact h
end Z
namespace Z
open PySem PySem.Spec PyProof.Rows L2
theorem fm0 {x m : Int} (h : 0 < m) : 0 ≤ x.fmod m := by
  rw [Int.fmod_eq_emod_of_nonneg x (Int.le_of_lt h)]
  exact Int.emod_nonneg x (by omega)
theorem fm1 {x m : Int} (h : 0 < m) : x.fmod m < m := by
  rw [Int.fmod_eq_emod_of_nonneg x (Int.le_of_lt h)]
  exact Int.emod_lt_of_pos x h
theorem fm_small {x m : Int} (h : 0 < m) (hm : m ≤ 2 ^ 39) : (x.fmod m).natAbs < 2 ^ 40 := by
  have h0 := fm0 (x := x) h
  have h1 := fm1 (x := x) h
  omega
theorem at_nat {α : Type} {xs : List α} {i : Int} {j : Nat} {d : α} (hi : i = (j : Int)) (h : xs[j]? = some d) : L2.atI xs i = some d := by
  subst hi
  have hj : j < xs.length := (List.getElem?_eq_some_iff.mp h).1
  unfold L2.atI L2.ixN
  rw [if_pos (by omega), if_pos (by omega)]
  simpa using h
/-- a place that is there -/
theorem at_some {α : Type} {xs : List α} {i : Int} (h0 : 0 ≤ i) (h1 : i < xs.length) : ∃ d, L2.atI xs i = some d ∧ d ∈ xs := by
  obtain ⟨j, rfl⟩ := Int.eq_ofNat_of_zero_le h0
  have hj : j < xs.length := by omega
  exact ⟨xs[j], at_nat rfl (List.getElem?_eq_getElem hj), List.getElem_mem hj⟩
theorem cut_map {α β : Type} (f : α → β) (xs : List α) (lo hi : Option Int) : cutD (xs.map f) lo hi = (cutD xs lo hi).map f := by
  unfold cutD
  rw [List.length_map, List.map_take, List.map_drop]
theorem cut_len {α : Type} (xs : List α) (lo hi : Option Int) : (cutD xs lo hi).length ≤ xs.length := by
  unfold cutD
  rw [List.length_take, List.length_drop]
  omega
theorem dok_s {j : Int} (h : 0 < j) (h' : j < 2 ^ 40) : Dok j := dok_of (n := 40) (by omega) (by omega) (by decide)
/-- letters: 76 (L), 82 (R) -/
def LR (w : List Nat) : Prop := ∀ c ∈ w, c = 76 ∨ c = 82
theorem lr_mem {c : Nat} : c ∈ ("LR" : Str).cps.toList ↔ c = 76 ∨ c = 82 := by
  have e : ("LR" : Str).cps.toList = [76, 82] := by decide +kernel
  rw [e]
  simp
theorem joinL_one : ∀ w : List Nat, TL.joinL [] (w.map fun c => [c]) = w
  | [] => rfl
  | [c] => rfl
  | c :: d :: w => by
    have ih := joinL_one (d :: w)
    show [c] ++ ([] ++ TL.joinL [] ((d :: w).map fun c => [c])) = _
    rw [ih]
    rfl
theorem join_chars (w : List Nat) : Txt.join Str.empty (w.map fun c => (⟨#[c]⟩ : Str)) = ⟨w.toArray⟩ := by
  have h := SX.join_S [] (w.map fun c => [c])
  rw [joinL_one, List.map_map] at h
  exact h
theorem chars_of {acc : List D} (h : ∀ y ∈ acc, ∃ c : Nat, (c = 76 ∨ c = 82) ∧ y = .str ⟨#[c]⟩) : ∃ w : List Nat, LR w ∧ acc = w.map (fun c => D.str ⟨#[c]⟩) := by
  induction acc with
  | nil => exact ⟨[], (fun c h => nomatch h), rfl⟩
  | cons y l ih =>
    obtain ⟨w, h1, h2⟩ := ih fun z hz => h z (List.mem_cons_of_mem _ hz)
    obtain ⟨c, hc, rfl⟩ := h y List.mem_cons_self
    refine ⟨c :: w, fun d hd => ?_, by rw [h2]; rfl⟩
    rcases List.mem_cons.mp hd with rfl | hd
    · exact hc
    · exact h1 d hd
theorem strsD_chars (w : List Nat) : strsD (w.map fun c => D.str ⟨#[c]⟩) = some (w.map fun c => (⟨#[c]⟩ : Str)) := by
  have := strsD_map (w.map fun c => (⟨#[c]⟩ : Str))
  rw [List.map_map] at this
  exact this
theorem chars_sum (w : List Nat) : ((w.map fun c => (⟨#[c]⟩ : Str)).map (·.length)).sum = w.length := by
  induction w with
  | nil => rfl
  | cons c w ih =>
    rw [List.map_cons, List.map_cons, List.sum_cons, ih, List.length_cons]
    show 1 + _ = _
    omega
/-- no entry below 0 -/
def Nn (t : T4) : Prop := 0 ≤ t.1 ∧ 0 ≤ t.2.1 ∧ 0 ≤ t.2.2.1 ∧ 0 ≤ t.2.2.2
theorem Nn.mul {s t : T4} (a : Nn s) (b : Nn t) : Nn (mul4 s t) := by
  obtain ⟨a1, a2, a3, a4⟩ := a
  obtain ⟨b1, b2, b3, b4⟩ := b
  exact ⟨Int.add_nonneg (Int.mul_nonneg a1 b1) (Int.mul_nonneg a2 b3), Int.add_nonneg (Int.mul_nonneg a1 b2) (Int.mul_nonneg a2 b4), Int.add_nonneg (Int.mul_nonneg a3 b1) (Int.mul_nonneg a4 b3), Int.add_nonneg (Int.mul_nonneg a3 b2) (Int.mul_nonneg a4 b4)⟩
theorem nn_R : Nn R4 := ⟨by decide, by decide, by decide, by decide⟩
theorem nn_L : Nn L4 := ⟨by decide, by decide, by decide, by decide⟩
theorem nn_turn (c : Nat) : Nn (turnT c) := by
  unfold turnT
  split
  · exact nn_R
  · exact nn_L
theorem nn_fold (l : List Nat) : ∀ t : T4, Nn t → Nn (l.foldl (fun t c => mul4 t (turnT c)) t) := by
  induction l with
  | nil => intro t h; exact h
  | cons c l ih => intro t h; rw [List.foldl_cons]; exact ih _ (h.mul (nn_turn c))
theorem nn_wL (l : List Nat) : Nn (wL l) := nn_fold l O4 ⟨by decide, by decide, by decide, by decide⟩
theorem handAt_of {M : Sto} {p : Addr} {cs : List Int} {i r m : Int} (e : M p = some (.lst [.lst (cs.map .int), .int i, .int r, .int m])) (hc : cs.length ≤ 63) (hi : 0 ≤ i) : HandAt M p := ⟨⟨cs, i, r, m⟩, e, hc, hi⟩
theorem set_gen {M : Sto} {p : Addr} {i : Int} {l : List D} {v : D} {j : Nat} {φ : Sto → Prop} (e : M p = some (.lst l)) (hj : L2.ixN l.length i = some j) (h : ∀ M', M' p = some (.lst (l.set j v)) → (∀ b, b ≠ p → M' b = M b) → φ M') : setD (.ref p) i v M φ :=
  set_ref e hj (h _ updM_same fun b hb => updM_ne hb)
/-- what can be drawn from -/
def itm (d : D) : Option (List D) := match d with
  | .str x => some (signs x)
  | .tup l => some l
  | .lst l => some l
  | _ => none
end Z
namespace Z
open PySem PySem.Spec PyProof.Rows L2
/-! ### a def that calls itself: by depth -/
theorem fn_no {P : Program} {w : World} {K : PySem.W.Frag} {mg : Str → Option Value} {base : Heap} {k n : Nat} {f : Addr} {fd : FuncData} {ps : List Str} {c : Ct} (h : ∀ ds M Ψ Ξ, ¬ c ds M Ψ Ξ) : FnOk P w K mg base (L2.CX P w) k f fd ps (spC K n c) :=
  ⟨fun _ _ _ _ ⟨_, _, _, _, _, _, _, _, z, _⟩ => (h _ _ _ _ z).elim, fun _ _ _ _ _ _ _ _ _ _ _ _ _ ⟨_, _, _, _, _, _, _, _, z, _⟩ => (h _ _ _ _ z).elim⟩
/-- found is as due: plain data, lists and tuples alike by their items (d deep) -/
def Same (M : Sto) : Nat → D → D → Prop
  | 0, _, _ => False
  | n + 1, x, y => (x = .non ∧ y = .non) ∨ (∃ b, x = .bl b ∧ y = .bl b) ∨ (∃ i, x = .int i ∧ y = .int i) ∨ (∃ s, x = .str s ∧ y = .str s) ∨
    (∃ xs ys, ((lstOf M x = some xs ∧ lstOf M y = some ys) ∨ (x = .tup xs ∧ y = .tup ys)) ∧ xs.length = ys.length ∧ xs.length ≤ 1000000 ∧ ∀ (i : Nat) a b, xs[i]? = some a → ys[i]? = some b → Same M n a b)
end Z
namespace Z
open PySem PySem.Spec PyProof.Rows L2
/-! ### common divisors -/
def iL (t : T4) : List Int := [t.1, t.2.1, t.2.2.1, t.2.2.2]
theorem iL_inj {s t : T4} (h : iL s = iL t) : s = t := by
  obtain ⟨a, b, c, d⟩ := s
  obtain ⟨e, f, g, k⟩ := t
  unfold iL at h
  simp only [List.cons.injEq, and_true] at h
  obtain ⟨rfl, rfl, rfl, rfl⟩ := h
  rfl
theorem iL_D (t : T4) : (iL t).map D.int = tL t := rfl
def gF (g : Nat) (l : List Int) : Nat := l.foldl (fun g x => Nat.gcd g x.natAbs) g
def gN (l : List Int) : Nat := gF 0 l
theorem gF_cons (g : Nat) (x : Int) (l : List Int) : gF g (x :: l) = gF (Nat.gcd g x.natAbs) l := rfl
theorem gF_dvd0 : ∀ (l : List Int) (g : Nat), gF g l ∣ g
  | [], g => Nat.dvd_refl _
  | x :: l, g => Nat.dvd_trans (gF_dvd0 l _) (Nat.gcd_dvd_left _ _)
theorem gF_dvd : ∀ (l : List Int) (g : Nat) (x : Int), x ∈ l → gF g l ∣ x.natAbs
  | y :: l, g, x, h => by
    rcases List.mem_cons.mp h with rfl | h
    · exact Nat.dvd_trans (gF_dvd0 l _) (Nat.gcd_dvd_right _ _)
    · exact gF_dvd l _ x h
theorem gF_mul (m : Int) : ∀ (l : List Int) (g : Nat), gF (m.natAbs * g) (l.map (m * ·)) = m.natAbs * gF g l
  | [], g => rfl
  | x :: l, g => by
    show gF (Nat.gcd (m.natAbs * g) (m * x).natAbs) (l.map (m * ·)) = m.natAbs * gF (Nat.gcd g x.natAbs) l
    rw [Int.natAbs_mul, Nat.gcd_mul_left]
    exact gF_mul m l _
theorem gN_mul (m : Int) (l : List Int) : gN (l.map (m * ·)) = m.natAbs * gN l := gF_mul m l 0
theorem gN_dvd {l : List Int} {x : Int} (h : x ∈ l) : gN l ∣ x.natAbs := gF_dvd l 0 x h
theorem gN_zero {l : List Int} (h : gN l = 0) : ∀ x ∈ l, x = 0 := fun x hx => by
  have := gN_dvd hx
  rw [h] at this
  have := Nat.eq_zero_of_zero_dvd this
  omega
theorem gN_snoc (l : List Int) (x : Int) : gN (l ++ [x]) = Nat.gcd (gN l) x.natAbs := by
  unfold gN gF
  rw [List.foldl_append]; rfl
theorem gN_take {l : List Int} {i : Nat} {x : Int} (h : l[i]? = some x) : gN (l.take (i + 1)) = Nat.gcd (gN (l.take i)) x.natAbs := by
  rw [List.take_succ, h]; exact gN_snoc _ _
/-- exact quotients -/
theorem fdiv_ex {x : Int} {g : Nat} (hg : 0 < g) (h : g ∣ x.natAbs) : (g : Int) * x.fdiv g = x := by
  have h2 : (g : Int) ∣ x := Int.ofNat_dvd_left.mpr h
  obtain ⟨y, rfl⟩ := h2
  rw [Int.mul_fdiv_cancel_left _ (by omega)]
def dvL (g : Nat) (l : List Int) : List Int := l.map fun x => x.fdiv g
theorem dvL_mul {g : Nat} {l : List Int} (hg : 0 < g) (h : ∀ x ∈ l, g ∣ x.natAbs) : (dvL g l).map ((g : Int) * ·) = l := by
  unfold dvL
  rw [List.map_map]
  conv => rhs; rw [← List.map_id l]
  exact List.map_congr_left fun x hx => fdiv_ex hg (h x hx)
theorem gN_dvL {l : List Int} (hg : 0 < gN l) : gN (dvL (gN l) l) = 1 := by
  have e := dvL_mul hg fun x hx => gN_dvd hx
  have e2 : gN ((dvL (gN l) l).map ((gN l : Int) * ·)) = gN l := by rw [e]
  rw [gN_mul, Int.natAbs_natCast] at e2
  exact Nat.eq_of_mul_eq_mul_left hg (by rw [e2, Nat.mul_one])
/-! ### the plain table -/
def lead (l : List Int) : Int := (l.filter fun x => decide (x ≠ 0)).headD 0
def ngL (l : List Int) : List Int := l.map fun x => -x
def plL (l : List Int) : List Int := if 0 < lead (dvL (gN l) l) then dvL (gN l) l else ngL (dvL (gN l) l)
theorem lead_mul {m : Int} (hm : m ≠ 0) (l : List Int) : lead (l.map (m * ·)) = m * lead l := by
  unfold lead
  induction l with
  | nil => exact (Int.mul_zero m).symm
  | cons x l ih =>
    rw [List.map_cons, List.filter_cons, List.filter_cons]
    by_cases h : x = 0
    · subst h
      rw [Int.mul_zero]
      simpa using ih
    · have h2 : m * x ≠ 0 := Int.mul_ne_zero hm h
      rw [if_pos (decide_eq_true h2), if_pos (decide_eq_true h)]
      rfl
theorem lead_ne {l : List Int} (h : ∃ x ∈ l, x ≠ 0) : lead l ≠ 0 ∧ lead l ∈ l := by
  obtain ⟨x, hx, h0⟩ := h
  unfold lead
  have hm : x ∈ l.filter fun x => decide (x ≠ 0) := List.mem_filter.mpr ⟨hx, decide_eq_true h0⟩
  cases e : l.filter fun x => decide (x ≠ 0) with
  | nil => rw [e] at hm; cases hm
  | cons y r =>
    have hy : y ∈ l.filter fun x => decide (x ≠ 0) := by rw [e]; exact List.mem_cons_self
    obtain ⟨h1, h2⟩ := List.mem_filter.mp hy
    exact ⟨of_decide_eq_true h2, h1⟩
theorem ngL_mul (l : List Int) : ngL l = l.map ((-1) * ·) := List.map_congr_left fun x _ => by omega
/-- what is primitive and begins above 0 -/
structure Prim (l : List Int) : Prop where
  one : gN l = 1
  pos : 0 < lead l
theorem plL_prim {l : List Int} (h : ∃ x ∈ l, x ≠ 0) : Prim (plL l) ∧ ∃ k : Int, k ≠ 0 ∧ l = (plL l).map (k * ·) := by
  have hg : 0 < gN l := by
    rcases Nat.eq_zero_or_pos (gN l) with e | e
    · obtain ⟨x, hx, h0⟩ := h
      exact absurd (gN_zero e x hx) h0
    · exact e
  have e1 := gN_dvL hg
  have e2 := dvL_mul hg fun x hx => gN_dvd hx
  have hu : ∃ x ∈ dvL (gN l) l, x ≠ 0 := by
    obtain ⟨x, hx, h0⟩ := h
    refine ⟨x.fdiv (gN l), List.mem_map.mpr ⟨x, hx, rfl⟩, fun z => h0 ?_⟩
    have := fdiv_ex hg (gN_dvd hx)
    rw [z, Int.mul_zero] at this
    exact this.symm
  obtain ⟨l1, _⟩ := lead_ne hu
  unfold plL
  split
  · rename_i hp
    exact ⟨⟨e1, hp⟩, gN l, by omega, e2.symm⟩
  · rename_i hp
    refine ⟨⟨?_, ?_⟩, -(gN l : Int), by omega, ?_⟩
    · rw [ngL_mul, gN_mul, e1]; rfl
    · rw [ngL_mul, lead_mul (by decide)]; omega
    · conv => lhs; rw [← e2]
      unfold ngL
      rw [List.map_map]
      exact List.map_congr_left fun x _ => by show _ = -(gN l : Int) * -x; rw [Int.neg_mul_neg]
/-- alike: all pairs have equal products crosswise -/
def Cr (l m : List Int) : Prop := l.length = m.length ∧ ∀ (i j : Nat) a b c d, l[i]? = some a → l[j]? = some b → m[i]? = some c → m[j]? = some d → a * d = b * c
theorem Cr.mul {l m : List Int} {k k' : Int} (h : Cr l m) : Cr (l.map (k * ·)) (m.map (k' * ·)) := by
  refine ⟨by rw [List.length_map, List.length_map]; exact h.1, fun i j a b c d h1 h2 h3 h4 => ?_⟩
  rw [List.getElem?_map] at h1 h2 h3 h4
  obtain ⟨a, e1, rfl⟩ := Option.map_eq_some_iff.mp h1
  obtain ⟨b, e2, rfl⟩ := Option.map_eq_some_iff.mp h2
  obtain ⟨c, e3, rfl⟩ := Option.map_eq_some_iff.mp h3
  obtain ⟨d, e4, rfl⟩ := Option.map_eq_some_iff.mp h4
  have := h.2 i j a b c d e1 e2 e3 e4
  grind
theorem Cr.of_mul {l m : List Int} {k k' : Int} (hk : k ≠ 0) (hk' : k' ≠ 0) (h : Cr (l.map (k * ·)) (m.map (k' * ·))) : Cr l m := by
  refine ⟨by have := h.1; rw [List.length_map, List.length_map] at this; exact this, fun i j a b c d h1 h2 h3 h4 => ?_⟩
  have := h.2 i j (k * a) (k * b) (k' * c) (k' * d) (by rw [List.getElem?_map, h1]; rfl) (by rw [List.getElem?_map, h2]; rfl) (by rw [List.getElem?_map, h3]; rfl) (by rw [List.getElem?_map, h4]; rfl)
  have e : (k * k') * (a * d) = (k * k') * (b * c) := by grind
  exact Int.eq_of_mul_eq_mul_left (Int.mul_ne_zero hk hk') e
theorem Cr.refl (l : List Int) : Cr l l := ⟨rfl, fun i j a b c d h1 h2 h3 h4 => by rw [h1] at h3; rw [h2] at h4; cases h3; cases h4; exact Int.mul_comm _ _⟩
theorem lead_at : ∀ {l : List Int}, lead l ≠ 0 → ∃ i, l[i]? = some (lead l) ∧ ∀ (j : Nat) x, j < i → l[j]? = some x → x = 0
  | [], h => absurd rfl h
  | x :: l, h => by
    by_cases e : x = 0
    · have e2 : lead (x :: l) = lead l := by unfold lead; rw [List.filter_cons, if_neg (by simp [e])]
      rw [e2] at h ⊢
      obtain ⟨i, h1, h2⟩ := lead_at h
      refine ⟨i + 1, by simpa using h1, fun j y hj hy => ?_⟩
      cases j with
      | zero => simp at hy; omega
      | succ j => exact h2 j y (by omega) (by simpa using hy)
    · have e2 : lead (x :: l) = x := by unfold lead; rw [List.filter_cons, if_pos (decide_eq_true e)]; rfl
      rw [e2]
      exact ⟨0, rfl, fun j y hj => by omega⟩
theorem Prim.eq {p q : List Int} (hp : Prim p) (hq : Prim q) (h : Cr p q) : p = q := by
  have hl := h.1
  have abs : ∀ (i : Nat) a c, p[i]? = some a → q[i]? = some c → a.natAbs = c.natAbs := fun i a c h1 h3 => by
    have e : q.map (a * ·) = p.map (c * ·) := by
      apply List.ext_getElem?
      intro j
      rw [List.getElem?_map, List.getElem?_map]
      rcases Nat.lt_or_ge j p.length with hj | hj
      · have h2 := List.getElem?_eq_getElem hj
        have h4 := List.getElem?_eq_getElem (hl ▸ hj : j < q.length)
        rw [h2, h4]
        have := h.2 i j _ _ _ _ h1 h2 h3 h4
        exact congrArg some (this.trans (Int.mul_comm _ _))
      · rw [List.getElem?_eq_none hj, List.getElem?_eq_none (by omega)]; rfl
    have e2 : gN (q.map (a * ·)) = gN (p.map (c * ·)) := by rw [e]
    rw [gN_mul, gN_mul, hp.one, hq.one] at e2
    omega
  obtain ⟨i, i1, i2⟩ := lead_at (l := p) (by have := hp.pos; omega)
  obtain ⟨j, j1, j2⟩ := lead_at (l := q) (by have := hq.pos; omega)
  have lt_p : i < p.length := (List.getElem?_eq_some_iff.mp i1).1
  have lt_q : j < q.length := (List.getElem?_eq_some_iff.mp j1).1
  have hij : i = j := by
    rcases Nat.lt_trichotomy i j with z | z | z
    · have h4 := List.getElem?_eq_getElem (hl ▸ lt_p : i < q.length)
      have h5 := j2 i _ z h4
      have := abs i _ _ i1 h4
      have := hp.pos
      omega
    · exact z
    · have h4 := List.getElem?_eq_getElem (hl ▸ lt_q : j < p.length)
      have h5 := i2 j _ z h4
      have := abs j _ _ h4 j1
      have := hq.pos
      omega
  subst hij
  have el : lead p = lead q := by
    have := abs i _ _ i1 j1
    have := hp.pos
    have := hq.pos
    omega
  apply List.ext_getElem?
  intro k
  rcases Nat.lt_or_ge k p.length with hk | hk
  · have h2 := List.getElem?_eq_getElem hk
    have h4 := List.getElem?_eq_getElem (hl ▸ hk : k < q.length)
    rw [h2, h4]
    have := h.2 i k _ _ _ _ i1 h2 j1 h4
    rw [el] at this
    have e := Int.eq_of_mul_eq_mul_left (a := lead q) (by have := hq.pos; omega) (this.trans (Int.mul_comm _ _))
    rw [e]
  · rw [List.getElem?_eq_none hk, List.getElem?_eq_none (by omega)]
theorem plL_eq {l m : List Int} (hl : ∃ x ∈ l, x ≠ 0) (hm : ∃ x ∈ m, x ≠ 0) : plL l = plL m ↔ Cr (plL l) m := by
  obtain ⟨p1, k, hk, e1⟩ := plL_prim hl
  obtain ⟨p2, k', hk', e2⟩ := plL_prim hm
  constructor
  · intro e
    have := (Cr.refl (plL l)).mul (k := 1) (k' := k')
    rw [show (plL l).map ((1 : Int) * ·) = plL l from by simp] at this
    rw [e2, ← e]
    exact this
  · intro h
    rw [e2] at h
    have h' : Cr ((plL l).map ((1 : Int) * ·)) ((plL m).map (k' * ·)) := by rw [show (plL l).map ((1 : Int) * ·) = plL l from by simp]; exact h
    exact p1.eq p2 (h'.of_mul (by decide) hk')
theorem plL_mul {l : List Int} {m : Int} (hm : m ≠ 0) (hl : ∃ x ∈ l, x ≠ 0) : plL (l.map (m * ·)) = plL l := by
  have hl2 : ∃ x ∈ l.map (m * ·), x ≠ 0 := by
    obtain ⟨x, hx, h0⟩ := hl
    exact ⟨m * x, List.mem_map.mpr ⟨x, hx, rfl⟩, Int.mul_ne_zero hm h0⟩
  refine ((plL_eq hl hl2).mpr ?_).symm
  obtain ⟨p1, k, hk, e1⟩ := plL_prim hl
  have e3 : l.map (m * ·) = (plL l).map ((m * k) * ·) := by
    conv => lhs; rw [e1, List.map_map]
    exact List.map_congr_left fun x _ => by show m * (k * x) = m * k * x; rw [Int.mul_assoc]
  rw [e3]
  have := (Cr.refl (plL l)).mul (k := 1) (k' := m * k)
  rw [show (plL l).map ((1 : Int) * ·) = plL l from by simp] at this
  exact this
end Z
namespace Z
open PySem PySem.Spec PyProof.Rows L2
/-! ### more small steps -/
theorem eqB {M : Sto} {i j : Bool} {φ : D → Prop} (h : φ (.bl (decide (i = j)))) : eqD M (.bl i) (.bl j) φ := by unfold eqD; exact h
theorem neB {M : Sto} {i j : Bool} {φ : D → Prop} (h : φ (.bl (!decide (i = j)))) : neD M (.bl i) (.bl j) φ := by unfold neD; exact h
theorem lst_cs {M : Sto} {x : D} {l : List D} (h : lstOf M x = some l) : x = .lst l ∨ ∃ p, x = .ref p ∧ M p = some (.lst l) := by
  cases x with
  | lst l' => cases h; exact .inl rfl
  | ref p => exact .inr ⟨p, rfl, lstOf_ref h⟩
  | _ => cases h
theorem lst_ty {M : Sto} {x : D} {l : List D} (h : lstOf M x = some l) : tyN M x = some "list" := by
  rcases lst_cs h with rfl | ⟨p, rfl, e⟩
  · rfl
  · simp only [tyN, e]
theorem len_l {M : Sto} {x : D} {l : List D} {φ : PD} (h : lstOf M x = some l) (q : φ (.int l.length) M) : lenD M [x] φ := by
  rcases lst_cs h with rfl | ⟨p, rfl, e⟩
  · exact q
  · exact ⟨l, h, q⟩
theorem isi1 {M : Sto} {d : D} {t c : String} {φ : PD} (ht : tyN M d = some t) (hc : c ∈ okCl) (h : φ (.bl (isB t c)) M) : isiD M [d, .ty c] φ := ⟨hc, t, ht, h⟩
theorem isi2 {M : Sto} {d : D} {t c c' : String} {φ : PD} (ht : tyN M d = some t) (hc : c ∈ okCl) (hc' : c' ∈ okCl) (h : φ (.bl (isB t c || (isB t c' || false))) M) : isiD M [d, .tup [.ty c, .ty c']] φ :=
  ⟨[c, c'], rfl, fun x hx => by
    simp only [List.mem_cons, List.not_mem_nil, or_false] at hx
    rcases hx with rfl | rfl
    · exact hc
    · exact hc', t, ht, h⟩
theorem zip_mem {xs ys : List D} {d : D} (h : d ∈ zipD xs ys) : ∃ (i : Nat) (a b : D), xs[i]? = some a ∧ ys[i]? = some b ∧ d = .tup [a, b] := by
  unfold zipD at h
  obtain ⟨⟨a, b⟩, h1, rfl⟩ := List.mem_map.mp h
  obtain ⟨i, hi, e⟩ := List.getElem_of_mem h1
  have e2 := List.getElem?_eq_getElem hi
  rw [e] at e2
  have := List.getElem?_zip_eq_some.mp e2
  exact ⟨i, a, b, this.1, this.2, rfl⟩
theorem zip_len {xs ys : List D} : (zipD xs ys).length = min xs.length ys.length := by unfold zipD; rw [List.length_map, List.length_zip]
theorem all_bl {xs : List D} : (xs.map fun _ => D.bl true) = (xs.map fun _ => true).map D.bl := by rw [List.map_map]; rfl
theorem all_tt (xs : List D) : (xs.map fun _ => true).all id = true := by
  rw [List.all_map, List.all_eq_true]
  intro _ _; rfl
/-! ### the found value is as due -/
section
variable {M : Sto} {n : Nat}
theorem Same.i (i : Int) : Same M (n + 1) (.int i) (.int i) := .inr (.inr (.inl ⟨i, rfl, rfl⟩))
theorem Same.b (i : Bool) : Same M (n + 1) (.bl i) (.bl i) := .inr (.inl ⟨i, rfl, rfl⟩)
theorem Same.s (i : Str) : Same M (n + 1) (.str i) (.str i) := .inr (.inr (.inr (.inl ⟨i, rfl, rfl⟩)))
theorem Same.no : Same M (n + 1) .non .non := .inl ⟨rfl, rfl⟩
inductive SameL (M : Sto) (n : Nat) : List D → List D → Prop
  | nil : SameL M n [] []
  | cons {a b : D} {xs ys : List D} : Same M n a b → SameL M n xs ys → SameL M n (a :: xs) (b :: ys)
theorem SameL.len : ∀ {xs ys : List D}, SameL M n xs ys → xs.length = ys.length
  | _, _, .nil => rfl
  | _, _, .cons _ r => congrArg (· + 1) r.len
theorem SameL.get : ∀ {xs ys : List D}, SameL M n xs ys → ∀ (i : Nat) a b, xs[i]? = some a → ys[i]? = some b → Same M n a b
  | _, _, .nil, i, a, b, h, _ => by simp at h
  | _, _, .cons h r, 0, a, b, h1, h2 => by simp at h1 h2; subst h1 h2; exact h
  | _, _, .cons h r, i + 1, a, b, h1, h2 => r.get i a b (by simpa using h1) (by simpa using h2)
theorem Same.t {xs ys : List D} (h : SameL M n xs ys) (hl : xs.length ≤ 1000000) : Same M (n + 1) (.tup xs) (.tup ys) :=
  .inr (.inr (.inr (.inr ⟨xs, ys, .inr ⟨rfl, rfl⟩, h.len, hl, h.get⟩)))
theorem Same.l {xs ys : List D} (h : SameL M n xs ys) (hl : xs.length ≤ 1000000) : Same M (n + 1) (.lst xs) (.lst ys) :=
  .inr (.inr (.inr (.inr ⟨xs, ys, .inl ⟨rfl, rfl⟩, h.len, hl, h.get⟩)))
theorem SameL.ints : ∀ l : List Int, SameL M (n + 1) (l.map .int) (l.map .int)
  | [] => .nil
  | i :: l => .cons (.i i) (SameL.ints l)
theorem Same.T (t : T4) : Same M (n + 2) (tD t) (tD t) := Same.t (SameL.ints (iL t)) (show 4 ≤ 1000000 by decide)
end
/-! ### plain tables -/
def pl4 (t : T4) : T4 := match plL (iL t) with
  | [a, b, c, d] => (a, b, c, d)
  | _ => t
theorem plL_len (l : List Int) : (plL l).length = l.length := by
  unfold plL
  split
  · unfold dvL; rw [List.length_map]
  · unfold ngL dvL; rw [List.length_map, List.length_map]
theorem iL_pl (t : T4) : iL (pl4 t) = plL (iL t) := by
  have h := plL_len (iL t)
  unfold pl4
  match e : plL (iL t), h with
  | [a, b, c, d], _ => rfl
theorem det_ne {t : T4} (h : det4 t ≠ 0) : ∃ x ∈ iL t, x ≠ 0 := by
  obtain ⟨a, b, c, d⟩ := t
  by_cases ha : a = 0
  · by_cases hb : b = 0
    · exfalso; apply h; unfold det4; simp [ha, hb]
    · exact ⟨b, by unfold iL; simp, hb⟩
  · exact ⟨a, by unfold iL; simp, ha⟩
def sc (m : Int) (t : T4) : T4 := (m * t.1, m * t.2.1, m * t.2.2.1, m * t.2.2.2)
theorem iL_sc (m : Int) (t : T4) : iL (sc m t) = (iL t).map (m * ·) := rfl
theorem det_sc' (m : Int) (t : T4) : det4 (sc m t) = m * m * det4 t := by unfold det4 sc; simp only; grind
theorem pl_mul {t : T4} (h : det4 t ≠ 0) : ∃ k : Int, k ≠ 0 ∧ t = sc k (pl4 t) := by
  obtain ⟨_, k, hk, e⟩ := plL_prim (det_ne h)
  exact ⟨k, hk, iL_inj (by rw [iL_sc, iL_pl]; exact e)⟩
theorem det_pl {t : T4} (h : det4 t ≠ 0) : det4 (pl4 t) ≠ 0 := by
  obtain ⟨k, hk, e⟩ := pl_mul h
  intro z
  rw [e, det_sc', z, Int.mul_zero] at h
  exact h rfl
theorem abs_le_mul {k x : Int} (hk : k ≠ 0) : x.natAbs ≤ (k * x).natAbs := by
  rw [Int.natAbs_mul]
  exact Nat.le_mul_of_pos_left _ (by omega)
theorem sm_pl {t : T4} {n : Nat} (h : det4 t ≠ 0) (hs : Sm n t) : Sm n (pl4 t) := by
  obtain ⟨k, hk, e⟩ := pl_mul h
  rw [e] at hs
  exact ⟨Nat.lt_of_le_of_lt (abs_le_mul hk) hs.1, Nat.lt_of_le_of_lt (abs_le_mul hk) hs.2.1, Nat.lt_of_le_of_lt (abs_le_mul hk) hs.2.2.1, Nat.lt_of_le_of_lt (abs_le_mul hk) hs.2.2.2⟩
theorem pl_sc {t : T4} {m : Int} (hm : m ≠ 0) (h : det4 t ≠ 0) : pl4 (sc m t) = pl4 t := iL_inj (by rw [iL_pl, iL_pl, iL_sc]; exact plL_mul hm (det_ne h))
/-- the six products crosswise -/
def cr6 (p f : T4) : Bool := decide (p.1 * f.2.1 = p.2.1 * f.1) && (decide (p.1 * f.2.2.1 = p.2.2.1 * f.1) && (decide (p.1 * f.2.2.2 = p.2.2.2 * f.1) && (decide (p.2.1 * f.2.2.1 = p.2.2.1 * f.2.1) && (decide (p.2.1 * f.2.2.2 = p.2.2.2 * f.2.1) && decide (p.2.2.1 * f.2.2.2 = p.2.2.2 * f.2.2.1)))))
theorem cr6_iff (p f : T4) : cr6 p f = true ↔ Cr (iL p) (iL f) := by
  obtain ⟨a, b, c, d⟩ := p
  obtain ⟨a', b', c', d'⟩ := f
  unfold cr6
  simp only [Bool.and_eq_true, decide_eq_true_eq]
  constructor
  · rintro ⟨h1, h2, h3, h4, h5, h6⟩
    refine ⟨rfl, fun i j x y z w e1 e2 e3 e4 => ?_⟩
    unfold iL at e1 e2 e3 e4
    match i, e1, e3 with
    | 0, e1, e3 => match j, e2, e4 with
      | 0, e2, e4 => simp at e1 e2 e3 e4; subst_vars; rfl
      | 1, e2, e4 => simp at e1 e2 e3 e4; subst_vars; exact h1
      | 2, e2, e4 => simp at e1 e2 e3 e4; subst_vars; exact h2
      | 3, e2, e4 => simp at e1 e2 e3 e4; subst_vars; exact h3
    | 1, e1, e3 => match j, e2, e4 with
      | 0, e2, e4 => simp at e1 e2 e3 e4; subst_vars; grind
      | 1, e2, e4 => simp at e1 e2 e3 e4; subst_vars; rfl
      | 2, e2, e4 => simp at e1 e2 e3 e4; subst_vars; exact h4
      | 3, e2, e4 => simp at e1 e2 e3 e4; subst_vars; exact h5
    | 2, e1, e3 => match j, e2, e4 with
      | 0, e2, e4 => simp at e1 e2 e3 e4; subst_vars; grind
      | 1, e2, e4 => simp at e1 e2 e3 e4; subst_vars; grind
      | 2, e2, e4 => simp at e1 e2 e3 e4; subst_vars; rfl
      | 3, e2, e4 => simp at e1 e2 e3 e4; subst_vars; exact h6
    | 3, e1, e3 => match j, e2, e4 with
      | 0, e2, e4 => simp at e1 e2 e3 e4; subst_vars; grind
      | 1, e2, e4 => simp at e1 e2 e3 e4; subst_vars; grind
      | 2, e2, e4 => simp at e1 e2 e3 e4; subst_vars; grind
      | 3, e2, e4 => simp at e1 e2 e3 e4; subst_vars; rfl
  · intro h
    exact ⟨h.2 0 1 _ _ _ _ rfl rfl rfl rfl, h.2 0 2 _ _ _ _ rfl rfl rfl rfl, h.2 0 3 _ _ _ _ rfl rfl rfl rfl, h.2 1 2 _ _ _ _ rfl rfl rfl rfl, h.2 1 3 _ _ _ _ rfl rfl rfl rfl, h.2 2 3 _ _ _ _ rfl rfl rfl rfl⟩
theorem pl_eq {s t : T4} (hs : det4 s ≠ 0) (ht : det4 t ≠ 0) : decide (pl4 s = pl4 t) = cr6 (pl4 s) t := by
  rw [Bool.eq_iff_iff, decide_eq_true_eq, cr6_iff, iL_pl, ← plL_eq (det_ne hs) (det_ne ht), ← iL_pl, ← iL_pl]
  exact ⟨fun h => by rw [h], iL_inj⟩
/-- what is not 0 -/
def nzB (d : D) : Bool := match d with
  | .int j => decide (j ≠ 0)
  | _ => false
theorem filt_nz (l : List Int) : (l.map D.int).filter nzB = (l.filter fun x => decide (x ≠ 0)).map D.int := by
  induction l with
  | nil => rfl
  | cons x l ih =>
    rw [List.map_cons, List.filter_cons, List.filter_cons]
    by_cases h : x = 0
    · rw [if_neg (by simp [nzB, h]), if_neg (by simp [h])]; exact ih
    · rw [if_pos (show nzB (.int x) = true from decide_eq_true h), if_pos (decide_eq_true h), List.map_cons, ih]
theorem at0_lead {l : List Int} (h : ∃ x ∈ l, x ≠ 0) : L2.atI ((l.filter fun x => decide (x ≠ 0)).map D.int) 0 = some (.int (lead l)) := by
  obtain ⟨x, hx, h0⟩ := h
  have hm : x ∈ l.filter fun x => decide (x ≠ 0) := List.mem_filter.mpr ⟨hx, decide_eq_true h0⟩
  unfold lead
  cases e : l.filter fun x => decide (x ≠ 0) with
  | nil => rw [e] at hm; cases hm
  | cons y r => exact at_nat (j := 0) rfl rfl
theorem gcd_step (a b : Nat) : Nat.gcd b (a % b) = Nat.gcd a b := by rw [Nat.gcd_comm b, ← Nat.gcd_rec, Nat.gcd_comm]
theorem fmod_nat (a b : Nat) : (a : Int).fmod (b : Int) = ((a % b : Nat) : Int) := by
  rw [Int.fmod_eq_emod_of_nonneg _ (by omega)]; rfl
theorem abs_nat (x : Int) : (if x < 0 then -x else x) = (x.natAbs : Int) := by split <;> omega
def slotN (r : En) (i : Nat) : Nat := match r[i]? with
  | some (some (.int j)) => j.natAbs
  | _ => 0
theorem map_get {l : List Int} {i : Nat} {d : D} (h : (l.map D.int)[i]? = some d) : ∃ x, l[i]? = some x ∧ d = .int x := by
  rw [List.getElem?_map] at h
  obtain ⟨x, e, rfl⟩ := Option.map_eq_some_iff.mp h
  exact ⟨x, e, rfl⟩
end Z
namespace Z
open PySem PySem.Spec PyProof.Rows L2
/-! ### a, b, c = x, y, z -/
section
variable {X : Cx} {B : Bs} {pos apos : Pos} {e o : Expr} {es : List Expr} {fa fo : DTE} {ga : DTA}
theorem ds_par3 {i j l : Nat} {x y z : Str} {a b c : Expr} {px py pz pt : Pos} {kt k2 : Nat} {pt2 : Pos} (hc : X.calm = true) (hN : X.N.Nodup) (ha : DA X B [a, b, c] ga) (hi : X.N[i]? = some x := by rfl) (hj : X.N[j]? = some y := by rfl) (hl : X.N[l]? = some z := by rfl) (hij : i ≠ j := by decide) (hil : i ≠ l := by decide) (hjl : j ≠ l := by decide)
    (hx : X.env.scope.names.lookup x = some .local := by rfl) (hy : X.env.scope.names.lookup y = some .local := by rfl) (hz : X.env.scope.names.lookup z = some .local := by rfl)
    (hw : swappedStores [.Tuple [.Name x px, .Name y py, .Name z pz] kt pt] (.Tuple [a, b, c] k2 pt2) X.env = pure (some [x, y, z]) := by rfl) (hs : swapsWithSole [.Tuple [.Name x px, .Name y py, .Name z pz] kt pt] (.Tuple [a, b, c] k2 pt2) pos.line X.env = pure false := by rfl) :
    DS X B (.Assign [.Tuple [.Name x px, .Name y py, .Name z pz] kt pt] (.Tuple [a, b, c] k2 pt2) pos) (fun E r M => ga r M fun ds M1 => match ds with | [d, d', d''] => E.nx (((r.set i (some d)).set j (some d')).set l (some d'')) M1 | _ => False) :=
  PS_imp (ps_par3 hc hN hi hj hl hij hil hjl hx hy hz ha hw hs) fun D' σ H h => by
    obtain ⟨r, M, G, E, R, q, k⟩ := EkOk.of h
    refine ⟨r, M, G, _, R, q, fun ds M' vs H' G' q' R' s p => ?_⟩
    split at q'
    · cases p with
      | cons p1 p2 => cases p2 with
        | cons p2 p3 => cases p3 with
          | cons p3 p4 => cases p4; exact ⟨_, _, _, rfl, k.nx _ _ _ _ _ q' (((R'.set p1 i).set p2 j).set p3 l) s⟩
    · exact q'.elim
/-! ### methods of lists -/
theorem tyV_lst {K : PySem.W.Frag} {M : Sto} {H G : Hp} {d : D} {v : V} {l : List D} (w : Wd K M H G) (r : Rep K G d v) (e : lstOf M d = some l) : tyV K "list" v H := by
  obtain ⟨a, vs, rfl, h, _⟩ := lst_rep' w r e
  exact .inl ⟨rfl, vs, h⟩
theorem de_lm1 {id : String} {name : Str} {r : V → List V → Hp → VK → Prop} {g : Sto → D → List D → PD → Prop} (slot : Slot "list" name id) (ty : typeOf (.builtin id) = pure (.type "method_descriptor")) (rule : MtR X id r) (ok : OkM X.K r g) (ho : DE X B o fo) (ha : DA X B (e :: es) ga)
    (hbase : attributeBase o name X.env (eval o X.env) = eval o X.env := by rfl)
    (hfew : ((backTo pos (starEach (e :: es) X.env)).all (fun x => !x.1) && (backToKw pos (keywordEach [] X.env)).all (fun x => x.1.isSome)
      && decide ((e :: es).length + ([] : List Keyword).length + (if ([] : List Keyword).isEmpty then 0 else 1) < 30)) = true := by rfl)
    (hline : (apos.endLine == pos.line) = true := by rfl) (hs : starEach (e :: es) X.env = (false, eval e X.env) :: starEach es X.env := by rfl) (hplain : (backTo pos (starEach es X.env)).any (·.1) = false := by rfl) :
    DE X B (.Call (.Attribute o name apos) (e :: es) [] pos) (fun r M Ψ => fo r M fun x M1 => (∃ l, lstOf M1 x = some l) ∧ ga r M1 fun ds M2 => g M2 x ds Ψ) :=
  PE_imp (pe_bm PySem.F.plainAttrs_list slot ty rule ho ha hbase hfew hline hs hplain) fun σ H Q ⟨r, M, G, Ψ, R, h, k⟩ => by
    refine ⟨r, M, G, _, R, h, fun x M1 v H1 G1 ⟨⟨l, e1⟩, q⟩ R1 s1 p1 => ⟨tyV_lst R1.wd p1 e1, r, M1, G1, _, R1, q, fun ds M2 us H2 G2 q2 R2 s2 p2 => ?_⟩⟩
    exact ok M2 H2 G2 _ _ _ _ _ _ R2.wd (p1.mono s2) p2 q2 fun d M' w H' G' f w' s' p => k _ _ _ _ _ f (R2.go w' s') ((s1.tr s2).tr s'.gsub) p
theorem de_lm0 {id : String} {name : Str} {r : V → List V → Hp → VK → Prop} {g : Sto → D → List D → PD → Prop} (slot : Slot "list" name id) (ty : typeOf (.builtin id) = pure (.type "method_descriptor")) (rule : MtR X id r) (ok : OkM X.K r g) (ho : DE X B o fo)
    (hbase : attributeBase o name X.env (eval o X.env) = eval o X.env := by rfl) (hline : (apos.endLine == pos.line) = true := by rfl) :
    DE X B (.Call (.Attribute o name apos) [] [] pos) (fun r M Ψ => fo r M fun x M1 => (∃ l, lstOf M1 x = some l) ∧ g M1 x [] Ψ) :=
  PE_imp (pe_bm0 PySem.F.plainAttrs_list slot ty rule ho hbase hline) fun σ H Q ⟨r, M, G, Ψ, R, h, k⟩ => by
    refine ⟨r, M, G, _, R, h, fun x M1 v H1 G1 ⟨⟨l, e1⟩, q⟩ R1 s1 p1 => ⟨tyV_lst R1.wd p1 e1, ?_⟩⟩
    exact ok M1 H1 G1 _ _ _ _ _ _ R1.wd p1 .nil q fun d M' w H' G' f w' s' p => k _ _ _ _ _ f (R1.go w' s') (s1.tr s'.gsub) p
/-- a list that changes, at p -/
def lstAt (M : Sto) (x : D) (φ : Addr → List D → Prop) : Prop := match x with
  | .ref p => match M p with
    | some (.lst l) => φ p l
    | _ => False
  | _ => False
theorem lstAt_of {M : Sto} {p : Addr} {l : List D} {φ : Addr → List D → Prop} (e : M p = some (.lst l)) (h : φ p l) : lstAt M (.ref p) φ := by
  unfold lstAt
  simp only [e]
  exact h
theorem lstAt_some {M : Sto} {x : D} {φ : Addr → List D → Prop} (h : lstAt M x φ) : ∃ p l, x = .ref p ∧ M p = some (.lst l) ∧ φ p l := by
  unfold lstAt at h
  split at h
  · split at h
    · rename_i p _ l e
      exact ⟨p, l, rfl, e, h⟩
    · exact h.elim
  · exact h.elim
def appendD (M : Sto) (x : D) (ds : List D) (φ : PD) : Prop := match ds with
  | [d] => lstAt M x fun p l => l.length < sizeLine ∧ φ .non (updM M p (.lst (l ++ [d])))
  | _ => False
def popD (M : Sto) (x : D) (ds : List D) (φ : PD) : Prop := match ds with
  | [] => lstAt M x fun p l => ∃ d, l[l.length - 1]? = some d ∧ φ d (updM M p (.lst l.dropLast))
  | _ => False
def clearD (M : Sto) (x : D) (ds : List D) (φ : PD) : Prop := match ds with
  | [] => lstAt M x fun p l => φ .non (updM M p (.lst []))
  | _ => False
section
variable {K : PySem.W.Frag}
theorem RepL.dropLast {G : Hp} : ∀ {xs : List D} {us : List V}, RepL K G xs us → RepL K G xs.dropLast us.dropLast := fun {xs us} r => by
  rw [List.dropLast_eq_take, List.dropLast_eq_take, r.length]
  exact r.take _
theorem ok_append : OkM K rAppend appendD := fun M H G x v ds vs φ Q w r rs h k => by
  unfold appendD at h
  split at h
  · obtain ⟨p, l, rfl, e, hl, h⟩ := lstAt_some h
    cases r
    cases rs with
    | cons r1 rs =>
      cases rs
      obtain ⟨gp, us, hp, rl⟩ := w.cells _ _ e
      obtain ⟨w1, s1⟩ := cell_put (c := .lst (l ++ [_])) (o := .lst (us ++ [_])) w e ⟨_, upd_same, rl.app (.cons r1 .nil)⟩
      exact ⟨p, us, _, rfl, rfl, hp, by rw [← rl.length]; exact hl, k _ _ _ _ _ h w1 s1 .non⟩
  · exact h.elim
theorem ok_pop : OkM K rPop popD := fun M H G x v ds vs φ Q w r rs h k => by
  unfold popD at h
  split at h
  · obtain ⟨p, l, rfl, e, d, hd, h⟩ := lstAt_some h
    cases r
    cases rs
    obtain ⟨gp, us, hp, rl⟩ := w.cells _ _ e
    obtain ⟨u, e2, p2⟩ := rl.get hd
    obtain ⟨w1, s1⟩ := cell_put (c := .lst l.dropLast) (o := .lst us.dropLast) w e ⟨_, upd_same, rl.dropLast⟩
    exact ⟨p, us, u, rfl, rfl, hp, by rw [← rl.length]; exact e2, k _ _ _ _ _ h w1 s1 p2⟩
  · exact h.elim
theorem ok_clear : OkM K rClear clearD := fun M H G x v ds vs φ Q w r rs h k => by
  unfold clearD at h
  split at h
  · obtain ⟨p, l, rfl, e, h⟩ := lstAt_some h
    cases r
    cases rs
    obtain ⟨gp, us, hp, rl⟩ := w.cells _ _ e
    obtain ⟨w1, s1⟩ := cell_put (c := .lst []) (o := .lst []) w e ⟨_, upd_same, .nil⟩
    exact ⟨p, us, rfl, rfl, hp, k _ _ _ _ _ h w1 s1 .non⟩
  · exact h.elim
end
theorem de_append (ho : DE X B o fo) (ha : DA X B [e] ga) (hbase : attributeBase o "append" X.env (eval o X.env) = eval o X.env := by rfl) (hline : (apos.endLine == pos.line) = true := by rfl) (hs : starEach [e] X.env = (false, eval e X.env) :: starEach [] X.env := by rfl)
    (hfew : ((backTo pos (starEach [e] X.env)).all (fun x => !x.1) && (backToKw pos (keywordEach [] X.env)).all (fun x => x.1.isSome)
      && decide ([e].length + ([] : List Keyword).length + (if ([] : List Keyword).isEmpty then 0 else 1) < 30)) = true := by rfl) :
    DE X B (.Call (.Attribute o "append" apos) [e] [] pos) (fun r M Ψ => fo r M fun x M1 => (∃ l, lstOf M1 x = some l) ∧ ga r M1 fun ds M2 => appendD M2 x ds Ψ) := de_lm1 PySem.F.slot_list_append PySem.F.type_list_append mt_append ok_append ho ha hbase hfew hline hs rfl
theorem de_pop0 (ho : DE X B o fo) (hbase : attributeBase o "pop" X.env (eval o X.env) = eval o X.env := by rfl) (hline : (apos.endLine == pos.line) = true := by rfl) :
    DE X B (.Call (.Attribute o "pop" apos) [] [] pos) (fun r M Ψ => fo r M fun x M1 => (∃ l, lstOf M1 x = some l) ∧ popD M1 x [] Ψ) := de_lm0 PySem.F.slot_list_pop PySem.F.type_list_pop mt_pop ok_pop ho hbase hline
theorem de_clear (ho : DE X B o fo) (hbase : attributeBase o "clear" X.env (eval o X.env) = eval o X.env := by rfl) (hline : (apos.endLine == pos.line) = true := by rfl) :
    DE X B (.Call (.Attribute o "clear" apos) [] [] pos) (fun r M Ψ => fo r M fun x M1 => (∃ l, lstOf M1 x = some l) ∧ clearD M1 x [] Ψ) := de_lm0 PySem.F.slot_list_clear PySem.F.type_list_clear mt_clear ok_clear ho hbase hline
end
/-! ### repr(x), len(x) of an own class -/
section
variable {X : Cx} {B : Bs} {k j : Nat} {c : Ct} {pos apos p : Pos} {a : Expr} {ga : DTA} {C : Addr} {bs : List (Nat × List Str × (List D → List D → List D))}
def rOwn1 (K : PySem.W.Frag) (C : Addr) (c : Ct) (ok : D → Prop) : List V → Hp → VK → Prop := fun xs H Q => ∃ a dx fs M G x Ψ, xs = [.ref a] ∧ H a = some (.ins C dx fs) ∧ Wd K M H G ∧ Rep K G x (.ref a) ∧ c [x] M Ψ noX ∧ Post K H G M (fun d M' => Ψ d M') (fun v H' => Q v H') ∧ ∀ d M', Ψ d M' → ok d
def own1D (C : Addr) (c : Ct) (ok : D → Prop) (M : Sto) (ds : List D) (φ : PD) : Prop := match ds with
  | [x] => isO C M x fun _ => c [x] M (fun d M' => ok d ∧ φ d M') noX
  | _ => False
theorem ok_own1 {K : PySem.W.Frag} {C : Addr} {c : Ct} {ok : D → Prop} : OkC K (rOwn1 K C c ok) (own1D C c ok) := fun M H G ds vs φ Q w r h k => by
  unfold own1D at h
  split at h
  · obtain ⟨fs, e1, h⟩ := isO_some h
    cases r with
    | cons r1 r2 =>
      cases r2
      obtain ⟨a, dx, fvs, rfl, h1, _⟩ := obj_rep w r1 e1
      exact ⟨a, dx, _, M, G, _, _, rfl, h1, w, r1, h, fun d M' w H' G' f w' s' p => k _ _ _ _ _ f.2 w' s' p, fun d M' f => f.1⟩
  · exact h.elim
theorem bind1 {fd : FuncData} {ps : List Str} {K : PySem.W.Frag} (h : BindD K fd ps (Z.pos 1)) {x : D} : BindD K fd ps ([x].length, [], fun ds _ => ds) := h
theorem call_ownR (F : Mf X.prog X.w X.K X.mg X.base C "__repr__" j c bs) (hr : Room k X.A) (hb : Z.pos 1 ∈ bs) (hj : j + 1 ≤ k := by decide) : CallR X (.builtin "repr") (rOwn1 X.K C c isS) := by
  obtain ⟨f, fd, ps, mt, FO, hbs⟩ := F.ex
  intro pins s σ H xs us Q I rx h
  obtain ⟨a, dx, fs, M, G, x, Ψ, rfl, h1, w, r1, hq, hP, hS⟩ := h
  cases rx with
  | cons rx ry =>
    cases rx; cases ry
    obtain ⟨mA, J, _⟩ := ins_get I.hok h1
    obtain ⟨od, J, _⟩ := J.look
    obtain ⟨m, hF⟩ := I.fr
    have hr1 : Room (j + 1) X.A := hr.mono hj
    refine PySem.W.repr_K hr1.in1.units0 hF I.ok.mod.kin J mt.at_ mt.fn ?_
    refine wpAny_mono (run_n (Q := fun v H' => (∃ y, v = .str y) ∧ Q v H') (vs := [.ref a]) FO hr1.in1 rfl (bind1 (hbs _ hb)) I w (.cons rfl .nil) (.cons r1 .nil) hq fun d M' v' H' G' z w' s' p => ⟨?_, hP d M' v' H' G' z w' s' p⟩) (fun u s' z => ?_) fun _ _ z => z
    · have := hS d M' z
      cases p <;> first | exact ⟨_, rfl⟩ | exact this.elim
    · obtain ⟨v, H', I', r, ⟨y, rfl⟩, q⟩ := z
      obtain ⟨t, rfl⟩ := r
      exact ⟨.str y, H', I', ⟨t, rfl⟩, q⟩
theorem bt_repr : bootBuiltins "repr" = some (.builtin "repr") := by decide +kernel
theorem de_reprO (F : Mf X.prog X.w X.K X.mg X.base C "__repr__" j c bs) (hm : X.mg "repr" = none) (hr : Room k X.A) (hb : Z.pos 1 ∈ bs) (ha : DA X B [a] ga) (hj : j + 1 ≤ k := by decide) (hg : Gl X "repr" := by rfl) (he : starEach [a] X.env = (false, eval a X.env) :: starEach [] X.env := by rfl) :
    DE X B (.Call (.Name "repr" p) [a] [] pos) (fun r M Ψ => ga r M fun ds M1 => own1D C c isS M1 ds Ψ) := de_callB (call_ownR F hr hb hj) ok_own1 hm bt_repr ha hg (by decide) (by decide) he rfl
def lenOk : D → Prop
  | .int n => 0 ≤ n ∧ n < 2 ^ 63
  | _ => False
theorem call_ownL (F : Mf X.prog X.w X.K X.mg X.base C "__len__" j c bs) (hr : Room k X.A) (hb : Z.pos 1 ∈ bs) (hj : j + 1 ≤ k := by decide) : CallR X (.builtin "len") (rOwn1 X.K C c lenOk) := by
  obtain ⟨f, fd, ps, mt, FO, hbs⟩ := F.ex
  intro pins s σ H xs us Q I rx h
  obtain ⟨a, dx, fs, M, G, x, Ψ, rfl, h1, w, r1, hq, hP, hS⟩ := h
  cases rx with
  | cons rx ry =>
    cases rx; cases ry
    obtain ⟨mA, J, _⟩ := ins_get I.hok h1
    obtain ⟨od, J, _⟩ := J.look
    obtain ⟨m, hF⟩ := I.fr
    have hr1 : Room (j + 1) X.A := hr.mono hj
    refine PySem.W.len_K hF I.ok.mod.kin J mt.at_ mt.fn ?_
    refine wpAny_mono (run_n (Q := fun v H' => (∃ n : Int, v = .int n ∧ 0 ≤ n ∧ n < 2 ^ 63) ∧ Q v H') (vs := [.ref a]) FO hr1.in1 rfl (bind1 (hbs _ hb)) I w (.cons rfl .nil) (.cons r1 .nil) hq fun d M' v' H' G' z w' s' p => ⟨?_, hP d M' v' H' G' z w' s' p⟩) (fun u s' z => ?_) fun _ _ z => z
    · have := hS d M' z
      cases p <;> first | exact ⟨_, rfl, this⟩ | exact this.elim
    · obtain ⟨v, H', I', r, ⟨n, rfl, hn⟩, q⟩ := z
      obtain ⟨t, rfl⟩ := r
      exact ⟨hn, .int n, H', I'.tok _, ⟨_, rfl⟩, q⟩
theorem de_lenO (F : Mf X.prog X.w X.K X.mg X.base C "__len__" j c bs) (hm : X.mg "len" = none) (hr : Room k X.A) (hb : Z.pos 1 ∈ bs) (ha : DA X B [a] ga) (hj : j + 1 ≤ k := by decide) (hg : Gl X "len" := by rfl) (he : starEach [a] X.env = (false, eval a X.env) :: starEach [] X.env := by rfl) :
    DE X B (.Call (.Name "len" p) [a] [] pos) (fun r M Ψ => ga r M fun ds M1 => own1D C c lenOk M1 ds Ψ) := de_callB (call_ownL F hr hb hj) ok_own1 hm PySem.boot_len ha hg (by decide) (by decide) he rfl
end
/-! ### x += e -/
section
variable {X : Cx} {B : Bs} {pos : Pos} {e : Expr} {fa : DTE}
theorem ok_ipa {K : PySem.W.Frag} {f : Int → Int → Int} {g : Sto → D → D → (D → Prop) → Prop} (hg : ∀ M x y φ, g M x y φ → ∃ i j, x = .int i ∧ y = .int j ∧ φ (.int (f i j))) : Ok2 K (ipI f) g := fun M H G x y v u φ Q w rx ry h k => by
  obtain ⟨i, j, rfl, rfl, q⟩ := hg _ _ _ _ h
  cases rx; cases ry
  exact ⟨i, j, rfl, rfl, k _ _ _ _ q (Grow.refl w.sub) .int⟩
def iaddD (_ : Sto) (x y : D) (φ : D → Prop) : Prop := match x, y with
  | .int i, .int j => φ (.int (i + j))
  | _, _ => False
theorem ds_iadd {i : Nat} {x : Str} {pos' : Pos} (hN : X.N.Nodup) (he : DE X B e fa) (hi : X.N[i]? = some x := by rfl) (hx : Loc X.env.scope x := by first | exact Or.inl rfl | exact Or.inr rfl)
    (hf : X.fn x = true ∨ X.env.scope.names.lookup x = some .local := by first | exact .inl rfl | exact .inr rfl | assumption) :
    DS X B (.AugAssign (.Name x pos') .Add e pos) (fun E r M => getS r i fun d => fa r M fun d' M1 => iaddD M1 d d' fun z => E.nx (r.set i (some z)) M1) :=
  ds_aug ip_add (ok_ipa fun M x y φ h => by unfold iaddD at h; split at h; exact ⟨_, _, rfl, rfl, h⟩; exact h.elim) hN he hi hx hf
theorem ds_isub {i : Nat} {x : Str} {pos' : Pos} (hN : X.N.Nodup) (he : DE X B e fa) (hi : X.N[i]? = some x := by rfl) (hx : Loc X.env.scope x := by first | exact Or.inl rfl | exact Or.inr rfl)
    (hf : X.fn x = true ∨ X.env.scope.names.lookup x = some .local := by first | exact .inl rfl | exact .inr rfl | assumption) :
    DS X B (.AugAssign (.Name x pos') .Sub e pos) (fun E r M => getS r i fun d => fa r M fun d' M1 => subD M1 d d' fun z => E.nx (r.set i (some z)) M1) :=
  ds_aug ip_sub (ok_ipa fun M x y φ h => by unfold subD at h; split at h; exact ⟨_, _, rfl, rfl, h⟩; exact h.elim) hN he hi hx hf
end
end Z
namespace Z
open PySem PySem.Spec PyProof.Rows L2
/-! ### min, max of ints, in a list or a tuple -/
theorem foldl_min : ∀ (ns : List Int) (n : Int), ns.foldl min n ∈ n :: ns ∧ ∀ y ∈ n :: ns, ns.foldl min n ≤ y
  | [], n => ⟨by simp, fun y hy => by simp at hy; subst hy; exact Int.le_refl _⟩
  | m :: ns, n => by
    obtain ⟨h1, h2⟩ := foldl_min ns (min n m)
    refine ⟨?_, fun y hy => ?_⟩
    · rw [List.foldl_cons]
      rcases List.mem_cons.mp h1 with h | h
      · rw [h]
        rcases Int.le_total n m with c | c
        · rw [Int.min_eq_left c]; simp
        · rw [Int.min_eq_right c]; simp
      · exact List.mem_cons_of_mem _ (List.mem_cons_of_mem _ h)
    · rw [List.foldl_cons]
      have h3 := h2 (min n m) List.mem_cons_self
      rcases List.mem_cons.mp hy with rfl | hy
      · exact Int.le_trans h3 (Int.min_le_left _ _)
      · rcases List.mem_cons.mp hy with rfl | hy
        · exact Int.le_trans h3 (Int.min_le_right _ _)
        · exact h2 y (List.mem_cons_of_mem _ hy)
theorem foldl_max : ∀ (ns : List Int) (n : Int), ns.foldl max n ∈ n :: ns ∧ ∀ y ∈ n :: ns, y ≤ ns.foldl max n
  | [], n => ⟨by simp, fun y hy => by simp at hy; subst hy; exact Int.le_refl _⟩
  | m :: ns, n => by
    obtain ⟨h1, h2⟩ := foldl_max ns (max n m)
    refine ⟨?_, fun y hy => ?_⟩
    · rw [List.foldl_cons]
      rcases List.mem_cons.mp h1 with h | h
      · rw [h]
        rcases Int.le_total n m with c | c
        · rw [Int.max_eq_right c]; simp
        · rw [Int.max_eq_left c]; simp
      · exact List.mem_cons_of_mem _ (List.mem_cons_of_mem _ h)
    · rw [List.foldl_cons]
      have h3 := h2 (max n m) List.mem_cons_self
      rcases List.mem_cons.mp hy with rfl | hy
      · exact Int.le_trans (Int.le_max_left _ _) h3
      · rcases List.mem_cons.mp hy with rfl | hy
        · exact Int.le_trans (Int.le_max_right _ _) h3
        · exact h2 y (List.mem_cons_of_mem _ hy)
theorem reads_ints {h : Heap} : ∀ {ns : List Int} {vs : List Value}, Vals (ns.map V.int) vs → ∃ as, ReadsAll h vs (ns.map PyData.int) as
  | [], _, r => by cases r; exact ⟨[], .nil⟩
  | n :: ns, _, r => by
    cases r with
    | cons r1 r2 =>
      obtain ⟨t, rfl⟩ := r1
      obtain ⟨as, ra⟩ := reads_ints (h := h) r2
      exact ⟨_, .cons (.int n t) ra⟩
theorem alike_ints (ns : List Int) : PySem.W.AlikeAll (ns.map PyData.int) := by
  refine ⟨fun x hx y hy => ?_, fun x hx => ?_⟩
  · obtain ⟨i, _, rfl⟩ := List.mem_map.mp hx
    obtain ⟨j, _, rfl⟩ := List.mem_map.mp hy
    rfl
  · obtain ⟨i, _, rfl⟩ := List.mem_map.mp hx
    intro z; cases z
theorem depth_ints : ∀ ns : List Int, PyData.depthAll (ns.map PyData.int) ≤ 1
  | [] => by unfold PyData.depthAll; simp
  | n :: ns => by
    have ih := depth_ints ns
    rw [List.map_cons]
    unfold PyData.depthAll
    have : (PyData.int n).depth ≤ 1 := by unfold PyData.depth; simp
    omega
def rMinT (K : PySem.W.Frag) : List V → Hp → VK → Prop := fun vs H Q => ∃ (a : Addr) (n : Int) (ns : List Int), vs = [V.ref a] ∧ SqT K H a ((n :: ns).map V.int) ∧ Q (.int (ns.foldl min n)) H
def rMaxT (K : PySem.W.Frag) : List V → Hp → VK → Prop := fun vs H Q => ∃ (a : Addr) (n : Int) (ns : List Int), vs = [V.ref a] ∧ SqT K H a ((n :: ns).map V.int) ∧ Q (.int (ns.foldl max n)) H
section
variable {X : Cx}
theorem cr_minT (hc : X.calm = true) (hu : X.A.units + 65 < cLine) : CallR X (.builtin "min") (rMinT X.K) := by
  intro pins s σ H vs us Q I r h
  obtain ⟨a, n, ns, rfl, hs, q⟩ := h
  obtain ⟨its, rv, ⟨o, h1, h2, m, h3⟩, _⟩ := I.tuple hs
  rw [Vals.ref1 r]
  obtain ⟨as, ra⟩ := reads_ints (h := s.heap) (ns := n :: ns) rv
  have dd := depth_ints (n :: ns)
  refine PySem.W.min_tuple_data (vs := its.toArray) (x := .int n) (xs := ns.map .int) (as := as) (I.ok.hd hc) ⟨o, h1, h2, m, h3⟩ (by simpa using ra) (alike_ints (n :: ns)) (by have : PyData.depthAll (PyData.int n :: List.map PyData.int ns) ≤ 1 := dd; omega) fun i v h' tk bs hv hr hk => ?_
  rw [PySem.W.minD_ints] at hr
  cases hr
  exact ⟨.int _, H, I.kept hk, ⟨_, rfl⟩, q⟩
theorem cr_maxT (hc : X.calm = true) (hu : X.A.units + 65 < cLine) : CallR X (.builtin "max") (rMaxT X.K) := by
  intro pins s σ H vs us Q I r h
  obtain ⟨a, n, ns, rfl, hs, q⟩ := h
  obtain ⟨its, rv, ⟨o, h1, h2, m, h3⟩, _⟩ := I.tuple hs
  rw [Vals.ref1 r]
  obtain ⟨as, ra⟩ := reads_ints (h := s.heap) (ns := n :: ns) rv
  have dd := depth_ints (n :: ns)
  refine PySem.W.max_tuple_data (vs := its.toArray) (x := .int n) (xs := ns.map .int) (as := as) (I.ok.hd hc) ⟨o, h1, h2, m, h3⟩ (by simpa using ra) (alike_ints (n :: ns)) (by have : PyData.depthAll (PyData.int n :: List.map PyData.int ns) ≤ 1 := dd; omega) fun i v h' tk bs hv hr hk => ?_
  rw [PySem.W.maxD_ints] at hr
  cases hr
  exact ⟨.int _, H, I.kept hk, ⟨_, rfl⟩, q⟩
end
/-- ints in a list or a tuple -/
def intsOf (M : Sto) (d : D) (l : List Int) : Prop := lstOf M d = some (l.map .int) ∨ d = .tup (l.map .int)
def minAD (M : Sto) (ds : List D) (φ : PD) : Prop := match ds with
  | [d] => ∃ (n : Int) (ns : List Int), intsOf M d (n :: ns) ∧ φ (.int (ns.foldl min n)) M
  | _ => False
def maxAD (M : Sto) (ds : List D) (φ : PD) : Prop := match ds with
  | [d] => ∃ (n : Int) (ns : List Int), intsOf M d (n :: ns) ∧ φ (.int (ns.foldl max n)) M
  | _ => False
theorem ok_minA {K : PySem.W.Frag} : OkC K (fun xs H Q => rMin K xs H Q ∨ rMinT K xs H Q) minAD := fun M H G ds vs φ Q w r h k => by
  unfold minAD at h
  split at h
  · obtain ⟨n, ns, e | rfl, h⟩ := h
    · obtain ⟨a, us, rfl, h1, h2⟩ := one_lst w r e
      have := repL_ints h2; subst this
      refine .inl ⟨a, n :: ns, rfl, h1, by simp, fun m hm hy => ?_⟩
      obtain ⟨f1, f2⟩ := foldl_min ns n
      have e2 : m = ns.foldl min n := Int.le_antisymm (hy _ f1) (f2 m hm)
      rw [e2]
      exact k.id w h .int
    · cases r with
      | cons r1 r2 =>
        cases r2
        obtain ⟨a, us, rfl, h1, h2⟩ := tup_rep w r1 rfl
        have := repL_ints h2; subst this
        exact .inr ⟨a, n, ns, rfl, h1, k.id w h .int⟩
  · exact h.elim
theorem ok_maxA {K : PySem.W.Frag} : OkC K (fun xs H Q => rMax K xs H Q ∨ rMaxT K xs H Q) maxAD := fun M H G ds vs φ Q w r h k => by
  unfold maxAD at h
  split at h
  · obtain ⟨n, ns, e | rfl, h⟩ := h
    · obtain ⟨a, us, rfl, h1, h2⟩ := one_lst w r e
      have := repL_ints h2; subst this
      refine .inl ⟨a, n :: ns, rfl, h1, by simp, fun m hm hy => ?_⟩
      obtain ⟨f1, f2⟩ := foldl_max ns n
      have e2 : m = ns.foldl max n := Int.le_antisymm (f2 m hm) (hy _ f1)
      rw [e2]
      exact k.id w h .int
    · cases r with
      | cons r1 r2 =>
        cases r2
        obtain ⟨a, us, rfl, h1, h2⟩ := tup_rep w r1 rfl
        have := repL_ints h2; subst this
        exact .inr ⟨a, n, ns, rfl, h1, k.id w h .int⟩
  · exact h.elim
section
variable {X : Cx} {B : Bs} {k : Nat} {pos p : Pos} {a : Expr} {ga : DTA}
theorem de_minA (hc : X.calm = true) (hr : Room k X.A) (hm : X.mg "min" = none) (ha : DA X B [a] ga) (hg : Gl X "min" := by rfl) (he : starEach [a] X.env = (false, eval a X.env) :: starEach [] X.env := by rfl) : DE X B (.Call (.Name "min" p) [a] [] pos) (fun r M Ψ => ga r M fun ds M1 => minAD M1 ds Ψ) :=
  de_callB (CallR_or (cr_min hc) (cr_minT hc (room65 hr))) ok_minA hm bt_min ha hg (by decide) (by decide) he rfl
theorem de_maxA (hc : X.calm = true) (hr : Room k X.A) (hm : X.mg "max" = none) (ha : DA X B [a] ga) (hg : Gl X "max" := by rfl) (he : starEach [a] X.env = (false, eval a X.env) :: starEach [] X.env := by rfl) : DE X B (.Call (.Name "max" p) [a] [] pos) (fun r M Ψ => ga r M fun ds M1 => maxAD M1 ds Ψ) :=
  de_callB (CallR_or (cr_max hc) (cr_maxT hc (room65 hr))) ok_maxA hm bt_max ha hg (by decide) (by decide) he rfl
end
end Z
namespace Z
open PySem PySem.Spec PyProof.Rows L2
/-! ### turns taken off -/
def bR (t : T4) : Bool := decide (t.2.2.1 ≤ t.1) && decide (t.2.2.2 ≤ t.2.1)
def bL (t : T4) : Bool := decide (t.1 ≤ t.2.2.1) && decide (t.2.1 ≤ t.2.2.2)
structure Bal (t : T4) : Prop where
  r : bR t = false
  l : bL t = false
structure Tk (t : T4) (w : List Nat) (u : T4) : Prop where
  lr : LR w
  eq : mul4 (wL w) u = t
  nn : Nn u
  bal : Bal u
theorem turn_R : turnT 82 = R4 := by unfold turnT; rw [if_pos (by decide +kernel)]
theorem turn_L : turnT 76 = L4 := by unfold turnT; rw [if_neg (by decide +kernel)]
theorem wL_nil : wL [] = O4 := rfl
theorem wL_one (c : Nat) : wL [c] = turnT c := one_mul4 _
theorem wL_cons (c : Nat) (l : List Nat) : wL (c :: l) = mul4 (turnT c) (wL l) := by
  rw [show c :: l = [c] ++ l from rfl, wL_app, wL_one]
theorem mul_R (t : T4) : mul4 R4 t = (t.1 + t.2.2.1, t.2.1 + t.2.2.2, t.2.2.1, t.2.2.2) := by unfold mul4 R4; simp
theorem mul_L (t : T4) : mul4 L4 t = (t.1, t.2.1, t.1 + t.2.2.1, t.2.1 + t.2.2.2) := by unfold mul4 L4; simp
theorem beg_R {t : T4} (h : Nn t) (hd : 0 < det4 t) : bR (mul4 R4 t) = true ∧ bL (mul4 R4 t) = false := by
  rw [mul_R]
  obtain ⟨a, b, c, d⟩ := t
  obtain ⟨h1, h2, h3, h4⟩ := h
  simp only at h1 h2 h3 h4
  unfold bR bL
  simp only
  refine ⟨by rw [decide_eq_true (by omega), decide_eq_true (by omega)]; rfl, ?_⟩
  rw [Bool.and_eq_false_iff]
  by_cases e : a = 0
  · right
    refine decide_eq_false fun z => ?_
    have : b = 0 := by omega
    subst this e
    unfold det4 at hd
    simp at hd
  · left; exact decide_eq_false (by omega)
theorem beg_L {t : T4} (h : Nn t) (hd : 0 < det4 t) : bL (mul4 L4 t) = true ∧ bR (mul4 L4 t) = false := by
  rw [mul_L]
  obtain ⟨a, b, c, d⟩ := t
  obtain ⟨h1, h2, h3, h4⟩ := h
  simp only at h1 h2 h3 h4
  unfold bR bL
  simp only
  refine ⟨by rw [decide_eq_true (by omega), decide_eq_true (by omega)]; rfl, ?_⟩
  rw [Bool.and_eq_false_iff]
  by_cases e : c = 0
  · right
    refine decide_eq_false fun z => ?_
    have : d = 0 := by omega
    subst this e
    unfold det4 at hd
    simp at hd
  · left; exact decide_eq_false (by omega)
theorem det_w {w : List Nat} {u t : T4} (e : mul4 (wL w) u = t) : det4 u = det4 t := by rw [← e, det_mul, det_wL, Int.one_mul]
theorem R4_inj {s t : T4} (h : mul4 R4 s = mul4 R4 t) : s = t := by
  rw [mul_R, mul_R] at h
  obtain ⟨a, b, c, d⟩ := s
  obtain ⟨e, f, g, k⟩ := t
  simp only [Prod.mk.injEq] at h ⊢
  omega
theorem L4_inj {s t : T4} (h : mul4 L4 s = mul4 L4 t) : s = t := by
  rw [mul_L, mul_L] at h
  obtain ⟨a, b, c, d⟩ := s
  obtain ⟨e, f, g, k⟩ := t
  simp only [Prod.mk.injEq] at h ⊢
  omega
theorem Tk.tail {t u : T4} {c : Nat} {w : List Nat} (h : Tk t (c :: w) u) : ∃ t1, Tk t1 w u ∧ Nn t1 ∧ det4 t1 = det4 t ∧ t = mul4 (turnT c) t1 := by
  have e := h.eq
  rw [wL_cons, mul_assoc4] at e
  have hn : Nn (mul4 (wL w) u) := (nn_wL w).mul h.nn
  exact ⟨_, ⟨fun d hd => h.lr d (List.mem_cons_of_mem _ hd), rfl, h.nn, h.bal⟩, hn, by rw [← e, det_mul (turnT c), det_turn, Int.one_mul], e.symm⟩
theorem Tk.first {t u : T4} {c : Nat} {w : List Nat} (hd : 0 < det4 t) (h : Tk t (c :: w) u) : (c = 82 ∧ bR t = true ∧ bL t = false) ∨ (c = 76 ∧ bL t = true ∧ bR t = false) := by
  obtain ⟨t1, h1, hn, e1, e2⟩ := h.tail
  rw [← e1] at hd
  rcases h.lr c List.mem_cons_self with rfl | rfl
  · rw [turn_L] at e2
    obtain ⟨z1, z2⟩ := beg_L hn hd
    rw [e2]
    exact .inr ⟨rfl, z1, z2⟩
  · rw [turn_R] at e2
    obtain ⟨z1, z2⟩ := beg_R hn hd
    rw [e2]
    exact .inl ⟨rfl, z1, z2⟩
theorem Tk.uniq : ∀ {w w' : List Nat} {t u u' : T4}, 0 < det4 t → Tk t w u → Tk t w' u' → w = w' ∧ u = u'
  | [], [], t, u, u', hd, h, h' => by
    have e := h.eq
    have e' := h'.eq
    rw [wL_nil, one_mul4] at e e'
    exact ⟨rfl, e.trans e'.symm⟩
  | [], c :: w', t, u, u', hd, h, h' => by
    exfalso
    have e := h.eq
    rw [wL_nil, one_mul4] at e
    rcases h'.first hd with ⟨_, z, _⟩ | ⟨_, z, _⟩
    · rw [← e, h.bal.r] at z; cases z
    · rw [← e, h.bal.l] at z; cases z
  | c :: w, [], t, u, u', hd, h, h' => by
    exfalso
    have e := h'.eq
    rw [wL_nil, one_mul4] at e
    rcases h.first hd with ⟨_, z, _⟩ | ⟨_, z, _⟩
    · rw [← e, h'.bal.r] at z; cases z
    · rw [← e, h'.bal.l] at z; cases z
  | c :: w, c' :: w', t, u, u', hd, h, h' => by
    have hc : c = c' := by
      rcases h.first hd with ⟨rfl, z, y⟩ | ⟨rfl, z, y⟩ <;> rcases h'.first hd with ⟨rfl, z', y'⟩ | ⟨rfl, z', y'⟩ <;> first | rfl | (rw [z] at y'; cases y') | (rw [z'] at y; cases y)
    subst hc
    obtain ⟨t1, h1, hn, e1, e2⟩ := h.tail
    obtain ⟨t2, h2, hn2, e3, e4⟩ := h'.tail
    have et : t1 = t2 := by
      rcases h.lr c List.mem_cons_self with rfl | rfl
      · rw [turn_L] at e2 e4; exact L4_inj (e2.symm.trans e4)
      · rw [turn_R] at e2 e4; exact R4_inj (e2.symm.trans e4)
    subst et
    obtain ⟨r1, r2⟩ := h1.uniq (by rw [e1]; exact hd) h2
    exact ⟨by rw [r1], r2⟩
theorem Tk.bal_self {t : T4} (hn : Nn t) (hb : Bal t) : Tk t [] t := ⟨fun c h => (nomatch h), by rw [wL_nil, one_mul4], hn, hb⟩
/-- many turns at once -/
theorem wL_Rs : ∀ k : Nat, wL (List.replicate k 82) = (1, (k : Int), 0, 1)
  | 0 => rfl
  | k + 1 => by
    rw [List.replicate_succ, wL_cons, wL_Rs k, turn_R, mul_R, show ((k + 1 : Nat) : Int) = (k : Int) + 1 from by omega]
    rfl
theorem wL_Ls : ∀ k : Nat, wL (List.replicate k 76) = (1, 0, (k : Int), 1)
  | 0 => rfl
  | k + 1 => by
    rw [List.replicate_succ, wL_cons, wL_Ls k, turn_L, mul_L, show ((k + 1 : Nat) : Int) = (k : Int) + 1 from by omega, Int.add_comm (k : Int) 1]
    rfl
def subR (k : Int) (t : T4) : T4 := (t.1 - k * t.2.2.1, t.2.1 - k * t.2.2.2, t.2.2.1, t.2.2.2)
def subL (k : Int) (t : T4) : T4 := (t.1, t.2.1, t.2.2.1 - k * t.1, t.2.2.2 - k * t.2.1)
theorem mul_subR (k : Nat) (t : T4) : mul4 (wL (List.replicate k 82)) (subR k t) = t := by
  rw [wL_Rs]
  obtain ⟨a, b, c, d⟩ := t
  unfold mul4 subR
  simp only [Prod.mk.injEq]
  refine ⟨?_, ?_, ?_, ?_⟩ <;> grind
theorem mul_subL (k : Nat) (t : T4) : mul4 (wL (List.replicate k 76)) (subL k t) = t := by
  rw [wL_Ls]
  obtain ⟨a, b, c, d⟩ := t
  unfold mul4 subL
  simp only [Prod.mk.injEq]
  refine ⟨?_, ?_, ?_, ?_⟩ <;> grind
theorem path_R {t t0 : T4} {w : List Nat} (k : Nat) (h : mul4 (wL w) t = t0) : mul4 (wL (w ++ List.replicate k 82)) (subR k t) = t0 := by rw [wL_app, mul_assoc4, mul_subR]; exact h
theorem path_L {t t0 : T4} {w : List Nat} (k : Nat) (h : mul4 (wL w) t = t0) : mul4 (wL (w ++ List.replicate k 76)) (subL k t) = t0 := by rw [wL_app, mul_assoc4, mul_subL]; exact h
theorem LR.rep {w : List Nat} (h : LR w) {c k : Nat} (hc : c = 76 ∨ c = 82) : LR (w ++ List.replicate k c) := fun d hd => by
  rcases List.mem_append.mp hd with z | z
  · exact h d z
  · rw [List.eq_of_mem_replicate z]; exact hc
/-- how often a pair can be taken off another one -/
def ltm (a b c d : Int) : Int := if 0 < c then (if 0 < d then min (a.fdiv c) (b.fdiv d) else a.fdiv c) else b.fdiv d
theorem fdiv_mul_le {a c : Int} (h : 0 < c) : a.fdiv c * c ≤ a := by
  rw [Int.fdiv_eq_ediv_of_nonneg _ (Int.le_of_lt h)]
  exact Int.ediv_mul_le _ (by omega)
theorem le_fdiv {a c k : Int} (h : 0 < c) (hk : k * c ≤ a) : k ≤ a.fdiv c := by
  rw [Int.fdiv_eq_ediv_of_nonneg _ (Int.le_of_lt h)]
  exact (Int.le_ediv_iff_mul_le h).mpr hk
theorem ltm_ok {a b c d : Int} (hc : 0 ≤ c) (hd : 0 ≤ d) (h : 0 < c ∨ 0 < d) (h1 : c ≤ a) (h2 : d ≤ b) : 1 ≤ ltm a b c d ∧ ltm a b c d * c ≤ a ∧ ltm a b c d * d ≤ b := by
  have mono : ∀ {x y z : Int}, 0 ≤ z → x ≤ y → x * z ≤ y * z := fun hz h => Int.mul_le_mul_of_nonneg_right h hz
  unfold ltm
  by_cases e1 : 0 < c
  · rw [if_pos e1]
    have k1 := fdiv_mul_le (a := a) e1
    have g1 : 1 ≤ a.fdiv c := le_fdiv e1 (by omega)
    by_cases e2 : 0 < d
    · rw [if_pos e2]
      have k2 := fdiv_mul_le (a := b) e2
      have g2 : 1 ≤ b.fdiv d := le_fdiv e2 (by omega)
      refine ⟨by omega, ?_, ?_⟩
      · exact Int.le_trans (mono hc (Int.min_le_left _ _)) k1
      · exact Int.le_trans (mono hd (Int.min_le_right _ _)) k2
    · rw [if_neg e2]
      have : d = 0 := by omega
      subst this
      exact ⟨g1, k1, by rw [Int.mul_zero]; exact h2⟩
  · rw [if_neg e1]
    have e2 : 0 < d := h.resolve_left e1
    have k2 := fdiv_mul_le (a := b) e2
    have g2 : 1 ≤ b.fdiv d := le_fdiv e2 (by omega)
    have : c = 0 := by omega
    subst this
    exact ⟨g2, by rw [Int.mul_zero]; exact h1, k2⟩
theorem bR_of {t : T4} (h : bR t = true) : t.2.2.1 ≤ t.1 ∧ t.2.2.2 ≤ t.2.1 := by
  unfold bR at h
  simpa using h
theorem bL_of {t : T4} (h : bL t = true) : t.1 ≤ t.2.2.1 ∧ t.2.1 ≤ t.2.2.2 := by
  unfold bL at h
  simpa using h
theorem low_pos {t : T4} (hn : Nn t) (hd : 0 < det4 t) : (0 < t.2.2.1 ∨ 0 < t.2.2.2) ∧ (0 < t.1 ∨ 0 < t.2.1) := by
  obtain ⟨a, b, c, d⟩ := t
  obtain ⟨h1, h2, h3, h4⟩ := hn
  simp only at h1 h2 h3 h4 ⊢
  unfold det4 at hd
  simp only at hd
  refine ⟨?_, ?_⟩
  · rcases Int.lt_or_le 0 c with h | h
    · exact .inl h
    · have : c = 0 := by omega
      subst this
      rcases Int.lt_or_le 0 d with h | h
      · exact .inr h
      · have : d = 0 := by omega
        subst this
        simp at hd
  · rcases Int.lt_or_le 0 a with h | h
    · exact .inl h
    · have : a = 0 := by omega
      subst this
      rcases Int.lt_or_le 0 b with h | h
      · exact .inr h
      · have : b = 0 := by omega
        subst this
        simp at hd
/-- the sum of the entries -/
def sum4 (t : T4) : Nat := t.1.natAbs + t.2.1.natAbs + t.2.2.1.natAbs + t.2.2.2.natAbs
theorem stepR_ok {t : T4} (hn : Nn t) (hd : 0 < det4 t) (hb : bR t = true) : ∃ k : Nat, ltm t.1 t.2.1 t.2.2.1 t.2.2.2 = (k : Int) ∧ 1 ≤ k ∧ Nn (subR k t) ∧ sum4 (subR k t) + k ≤ sum4 t := by
  obtain ⟨z1, z2⟩ := bR_of hb
  obtain ⟨l1, _⟩ := low_pos hn hd
  obtain ⟨a, b, c, d⟩ := t
  obtain ⟨h1, h2, h3, h4⟩ := hn
  simp only at h1 h2 h3 h4 z1 z2 l1 ⊢
  obtain ⟨q1, q2, q3⟩ := ltm_ok h3 h4 l1 z1 z2
  obtain ⟨k, hk⟩ := Int.eq_ofNat_of_zero_le (show 0 ≤ ltm a b c d by omega)
  rw [hk] at q1 q2 q3
  refine ⟨k, hk, by omega, ⟨by show 0 ≤ a - k * c; omega, by show 0 ≤ b - k * d; omega, h3, h4⟩, ?_⟩
  unfold sum4 subR
  simp only
  have g1 : 0 ≤ (k : Int) * c := Int.mul_nonneg (by omega) h3
  have g2 : 0 ≤ (k : Int) * d := Int.mul_nonneg (by omega) h4
  have g3 : (k : Int) ≤ k * c + k * d := by
    rw [← Int.mul_add]
    have := Int.mul_le_mul_of_nonneg_left (show (1 : Int) ≤ c + d by omega) (show (0 : Int) ≤ k by omega)
    omega
  omega
theorem stepL_ok {t : T4} (hn : Nn t) (hd : 0 < det4 t) (hb : bL t = true) : ∃ k : Nat, ltm t.2.2.1 t.2.2.2 t.1 t.2.1 = (k : Int) ∧ 1 ≤ k ∧ Nn (subL k t) ∧ sum4 (subL k t) + k ≤ sum4 t := by
  obtain ⟨z1, z2⟩ := bL_of hb
  obtain ⟨_, l1⟩ := low_pos hn hd
  obtain ⟨a, b, c, d⟩ := t
  obtain ⟨h1, h2, h3, h4⟩ := hn
  simp only at h1 h2 h3 h4 z1 z2 l1 ⊢
  obtain ⟨q1, q2, q3⟩ := ltm_ok h1 h2 l1 z1 z2
  obtain ⟨k, hk⟩ := Int.eq_ofNat_of_zero_le (show 0 ≤ ltm c d a b by omega)
  rw [hk] at q1 q2 q3
  refine ⟨k, hk, by omega, ⟨h1, h2, by show 0 ≤ c - k * a; omega, by show 0 ≤ d - k * b; omega⟩, ?_⟩
  unfold sum4 subL
  simp only
  have g1 : 0 ≤ (k : Int) * a := Int.mul_nonneg (by omega) h1
  have g2 : 0 ≤ (k : Int) * b := Int.mul_nonneg (by omega) h2
  have g3 : (k : Int) ≤ k * a + k * b := by
    rw [← Int.mul_add]
    have := Int.mul_le_mul_of_nonneg_left (show (1 : Int) ≤ a + b by omega) (show (0 : Int) ≤ k by omega)
    omega
  omega
theorem path_det {t t0 : T4} {w : List Nat} (h : mul4 (wL w) t = t0) : det4 t = det4 t0 := det_w h
/-- turns and what is left: no more than the sum -/
theorem len_sum {t : T4} : ∀ {w : List Nat} {u : T4}, LR w → Nn u → 0 < det4 t → mul4 (wL w) u = t → w.length + sum4 u ≤ sum4 t
  | [], u, _, _, _, e => by rw [wL_nil, one_mul4] at e; rw [e]; simp
  | c :: w, u, hl, hn, hd, e => by
    rw [wL_cons, mul_assoc4] at e
    have hn1 : Nn (mul4 (wL w) u) := (nn_wL w).mul hn
    have hd1 : 0 < det4 (mul4 (wL w) u) := by rw [← e, det_mul, det_turn, Int.one_mul] at hd; exact hd
    have ih := len_sum (t := mul4 (wL w) u) (fun d h => hl d (List.mem_cons_of_mem _ h)) hn hd1 rfl
    generalize mul4 (wL w) u = t1 at e hn1 hd1 ih
    obtain ⟨l1, l2⟩ := low_pos hn1 hd1
    obtain ⟨h1, h2, h3, h4⟩ := hn1
    rw [← e, List.length_cons]
    rcases hl c List.mem_cons_self with rfl | rfl
    · rw [turn_L, mul_L]; unfold sum4 at ih ⊢; simp only at ih ⊢; omega
    · rw [turn_R, mul_R]; unfold sum4 at ih ⊢; simp only at ih ⊢; omega
/-! ### a text so many times -/
theorem fold_rep (x : Array Nat) : ∀ (n : Nat) (acc : Array Nat), ((List.replicate n x).foldl (· ++ ·) acc).toList = acc.toList ++ (List.replicate n x.toList).flatten
  | 0, acc => by simp
  | n + 1, acc => by
    rw [List.replicate_succ, List.foldl_cons, fold_rep x n, List.replicate_succ, List.flatten_cons]
    simp
theorem mul_one_sign (c k : Nat) : Txt.mul ⟨#[c]⟩ (k : Int) = ⟨(List.replicate k c).toArray⟩ := by
  unfold Txt.mul
  by_cases h : (k : Int) < 1
  · rw [if_pos h]
    have : k = 0 := by omega
    subst this; rfl
  · rw [if_neg h]
    by_cases h1 : k = 1
    · subst h1; rfl
    · rw [if_neg (by simp [Str.length]; omega)]
      have e := fold_rep #[c] k #[]
      have : (List.replicate k [c]).flatten = List.replicate k c := by
        induction k with
        | zero => rfl
        | succ n ih => simp [List.replicate_succ]
      simp only [Int.toNat_natCast]
      generalize hz : (List.replicate k #[c]).foldl (· ++ ·) #[] = z at e ⊢
      have e2 : z.toList = List.replicate k c := by rw [e, this]; rfl
      rw [← e2]
theorem mulok_one {c : Nat} {k : Nat} (h : k ≤ 100000) : MulOk ⟨#[c]⟩ (k : Int) := by
  refine ⟨?_, fun h1 _ => ?_, fun _ _ => ?_⟩
  · rw [Bool.or_eq_false_iff]
    exact ⟨decide_eq_false (by omega), decide_eq_false (by omega)⟩
  · have e : ((⟨#[c]⟩ : Str).length : Int) = 1 := rfl
    rw [e]
    have : (1 : Int) ≤ (2 ^ 63 - 1) / (k : Int) := (Int.le_ediv_iff_mul_le (by omega)).mpr (by omega)
    omega
  · have e : (⟨#[c]⟩ : Str).length = 1 := rfl
    rw [e, Nat.one_mul, Int.toNat_natCast]
    show decide (k > sizeLine) = false
    refine decide_eq_false ?_
    have := big_ok
    omega
def rMulS : R2 := fun x y H Q => ∃ a n, x = .str a ∧ y = .int n ∧ MulOk a n ∧ Q (.str (Txt.mul a n)) H
theorem op_mulS {X : Cx} : OpR X (binaryOp .Mult) rMulS := by
  intro pins s σ H x y v u Q I rx ry h
  obtain ⟨i, j, rfl, rfl, hz, q⟩ := h
  obtain ⟨t, rfl⟩ := rx
  obtain ⟨t', rfl⟩ := ry
  exact SB.mul hz fun t'' k => ⟨.str _, H, I.tok _, ⟨_, rfl⟩, q⟩
def mulSD (_ : Sto) (x y : D) (φ : D → Prop) : Prop := match x, y with
  | .str a, .int n => MulOk a n ∧ φ (.str (Txt.mul a n))
  | _, _ => False
theorem ok_mulS {K : PySem.W.Frag} : Ok2 K rMulS mulSD := fun M H G x y v u φ Q w rx ry h k => by
  unfold mulSD at h
  split at h
  · cases rx; cases ry; exact ⟨_, _, rfl, rfl, h.1, k _ _ _ _ h.2 (Grow.refl w.sub) .str⟩
  · exact h.elim
theorem de_mulS {X : Cx} {B : Bs} {a b : Expr} {fa fb : DTE} {pos : Pos} (ha : DE X B a fa) (hb : DE X B b fb) : DE X B (.BinOp a .Mult b pos) (fun r M Ψ => fa r M fun x M1 => fb r M1 fun y M2 => mulSD M2 x y fun z => Ψ z M2) := de_op op_mulS ok_mulS ha hb
/-! ### frozen at the end -/
theorem rs_upd {M : Sto} {p : Addr} {c : Cell} (h : M p = none) : rs M (updM M p c) = M := by
  funext a
  unfold rs
  by_cases e : a = p
  · subst e; rw [h]
  · rw [updM_ne e]
    cases M a <;> rfl
/-- runs as found -/
abbrev Rn := Nat × Nat
def rnD (p : Rn) : D := .tup [.str ⟨#[p.1]⟩, .int p.2]
def wR : List Rn → List Nat
  | [] => []
  | (c, k) :: r => List.replicate k c ++ wR r
theorem wR_snoc : ∀ (l : List Rn) (c k : Nat), wR (l ++ [(c, k)]) = wR l ++ List.replicate k c
  | [], c, k => by show List.replicate k c ++ [] = _; rw [List.append_nil]; rfl
  | (d, j) :: l, c, k => by
    show List.replicate j d ++ wR (l ++ [(c, k)]) = (List.replicate j d ++ wR l) ++ _
    rw [wR_snoc l c k, List.append_assoc]
theorem sb_rn (g : Addr → D) : ∀ l : List Rn, sbL g (l.map rnD) = l.map rnD
  | [] => rfl
  | _ :: l => by
    show _ :: sbL g (l.map rnD) = _
    rw [sb_rn g l]; rfl
theorem sb_tD (g : Addr → D) (t : T4) : sb g (tD t) = tD t := rfl
theorem wR_len : ∀ l : List Rn, (wR l).length = (l.map (·.2)).sum
  | [] => rfl
  | (c, k) :: l => by
    show (List.replicate k c ++ wR l).length = _
    rw [List.length_append, List.length_replicate, wR_len l]; rfl
theorem sum_rn : ∀ l : List Rn, (l.map fun p => (p.2 : Int)).sum = ((wR l).length : Int)
  | [] => rfl
  | (c, k) :: l => by
    show (k : Int) + (l.map fun p => (p.2 : Int)).sum = ((List.replicate k c ++ wR l).length : Int)
    rw [sum_rn l, List.length_append, List.length_replicate]; omega
end Z
namespace Z
section
open PySem PySem.SeqAt GQ
open AutoSeq1 (wpAny_loadPart')
open MeetsSeq MeetsSeq2 MeetsSeq3 SeqRoads2
variable {prog : Program} {w : World} {A : Around} {R : Result → Shared → Prop}
theorem tuple_neG (l b : Addr) (items items2 : Array Value) (n n2 : Nat) (dd dd2 : Option Addr) (sl sl2 : Array (Option Value)) (hsz : items.size = items2.size) (I : Nat → Shared → Prop)
    (turn : ∀ i (h1 : i < items.size) (h2 : i < items2.size) s, I i s → wpAny (model prog w) A.in1 (eqBool items[i] items2[i]) (fun r s' => r = true ∧ I (i + 1) s') (fun e s' => R (.error e) s') s)
    (fin : ∀ s, I items.size s → R (.ok (.ret (.bool false))) s) {s : Shared} (hl1 : s.heap.get? l = some { cls := .type "tuple", dict := dd, data := .seq items n, slots := sl }) (hb1 : s.heap.get? b = some { cls := .type "tuple", dict := dd2, data := .seq items2 n2, slots := sl2 }) (h : I 0 s) :
    wpAny (model prog w) A.in1 (Builtin.«tuple.__ne__» ⟨[.ref l, .ref b], []⟩) (FinOf prog w A R) (fun e s' => R (.error e) s') s := by
  have f2 := AutoSeq1.sub_tuple_tuple
  have hZ : (items.toList.zip items2.toList).length = items.size := by simp [hsz]
  have h0 := h
  obtain ⟨hp, g, d, tk, os⟩ := s
  wp_walk using wpAny_loadPart' hl1, wpAny_loadPart' hb1, wpAny_forIn_list _ (fun rest b s' => b.1 = none ∧ ∃ i, rest = (items.toList.zip items2.toList).drop i ∧ i ≤ items.size ∧ I i s') _
  case turn =>
    rintro ⟨y, x⟩ rest b s' ⟨hb', i, hz, hi, hI⟩
    have hlt : i < (items.toList.zip items2.toList).length := by
      rcases Nat.lt_or_ge i (items.toList.zip items2.toList).length with h' | h'
      · exact h'
      · rw [List.drop_of_length_le h'] at hz; cases hz
    have h1 : i < items.size := hZ ▸ hlt
    have h2 : i < items2.size := hsz ▸ h1
    rw [List.drop_eq_getElem_cons hlt] at hz
    injection hz with hyx hrest
    have hy : y = items[i] := by have := congrArg Prod.fst hyx; simpa using this
    have hx : x = items2[i] := by have := congrArg Prod.snd hyx; simpa using this
    subst hy hx
    refine wpAny_bind (wpAny_mono (turn i h1 h2 s' hI) (fun r s2 q2 => ?_) fun _ _ x => x)
    obtain ⟨hr, q2⟩ := q2
    subst hr
    wp_walk
    exact ⟨rfl, i + 1, hrest, h1, q2⟩
  case fin =>
    rintro ⟨b1, b2⟩ s' ⟨hb', i, hz, hi, hI⟩
    simp only at hb'
    subst hb'
    have hge : items.size ≤ i := by
      rcases Nat.lt_or_ge i (items.toList.zip items2.toList).length with h' | h'
      · rw [List.drop_eq_getElem_cons h'] at hz; cases hz
      · exact hZ ▸ h'
    have hi' : i = items.size := by omega
    have hR : R (.ok (.ret (.bool false))) s' := fin s' (hi' ▸ hI)
    wp_walk
    simpa [Builtin.Tuple.tupleCompareSizes, hsz] using hR
  case h =>
    exact ⟨rfl, 0, rfl, Nat.zero_le _, h0⟩
end
section
open PySem PySem.SeqAt GQ
variable {prog : Program} {w : World} {A : Around} {E : Value → Shared → Prop} {s : Shared}
theorem rcn_tupG {l b : Addr} {items items2 : Array Value} {Q : Value → Shared → Prop} (hsz : items.size = items2.size) (hu : A.units < cLine) (I : Nat → Shared → Prop)
    (hl : s.heap.IsTuple l items) (hb : s.heap.IsTuple b items2)
    (turn : ∀ i (h1 : i < items.size) (h2 : i < items2.size) s, I i s → wpAny (model prog w) A.in1 (eqBool items[i] items2[i]) (fun r s' => r = true ∧ I (i + 1) s') E s)
    (fin : ∀ s, I items.size s → Q (.bool false) s) (h : I 0 s) : wpAny (model prog w) A (richCompare .NotEq (.ref l) (.ref b)) Q E s := by
  obtain ⟨⟨cls, dd, data, sl⟩, ho, hc, n, hd⟩ := id hl
  obtain ⟨⟨cls2, dd2, data2, sl2⟩, ho2, hc2, n2, hd2⟩ := id hb
  simp only at hc hd hc2 hd2
  subst hc hd hc2 hd2
  refine wpAny_richCompare_same_room (op := .NotEq) ⟨_, ho, rfl⟩ ⟨_, ho2, rfl⟩ F.slot_tuple_ne (call_here F.slot_tuple_ne ⟨_, ho, rfl⟩ F.entry_tuple_ne (F.args_tuple_ne_2 _ _) ?_) hu
  exact tuple_neG (R := wants (fun v s' => v ≠ .notImplemented ∧ Q v s') E) l b items items2 n n2 dd dd2 sl sl2 hsz I turn (fun s' q => ⟨(fun x => nomatch x), fin s' q⟩) ho ho2 h
end
open PySem PySem.Spec PyProof.Rows L2
/-! ### == of data with own instances in it, where it says True -/
def LoopZ (X : Cx) (pins : List (Addr × Obj)) (σ : L2.St) (M : Sto) (H G : Hp) (s' : Shared) : Prop := ∃ H' G', L2.Inv X pins σ H' s' ∧ Wd X.K M H' G' ∧ Since H G M M H' G'
theorem LoopZ.start {X : Cx} {pins : List (Addr × Obj)} {σ : L2.St} {M : Sto} {H G : Hp} {s : Shared} (I : L2.Inv X pins σ H s) (w : Wd X.K M H G) : LoopZ X pins σ M H G s := ⟨H, G, I, w, Since.refl⟩
mutual
inductive EqR (own : D → D → Sto → Prop) (M : Sto) : Nat → D → D → Prop
  | flat {n : Nat} {x : D} (h : flatD x = true) : EqR own M n x x
  | tup {n : Nat} {xs ys : List D} (h : EqL own M n xs ys) : EqR own M (n + 1) (.tup xs) (.tup ys)
  | lst {n : Nat} {x y : D} {xs ys : List D} (h1 : lstOf M x = some xs) (h2 : lstOf M y = some ys) (h : EqL own M n xs ys) : EqR own M (n + 1) x y
  | own {n : Nat} {x y : D} (h : own x y M) : EqR own M n x y
inductive EqL (own : D → D → Sto → Prop) (M : Sto) : Nat → List D → List D → Prop
  | nil {n : Nat} : EqL own M n [] []
  | cons {n : Nat} {x y : D} {xs ys : List D} (h : EqR own M n x y) (r : EqL own M n xs ys) : EqL own M n (x :: xs) (y :: ys)
end
theorem EqL.len {own : D → D → Sto → Prop} {M : Sto} {n : Nat} : ∀ {xs ys : List D}, EqL own M n xs ys → xs.length = ys.length
  | _, _, .nil => rfl
  | _, _, .cons _ r => congrArg (· + 1) r.len
theorem EqL.get {own : D → D → Sto → Prop} {M : Sto} {n : Nat} : ∀ {xs ys : List D}, EqL own M n xs ys → ∀ {i : Nat} {a b : D}, xs[i]? = some a → ys[i]? = some b → EqR own M n a b
  | _, _, .nil, i, a, b, h, _ => by simp at h
  | _, _, .cons h r, 0, a, b, h1, h2 => by simp at h1 h2; subst h1 h2; exact h
  | _, _, .cons h r, i + 1, a, b, h1, h2 => r.get (by simpa using h1) (by simpa using h2)
section
variable {X : Cx} {j : Nat} {own : D → D → Sto → Prop}
/-- what is asked of the own ones: == says True -/
def OwnRc (X : Cx) (j : Nat) (own : D → D → Sto → Prop) : Prop := ∀ (A : Around) (pins : List (Addr × Obj)) (s : Shared) (σ : L2.St) (M : Sto) (H G : Hp) (x y : D) (v u : V) (v' u' : Value), Room j A → A.frames = X.A.frames → L2.Inv X pins σ H s → Wd X.K M H G → Rep X.K G x v → Rep X.K G y u → RelV v v' → RelV u u' → own x y M →
  (∃ a b, v = .ref a ∧ u = .ref b) ∧ wpAny (model X.prog X.w) A (richCompare .Eq v' u') (fun r s' => r = .bool true ∧ LoopZ X pins σ M H G s') X.xe s
def EqZ (X : Cx) (j n : Nat) (M : Sto) (x y : D) : Prop := ∀ (A : Around) (pins : List (Addr × Obj)) (s : Shared) (σ : L2.St) (H G : Hp) (v u : V) (v' u' : Value), Room (j + n) A → A.frames = X.A.frames → L2.Inv X pins σ H s → Wd X.K M H G → Rep X.K G x v → Rep X.K G y u → RelV v v' → RelV u u' →
  wpAny (model X.prog X.w) A (eqBool v' u') (fun r s' => r = true ∧ LoopZ X pins σ M H G s') X.xe s
theorem flat_v {K : PySem.W.Frag} {G : Hp} {x : D} {v u : V} (h : flatD x = true) (r1 : Rep K G x v) (r2 : Rep K G x u) : v = u ∧ flatV v = true ∧ eqV v v = true := by
  cases x <;> first | (cases h; done) | (cases r1; cases r2; refine ⟨rfl, rfl, ?_⟩; simp [eqV])
theorem eqZ_ref {n : Nat} {M : Sto} {A : Around} {pins : List (Addr × Obj)} {s : Shared} {σ : L2.St} {H G : Hp} {a b : Addr} (I : L2.Inv X pins σ H s) (w : Wd X.K M H G)
    (h : wpAny (model X.prog X.w) A (richCompare .Eq (.ref a) (.ref b)) (fun r s' => r = .bool true ∧ LoopZ X pins σ M H G s') X.xe s) : wpAny (model X.prog X.w) A (eqBool (.ref a) (.ref b)) (fun r s' => r = true ∧ LoopZ X pins σ M H G s') X.xe s := by
  by_cases hab : a = b
  · subst hab
    exact SeqAt.EqAt.same (A := A) (s := s) (.ref a) X.prog X.w X.xe _ ⟨rfl, .start I w⟩
  · refine GQ.eqBool_refG hab (wpAny_mono h (fun r s' q => ?_) fun _ _ x => x)
    obtain ⟨hr', q⟩ := q
    exact ⟨true, hr', rfl, q⟩
theorem turnZ {n : Nat} {M : Sto} {xs ys : List D} (ih : ∀ (i : Nat) a b, xs[i]? = some a → ys[i]? = some b → EqZ X j n M a b) {A : Around} (hr : Room (j + (n + 1)) A) (hA : A.frames = X.A.frames) {pins : List (Addr × Obj)} {σ : L2.St} {H G : Hp} (w : Wd X.K M H G) {vs us : List V} {its its2 : List Value}
    (p1 : RepL X.K G xs vs) (p2 : RepL X.K G ys us) (r : Vals vs its) (r2 : Vals us its2) (i : Nat) (h1 : i < its.toArray.size) (h2 : i < its2.toArray.size) (s' : Shared) (l : LoopZ X pins σ M H G s') :
    wpAny (model X.prog X.w) A.in1 (eqBool its.toArray[i] its2.toArray[i]) (fun r s2 => r = true ∧ LoopZ X pins σ M H G s2) X.xe s' := by
  obtain ⟨H1, G1, I1, w1, e1⟩ := l
  have g1 : its[i]? = some its.toArray[i] := by
    have h1' : i < its.length := by simpa using h1
    rw [List.getElem?_eq_getElem h1'] <;> simp
  have g2 : its2[i]? = some its2.toArray[i] := by
    have h2' : i < its2.length := by simpa using h2
    rw [List.getElem?_eq_getElem h2'] <;> simp
  have k1 : i < vs.length := by rw [r.length]; simpa using h1
  have k2 : i < us.length := by rw [r2.length]; simpa using h2
  obtain ⟨u, hu, ru⟩ := r.get (List.getElem?_eq_getElem k1)
  obtain ⟨v, hv, rv⟩ := r2.get (List.getElem?_eq_getElem k2)
  obtain ⟨x, hx, px⟩ := p1.get' (List.getElem?_eq_getElem k1)
  obtain ⟨y, hy, py⟩ := p2.get' (List.getElem?_eq_getElem k2)
  rw [g1] at hu
  rw [g2] at hv
  rw [Option.some.inj hu, Option.some.inj hv]
  refine wpAny_mono (ih i x y hx hy A.in1 pins s' σ H1 G1 _ _ _ _ (Room.in1 hr) hA I1 w1 (px.mono e1.gsub) (py.mono e1.gsub) ru rv) (fun r s2 q => ?_) fun _ _ x => x
  obtain ⟨hr, H2, G2, I2, w2, e2⟩ := q
  exact ⟨hr, H2, G2, I2, w2, Since.trans w1 e1 e2⟩
theorem rcZ_tup {n : Nat} {M : Sto} {xs ys : List D} (hl : xs.length = ys.length) (ih : ∀ (i : Nat) a b, xs[i]? = some a → ys[i]? = some b → EqZ X j n M a b) {A : Around} (hr : Room (j + (n + 1)) A) (hA : A.frames = X.A.frames) {pins : List (Addr × Obj)} {σ : L2.St} {s : Shared} {H G : Hp} (I : L2.Inv X pins σ H s) (w : Wd X.K M H G) {v u : V} {v' u' : Value}
    (p1 : Rep X.K G (.tup xs) v) (p2 : Rep X.K G (.tup ys) u) (r : RelV v v') (r2 : RelV u u') : (∃ a b, v' = .ref a ∧ u' = .ref b) ∧ wpAny (model X.prog X.w) A (richCompare .Eq v' u') (fun r s' => r = .bool true ∧ LoopZ X pins σ M H G s') X.xe s ∧
    wpAny (model X.prog X.w) A (richCompare .NotEq v' u') (fun r s' => r = .bool false ∧ LoopZ X pins σ M H G s') X.xe s := by
  obtain ⟨a, vs, rfl, ha, ra⟩ := tup_rep w p1 rfl
  obtain ⟨b, us, rfl, hb, rb⟩ := tup_rep w p2 rfl
  cases r
  cases r2
  obtain ⟨its, q1, e1, _⟩ := I.tuple ha
  obtain ⟨its2, q2, e2, _⟩ := I.tuple hb
  have hsz : its.toArray.size = its2.toArray.size := by rw [List.size_toArray, List.size_toArray, ← q1.length, ← q2.length, ← ra.length, ← rb.length]; exact hl
  exact ⟨⟨a, b, rfl, rfl⟩, GQ.rc_tupG hsz hr.units0 (fun _ s' => LoopZ X pins σ M H G s') e1 e2 (fun i h1 h2 s' q => turnZ ih hr hA w ra rb q1 q2 i h1 h2 s' q) (fun s' q => ⟨rfl, q⟩) (.start I w),
    rcn_tupG hsz hr.units0 (fun _ s' => LoopZ X pins σ M H G s') e1 e2 (fun i h1 h2 s' q => turnZ ih hr hA w ra rb q1 q2 i h1 h2 s' q) (fun s' q => ⟨rfl, q⟩) (.start I w)⟩
theorem rcZ_lst {n : Nat} {M : Sto} {x y : D} {xs ys : List D} (hx : lstOf M x = some xs) (hy : lstOf M y = some ys) (hl : xs.length = ys.length) (ih : ∀ (i : Nat) a b, xs[i]? = some a → ys[i]? = some b → EqZ X j n M a b) {A : Around} (hr : Room (j + (n + 1)) A) (hA : A.frames = X.A.frames) {pins : List (Addr × Obj)} {σ : L2.St} {s : Shared} {H G : Hp} (I : L2.Inv X pins σ H s) (w : Wd X.K M H G) {v u : V} {v' u' : Value}
    (p1 : Rep X.K G x v) (p2 : Rep X.K G y u) (r : RelV v v') (r2 : RelV u u') : (∃ a b, v' = .ref a ∧ u' = .ref b) ∧ wpAny (model X.prog X.w) A (richCompare .Eq v' u') (fun r s' => r = .bool true ∧ LoopZ X pins σ M H G s') X.xe s := by
  have hvr : ∃ a, v = .ref a := by obtain ⟨a, _, e, _⟩ := lst_rep w p1 hx; exact ⟨a, e⟩
  have hur : ∃ a, u = .ref a := by obtain ⟨a, _, e, _⟩ := lst_rep w p2 hy; exact ⟨a, e⟩
  obtain ⟨a, rfl⟩ := hvr
  obtain ⟨b, rfl⟩ := hur
  cases r
  cases r2
  refine ⟨⟨a, b, rfl, rfl⟩, GQ.rc_listG (N := xs.length) hr.units0 (fun _ s' => LoopZ X pins σ M H G s') (fun i s' q => ?_) (fun s' q => ⟨rfl, q⟩) (.start I w)⟩
  obtain ⟨H1, G1, I1, w1, e1⟩ := id q
  obtain ⟨a', vs, ea, ha, ra⟩ := lst_rep w1 (p1.mono e1.gsub) hx
  obtain ⟨b', us, eb, hb, rb⟩ := lst_rep w1 (p2.mono e1.gsub) hy
  cases ea; cases eb
  obtain ⟨_, its, k, r, _, e⟩ := rd_lst I1 ha
  obtain ⟨_, its2, k2, r2, _, e2⟩ := rd_lst I1 hb
  refine ⟨its.toArray, its2.toArray, k, k2, e, e2, by rw [List.size_toArray, ← r.length, ← ra.length], by rw [List.size_toArray, ← r2.length, ← rb.length, ← hl], fun h1 h2 => ?_⟩
  refine wpAny_mono (turnZ ih hr hA w1 ra rb r r2 i h1 h2 s' (.start I1 w1)) (fun r s2 q => ?_) fun _ _ x => x
  obtain ⟨z, H2, G2, I2, w2, e3⟩ := q
  exact ⟨z, H2, G2, I2, w2, Since.trans w1 e1 e3⟩
mutual
theorem eqZ_of (ho : OwnRc X j own) {M : Sto} : ∀ {n : Nat} {x y : D}, EqR own M n x y → EqZ X j n M x y
  | n, _, _, .flat (x := x) h => fun A pins s σ H G v u v' u' hr hA I w p1 p2 r1 r2 => by
    obtain ⟨rfl, f, e⟩ := flat_v h p1 p2
    have q := eqAt_V (A := A) (s := s) r1 r2 f f
    rw [e] at q
    exact q X.prog X.w X.xe _ ⟨rfl, .start I w⟩
  | _, _, _, .tup h => fun A pins s σ H G v u v' u' hr hA I w p1 p2 r1 r2 => by
    obtain ⟨⟨a, b, rfl, rfl⟩, q, _⟩ := rcZ_tup h.len (eqZ_all ho h) hr hA I w p1 p2 r1 r2
    exact eqZ_ref (n := 0) I w q
  | _, _, _, .lst h1 h2 h => fun A pins s σ H G v u v' u' hr hA I w p1 p2 r1 r2 => by
    obtain ⟨⟨a, b, rfl, rfl⟩, q⟩ := rcZ_lst h1 h2 h.len (eqZ_all ho h) hr hA I w p1 p2 r1 r2
    exact eqZ_ref (n := 0) I w q
  | n, _, _, .own h => fun A pins s σ H G v u v' u' hr hA I w p1 p2 r1 r2 => by
    obtain ⟨⟨a, b, rfl, rfl⟩, q⟩ := ho A pins s σ M H G _ _ _ _ _ _ (hr.mono (Nat.le_add_right _ _)) hA I w p1 p2 r1 r2 h
    cases r1; cases r2
    exact eqZ_ref (n := 0) I w q
theorem eqZ_all (ho : OwnRc X j own) {M : Sto} : ∀ {n : Nat} {xs ys : List D}, EqL own M n xs ys → ∀ (i : Nat) a b, xs[i]? = some a → ys[i]? = some b → EqZ X j n M a b
  | _, _, _, .nil, i, a, b, h, _ => by simp at h
  | _, _, _, .cons h r, 0, a, b, h1, h2 => by simp at h1 h2; subst h1 h2; exact eqZ_of ho h
  | _, _, _, .cons h r, i + 1, a, b, h1, h2 => eqZ_all ho r i a b (by simpa using h1) (by simpa using h2)
end
end
/-! ### as operators -/
section
variable {X : Cx} {B : Bs} {k j : Nat} {c : Ct} {pos : Pos} {a b : Expr} {fa fb : DTE} {C : Addr} {bs : List (Nat × List Str × (List D → List D → List D))}
def ownT (C : Addr) (c : Ct) : D → D → Sto → Prop := fun x y M => isO C M x fun _ => isO C M y fun _ => c [x, y] M (fun d M' => d = .bl true ∧ M' = M) noX
theorem own_rc (F : Mf X.prog X.w X.K X.mg X.base C "__eq__" j c bs) (hb : Z.pos 2 ∈ bs) : OwnRc X j (ownT C c) := by
  obtain ⟨f, fd, ps, mt, FO, hbs⟩ := F.ex
  intro A pins s σ M H G x y v u v' u' hr hA I w p1 p2 r1 r2 h
  obtain ⟨fs, e1, h⟩ := isO_some h
  obtain ⟨gs, e2, h⟩ := isO_some h
  obtain ⟨a, dx, fvs, rfl, h1, _⟩ := obj_rep w p1 e1
  obtain ⟨b, dy, gvs, rfl, h2, _⟩ := obj_rep w p2 e2
  cases r1
  cases r2
  refine ⟨⟨a, b, rfl, rfl⟩, ?_⟩
  obtain ⟨mA, J, _⟩ := ins_get I.hok h1
  obtain ⟨mB, J', _⟩ := ins_get I.hok h2
  obtain ⟨od, J, _⟩ := J.look
  obtain ⟨od', J', _⟩ := J'.look
  obtain ⟨m, hF⟩ := I.fr
  refine PySem.W.cmp_K (op := .Eq) (tb := .ref C) hr.units0 hF I.ok.mod.kin J J'.type (by simp [PySem.W.notFirst]) mt.at_ mt.fn ?_
  refine wpAny_mono (run_n (Q := fun v H' => v = .bl true ∧ ∃ G', Wd X.K M H' G' ∧ Since H G M M H' G') (vs := [.ref a, .ref b]) FO hr hA (bind2 (hbs _ hb)) I w (.cons rfl (.cons rfl .nil)) (.cons p1 (.cons p2 .nil)) h fun d M' v' H' G' z w' s' p => ?_) (fun u s' z => ?_) fun _ _ z => z
  · obtain ⟨rfl, rfl⟩ := z
    cases p
    exact ⟨rfl, G', w', s'⟩
  · obtain ⟨v, H', I', r, rfl, G', w', s'⟩ := z
    cases r
    exact ⟨rfl, H', G', I', w', s'⟩
/-- x == y where it says True; x != y where it says False -/
def rEqT (X : Cx) (j n : Nat) (own : D → D → Sto → Prop) : R2 := fun v u H Q => ∃ M G x y, Wd X.K M H G ∧ Rep X.K G x v ∧ Rep X.K G y u ∧ ((∃ xs ys, x = .tup xs ∧ y = .tup ys ∧ EqL own M n xs ys) ∨ ∃ xs ys, lstOf M x = some xs ∧ lstOf M y = some ys ∧ EqL own M n xs ys) ∧ ∀ H' G', Wd X.K M H' G' → Since H G M M H' G' → Q (.bl true) H'
def rNeT (X : Cx) (j n : Nat) (own : D → D → Sto → Prop) : R2 := fun v u H Q => ∃ M G x y, Wd X.K M H G ∧ Rep X.K G x v ∧ Rep X.K G y u ∧ (∃ xs ys, x = .tup xs ∧ y = .tup ys ∧ EqL own M n xs ys) ∧ ∀ H' G', Wd X.K M H' G' → Since H G M M H' G' → Q (.bl false) H'
def eqTD (n : Nat) (own : D → D → Sto → Prop) (M : Sto) (x y : D) (φ : PD) : Prop := ((∃ xs ys, x = .tup xs ∧ y = .tup ys ∧ EqL own M n xs ys) ∨ ∃ xs ys, lstOf M x = some xs ∧ lstOf M y = some ys ∧ EqL own M n xs ys) ∧ φ (.bl true) M
def neTD (n : Nat) (own : D → D → Sto → Prop) (M : Sto) (x y : D) (φ : PD) : Prop := (∃ xs ys, x = .tup xs ∧ y = .tup ys ∧ EqL own M n xs ys) ∧ φ (.bl false) M
theorem ok_eqT {n : Nat} {own : D → D → Sto → Prop} : OkP2 X.K (rEqT X j n own) (eqTD n own) := fun M H G x y v u φ Q w rx ry h k =>
  ⟨M, G, x, y, w, rx, ry, h.1, fun H' G' w' s' => k _ _ _ _ _ h.2 w' s' .bl⟩
theorem ok_neT {n : Nat} {own : D → D → Sto → Prop} : OkP2 X.K (rNeT X j n own) (neTD n own) := fun M H G x y v u φ Q w rx ry h k =>
  ⟨M, G, x, y, w, rx, ry, h.1, fun H' G' w' s' => k _ _ _ _ _ h.2 w' s' .bl⟩
theorem op_eqT {n : Nat} {own : D → D → Sto → Prop} (ho : OwnRc X j own) (hr : Room k X.A) (hj : j + (n + 1) ≤ k) : OpR X (compareOp .Eq) (rEqT X j n own) := by
  intro pins s σ H v u v' u' Q I r1 r2 h
  obtain ⟨M, G, x, y, w, p1, p2, h, k⟩ := h
  show wpAny _ _ (richCompare .Eq _ _) _ _ _
  have fin : wpAny (model X.prog X.w) X.A (richCompare .Eq v' u') (fun r s' => r = .bool true ∧ LoopZ X pins σ M H G s') X.xe s := by
    rcases h with ⟨xs, ys, rfl, rfl, h⟩ | ⟨xs, ys, h1, h2, h⟩
    · exact (rcZ_tup h.len (eqZ_all ho h) (hr.mono hj) rfl I w p1 p2 r1 r2).2.1
    · exact (rcZ_lst h1 h2 h.len (eqZ_all ho h) (hr.mono hj) rfl I w p1 p2 r1 r2).2
  refine wpAny_mono fin (fun r s' q => ?_) fun _ _ z => z
  obtain ⟨rfl, H', G', I', w', s'⟩ := q
  exact ⟨.bl true, H', I', rfl, k H' G' w' s'⟩
theorem op_neT {n : Nat} {own : D → D → Sto → Prop} (ho : OwnRc X j own) (hr : Room k X.A) (hj : j + (n + 1) ≤ k) : OpR X (compareOp .NotEq) (rNeT X j n own) := by
  intro pins s σ H v u v' u' Q I r1 r2 h
  obtain ⟨M, G, x, y, w, p1, p2, ⟨xs, ys, rfl, rfl, h⟩, k⟩ := h
  show wpAny _ _ (richCompare .NotEq _ _) _ _ _
  refine wpAny_mono (rcZ_tup h.len (eqZ_all ho h) (hr.mono hj) rfl I w p1 p2 r1 r2).2.2 (fun r s' q => ?_) fun _ _ z => z
  obtain ⟨rfl, H', G', I', w', s'⟩ := q
  exact ⟨.bl false, H', I', rfl, k H' G' w' s'⟩
theorem de_eqT (n : Nat) (F : Mf X.prog X.w X.K X.mg X.base C "__eq__" j c bs) (hr : Room k X.A) (hb : Z.pos 2 ∈ bs) (ha : DE X B a fa) (hb' : DE X B b fb) (hj : j + (n + 1) ≤ k := by decide) (hm : behindInMarks .Eq b = false := by rfl) :
    DE X B (.Compare a [.Eq] [b] pos) (fun r M Ψ => fa r M fun x M1 => fb r M1 fun y M2 => eqTD n (ownT C c) M2 x y Ψ) := PE_imp (pe_cmpR (op_eqT (own_rc F hb) hr hj) ha hb' hm) fun σ H Q h => tOp_okP ok_eqT h
theorem dt_eqT (n : Nat) (F : Mf X.prog X.w X.K X.mg X.base C "__eq__" j c bs) (hr : Room k X.A) (hb : Z.pos 2 ∈ bs) (ha : DE X B a fa) (hb' : DE X B b fb) (hj : j + (n + 1) ≤ k := by decide) (hm : behindInMarks .Eq b = false := by rfl) :
    DT X B (.Compare a [.Eq] [b] pos) (fun r M Ψ => fa r M fun x M1 => fb r M1 fun y M2 => eqTD n (ownT C c) M2 x y fun z M3 => blD (fun b => Ψ b M3) z) := PT_imp (pt_cmpR (op_eqT (own_rc F hb) hr hj) ha hb' hm) (tOp_okPT ok_eqT)
theorem de_neT (n : Nat) (F : Mf X.prog X.w X.K X.mg X.base C "__eq__" j c bs) (hr : Room k X.A) (hb : Z.pos 2 ∈ bs) (ha : DE X B a fa) (hb' : DE X B b fb) (hj : j + (n + 1) ≤ k := by decide) (hm : behindInMarks .NotEq b = false := by rfl) :
    DE X B (.Compare a [.NotEq] [b] pos) (fun r M Ψ => fa r M fun x M1 => fb r M1 fun y M2 => neTD n (ownT C c) M2 x y Ψ) := PE_imp (pe_cmpR (op_neT (own_rc F hb) hr hj) ha hb' hm) fun σ H Q h => tOp_okP ok_neT h
theorem dt_neT (n : Nat) (F : Mf X.prog X.w X.K X.mg X.base C "__eq__" j c bs) (hr : Room k X.A) (hb : Z.pos 2 ∈ bs) (ha : DE X B a fa) (hb' : DE X B b fb) (hj : j + (n + 1) ≤ k := by decide) (hm : behindInMarks .NotEq b = false := by rfl) :
    DT X B (.Compare a [.NotEq] [b] pos) (fun r M Ψ => fa r M fun x M1 => fb r M1 fun y M2 => neTD n (ownT C c) M2 x y fun z M3 => blD (fun b => Ψ b M3) z) := PT_imp (pt_cmpR (op_neT (own_rc F hb) hr hj) ha hb' hm) (tOp_okPT ok_neT)
end
end Z
namespace Z
open PySem PySem.Spec PyProof.Rows L2
/-! ### plain steps, as rewriting -/
theorem getS_z {d : D} {r : En} {k : D → Prop} : getS (some d :: r) 0 k = k d := rfl
theorem getS_s {o : Option D} {r : En} {i : Nat} {k : D → Prop} : getS (o :: r) (i + 1) k = getS r i k := rfl
theorem cmp_i {p : Int → Int → Bool} {M : Sto} {i j : Int} {φ : D → Prop} : cmpD p M (.int i) (.int j) φ = φ (.bl (p i j)) := rfl
theorem add_i {M : Sto} {i j : Int} {φ : D → Prop} : addD M (.int i) (.int j) φ = φ (.int (i + j)) := rfl
theorem min2_i {M : Sto} {i j : Int} {φ : PD} : min2D M [.int i, .int j] φ = φ (.int (if j < i then j else i)) M := rfl
theorem max2_i {M : Sto} {i j : Int} {φ : PD} : max2D M [.int i, .int j] φ = φ (.int (if j > i then j else i)) M := rfl
theorem sub_i {M : Sto} {i j : Int} {φ : D → Prop} : subD M (.int i) (.int j) φ = φ (.int (i - j)) := rfl
/-! ### both, either -/
theorem and2 {φ : Bool → Prop} {p q : Bool} (h : φ (p && q)) : blD (fun c => if c = true then blD φ (.bl q) else φ false) (.bl p) := by
  cases p with
  | true => exact bl_t rfl (ite_t rfl (bl_c (fun e => by rw [e] at h; exact h) fun e => by rw [e] at h; exact h))
  | false => exact bl_f rfl (ite_f rfl h)
theorem or2 {φ : Bool → Prop} {p q : Bool} (h : φ (p || q)) : blD (fun c => if c = true then φ true else blD φ (.bl q)) (.bl p) := by
  cases p with
  | false => exact bl_f rfl (ite_f rfl (bl_c (fun e => by rw [e] at h; exact h) fun e => by rw [e] at h; exact h))
  | true => exact bl_t rfl (ite_t rfl h)
theorem bl_v {φ : Bool → Prop} {p : Bool} (h : φ p) : blD φ (.bl p) := bl_c (fun e => by rw [e] at h; exact h) fun e => by rw [e] at h; exact h
/-- runs as one text -/
theorem joinL_nil : ∀ l : List (List Nat), TL.joinL [] l = l.flatten
  | [] => rfl
  | [p] => by simp [TL.joinL]
  | p :: q :: r => by
    have ih := joinL_nil (q :: r)
    show p ++ ([] ++ TL.joinL [] (q :: r)) = _
    rw [ih, List.nil_append]
    rfl
theorem wR_flat : ∀ l : List Rn, (l.map fun p => List.replicate p.2 p.1).flatten = wR l
  | [] => rfl
  | (c, k) :: l => by
    rw [List.map_cons, List.flatten_cons, wR_flat l]; rfl
theorem join_rn (l : List Rn) : Txt.join Str.empty (l.map fun p => (⟨(List.replicate p.2 p.1).toArray⟩ : Str)) = ⟨(wR l).toArray⟩ := by
  have h := SX.join_S [] (l.map fun p => List.replicate p.2 p.1)
  rw [joinL_nil, wR_flat, List.map_map] at h
  exact h
theorem rn_sum : ∀ l : List Rn, ((l.map fun p => (⟨(List.replicate p.2 p.1).toArray⟩ : Str)).map (·.length)).sum = (wR l).length
  | [] => rfl
  | (c, k) :: l => by
    rw [List.map_cons, List.map_cons, List.sum_cons, rn_sum l]
    show (List.replicate k c).toArray.size + _ = (List.replicate k c ++ wR l).length
    rw [List.length_append, List.size_toArray]
theorem rn_le : ∀ {l : List Rn} {p : Rn}, p ∈ l → p.2 ≤ (wR l).length
  | (c, k) :: l, p, h => by
    show p.2 ≤ (List.replicate k c ++ wR l).length
    rw [List.length_append, List.length_replicate]
    rcases List.mem_cons.mp h with rfl | h
    · exact Nat.le_add_right _ _
    · exact Nat.le_trans (rn_le h) (Nat.le_add_left _ _)
theorem rn_len {l : List Rn} (h : ∀ p ∈ l, 1 ≤ p.2) : l.length ≤ (wR l).length := by
  induction l with
  | nil => exact Nat.le_refl _
  | cons p l ih =>
    have h1 := h p List.mem_cons_self
    have h2 := ih fun q hq => h q (List.mem_cons_of_mem _ hq)
    show l.length + 1 ≤ (List.replicate p.2 p.1 ++ wR l).length
    rw [List.length_append, List.length_replicate]
    omega
theorem abs_sum {t : T4} : t.1.natAbs ≤ sum4 t ∧ t.2.1.natAbs ≤ sum4 t ∧ t.2.2.1.natAbs ≤ sum4 t ∧ t.2.2.2.natAbs ≤ sum4 t := by unfold sum4; omega
theorem sm_sum {t : T4} (h : sum4 t ≤ 1000000) : Sm 20 t := by
  obtain ⟨h1, h2, h3, h4⟩ := abs_sum (t := t)
  exact ⟨by show _ < 1048576; omega, by show _ < 1048576; omega, by show _ < 1048576; omega, by show _ < 1048576; omega⟩
theorem lg {i : Int} {n : Nat} (h : i.natAbs < 2 ^ n) (hn : n ≤ 8000) : i.natAbs.log2 < 9000 := by
  by_cases e : i.natAbs = 0
  · rw [e]; decide
  · have := (Nat.log2_lt e).mpr h
    omega
def mnB (t : T4) : Bool := decide (0 ≤ [t.2.1, t.2.2.1, t.2.2.2].foldl min t.1)
theorem mnB_iff (t : T4) : mnB t = true ↔ Nn t := by
  obtain ⟨f1, f2⟩ := foldl_min [t.2.1, t.2.2.1, t.2.2.2] t.1
  unfold mnB
  rw [decide_eq_true_eq]
  constructor
  · intro h
    exact ⟨Int.le_trans h (f2 _ (by simp)), Int.le_trans h (f2 _ (by simp)), Int.le_trans h (f2 _ (by simp)), Int.le_trans h (f2 _ (by simp))⟩
  · rintro ⟨h1, h2, h3, h4⟩
    simp only [List.mem_cons, List.not_mem_nil, or_false] at f1
    rcases f1 with e | e | e | e <;> (rw [e]; assumption)
def blB (t : T4) : Bool := mnB t && (decide (t.2.2.1 < t.1) && decide (t.2.1 < t.2.2.2))
theorem append_of {M : Sto} {p : Addr} {l : List D} {d : D} {φ : PD} (e : M p = some (.lst l)) (hl : l.length < sizeLine) (h : φ .non (updM M p (.lst (l ++ [d])))) : appendD M (.ref p) [d] φ := by
  unfold appendD
  exact lstAt_of e ⟨hl, h⟩
theorem dok_lg {j : Int} (h : j ≠ 0) (hl : j.natAbs.log2 < 9000) : Dok j := ⟨h, hl⟩
end Z
namespace Z
open PySem PySem.Spec PyProof.Rows L2
/-! ### joined: the value said once -/
section
variable {X : Cx} {B : Bs} {pos : Pos} {a b c : Expr} {es : List Expr} {fa fb : DTE} {ta tb : DTT}
/-- y is the value v, nothing changed -/
abbrev isV (v : D) (M : Sto) : PD := fun y M' => y = v ∧ M' = M
theorem de_andV (ha : DE X B a fa) (hb : DE X B (.BoolOp .And (b :: es) pos) fb) : DE X B (.BoolOp .And (a :: b :: es) pos) (fun r M Ψ => fa r M fun x M1 => blD (fun p => ∃ q : Bool, (p = true → fb r M1 (isV (.bl q) M1)) ∧ Ψ (.bl (p && q)) M1) x) :=
  PE_imp (pe_and ha hb) fun σ H Q ⟨r, M, G, Ψ, R, h, k⟩ => by
    refine ⟨r, M, G, _, R, h, fun d M1 v H1 G1 q R1 s1 p1 => ?_⟩
    unfold blD at q
    cases p1 with
    | @bl c =>
      refine ⟨c, rfl, ?_⟩
      obtain ⟨z, hz, q⟩ := q
      cases c with
      | true => exact ⟨r, M1, G1, _, R1, hz rfl, fun d M' v H' G' q' R' s p => by
          obtain ⟨rfl, rfl⟩ := q'
          exact k _ _ _ _ _ q R' (s1.tr s) p⟩
      | false => exact k _ _ _ _ _ q R1 s1 .bl
    | _ => exact q.elim
theorem de_orV (ha : DE X B a fa) (hb : DE X B (.BoolOp .Or (b :: es) pos) fb) : DE X B (.BoolOp .Or (a :: b :: es) pos) (fun r M Ψ => fa r M fun x M1 => blD (fun p => ∃ q : Bool, (p = false → fb r M1 (isV (.bl q) M1)) ∧ Ψ (.bl (p || q)) M1) x) :=
  PE_imp (pe_or ha hb) fun σ H Q ⟨r, M, G, Ψ, R, h, k⟩ => by
    refine ⟨r, M, G, _, R, h, fun d M1 v H1 G1 q R1 s1 p1 => ?_⟩
    unfold blD at q
    cases p1 with
    | @bl c =>
      refine ⟨c, rfl, ?_⟩
      obtain ⟨z, hz, q⟩ := q
      cases c with
      | false => exact ⟨r, M1, G1, _, R1, hz rfl, fun d M' v H' G' q' R' s p => by
          obtain ⟨rfl, rfl⟩ := q'
          exact k _ _ _ _ _ q R' (s1.tr s) p⟩
      | true => exact k _ _ _ _ _ q R1 s1 .bl
    | _ => exact q.elim
theorem de_ifV (hc : DT X B c ta) (ha : DE X B a fa) (hb : DE X B b fb) : DE X B (.IfExp c a b pos) (fun r M Ψ => ta r M fun t M1 => ∃ v : D, (t = true → fa r M1 (isV v M1)) ∧ (t = false → fb r M1 (isV v M1)) ∧ Ψ v M1) :=
  PE_imp (pe_ifExp hc ha hb) fun σ H Q ⟨r, M, G, Ψ, R, h, k⟩ => by
    refine ⟨r, M, G, _, R, h, fun t M1 H1 G1 q R1 s1 => ?_⟩
    obtain ⟨v, h1, h2, q⟩ := q
    cases t with
    | true => exact ⟨r, M1, G1, _, R1, h1 rfl, fun d M' v H' G' q' R' s p => by
        obtain ⟨rfl, rfl⟩ := q'
        exact k _ _ _ _ _ q R' (s1.tr s) p⟩
    | false => exact ⟨r, M1, G1, _, R1, h2 rfl, fun d M' v H' G' q' R' s p => by
        obtain ⟨rfl, rfl⟩ := q'
        exact k _ _ _ _ _ q R' (s1.tr s) p⟩
/-- tests joined -/
theorem dw_andV (ha : DT X B a ta) (hb : DW X B (.BoolOp .And (b :: es) pos) tb) : DW X B (.BoolOp .And (a :: b :: es) pos) (fun r M Ψ => ta r M fun p M1 => ∃ q : Bool, (p = true → tb r M1 fun z M2 => z = q ∧ M2 = M1) ∧ Ψ (p && q) M1) :=
  PW_imp (pw_and ha hb) fun σ H Q ⟨r, M, G, Ψ, R, h, k⟩ => by
    refine ⟨r, M, G, _, R, h, fun c M1 H1 G1 q R1 s1 => ?_⟩
    obtain ⟨z, hz, q⟩ := q
    cases c with
    | true => exact ⟨r, M1, G1, _, R1, hz rfl, fun b M' H' G' q' R' s => by
        obtain ⟨rfl, rfl⟩ := q'
        exact k _ _ _ _ q R' (s1.tr s)⟩
    | false => exact k _ _ _ _ q R1 s1
theorem dw_orV (ha : DT X B a ta) (hb : DW X B (.BoolOp .Or (b :: es) pos) tb) : DW X B (.BoolOp .Or (a :: b :: es) pos) (fun r M Ψ => ta r M fun p M1 => ∃ q : Bool, (p = false → tb r M1 fun z M2 => z = q ∧ M2 = M1) ∧ Ψ (p || q) M1) :=
  PW_imp (pw_or ha hb) fun σ H Q ⟨r, M, G, Ψ, R, h, k⟩ => by
    refine ⟨r, M, G, _, R, h, fun c M1 H1 G1 q R1 s1 => ?_⟩
    obtain ⟨z, hz, q⟩ := q
    cases c with
    | false => exact ⟨r, M1, G1, _, R1, hz rfl, fun b M' H' G' q' R' s => by
        obtain ⟨rfl, rfl⟩ := q'
        exact k _ _ _ _ q R' (s1.tr s)⟩
    | true => exact k _ _ _ _ q R1 s1
end
end Z
namespace Z
open PySem PySem.Spec PyProof.Rows L2
theorem log_sm {i : Int} {n : Nat} (h : i.natAbs < 2 ^ n) (hn : n ≤ 1900) : i.natAbs.log2 < 1920 := by
  by_cases e : i.natAbs = 0
  · rw [e]; decide
  · have := (Nat.log2_lt e).mpr h
    omega
theorem sz_le {x : Str} {n : Nat} (h : x.length ≤ n) (hn : n ≤ 1000000) : x.length ≤ sizeLine := Nat.le_trans h (Nat.le_trans hn big_ok)
theorem sz_app {x y : Str} {n m : Nat} (h : x.length ≤ n) (h' : y.length ≤ m) : (x ++ y).length ≤ n + m := by rw [Str.length_append]; omega
theorem sz_int {i : Int} {n : Nat} (h : i.natAbs < 2 ^ n) (hn : n ≤ 1900) : (Str.ofString (toString i)).length ≤ 1921 := PyProof.Rows.int_text_len_1921 (log_sm h hn)
theorem bal_iff {t : T4} (hn : Nn t) (hd : 0 < det4 t) : Bal t ↔ (decide (t.2.2.1 < t.1) && decide (t.2.1 < t.2.2.2)) = true := by
  obtain ⟨a, b, c, d⟩ := t
  obtain ⟨ha, hb, hc, hd'⟩ := hn
  simp only at ha hb hc hd'
  unfold det4 at hd
  simp only at hd
  have e : Bal (a, b, c, d) ↔ (bR (a, b, c, d) = false ∧ bL (a, b, c, d) = false) := ⟨fun h => ⟨h.r, h.l⟩, fun h => ⟨h.1, h.2⟩⟩
  rw [e]
  unfold bR bL
  simp only [Bool.and_eq_true, Bool.and_eq_false_iff, decide_eq_true_eq, decide_eq_false_iff_not, Int.not_le]
  constructor
  · rintro ⟨h1, h2⟩
    rcases h1 with h1 | h1
    · exfalso
      rcases h2 with h2 | h2
      · omega
      · have k1 : a * d ≤ c * d := Int.mul_le_mul_of_nonneg_right (Int.le_of_lt h1) hd'
        have k2 : c * d ≤ c * b := Int.mul_le_mul_of_nonneg_left (Int.le_of_lt h2) hc
        rw [Int.mul_comm c b] at k2
        omega
    · rcases h2 with h2 | h2
      · exact ⟨h2, h1⟩
      · omega
  · rintro ⟨h1, h2⟩
    exact ⟨.inr h2, .inl h1⟩
theorem ix_t {M : Sto} {l : List D} {i : Int} {d : D} {φ : D → Prop} (e : L2.atI l i = some d) (h : φ d) : ixD M (.tup l) (.int i) φ := optK_of e h
theorem ix_l {M : Sto} {l : List D} {i : Int} {d : D} {φ : D → Prop} (e : L2.atI l i = some d) (h : φ d) : ixD M (.lst l) (.int i) φ := optK_of e h
/-! ### short words -/
def wds : Nat → List (List Nat)
  | 0 => [[]]
  | n + 1 => [] :: ((wds n).map (76 :: ·) ++ (wds n).map (82 :: ·))
theorem mem_wds : ∀ {n : Nat} {w : List Nat}, LR w → w.length ≤ n → w ∈ wds n
  | 0, [], _, _ => by simp [wds]
  | 0, c :: w, _, h => by simp at h
  | n + 1, [], _, _ => List.mem_cons_self
  | n + 1, c :: w, hl, h => by
    have ih := mem_wds (n := n) (w := w) (fun d hd => hl d (List.mem_cons_of_mem _ hd)) (by simpa using h)
    refine List.mem_cons_of_mem _ (List.mem_append.mpr ?_)
    rcases hl c List.mem_cons_self with rfl | rfl
    · exact .inl (List.mem_map.mpr ⟨w, ih, rfl⟩)
    · exact .inr (List.mem_map.mpr ⟨w, ih, rfl⟩)
theorem wds3 : ∀ w ∈ wds 3, (wL w).1 ≤ 3 ∧ (wL w).2.1 ≤ 3 ∧ (wL w).2.2.1 ≤ 3 ∧ (wL w).2.2.2 ≤ 3 := by decide +kernel
theorem wds7 : ∀ w ∈ wds 7, sum4 (wL w) ≤ 60 := by decide +kernel
theorem w3_le {w : List Nat} (h : LR w) (hl : w.length ≤ 3) : (wL w).1 ≤ 3 ∧ (wL w).2.1 ≤ 3 ∧ (wL w).2.2.1 ≤ 3 ∧ (wL w).2.2.2 ≤ 3 := wds3 w (mem_wds h hl)
theorem w7_le {w : List Nat} (h : LR w) (hl : w.length ≤ 7) : sum4 (wL w) ≤ 60 := wds7 w (mem_wds h hl)
/-- entries of at most n -/
structure Le4 (n : Int) (t : T4) : Prop where
  a : t.1 ≤ n
  b : t.2.1 ≤ n
  c : t.2.2.1 ≤ n
  d : t.2.2.2 ≤ n
theorem le_two {x y z w m n : Int} (hx : 0 ≤ x) (hy : 0 ≤ y) (h1 : x ≤ m) (h2 : y ≤ m) (h3 : z ≤ n) (h4 : w ≤ n) (hn : 0 ≤ n) : x * z + y * w ≤ 2 * m * n := by
  have k1 : x * z ≤ x * n := Int.mul_le_mul_of_nonneg_left h3 hx
  have k2 : x * n ≤ m * n := Int.mul_le_mul_of_nonneg_right h1 hn
  have k3 : y * w ≤ y * n := Int.mul_le_mul_of_nonneg_left h4 hy
  have k4 : y * n ≤ m * n := Int.mul_le_mul_of_nonneg_right h2 hn
  have : 2 * m * n = m * n + m * n := by rw [Int.mul_assoc, Int.two_mul]
  omega
theorem Le4.mul {s t : T4} {m n : Int} (hs : Nn s) (h1 : Le4 m s) (h2 : Le4 n t) (hn : 0 ≤ n) : Le4 (2 * m * n) (mul4 s t) :=
  ⟨le_two hs.1 hs.2.1 h1.a h1.b h2.a h2.c hn, le_two hs.1 hs.2.1 h1.a h1.b h2.b h2.d hn, le_two hs.2.2.1 hs.2.2.2 h1.c h1.d h2.a h2.c hn, le_two hs.2.2.1 hs.2.2.2 h1.c h1.d h2.b h2.d hn⟩
theorem Le4.sum {t : T4} {n : Nat} (hn : Nn t) (h : Le4 n t) : sum4 t ≤ 4 * n := by
  obtain ⟨h1, h2, h3, h4⟩ := hn
  obtain ⟨k1, k2, k3, k4⟩ := h
  unfold sum4
  omega
theorem sum_mul {s t : T4} : sum4 (mul4 s t) ≤ sum4 s * sum4 t := by
  obtain ⟨a, b, c, d⟩ := s
  obtain ⟨e, f, g, h⟩ := t
  unfold sum4 mul4
  simp only
  have k : ∀ x y z w : Int, (x * y + z * w).natAbs ≤ x.natAbs * y.natAbs + z.natAbs * w.natAbs := fun x y z w => by
    rw [← Int.natAbs_mul, ← Int.natAbs_mul]; exact Int.natAbs_add_le _ _
  have k1 := k a e b g
  have k2 := k a f b h
  have k3 := k c e d g
  have k4 := k c f d h
  generalize a.natAbs = a at *
  generalize b.natAbs = b at *
  generalize c.natAbs = c at *
  generalize d.natAbs = d at *
  generalize e.natAbs = e at *
  generalize f.natAbs = f at *
  generalize g.natAbs = g at *
  generalize h.natAbs = h at *
  have e1 : (a + b + c + d) * (e + f + g + h) = (a * e + b * g + (a * f + b * h) + (c * e + d * g) + (c * f + d * h)) + (a * g + a * h + b * e + b * f + c * g + c * h + d * e + d * f) := by
    simp only [Nat.add_mul, Nat.mul_add]; omega
  omega
/-- a drawn mill: columns perhaps exchanged, a multiple of a small one -/
def sw4' (t : T4) : T4 := (t.2.1, t.1, t.2.2.2, t.2.2.1)
structure Mil0 (cap : Nat) (t : T4) : Prop where
  nn : Nn t
  det : 0 < det4 t
  le : Le4 (36 * cap) t
def Mil (cap : Nat) (t : T4) : Prop := ∃ (t0 : T4) (m : Int), Mil0 cap t0 ∧ 1 ≤ m ∧ m ≤ 3 ∧ (t = sc m t0 ∨ t = sw4' (sc m t0))
theorem det_sw' (t : T4) : det4 (sw4' t) = - det4 t := by unfold det4 sw4'; simp only; grind
theorem nn_sc' {m : Int} {t : T4} (hm : 0 ≤ m) (h : Nn t) : Nn (sc m t) := ⟨Int.mul_nonneg hm h.1, Int.mul_nonneg hm h.2.1, Int.mul_nonneg hm h.2.2.1, Int.mul_nonneg hm h.2.2.2⟩
theorem det_sc_pos {m : Int} {t : T4} (hm : 1 ≤ m) (h : 0 < det4 t) : 0 < det4 (sc m t) := by
  rw [det_sc']
  exact Int.mul_pos (Int.mul_pos (by omega) (by omega)) h
theorem sum_sc {m : Int} {t : T4} : sum4 (sc m t) = m.natAbs * sum4 t := by
  unfold sum4 sc
  simp only [Int.natAbs_mul, Nat.mul_add]
theorem Mil.nn {cap : Nat} {t : T4} (h : Mil cap t) : Nn t := by
  obtain ⟨t0, m, h0, m1, m3, rfl | rfl⟩ := h
  · exact nn_sc' (by omega) h0.nn
  · have := nn_sc' (m := m) (by omega) h0.nn
    exact ⟨this.2.1, this.1, this.2.2.2, this.2.2.1⟩
theorem Mil.det {cap : Nat} {t : T4} (h : Mil cap t) : det4 t ≠ 0 := by
  obtain ⟨t0, m, h0, m1, m3, rfl | rfl⟩ := h
  · have := det_sc_pos m1 h0.det; omega
  · have := det_sc_pos m1 h0.det
    rw [det_sw']; omega
theorem sum_sw (t : T4) : sum4 (sw4' t) = sum4 t := by unfold sum4 sw4'; simp only; omega
theorem Mil.sum {cap : Nat} {t : T4} (h : Mil cap t) : sum4 t ≤ 432 * cap := by
  obtain ⟨t0, m, h0, m1, m3, h⟩ := h
  have h1 : sum4 (sc m t0) ≤ 432 * cap := by
    have := h0.le.sum (n := 36 * cap) h0.nn
    rw [sum_sc]
    have hm : m.natAbs ≤ 3 := by omega
    have := Nat.mul_le_mul hm this
    omega
  rcases h with rfl | rfl
  · exact h1
  · rw [sum_sw]; exact h1
theorem sm_of_sum {t : T4} {n : Nat} (h : sum4 t < 2 ^ n) : Sm n t := by
  obtain ⟨h1, h2, h3, h4⟩ := abs_sum (t := t)
  exact ⟨by omega, by omega, by omega, by omega⟩
theorem Mil.sm {cap : Nat} {t : T4} (h : Mil cap t) (hc : cap ≤ 1000) : Sm 40 t := by
  have := h.sum
  exact (sm_of_sum (n := 20) (by show _ < 1048576; omega)).mono (by decide)
/-- back -/
def bk4' (t : T4) : T4 := (t.2.2.2, -t.2.1, -t.2.2.1, t.1)
/-- what is left of a multiple -/
theorem bk_wL (w : List Nat) (t : T4) : mul4 (wL w) (mul4 (bk4' (wL w)) t) = t := by
  have e : mul4 (wL w) (bk4' (wL w)) = O4 := by
    have h := det_wL w
    generalize wL w = s at h
    obtain ⟨a, b, c, d⟩ := s
    unfold det4 at h
    simp only at h
    unfold mul4 bk4' O4
    simp only [Prod.mk.injEq]
    refine ⟨?_, ?_, ?_, ?_⟩ <;> grind
  rw [← mul_assoc4, e, one_mul4]
theorem wL_cancel {w : List Nat} {s t : T4} (h : mul4 (wL w) s = mul4 (wL w) t) : s = t := by
  have e : ∀ x : T4, mul4 (bk4' (wL w)) (mul4 (wL w) x) = x := fun x => by
    have e : mul4 (bk4' (wL w)) (wL w) = O4 := by
      have h := det_wL w
      generalize wL w = s at h
      obtain ⟨a, b, c, d⟩ := s
      unfold det4 at h
      simp only at h
      unfold mul4 bk4' O4
      simp only [Prod.mk.injEq]
      refine ⟨?_, ?_, ?_, ?_⟩ <;> grind
    rw [← mul_assoc4, e, one_mul4]
  rw [← e s, h, e t]
theorem mul_sc4 (m : Int) (s t : T4) : mul4 s (sc m t) = sc m (mul4 s t) := by
  unfold mul4 sc
  simp only [Prod.mk.injEq]
  refine ⟨?_, ?_, ?_, ?_⟩ <;> grind
theorem tk_len {t0 u : T4} {m : Int} {w : List Nat} (hm : 1 ≤ m) (hn : Nn t0) (hd : 0 < det4 t0) (h : Tk (sc m t0) w u) : w.length ≤ sum4 t0 := by
  have e := h.eq
  have e0 := bk_wL w t0
  have eu : u = sc m (mul4 (bk4' (wL w)) t0) := wL_cancel (w := w) (by rw [e, mul_sc4, e0])
  have nn0 : Nn (mul4 (bk4' (wL w)) t0) := by
    have h1 := h.nn
    rw [eu] at h1
    obtain ⟨k1, k2, k3, k4⟩ := h1
    have hp : 0 < m := by omega
    exact ⟨Int.nonneg_of_mul_nonneg_right k1 hp, Int.nonneg_of_mul_nonneg_right k2 hp, Int.nonneg_of_mul_nonneg_right k3 hp, Int.nonneg_of_mul_nonneg_right k4 hp⟩
  have := len_sum h.lr nn0 hd e0
  omega
theorem Tk.app {t u : T4} {v w : List Nat} (hv : LR v) (h : Tk t w u) : Tk (mul4 (wL v) t) (v ++ w) u :=
  ⟨fun c hc => (List.mem_append.mp hc).elim (hv c) (h.lr c), by rw [wL_app, mul_assoc4, h.eq], h.nn, h.bal⟩
end Z
namespace Z
open PySem PySem.Spec PyProof.Rows L2
/-! ### sizes by bits -/
def Ib (n : Nat) (i : Int) : Prop := i.natAbs < 2 ^ n
theorem Ib.mono {n m : Nat} {i : Int} (h : Ib n i) (hm : n ≤ m) : Ib m i := Nat.lt_of_lt_of_le h (Nat.pow_le_pow_right (by decide) hm)
theorem Ib.mul {n m : Nat} {i j : Int} (h : Ib n i) (k : Ib m j) : Ib (n + m) (i * j) := by
  unfold Ib at *
  rw [Int.natAbs_mul, Nat.pow_add]
  exact Nat.mul_lt_mul'' h k
theorem Ib.add {n : Nat} {i j : Int} (h : Ib n i) (k : Ib n j) : Ib (n + 1) (i + j) := by
  unfold Ib at *
  rw [Nat.pow_succ]
  generalize 2 ^ n = z at *
  omega
theorem Ib.sub {n : Nat} {i j : Int} (h : Ib n i) (k : Ib n j) : Ib (n + 1) (i - j) := by
  unfold Ib at *
  rw [Nat.pow_succ]
  generalize 2 ^ n = z at *
  omega
theorem Ib.neg {n : Nat} {i : Int} (h : Ib n i) : Ib n (-i) := by unfold Ib at *; rw [Int.natAbs_neg]; exact h
theorem Ib.le {n : Nat} {i j : Int} (h : Ib n i) (k : j.natAbs ≤ i.natAbs) : Ib n j := Nat.lt_of_le_of_lt k h
theorem Ib.bits {n : Nat} {i : Int} (h : Ib n i) (hn : n ≤ 100000) : Builtin.Int.intBits i ≤ 2 ^ 20 := by
  unfold Builtin.Int.intBits
  unfold Ib at h
  by_cases e : i.natAbs = 0
  · have : i = 0 := by omega
    subst this
    decide
  · have := (Nat.log2_lt e).mpr h
    split <;> omega
theorem Ib.mok {n m : Nat} {i j : Int} (h : Ib n i) (k : Ib m j) (hn : n ≤ 100000) (hm : m ≤ 100000) : IntMulOk i j := IntMulOk.of_bits (h.bits hn) (k.bits hm)
theorem Ib.dok {n : Nat} {i : Int} (h : Ib n i) (h0 : i ≠ 0) (hn : n ≤ 9000) : Dok i := dok_of (n := n) h0 h hn
theorem Ib.str {n : Nat} {i : Int} (h : Ib n i) (hn : n ≤ 1900) : (Str.ofString (toString i)).length ≤ 1921 := sz_int h hn
/-! ### roots -/
def rtN : Nat → Nat
  | 0 => 0
  | n + 1 => if (rtN n + 1) * (rtN n + 1) ≤ n + 1 then rtN n + 1 else rtN n
theorem sq_succ (r : Nat) : (r + 1) * (r + 1) = r * r + 2 * r + 1 := by grind
theorem rtN_spec : ∀ n : Nat, rtN n * rtN n ≤ n ∧ n < (rtN n + 1) * (rtN n + 1)
  | 0 => by decide
  | n + 1 => by
    obtain ⟨h1, h2⟩ := rtN_spec n
    unfold rtN
    split
    · rename_i h
      refine ⟨h, ?_⟩
      rw [sq_succ]
      omega
    · exact ⟨by omega, by omega⟩
theorem rt_uniq {r u : Nat} (h1 : r * r ≤ u) (h2 : u < (r + 1) * (r + 1)) : r = rtN u := by
  obtain ⟨k1, k2⟩ := rtN_spec u
  have a : r < rtN u + 1 := Nat.lt_of_not_le fun h => by have := Nat.mul_le_mul h h; omega
  have b : rtN u < r + 1 := Nat.lt_of_not_le fun h => by have := Nat.mul_le_mul h h; omega
  omega
theorem rt_sq (k : Nat) : rtN (k * k) = k := (rt_uniq (Nat.le_refl _) (by rw [sq_succ]; omega)).symm
theorem rt_iff {u : Nat} : rtN u * rtN u = u ↔ ∃ k, u = k * k := ⟨fun h => ⟨_, h.symm⟩, fun ⟨k, h⟩ => by subst h; rw [rt_sq]⟩
theorem sq_of {m u x : Nat} (hm : 0 < m) (h : m * m * u = x * x) : ∃ k, u = k * k := by
  have h1 : m ^ 2 ∣ x ^ 2 := ⟨u, by rw [Nat.pow_two, Nat.pow_two]; exact h.symm⟩
  obtain ⟨k, rfl⟩ := (Nat.pow_dvd_pow_iff (by decide)).mp h1
  refine ⟨k, Nat.eq_of_mul_eq_mul_left (Nat.mul_pos hm hm) ?_⟩
  rw [h]
  grind
def rtI (u : Int) : Int := rtN u.toNat
theorem rtI_nn (u : Int) : 0 ≤ rtI u := by unfold rtI; omega
theorem rtI_uniq {r u : Int} (h0 : 0 ≤ r) (h1 : r * r ≤ u) (h2 : u < (r + 1) * (r + 1)) : r = rtI u := by
  obtain ⟨n, rfl⟩ := Int.eq_ofNat_of_zero_le h0
  have hu : 0 ≤ u := Int.le_trans (Int.mul_nonneg h0 h0) h1
  obtain ⟨v, rfl⟩ := Int.eq_ofNat_of_zero_le hu
  unfold rtI
  rw [Int.toNat_natCast]
  congr 1
  exact rt_uniq (by exact_mod_cast h1) (by exact_mod_cast h2)
theorem rtI_sq {k : Int} (h : 0 ≤ k) : rtI (k * k) = k := (rtI_uniq h (Int.le_refl _) (by rw [show (k + 1) * (k + 1) = k * k + 2 * k + 1 by grind]; omega)).symm
/-- a square -/
def Sq (u : Int) : Prop := rtI u * rtI u = u
instance (u : Int) : Decidable (Sq u) := inferInstanceAs (Decidable (rtI u * rtI u = u))
theorem sq_iff {u : Int} : Sq u ↔ ∃ k : Int, u = k * k := by
  constructor
  · exact fun h => ⟨_, h.symm⟩
  · rintro ⟨k, rfl⟩
    unfold Sq
    rcases Int.le_total 0 k with h | h
    · rw [rtI_sq h]
    · have : k * k = (-k) * (-k) := by grind
      rw [this, rtI_sq (by omega)]
theorem sq_div {m u x : Int} (hm : m ≠ 0) (h : m * m * u = x * x) : Sq u := by
  have hu : 0 ≤ u := by
    have h1 : 0 ≤ x * x := by
      rcases Int.le_total 0 x with q | q
      · exact Int.mul_nonneg q q
      · exact Int.mul_nonneg_of_nonpos_of_nonpos q q
    have h2 : 0 < m * m := by
      rcases Int.lt_or_gt_of_ne hm with q | q
      · exact Int.mul_pos_of_neg_of_neg q q
      · exact Int.mul_pos q q
    rcases (show u < 0 ∨ 0 ≤ u by omega) with q | q
    · have := Int.mul_neg_of_pos_of_neg h2 q
      omega
    · exact q
  obtain ⟨v, rfl⟩ := Int.eq_ofNat_of_zero_le hu
  have e : m.natAbs * m.natAbs * v = x.natAbs * x.natAbs := by
    have := congrArg Int.natAbs h
    rw [Int.natAbs_mul, Int.natAbs_mul, Int.natAbs_mul] at this
    exact this
  obtain ⟨k, hk⟩ := sq_of (by omega) e
  exact sq_iff.mpr ⟨k, by rw [hk]; exact Int.natCast_mul k k⟩
theorem sq_mul {m u : Int} (hm : m ≠ 0) : Sq (m * m * u) ↔ Sq u := by
  constructor
  · intro h
    obtain ⟨x, hx⟩ := sq_iff.mp h
    exact sq_div hm hx
  · intro h
    obtain ⟨x, rfl⟩ := sq_iff.mp h
    exact sq_iff.mpr ⟨m * x, by grind⟩
/-! ### numbers in normal form -/
abbrev T3 := Int × Int × Int
def tL3 (t : T3) : List D := [.int t.1, .int t.2.1, .int t.2.2]
def sgI (b : Int) : Int := if 0 < b then 1 else -1
theorem sgI_cs (b : Int) : sgI b = 1 ∨ sgI b = -1 := by unfold sgI; split <;> simp
theorem sgI_mul {m b : Int} (hm : 0 < m) : sgI (m * b) = sgI b := by
  unfold sgI
  by_cases h : 0 < b
  · rw [if_pos h, if_pos (Int.mul_pos hm h)]
  · rw [if_neg h, if_neg]
    have := Int.mul_le_mul_of_nonneg_left (show b ≤ 0 by omega) (Int.le_of_lt hm)
    omega
def gF2 (t b u : Int) : Int := (gN [t + rtI u, b] : Int) * sgI b
def gI3 (t b u : Int) : Int := (gN [b * b, 2 * t * b, t * t - u] : Int) * sgI b
def nf (t b u : Int) : T3 :=
  if Sq u then ((t + rtI u).fdiv (gF2 t b u), b.fdiv (gF2 t b u), 0)
  else (-((-2 * t * b).fdiv (gI3 t b u)), 2 * (b * b).fdiv (gI3 t b u), (-2 * t * b).fdiv (gI3 t b u) * (-2 * t * b).fdiv (gI3 t b u) - 4 * (b * b).fdiv (gI3 t b u) * (t * t - u).fdiv (gI3 t b u))
theorem g_ne {l : List Int} {x : Int} (hx : x ∈ l) (h0 : x ≠ 0) : (gN l : Int) ≠ 0 := fun h => h0 (gN_zero (by omega) x hx)
theorem sg_ne {g b : Int} (h : g ≠ 0) : g * sgI b ≠ 0 := by
  rcases sgI_cs b with e | e <;> rw [e] <;> omega
/-- exact quotients by a signed common divisor -/
theorem fd_sg {l : List Int} {x : Int} (hx : x ∈ l) (b : Int) (hg : (gN l : Int) ≠ 0) : ∃ y, x = (gN l : Int) * sgI b * y ∧ x.fdiv ((gN l : Int) * sgI b) = y ∧ x.fdiv (gN l) = sgI b * y := by
  have e := fdiv_ex (by omega) (gN_dvd hx)
  refine ⟨sgI b * x.fdiv (gN l), ?_, ?_, ?_⟩
  · rcases sgI_cs b with e2 | e2 <;> rw [e2] <;> grind
  · conv => lhs; rw [show x = (gN l : Int) * sgI b * (sgI b * x.fdiv (gN l)) by rcases sgI_cs b with e2 | e2 <;> rw [e2] <;> grind]
    exact Int.mul_fdiv_cancel_left _ (sg_ne hg)
  · rcases sgI_cs b with e2 | e2 <;> rw [e2] <;> grind
theorem fdiv_of {x g y : Int} (hg : g ≠ 0) (h : x = g * y) : x.fdiv g = y := by rw [h]; exact Int.mul_fdiv_cancel_left _ hg

/-- the two ways, with their exact quotients -/
theorem nf_frac {t b u : Int} (hb : b ≠ 0) (hs : Sq u) : ∃ x y : Int, t + rtI u = gF2 t b u * x ∧ b = gF2 t b u * y ∧ gF2 t b u ≠ 0 ∧ nf t b u = (x, y, 0) ∧ (gN [t + rtI u, b] : Int) ≠ 0 := by
  have hg : (gN [t + rtI u, b] : Int) ≠ 0 := g_ne (x := b) (by simp) hb
  obtain ⟨x, e1, e2, _⟩ := fd_sg (l := [t + rtI u, b]) (x := t + rtI u) (by simp) b hg
  obtain ⟨y, e3, e4, _⟩ := fd_sg (l := [t + rtI u, b]) (x := b) (by simp) b hg
  refine ⟨x, y, e1, e3, sg_ne hg, ?_, hg⟩
  unfold nf gF2
  rw [if_pos hs, e2, e4]
theorem gN_n (t b u : Int) : gN [b * b, -2 * t * b, t * t - u] = gN [b * b, 2 * t * b, t * t - u] := by
  unfold gN gF
  simp only [List.foldl]
  rw [show (-2 * t * b).natAbs = (2 * t * b).natAbs by rw [show -2 * t * b = -(2 * t * b) by grind, Int.natAbs_neg]]
theorem nf_irr {t b u : Int} (hb : b ≠ 0) (hs : ¬ Sq u) : ∃ f s l : Int, b * b = gI3 t b u * f ∧ -2 * t * b = gI3 t b u * s ∧ t * t - u = gI3 t b u * l ∧ gI3 t b u ≠ 0 ∧ nf t b u = (-s, 2 * f, s * s - 4 * f * l) ∧ (gN [b * b, 2 * t * b, t * t - u] : Int) ≠ 0 := by
  have hg : (gN [b * b, 2 * t * b, t * t - u] : Int) ≠ 0 := g_ne (x := b * b) (by simp) (Int.mul_ne_zero hb hb)
  obtain ⟨f, e1, e2, _⟩ := fd_sg (l := [b * b, 2 * t * b, t * t - u]) (x := b * b) (by simp) b hg
  obtain ⟨s, e3, e4, _⟩ := fd_sg (l := [b * b, 2 * t * b, t * t - u]) (x := 2 * t * b) (by simp) b hg
  obtain ⟨l, e5, e6, _⟩ := fd_sg (l := [b * b, 2 * t * b, t * t - u]) (x := t * t - u) (by simp) b hg
  have e7 : -2 * t * b = gI3 t b u * (-s) := by
    rw [show -2 * t * b = -(2 * t * b) by grind, e3]; unfold gI3; grind
  refine ⟨f, -s, l, e1, e7, e5, sg_ne hg, ?_, hg⟩
  unfold nf
  have e8 : (-2 * t * b).fdiv (gI3 t b u) = -s := fdiv_of (sg_ne hg) e7
  rw [if_neg hs, e8]
  unfold gI3
  rw [e2, e6]
/-- the same number, its parts multiplied -/
theorem nf_scale {t b u m : Int} (hb : b ≠ 0) (hm : 0 < m) (hu : 0 ≤ u) : nf (m * t) (m * b) (m * m * u) = nf t b u := by
  have hm0 : m ≠ 0 := by omega
  by_cases hs : Sq u
  · have hs' : Sq (m * m * u) := (sq_mul hm0).mpr hs
    have er : rtI (m * m * u) = m * rtI u := by
      conv => lhs; rw [show u = rtI u * rtI u from hs.symm]
      rw [show m * m * (rtI u * rtI u) = (m * rtI u) * (m * rtI u) by grind]
      exact rtI_sq (Int.mul_nonneg (by omega) (rtI_nn u))
    obtain ⟨x, y, e1, e2, e3, e4, _⟩ := nf_frac (t := t) hb hs
    obtain ⟨x', y', f1, f2, f3, f4, _⟩ := nf_frac (t := m * t) (b := m * b) (Int.mul_ne_zero hm0 hb) hs'
    have eg : gF2 (m * t) (m * b) (m * m * u) = m * gF2 t b u := by
      unfold gF2
      rw [er, sgI_mul hm, ← Int.mul_add]
      have := gN_mul m [t + rtI u, b]
      simp only [List.map] at this
      rw [this, Int.natCast_mul, Int.natAbs_of_nonneg (by omega)]
      grind
    rw [eg] at f1 f2 f3
    rw [er] at f1
    rw [e4, f4]
    have g1 : x' = x := Int.eq_of_mul_eq_mul_left f3 (by rw [← f1, ← Int.mul_add, e1]; grind)
    have g2 : y' = y := Int.eq_of_mul_eq_mul_left f3 (by rw [← f2]; conv => lhs; rw [e2]
                                                         grind)
    rw [g1, g2]
  · have hs' : ¬ Sq (m * m * u) := fun h => hs ((sq_mul hm0).mp h)
    obtain ⟨f, s, l, e1, e2, e3, e4, e5, _⟩ := nf_irr (t := t) hb hs
    obtain ⟨f', s', l', f1, f2, f3, f4, f5, _⟩ := nf_irr (t := m * t) (b := m * b) (Int.mul_ne_zero hm0 hb) hs'
    have eg : gI3 (m * t) (m * b) (m * m * u) = m * m * gI3 t b u := by
      unfold gI3
      rw [sgI_mul hm]
      have := gN_mul (m * m) [b * b, 2 * t * b, t * t - u]
      simp only [List.map] at this
      rw [show m * b * (m * b) = m * m * (b * b) by grind, show 2 * (m * t) * (m * b) = m * m * (2 * t * b) by grind, show m * t * (m * t) - m * m * u = m * m * (t * t - u) by grind]
      rw [this, Int.natCast_mul, Int.natAbs_of_nonneg (Int.mul_nonneg (by omega) (by omega))]
      grind
    rw [eg] at f1 f2 f3 f4
    have g1 : f' = f := Int.eq_of_mul_eq_mul_left f4 (by rw [← f1, Int.mul_assoc (m * m), ← e1]; grind)
    have g2 : s' = s := Int.eq_of_mul_eq_mul_left f4 (by rw [← f2, Int.mul_assoc (m * m), ← e2]; grind)
    have g3 : l' = l := Int.eq_of_mul_eq_mul_left f4 (by rw [← f3, Int.mul_assoc (m * m), ← e3]; grind)
    rw [e5, f5, g1, g2, g3]
theorem sg_pos {g b y : Int} (hg : 0 < g) (hb : b ≠ 0) (h : b = g * sgI b * y) : 0 < y := by
  rcases (show y ≤ 0 ∨ 0 < y by omega) with q | q
  · exfalso
    have h1 : g * y ≤ 0 := Int.mul_nonpos_of_nonneg_of_nonpos (by omega) q
    unfold sgI at h
    split at h
    · rw [Int.mul_one] at h; omega
    · rw [show g * (-1) * y = -(g * y) by grind] at h; omega
  · exact q
theorem gN_nn (l : List Int) : (0 : Int) ≤ gN l := by omega
theorem rtI_0 : rtI 0 = 0 := rtI_sq (k := 0) (by decide)
theorem sq_0 : Sq 0 := sq_iff.mpr ⟨0, rfl⟩
theorem abs_sg {g b : Int} (hg : 0 ≤ g) : (g * sgI b).natAbs = g.natAbs := by
  rcases sgI_cs b with e | e <;> rw [e] <;> omega
theorem sg_abs {x : Int} (h : x ≠ 0) : (x.natAbs : Int) * sgI x = x := by
  unfold sgI
  split <;> omega
theorem nf_ne {t b u : Int} (hb : b ≠ 0) : (nf t b u).2.1 ≠ 0 := by
  by_cases hs : Sq u
  · obtain ⟨x, y, e1, e2, e3, e4, _⟩ := nf_frac (t := t) hb hs
    rw [e4]
    intro (e : y = 0)
    rw [e, Int.mul_zero] at e2
    exact hb e2
  · obtain ⟨f, s, l, e1, e2, e3, e4, e5, _⟩ := nf_irr (t := t) hb hs
    rw [e5]
    intro (e : 2 * f = 0)
    rw [show f = 0 by omega, Int.mul_zero] at e1
    exact (Int.mul_ne_zero hb hb) e1
theorem disc {t b u g f s l : Int} (e1 : b * b = g * f) (e2 : -2 * t * b = g * s) (e3 : t * t - u = g * l) : g * g * (s * s - 4 * f * l) = (2 * b) * (2 * b) * u := by
  have h1 : g * g * (s * s - 4 * f * l) = (g * s) * (g * s) - 4 * (g * f) * (g * l) := by grind
  rw [h1, ← e1, ← e2, ← e3]
  grind
theorem sq_nn (x : Int) : 0 ≤ x * x := by
  rcases Int.le_total 0 x with q | q
  · exact Int.mul_nonneg q q
  · exact Int.mul_nonneg_of_nonpos_of_nonpos q q
theorem sq_pos {x : Int} (h : x ≠ 0) : 0 < x * x := by
  have := sq_nn x
  have := Int.mul_ne_zero h h
  omega
theorem nf_un {t b u : Int} (hb : b ≠ 0) (hu : 0 ≤ u) : 0 ≤ (nf t b u).2.2 := by
  by_cases hs : Sq u
  · obtain ⟨x, y, e1, e2, e3, e4, _⟩ := nf_frac (t := t) hb hs
    rw [e4]
    exact Int.le_refl 0
  · obtain ⟨f, s, l, e1, e2, e3, e4, e5, _⟩ := nf_irr (t := t) hb hs
    rw [e5]
    have h := disc e1 e2 e3
    have h1 : 0 ≤ (2 * b) * (2 * b) * u := Int.mul_nonneg (sq_nn _) hu
    rw [← h] at h1
    have h2 := sq_pos e4
    show 0 ≤ s * s - 4 * f * l
    rcases (show s * s - 4 * f * l < 0 ∨ 0 ≤ s * s - 4 * f * l by omega) with q | q
    · have := Int.mul_neg_of_pos_of_neg h2 q
      omega
    · exact q
theorem gN1 {l m : List Int} {g : Int} (h : l = m.map (g * ·)) (hg : g.natAbs = gN l) (h0 : g ≠ 0) : gN m = 1 := by
  have e := gN_mul g m
  rw [← h, hg] at e
  exact (Nat.eq_of_mul_eq_mul_left (show 0 < gN l by omega) (by rw [Nat.mul_one]; exact e)).symm
theorem nf_idem {t b u : Int} (hb : b ≠ 0) (hu : 0 ≤ u) : nf (nf t b u).1 (nf t b u).2.1 (nf t b u).2.2 = nf t b u := by
  have hne := nf_ne (t := t) (u := u) hb
  by_cases hs : Sq u
  · obtain ⟨x, y, e1, e2, e3, e4, e5⟩ := nf_frac (t := t) hb hs
    rw [e4] at hne ⊢
    simp only at hne ⊢
    obtain ⟨x', y', f1, f2, f3, f4, _⟩ := nf_frac (t := x) (b := y) (u := 0) hne sq_0
    have k1 : gN [x, y] = 1 := gN1 (l := [t + rtI u, b]) (g := gF2 t b u) (by simp only [List.map]; rw [← e1, ← e2]) (by unfold gF2; rw [abs_sg (gN_nn _)]; rfl) e3
    have k2 : 0 < y := sg_pos (g := gN [t + rtI u, b]) (by have := gN_nn [t + rtI u, b]; omega) hb e2
    have k3 : gF2 x y 0 = 1 := by
      unfold gF2
      rw [rtI_0, Int.add_zero, k1]
      unfold sgI
      rw [if_pos k2]
      rfl
    rw [k3] at f1 f2
    rw [rtI_0] at f1
    rw [f4]
    rw [show x' = x by omega, show y' = y by omega]
  · obtain ⟨f, s, l, e1, e2, e3, e4, e5, e6⟩ := nf_irr (t := t) hb hs
    rw [e5] at hne ⊢
    simp only at hne ⊢
    have hU : ¬ Sq (s * s - 4 * f * l) := fun h => by
      obtain ⟨k, hk⟩ := sq_iff.mp h
      have hd := disc e1 e2 e3
      rw [hk] at hd
      exact hs (sq_div (m := 2 * b) (x := gI3 t b u * k) (by omega) (by rw [← hd]; grind))
    obtain ⟨f', s', l', f1, f2, f3, f4, f5, _⟩ := nf_irr (t := -s) (b := 2 * f) (u := s * s - 4 * f * l) hne hU
    have hf : f ≠ 0 := by omega
    have k1 : gN [f, s, l] = 1 := gN1 (l := [b * b, -2 * t * b, t * t - u]) (g := gI3 t b u) (by simp only [List.map]; rw [← e1, ← e2, ← e3]) (by rw [gN_n]; unfold gI3; rw [abs_sg (gN_nn _)]; rfl) e4
    have k1' : gN [f, -s, l] = 1 := by
      rw [← k1]
      unfold gN gF
      simp only [List.foldl, Int.natAbs_neg]
    have k2 : gI3 (-s) (2 * f) (s * s - 4 * f * l) = 4 * f := by
      unfold gI3
      rw [sgI_mul (by decide)]
      have := gN_mul (4 * f) [f, -s, l]
      simp only [List.map] at this
      rw [show 2 * f * (2 * f) = 4 * f * f by grind, show 2 * -s * (2 * f) = 4 * f * -s by grind, show -s * -s - (s * s - 4 * f * l) = 4 * f * l by grind, this, k1', Nat.mul_one, ← sgI_mul (b := f) (m := 4) (by decide)]
      exact sg_abs (by omega)
    rw [k2] at f1 f2 f3 f4
    have g1 : f' = f := Int.eq_of_mul_eq_mul_left f4 (by rw [← f1]; grind)
    have g2 : s' = s := Int.eq_of_mul_eq_mul_left f4 (by rw [← f2]; grind)
    have g3 : l' = l := Int.eq_of_mul_eq_mul_left f4 (by rw [← f3]; grind)
    rw [f5, g1, g2, g3]
/-! sizes -/
theorem Ib.of_mul {n : Nat} {x g y : Int} (h : Ib n x) (e : x = g * y) (hg : g ≠ 0) : Ib n y := by
  refine h.le ?_
  rw [e, Int.natAbs_mul]
  exact Nat.le_mul_of_pos_left _ (by omega)
theorem Ib.rt {n : Nat} {u : Int} (h : Ib n u) (h0 : 0 ≤ u) : Ib n (rtI u) := by
  refine h.le ?_
  obtain ⟨v, rfl⟩ := Int.eq_ofNat_of_zero_le h0
  unfold rtI
  rw [Int.toNat_natCast]
  have := (rtN_spec v).1
  have := Nat.le_mul_self (rtN v)
  omega
theorem Ib.c {i : Int} (n : Nat) (h : i.natAbs < 2 ^ n := by decide) : Ib n i := h
structure Ib3 (n : Nat) (p : T3) : Prop where
  a : Ib n p.1
  b : Ib n p.2.1
  c : Ib n p.2.2
theorem nf_ib {t b u : Int} (hb : b ≠ 0) (hu : 0 ≤ u) (k1 : Ib 60 t) (k2 : Ib 60 b) (k3 : Ib 100 u) : Ib3 250 (nf t b u) := by
  by_cases hs : Sq u
  · obtain ⟨x, y, e1, e2, e3, e4, e5⟩ := nf_frac (t := t) hb hs
    rw [e4]
    exact ⟨((Ib.add (k1.mono (by decide)) (k3.rt hu)).of_mul e1 e3).mono (by decide), (k2.of_mul e2 e3).mono (by decide), Ib.c (i := 0) 250⟩
  · obtain ⟨f, s, l, e1, e2, e3, e4, e5, e6⟩ := nf_irr (t := t) hb hs
    rw [e5]
    refine ⟨(((((Ib.c 2).mul k1).mul k2).of_mul e2 e4).neg).mono (by decide), ((Ib.c 2).mul ((k2.mul k2).of_mul e1 e4)).mono (by decide), ?_⟩
    exact (((((Ib.c 2).mul k2).mul ((Ib.c 2).mul k2)).mul k3).of_mul (disc e1 e2 e3).symm (Int.mul_ne_zero e4 e4)).mono (by decide)
theorem Ib.dbl {n : Nat} {u x : Int} (hu : Ib n u) (h0 : 0 ≤ x) (h : x ≤ 2 * u + 1) : Ib (n + 1) x := by
  unfold Ib at *
  rw [Nat.pow_succ]
  generalize 2 ^ n = z at *
  omega
theorem Ib.of_l {n : Nat} {x g y : Int} (h : Ib n x) (e : x = g * y) (hx : x ≠ 0) : Ib n g := by
  refine h.le ?_
  rw [e, Int.natAbs_mul]
  have : y ≠ 0 := fun z => hx (by rw [e, z, Int.mul_zero])
  exact Nat.le_mul_of_pos_right _ (by omega)
theorem mok_sg {g b : Int} : IntMulOk g (sgI b) := by rcases sgI_cs b with e | e <;> rw [e] <;> exact IntMulOk.of_right (by decide)
/-- drawn parts -/
structure Pts (t b u : Int) : Prop where
  b0 : b ≠ 0
  u0 : 0 ≤ u
  t : Ib 60 t
  b : Ib 60 b
  u : Ib 100 u
def istr (i : Int) : Str := Str.ofString (toString i)
theorem sz2 {x y : Str} {n m : Nat} (h : x.length ≤ n) (h' : y.length ≤ m) (hn : n + m ≤ 1000000) : x.length + y.length ≤ sizeLine := Nat.le_trans (Nat.add_le_add h h') (Nat.le_trans hn big_ok)
theorem cut2 {α β : Type} {Q C : α → β → Prop} {A : Prop} (main : (∀ a b, C a b → Q a b) → A) (rest : ∀ a b, C a b → Q a b) : A := main rest
theorem tD3_inj {s t : T3} (h : tL3 s = tL3 t) : s = t := by
  unfold tL3 at h
  simp only [List.cons.injEq, D.int.injEq, and_true] at h
  exact Prod.ext h.1 (Prod.ext h.2.1 h.2.2)
end Z
namespace Z
open PySem PySem.Spec PyProof.Rows L2
/-! ### order of a + b root u, in integers -/
def s3 (x : Int) : Int := if 0 < x then 1 else if x < 0 then -1 else 0
/-- 0 < a + root p ; 0 < a - root p -/
def Gp (a p : Int) : Prop := 0 < a ∨ a * a < p
def Gm (a p : Int) : Prop := 0 < a ∧ p < a * a
/-- 0 < a + b root u -/
def Gt (a b u : Int) : Prop := (0 ≤ b ∧ Gp a (b * b * u)) ∨ (b < 0 ∧ Gm a (b * b * u))
def Lt (a b u : Int) : Prop := Gt (-a) (-b) u
theorem sq_le {a b : Int} (h0 : 0 ≤ a) (h : a ≤ b) : a * a ≤ b * b := Int.mul_le_mul h h h0 (by omega)
theorem sq_lt {a b : Int} (h0 : 0 ≤ a) (h : a < b) : a * a < b * b := by
  have h1 := Int.mul_le_mul_of_nonneg_left (Int.le_of_lt h) h0
  have h2 := Int.mul_lt_mul_of_pos_right h (show 0 < b by omega)
  omega
theorem le_sq {a b : Int} (h0 : 0 ≤ b) (h : a * a ≤ b * b) : a ≤ b := by
  rcases (show a ≤ b ∨ b < a by omega) with q | q
  · exact q
  · have := sq_lt h0 q
    omega
theorem lt_sq {a b : Int} (h0 : 0 ≤ b) (h : a * a < b * b) : a < b := by
  rcases (show a < b ∨ b ≤ a by omega) with q | q
  · exact q
  · have := sq_le h0 q
    omega
/-- adding an integer at most 0 -/
theorem Gp_add {a b p : Int} (h : ¬ Gp a p) (hb : b ≤ 0) : ¬ Gp (a + b) p := by
  unfold Gp at *
  have h1 : a ≤ 0 := by omega
  have h2 : p ≤ a * a := by omega
  have h3 := sq_le (a := -a) (b := -(a + b)) (by omega) (by omega)
  rw [Int.neg_mul_neg, Int.neg_mul_neg] at h3
  omega
theorem Gm_add {a b p : Int} (h : ¬ Gm a p) (hb : b ≤ 0) : ¬ Gm (a + b) p := by
  unfold Gm at *
  rintro ⟨h1, h2⟩
  have h3 := sq_le (a := a + b) (b := a) (by omega) (by omega)
  exact h ⟨by omega, by omega⟩
theorem Gt_add {a b f u : Int} (h : ¬ Gt a f u) (hb : b ≤ 0) : ¬ Gt (a + b) f u := by
  unfold Gt at *
  rintro (⟨h1, h2⟩ | ⟨h1, h2⟩)
  · exact Gp_add (fun z => h (.inl ⟨h1, z⟩)) hb h2
  · exact Gm_add (fun z => h (.inr ⟨h1, z⟩)) hb h2
theorem Gt_up {a b f u : Int} (h : Gt a f u) (hb : 0 ≤ b) : Gt (a + b) f u := by
  rcases Classical.em (Gt (a + b) f u) with q | q
  · exact q
  · have := Gt_add q (b := -b) (by omega)
    rw [show a + b + -b = a by omega] at this
    exact absurd h this
/-- not above 0, strictly below by an integer -/
theorem Lt_of {a b f u : Int} (hu : 0 ≤ u) (h : ¬ Gt a f u) (hb : b < 0) : Lt (a + b) f u := by
  have hp : 0 ≤ f * f * u := Int.mul_nonneg (sq_nn f) hu
  unfold Lt Gt at *
  rw [Int.neg_mul_neg]
  rcases (show f < 0 ∨ f = 0 ∨ 0 < f by omega) with hf | hf | hf
  · left
    refine ⟨by omega, ?_⟩
    have h1 : ¬ Gm a (f * f * u) := fun z => h (.inr ⟨hf, z⟩)
    unfold Gm at h1
    unfold Gp
    rw [Int.neg_mul_neg]
    rcases (show a + b < 0 ∨ 0 ≤ a + b by omega) with q | q
    · left; omega
    · right
      have := sq_lt q (show a + b < a by omega)
      have : a * a ≤ f * f * u := by
        rcases (show a * a ≤ f * f * u ∨ f * f * u < a * a by omega) with z | z
        · exact z
        · exact absurd ⟨by omega, z⟩ h1
      omega
  · left
    subst hf
    have h1 : ¬ Gp a (0 * 0 * u) := fun z => h (.inl ⟨by omega, z⟩)
    unfold Gp at *
    simp only [Int.zero_mul] at *
    exact ⟨by omega, .inl (by omega)⟩
  · right
    refine ⟨by omega, ?_⟩
    have h1 : ¬ Gp a (f * f * u) := fun z => h (.inl ⟨by omega, z⟩)
    unfold Gp at h1
    unfold Gm
    rw [Int.neg_mul_neg]
    have h3 := sq_lt (a := -a) (b := -(a + b)) (by omega) (by omega)
    rw [Int.neg_mul_neg, Int.neg_mul_neg] at h3
    omega
theorem Lt_add {a b f u : Int} (h : Lt a f u) (hb : b ≤ 0) : Lt (a + b) f u := by
  unfold Lt at *
  have := Gt_up h (b := -b) (by omega)
  rwa [show -a + -b = -(a + b) by omega] at this
theorem Lt_ng {a f u : Int} (hu : 0 ≤ u) (h : Lt a f u) : ¬ Gt a f u := by
  have hp : 0 ≤ f * f * u := Int.mul_nonneg (sq_nn f) hu
  unfold Lt Gt Gp Gm at *
  rw [Int.neg_mul_neg, Int.neg_mul_neg] at h
  rintro (⟨h1, h2⟩ | ⟨h1, h2⟩)
  · rcases h with ⟨h3, h4⟩ | ⟨h3, h4⟩
    · have : f = 0 := by omega
      subst this
      simp only [Int.zero_mul] at *
      have := sq_nn a
      omega
    · omega
  · rcases h with ⟨h3, h4⟩ | ⟨h3, h4⟩ <;> omega
/-! squares compared -/
theorem idk (k b p : Int) : (k * k + p - b * b) * (k * k + p - b * b) - 4 * (k * k) * p = (p - (k - b) * (k - b)) * (p - (k + b) * (k + b)) := by grind
theorem sqd (k b : Int) : (k - b) * (k - b) = k * k - 2 * (k * b) + b * b := by grind
theorem sqs (k b : Int) : (k + b) * (k + b) = k * k + 2 * (k * b) + b * b := by grind
theorem mul_np {a b : Int} (ha : 0 ≤ a) (hb : b ≤ 0) : a * b ≤ 0 := Int.mul_nonpos_of_nonneg_of_nonpos ha hb
theorem mul_nn {a b : Int} (ha : a ≤ 0) (hb : b ≤ 0) : 0 ≤ a * b := Int.mul_nonneg_of_nonpos_of_nonpos ha hb
/-- between the squares -/
theorem core1 {k b p n : Int} (h1 : (k - b) * (k - b) ≤ p) (h2 : p ≤ (k + b) * (k + b)) (hn : b * b ≤ n) (hE : 0 ≤ k * k + p - n) (hs : b * b < n ∨ ((k - b) * (k - b) < p ∧ p < (k + b) * (k + b))) : (k * k + p - n) * (k * k + p - n) < 4 * (k * k) * p := by
  have e := idk k b p
  have h3 := sq_le hE (show k * k + p - n ≤ k * k + p - b * b by omega)
  rcases hs with hs | ⟨s1, s2⟩
  · have h4 := sq_lt hE (show k * k + p - n < k * k + p - b * b by omega)
    have h5 := mul_np (a := p - (k - b) * (k - b)) (b := p - (k + b) * (k + b)) (by omega) (by omega)
    omega
  · have h5 := Int.mul_neg_of_pos_of_neg (a := p - (k - b) * (k - b)) (b := p - (k + b) * (k + b)) (by omega) (by omega)
    omega
/-- beyond the squares -/
theorem core2 {k b p n : Int} (h : ((k - b) * (k - b) ≤ p ∧ (k + b) * (k + b) ≤ p) ∨ (p ≤ (k - b) * (k - b) ∧ p ≤ (k + b) * (k + b))) (hn : n ≤ b * b) (hE : 0 ≤ k * k + p - b * b) (hs : n < b * b ∨ ((k - b) * (k - b) < p ∧ (k + b) * (k + b) < p) ∨ (p < (k - b) * (k - b) ∧ p < (k + b) * (k + b))) : 4 * (k * k) * p < (k * k + p - n) * (k * k + p - n) := by
  have e := idk k b p
  have h3 := sq_le hE (show k * k + p - b * b ≤ k * k + p - n by omega)
  have h6 : 0 ≤ (p - (k - b) * (k - b)) * (p - (k + b) * (k + b)) := by
    rcases h with ⟨a, c⟩ | ⟨a, c⟩
    · exact Int.mul_nonneg (by omega) (by omega)
    · exact mul_nn (by omega) (by omega)
  rcases hs with hs | ⟨s1, s2⟩ | ⟨s1, s2⟩
  · have h4 := sq_lt hE (show k * k + p - b * b < k * k + p - n by omega)
    omega
  · have h5 := Int.mul_pos (a := p - (k - b) * (k - b)) (b := p - (k + b) * (k + b)) (by omega) (by omega)
    omega
  · have h5 := Int.mul_pos_of_neg_of_neg (a := p - (k - b) * (k - b)) (b := p - (k + b) * (k + b)) (by omega) (by omega)
    omega
theorem rad (w f u : Int) : 2 * w * f * (2 * w * f) * u = 4 * (w * w) * (f * f * u) := by grind
theorem sgn_mul {w f : Int} : (0 ≤ w → 0 ≤ f → 0 ≤ 2 * w * f) ∧ (w ≤ 0 → f ≤ 0 → 0 ≤ 2 * w * f) ∧ (0 < w → f < 0 → 2 * w * f < 0) ∧ (w < 0 → 0 < f → 2 * w * f < 0) := by
  refine ⟨fun a b => ?_, fun a b => ?_, fun a b => ?_, fun a b => ?_⟩ <;> rw [Int.mul_assoc]
  · have := Int.mul_nonneg a b; omega
  · have := mul_nn a b; omega
  · have := Int.mul_neg_of_pos_of_neg a b; omega
  · have := Int.mul_neg_of_neg_of_pos a b; omega
/-- 0 < x <= b, b*b <= n, one strict: x*x < n -/
theorem sq_below {w f u b n : Int} (hu : 0 ≤ u) (hx : Gt w f u) (hb : ¬ Gt (w - b) f u) (hn : b * b ≤ n) (hs : b * b < n ∨ Lt (w - b) f u) : Lt (w * w + f * f * u - n) (2 * w * f) u := by
  have hp : 0 ≤ f * f * u := Int.mul_nonneg (sq_nn f) hu
  have er := rad w f u
  have pf : f = 0 → f * f * u = 0 := fun z => by rw [z]; simp
  obtain ⟨g1, g2, g3, g4⟩ := sgn_mul (w := w) (f := f)
  unfold Lt Gt at *
  rw [Int.neg_mul_neg] at *
  rw [er]
  have d1 := sqd w b
  have d2 := sqs w b
  have d3 := sqd (-w) b
  have d4 := sqs (-w) b
  rw [Int.neg_mul_neg, Int.neg_mul] at d3 d4
  have en : -(w * w + f * f * u - n) * -(w * w + f * f * u - n) = (w * w + f * f * u - n) * (w * w + f * f * u - n) := Int.neg_mul_neg _ _
  generalize f * f * u = p at *
  rcases (show f < 0 ∨ 0 ≤ f by omega) with hf | hf
  · have hx : Gm w p := by rcases hx with ⟨z, _⟩ | ⟨_, z⟩; omega; exact z
    have hb : ¬ Gm (w - b) p := fun z => hb (.inr ⟨hf, z⟩)
    have hs : b * b < n ∨ Gp (-(w - b)) p := hs.imp id fun z => by rcases z with ⟨_, z⟩ | ⟨z, _⟩; exact z; omega
    unfold Gm Gp at *
    rw [Int.neg_mul_neg] at hs
    obtain ⟨w0, w1⟩ := hx
    have b0 : 0 < b := by
      rcases (show 0 < b ∨ b ≤ 0 by omega) with z | z
      · exact z
      · exfalso
        have := sq_le (a := w) (b := w - b) (by omega) (by omega)
        exact hb ⟨by omega, by omega⟩
    have wb := Int.mul_pos w0 b0
    refine .inl ⟨by have := g3 w0 hf; omega, ?_⟩
    rcases (show 0 < -(w * w + p - n) ∨ 0 ≤ w * w + p - n by omega) with z | z
    · exact .inl z
    · right
      rw [en]
      have bb := sq_nn b
      rcases (show w ≤ b ∨ b < w by omega) with q | q
      · have q2 := Int.mul_nonneg (show 0 ≤ b - w by omega) (Int.le_of_lt w0)
        rw [Int.sub_mul, Int.mul_comm b w] at q2
        refine core1 (k := w) (b := b) (by omega) (by omega) hn z ?_
        rcases hs with hs | hs
        · exact .inl hs
        · rcases (show b * b < n ∨ b * b = n by omega) with y | y
          · exact .inl y
          · right
            refine ⟨?_, by omega⟩
            rcases hs with hs | hs
            · have q3 := Int.mul_pos (show 0 < b - w by omega) w0
              rw [Int.sub_mul, Int.mul_comm b w] at q3
              omega
            · exact hs
      · have q2 : (w - b) * (w - b) ≤ p := by
          rcases (show (w - b) * (w - b) ≤ p ∨ p < (w - b) * (w - b) by omega) with y | y
          · exact y
          · exact absurd ⟨by omega, y⟩ hb
        refine core1 (k := w) (b := b) q2 (by omega) hn z ?_
        rcases hs with hs | hs | hs
        · exact .inl hs
        · omega
        · exact .inr ⟨hs, by omega⟩
  · have hx : Gp w p := by rcases hx with ⟨_, z⟩ | ⟨z, _⟩; exact z; omega
    have hb : ¬ Gp (w - b) p := fun z => hb (.inl ⟨hf, z⟩)
    have hw : w - b ≤ 0 ∧ p ≤ (w - b) * (w - b) := by
      unfold Gp at hb
      omega
    have hs : b * b < n ∨ p < (w - b) * (w - b) := hs.imp id fun z => by
      rcases z with ⟨q, z⟩ | ⟨_, z⟩
      · unfold Gp at z
        rw [Int.neg_mul_neg, pf (by omega)] at z
        rw [pf (by omega)]
        have := sq_nn (w - b)
        rcases z with z | z
        · have := sq_pos (x := w - b) (by omega)
          omega
        · omega
      · unfold Gm at z
        rw [Int.neg_mul_neg] at z
        exact z.2
    obtain ⟨hw1, hw2⟩ := hw
    unfold Gp at hx
    rcases (show w < 0 ∨ 0 ≤ w by omega) with q | q
    · -- w below 0
      have f0 : 0 < f := by
        rcases (show f = 0 ∨ 0 < f by omega) with z | z
        · have := pf z
          have := sq_nn w
          omega
        · exact z
      have b0 : 0 < b := by
        rcases (show 0 < b ∨ b ≤ 0 by omega) with z | z
        · exact z
        · exfalso
          have := sq_le (a := -(w - b)) (b := -w) (by omega) (by omega)
          rw [Int.neg_mul_neg, Int.neg_mul_neg] at this
          omega
      refine .inl ⟨by have := g4 q f0; omega, ?_⟩
      unfold Gp
      rcases (show 0 < -(w * w + p - n) ∨ 0 ≤ w * w + p - n by omega) with z | z
      · exact .inl z
      · right
        rw [en]
        have h1 : w * w < p := by omega
        have wb := Int.mul_pos (show 0 < -w by omega) b0
        rw [Int.neg_mul] at wb
        have h2 : (-w - b) * (-w - b) < p := by
          rcases (show b ≤ -w ∨ -w < b by omega) with y | y
          · have := Int.mul_nonneg (show 0 ≤ -w - b by omega) (Int.le_of_lt b0)
            rw [Int.sub_mul, Int.neg_mul] at this
            omega
          · have := Int.mul_pos (show 0 < b - -w by omega) (show 0 < -w by omega)
            rw [Int.sub_mul, Int.neg_mul_neg, Int.mul_neg, Int.mul_comm b w] at this
            omega
        have := core1 (k := -w) (b := b) (p := p) (n := n) (by omega) (by omega) hn (by rw [Int.neg_mul_neg]; omega) (hs.imp id fun y => ⟨h2, by omega⟩)
        rw [Int.neg_mul_neg] at this
        exact this
    · -- the slack
      have wd := Int.mul_nonneg q (show 0 ≤ b - w by omega)
      rw [Int.mul_sub] at wd
      have hD : 2 * (w * b - w * w) < -(w * w + p - n) := by omega
      have h5 := sq_lt (a := 2 * (w * b - w * w)) (by omega) hD
      have h6 : 2 * (w * b - w * w) * (2 * (w * b - w * w)) = 4 * (w * w) * ((w - b) * (w - b)) := by grind
      have h7 := Int.mul_le_mul_of_nonneg_left hw2 (show 0 ≤ 4 * (w * w) by have := sq_nn w; omega)
      have hg := g1 q hf
      rcases (show -(2 * w * f) < 0 ∨ 2 * w * f = 0 by omega) with z | z
      · exact .inr ⟨z, by omega, by omega⟩
      · exact .inl ⟨by omega, .inl (by omega)⟩
/-- 0 < b <= x, n <= b*b, one strict: n < x*x -/
theorem sq_above {w f u b n : Int} (hu : 0 ≤ u) (b0 : 0 < b) (hb : ¬ Lt (w - b) f u) (hn : n ≤ b * b) (hs : n < b * b ∨ Gt (w - b) f u) : Gt (w * w + f * f * u - n) (2 * w * f) u := by
  have hp : 0 ≤ f * f * u := Int.mul_nonneg (sq_nn f) hu
  have er := rad w f u
  have pf : f = 0 → f * f * u = 0 := fun z => by rw [z]; simp
  obtain ⟨g1, g2, g3, g4⟩ := sgn_mul (w := w) (f := f)
  unfold Lt Gt at *
  rw [Int.neg_mul_neg] at *
  rw [er]
  have d1 := sqd w b
  have d2 := sqs w b
  have d3 := sqd (-w) b
  have d4 := sqs (-w) b
  rw [Int.neg_mul_neg, Int.neg_mul] at d3 d4
  have e1 : -(w - b) * -(w - b) = (w - b) * (w - b) := Int.neg_mul_neg _ _
  generalize f * f * u = p at *
  rcases (show f < 0 ∨ 0 ≤ f by omega) with hf | hf
  · have hb : ¬ Gp (-(w - b)) p := fun z => hb (.inl ⟨by omega, z⟩)
    have hs : n < b * b ∨ Gm (w - b) p := hs.imp id fun z => by rcases z with ⟨z, _⟩ | ⟨_, z⟩; omega; exact z
    unfold Gm Gp at *
    rw [e1] at hb
    have h1 : b ≤ w := by omega
    have h2 : p ≤ (w - b) * (w - b) := by omega
    have wb := Int.mul_pos (show 0 < w by omega) b0
    have h3 := sq_le (Int.le_of_lt b0) h1
    have hI := g3 (by omega) hf
    have hs : n < b * b ∨ p < (w - b) * (w - b) := hs.imp id fun z => z.2
    have h4 := core2 (k := w) (b := b) (p := p) (n := n) (.inr ⟨h2, by omega⟩) hn (by omega) (hs.imp id fun z => .inr ⟨z, by omega⟩)
    have h5 : 0 < w * w + p - n := by
      rcases (show 0 < w * w + p - n ∨ w * w + p - n = 0 by omega) with z | z
      · exact z
      · exfalso
        rw [z] at h4
        have := Int.mul_nonneg (show 0 ≤ 4 * (w * w) by have := sq_nn w; omega) hp
        omega
    exact .inr ⟨hI, h5, h4⟩
  · have hc : b ≤ w ∨ (0 < f ∧ (w - b) * (w - b) ≤ p) := by
      rcases (show f = 0 ∨ 0 < f by omega) with z | z
      · left
        have h1 : ¬ Gp (-(w - b)) p := fun y => hb (.inl ⟨by omega, y⟩)
        unfold Gp at h1
        omega
      · have h1 : ¬ Gm (-(w - b)) p := fun y => hb (.inr ⟨by omega, y⟩)
        unfold Gm at h1
        rw [e1] at h1
        omega
    have hs : n < b * b ∨ 0 < w - b ∨ (w - b) * (w - b) < p := hs.imp id fun z => by rcases z with ⟨_, z⟩ | ⟨z, _⟩; exact z; omega
    rcases (show w < 0 ∨ 0 ≤ w by omega) with q | q
    · rcases hc with hc | ⟨f0, hc⟩
      · omega
      have hI := g4 q f0
      have wb := Int.mul_pos (show 0 < -w by omega) b0
      rw [Int.neg_mul] at wb
      have hw := sq_pos (x := w) (by omega)
      have h4 := core2 (k := -w) (b := b) (p := p) (n := n) (.inl ⟨by omega, by omega⟩) hn (by rw [Int.neg_mul_neg]; omega) (hs.imp id fun z => .inl ⟨by omega, by omega⟩)
      rw [Int.neg_mul_neg] at h4
      exact .inr ⟨hI, by omega, h4⟩
    · have hI := g1 q hf
      refine .inl ⟨hI, ?_⟩
      unfold Gp
      rcases (show 0 < w * w + p - n ∨ 0 ≤ -(w * w + p - n) by omega) with z | z
      · exact .inl z
      · right
        have en : (w * w + p - n) * (w * w + p - n) = -(w * w + p - n) * -(w * w + p - n) := (Int.neg_mul_neg _ _).symm
        rw [en]
        rcases (show b ≤ w ∨ w < b by omega) with y | y
        · exfalso
          have := sq_le (Int.le_of_lt b0) y
          have h7 : p = 0 := by omega
          have h8 : w * w = b * b := by omega
          have : w = b := by
            have := le_sq (Int.le_of_lt b0) (show w * w ≤ b * b by omega)
            omega
          subst this
          rcases hs with hs | hs | hs
          · omega
          · omega
          · rw [Int.sub_self] at hs; omega
        · have hc : (w - b) * (w - b) ≤ p := by omega
          have wd := Int.mul_nonneg q (show 0 ≤ b - w by omega)
          rw [Int.mul_sub] at wd
          have hD : -(w * w + p - n) < 2 * (w * b - w * w) := by omega
          have h5 := sq_lt z hD
          have h6 : 2 * (w * b - w * w) * (2 * (w * b - w * w)) = 4 * (w * w) * ((w - b) * (w - b)) := by grind
          have h7 := Int.mul_le_mul_of_nonneg_left hc (show 0 ≤ 4 * (w * w) by have := sq_nn w; omega)
          omega
/-! the signs that the program computes -/
def rsg (w f u : Int) : Int := if 0 ≤ s3 w * (s3 f * s3 u) then (if s3 w = 0 then s3 f * s3 u else s3 w) else if f * f * u < w * w then s3 w else s3 f * s3 u
def trs (w f u c d : Int) : Int := if 0 ≤ rsg w f u * (s3 c * s3 d) then (if rsg w f u = 0 then s3 c * s3 d else rsg w f u) else rsg w f u * rsg (w * w + f * f * u - c * c * d) (2 * w * f) u
theorem s3_pos {x : Int} (h : 0 < x) : s3 x = 1 := if_pos h
theorem s3_neg {x : Int} (h : x < 0) : s3 x = -1 := by unfold s3; rw [if_neg (by omega), if_pos h]
theorem s3_zero : s3 0 = 0 := rfl
theorem s3_cs (x : Int) : (0 < x ∧ s3 x = 1) ∨ (x = 0 ∧ s3 x = 0) ∨ (x < 0 ∧ s3 x = -1) := by
  rcases (show 0 < x ∨ x = 0 ∨ x < 0 by omega) with h | h | h
  · exact .inl ⟨h, s3_pos h⟩
  · subst h; exact .inr (.inl ⟨rfl, rfl⟩)
  · exact .inr (.inr ⟨h, s3_neg h⟩)
theorem s3_n (x : Int) : s3 (-x) = -s3 x := by
  rcases s3_cs x with ⟨h, e⟩ | ⟨h, e⟩ | ⟨h, e⟩
  · rw [e, s3_neg (by omega)]
  · subst h; rfl
  · rw [e, s3_pos (by omega)]; rfl
/-- nought, or no square -/
def NS (u : Int) : Prop := u = 0 ∨ (0 < u ∧ ¬ Sq u)
theorem NS.nn {u : Int} (h : NS u) : 0 ≤ u := by
  rcases h with h | h <;> omega
theorem NS.ne {u w f : Int} (h : NS u) (hf : f ≠ 0) (hu : u ≠ 0) : w * w ≠ f * f * u := fun e => by
  rcases h with h | ⟨_, h⟩
  · exact hu h
  · exact h (sq_div (m := f) (x := w) hf e.symm)
theorem rsg_gt {w f u : Int} (hu : NS u) (h : Gt w f u) : rsg w f u = 1 := by
  unfold rsg
  have hn := hu.nn
  have pz : u = 0 → f * f * u = 0 := fun z => by rw [z]; simp
  have ne := hu.ne (w := w) (f := f)
  rcases s3_cs u with ⟨hU, eu⟩ | ⟨hU, eu⟩ | ⟨hU, eu⟩
  · have fp : f ≠ 0 → 0 < f * f * u := fun z => Int.mul_pos (sq_pos z) hU
    have wn := sq_nn w
    rcases s3_cs w with ⟨hw, e⟩ | ⟨hw, e⟩ | ⟨hw, e⟩ <;> rcases s3_cs f with ⟨hf, e2⟩ | ⟨hf, e2⟩ | ⟨hf, e2⟩ <;> rw [eu, e, e2] <;> unfold Gt Gp Gm at h <;> simp <;> (try subst hf) <;> (try subst hw) <;> (try simp at h) <;> omega
  · have pz := pz hU
    unfold Gt Gp Gm at h
    rw [pz] at h ⊢
    have wn := sq_nn w
    have hw : 0 < w := by omega
    rw [eu, s3_pos hw]
    simp
  · omega
theorem rsg_neg (w f u : Int) : rsg (-w) (-f) u = -rsg w f u := by
  unfold rsg
  rw [s3_n, s3_n, Int.neg_mul_neg, Int.neg_mul_neg, Int.neg_mul (s3 f), Int.neg_mul_neg]
  split
  · split
    · rw [if_pos (by omega)]
    · rw [if_neg (by omega)]
  · split <;> rfl
theorem rsg_lt {w f u : Int} (hu : NS u) (h : Lt w f u) : rsg w f u = -1 := by
  have := rsg_gt hu h
  rw [rsg_neg] at this
  omega
theorem rsg_z {w f u : Int} (hu : NS u) (h1 : ¬ Gt w f u) (h2 : ¬ Lt w f u) : rsg w f u = 0 := by
  have hn := hu.nn
  have hp : 0 ≤ f * f * u := Int.mul_nonneg (sq_nn f) hn
  have ne := hu.ne (w := w) (f := f)
  have wn := sq_nn w
  unfold Lt Gt Gp Gm at h2
  rw [Int.neg_mul_neg, Int.neg_mul_neg] at h2
  unfold Gt Gp Gm at h1
  have hw : w = 0 := by
    rcases (show f = 0 ∨ f ≠ 0 by omega) with z | z
    · subst z
      simp only [Int.zero_mul] at *
      omega
    · rcases (show u = 0 ∨ u ≠ 0 by omega) with y | y
      · have : f * f * u = 0 := by rw [y]; simp
        have : w ≠ 0 → 0 < w * w := sq_pos
        omega
      · have := ne z y
        omega
  subst hw
  simp only [Int.zero_mul] at *
  have hfu : f = 0 ∨ u = 0 := by
    rcases (show f = 0 ∨ f ≠ 0 by omega) with z | z
    · exact .inl z
    · rcases (show u = 0 ∨ u ≠ 0 by omega) with y | y
      · exact .inr y
      · have := Int.mul_pos (sq_pos z) (show 0 < u by omega)
        omega
  unfold rsg
  rw [s3_zero, Int.zero_mul, if_pos (Int.le_refl 0), if_pos rfl]
  rcases hfu with rfl | rfl <;> simp [s3_zero]
theorem Gt0 {b c d : Int} (h : c = 0 ∨ d = 0) : Gt b c d ↔ 0 < b := by
  have : c * c * d = 0 := by rcases h with h | h <;> rw [h] <;> simp
  unfold Gt Gp Gm
  rw [this]
  have := sq_nn b
  constructor
  · omega
  · intro hb
    have := sq_pos (x := b) (by omega)
    omega
theorem rest_n (w f u n : Int) : -w * -w + -f * -f * u - n = w * w + f * f * u - n ∧ 2 * -w * -f = 2 * w * f := by
  refine ⟨?_, ?_⟩
  · rw [Int.neg_mul_neg, Int.neg_mul_neg]
  · rw [Int.mul_neg, Int.mul_neg, Int.neg_mul, Int.neg_neg]
/-- the sum is below 0 -/
theorem trs_lt {a b f u c d : Int} (hu : NS u) (hd : 0 ≤ d) (h1 : ¬ Gt a f u) (h2 : ¬ Gt b c d) (hs : Lt a f u ∨ Lt b c d) : trs (a + b) f u c d = -1 := by
  have hn := hu.nn
  unfold trs
  rcases s3_cs d with ⟨hD, ed⟩ | ⟨hD, ed⟩ | ⟨hD, ed⟩
  rotate_left
  · have hb : b ≤ 0 := by rw [Gt0 (.inr hD)] at h2; omega
    have : Lt (a + b) f u := by
      rcases hs with z | z
      · exact Lt_add z hb
      · unfold Lt at z
        rw [Gt0 (.inr hD)] at z
        exact Lt_of hn h1 (by omega)
    rw [rsg_lt hu this, ed]
    simp
  · omega
  rcases s3_cs c with ⟨hC, ec⟩ | ⟨hC, ec⟩ | ⟨hC, ec⟩
  · rw [ed, ec]
    have hp := Int.mul_pos (Int.mul_pos hC hC) hD
    have hb : b < 0 ∧ c * c * d ≤ b * b := by
      have : ¬ Gp b (c * c * d) := fun z => h2 (.inl ⟨by omega, z⟩)
      unfold Gp at this
      rcases (show b = 0 ∨ b < 0 by omega) with z | z
      · subst z; omega
      · omega
    have hs2 : c * c * d < -b * -b ∨ Gt (-(a + b) - -b) (-f) u := by
      rcases hs with z | z
      · right
        rw [show -(a + b) - -b = -a by omega]
        exact z
      · left
        unfold Lt Gt at z
        rcases z with ⟨z, _⟩ | ⟨_, _, z⟩
        · omega
        · rwa [Int.neg_mul_neg c c] at z
    have hr := sq_above (w := -(a + b)) (f := -f) (b := -b) (n := c * c * d) hn (by omega) (by
      rw [show -(a + b) - -b = -a by omega]
      unfold Lt
      rw [Int.neg_neg, Int.neg_neg]
      exact h1) (by rw [Int.neg_mul_neg]; exact hb.2) hs2
    rw [(rest_n (a + b) f u _).1, (rest_n (a + b) f u 0).2] at hr
    rw [rsg_lt hu (Lt_of hn h1 hb.1), rsg_gt hu hr]
    decide
  · have hb : b ≤ 0 := by rw [Gt0 (.inl hC)] at h2; omega
    have : Lt (a + b) f u := by
      rcases hs with z | z
      · exact Lt_add z hb
      · unfold Lt at z
        rw [Gt0 (.inl (by omega))] at z
        exact Lt_of hn h1 (by omega)
    rw [rsg_lt hu this, ec]
    simp
  · rw [ed, ec]
    rcases Classical.em (Gt (a + b) f u) with hg | hg
    · have b0 : 0 < b := by
        rcases (show 0 < b ∨ b ≤ 0 by omega) with z | z
        · exact z
        · exact absurd hg (Gt_add h1 z)
      have hb : b * b ≤ c * c * d := by
        have : ¬ Gm b (c * c * d) := fun z => h2 (.inr ⟨hC, z⟩)
        unfold Gm at this
        omega
      have hr := sq_below (w := a + b) (f := f) (b := b) (n := c * c * d) hn hg (by rw [show a + b - b = a by omega]; exact h1) hb (by
        rw [show a + b - b = a by omega]
        rcases hs with z | z
        · exact .inr z
        · left
          unfold Lt Gt at z
          rcases z with ⟨_, z⟩ | ⟨z, _⟩
          · unfold Gp at z
            rw [Int.neg_mul_neg, Int.neg_mul_neg] at z
            omega
          · omega)
      rw [rsg_gt hu hg, rsg_lt hu hr]
      decide
    · rcases Classical.em (Lt (a + b) f u) with hl | hl
      · rw [rsg_lt hu hl]
        simp
      · rw [rsg_z hu hg hl]
        simp
theorem s3_mul (a b : Int) : s3 (a * b) = s3 a * s3 b := by
  rcases s3_cs a with ⟨h, e⟩ | ⟨h, e⟩ | ⟨h, e⟩ <;> rcases s3_cs b with ⟨h', e'⟩ | ⟨h', e'⟩ | ⟨h', e'⟩ <;> rw [e, e']
  · exact s3_pos (Int.mul_pos h h')
  · subst h'; rw [Int.mul_zero]; rfl
  · exact s3_neg (Int.mul_neg_of_pos_of_neg h h')
  · subst h; rw [Int.zero_mul]; rfl
  · subst h; rw [Int.zero_mul]; rfl
  · subst h; rw [Int.zero_mul]; rfl
  · exact s3_neg (Int.mul_neg_of_neg_of_pos h h')
  · subst h'; rw [Int.mul_zero]; rfl
  · exact s3_pos (Int.mul_pos_of_neg_of_neg h h')
theorem s3_one {k : Int} (hk : k ≠ 0) : s3 k = 1 ∨ s3 k = -1 := by
  rcases s3_cs k with ⟨h, e⟩ | ⟨h, e⟩ | ⟨h, e⟩
  · exact .inl e
  · exact absurd h hk
  · exact .inr e
theorem rsg_mul {k : Int} (hk : k ≠ 0) (w f u : Int) : rsg (k * w) (k * f) u = s3 k * rsg w f u := by
  have e1 : k * f * (k * f) * u = k * k * (f * f * u) := by grind
  have e2 : k * w * (k * w) = k * k * (w * w) := by grind
  have hc : (k * f * (k * f) * u < k * w * (k * w)) ↔ f * f * u < w * w := by
    rw [e1, e2]
    exact Int.mul_lt_mul_left (sq_pos hk)
  unfold rsg
  rw [s3_mul, s3_mul]
  simp only [hc]
  rcases s3_one hk with e | e <;> rw [e]
  · simp only [Int.one_mul]
  · simp only [Int.neg_mul, Int.one_mul, Int.mul_neg, Int.neg_neg]
    split
    · split
      · rw [if_pos (by omega)]
      · rw [if_neg (by omega)]
    · split <;> rfl
theorem trs_mul {k : Int} (hk : k ≠ 0) (w f u c d : Int) : trs (k * w) (k * f) u (k * c) d = s3 k * trs w f u c d := by
  have e1 : k * w * (k * w) + k * f * (k * f) * u - k * c * (k * c) * d = k * k * (w * w + f * f * u - c * c * d) := by grind
  have e2 : 2 * (k * w) * (k * f) = k * k * (2 * w * f) := by grind
  have hkk : k * k ≠ 0 := Int.mul_ne_zero hk hk
  unfold trs
  rw [e1, e2, rsg_mul hk, rsg_mul hkk, s3_mul, s3_mul]
  rcases s3_one hk with e | e <;> rw [e]
  · simp only [Int.one_mul]
  · simp only [Int.neg_mul, Int.one_mul, Int.mul_neg, Int.neg_neg]
    split
    · split
      · rw [if_pos (by omega)]
      · rw [if_neg (by omega)]
    · rfl
end Z
namespace Z
open PySem PySem.Spec PyProof.Rows L2
theorem rtI_spec {u : Int} (h : 0 ≤ u) : rtI u * rtI u ≤ u ∧ u < (rtI u + 1) * (rtI u + 1) := by
  obtain ⟨v, rfl⟩ := Int.eq_ofNat_of_zero_le h
  unfold rtI
  rw [Int.toNat_natCast]
  obtain ⟨h1, h2⟩ := rtN_spec v
  exact ⟨by exact_mod_cast h1, by exact_mod_cast h2⟩
theorem Ib.rt2 {n : Nat} {u : Int} (h : Ib (2 * n) u) (h0 : 0 ≤ u) : Ib n (rtI u) := by
  have h1 := (rtI_spec h0).1
  have h2 := rtI_nn u
  unfold Ib at *
  rw [show 2 * n = n + n by omega, Nat.pow_add] at h
  rcases Nat.lt_or_ge (rtI u).natAbs (2 ^ n) with q | q
  · exact q
  · have h3 := Nat.mul_le_mul q q
    rw [← Int.natAbs_mul] at h3
    have := sq_nn (rtI u)
    omega
/-- m <= s * (t + root u) / b -/
def Ge (t b u m s : Int) : Prop := (0 < b ∧ ¬ Gt (m * b - t * s) (-s) u) ∨ (b < 0 ∧ ¬ Gt (t * s - m * b) s u)
def nearV (t b u s : Int) : Int :=
  if 0 < b then (t * b * s + rtI (u * b * b * s * s)).fdiv (b * b)
  else (t * b * s - rtI (u * b * b * s * s) - (if rtI (u * b * b * s * s) * rtI (u * b * b * s * s) = u * b * b * s * s then 0 else 1)).fdiv (b * b)
theorem le_fdv {m z d : Int} (hd : 0 < d) : m ≤ z.fdiv d ↔ m * d ≤ z := by
  rw [Int.fdiv_eq_ediv_of_nonneg _ (by omega)]
  exact Int.le_ediv_iff_mul_le hd
theorem mul_cancel_le {d a b : Int} (hd : 0 < d) : d * a ≤ d * b ↔ a ≤ b := Int.mul_le_mul_left hd
theorem pos_mul {k a : Int} (hk : 0 < k) : 0 < k * a ↔ 0 < a := by
  have := Int.mul_lt_mul_left (b := 0) (c := a) hk
  rwa [Int.mul_zero] at this
theorem neg_mul' {k a : Int} (hk : 0 < k) : k * a < 0 ↔ a < 0 := by
  have := Int.mul_lt_mul_left (b := a) (c := 0) hk
  rwa [Int.mul_zero] at this
theorem near_spec {t b u m s : Int} (hb : b ≠ 0) (hu : 0 ≤ u) (hs : 0 < s) : Ge t b u m s ↔ m ≤ nearV t b u s := by
  have hbb := sq_pos hb
  have hX : 0 ≤ u * b * b * s * s := by
    rw [show u * b * b * s * s = (b * b) * (s * s * u) by grind]
    exact Int.mul_nonneg (Int.le_of_lt hbb) (Int.mul_nonneg (sq_nn s) hu)
  obtain ⟨r1, r2⟩ := rtI_spec hX
  have r0 := rtI_nn (u * b * b * s * s)
  have eX : u * b * b * s * s = (b * b) * (s * s * u) := by grind
  have hp : 0 ≤ s * s * u := Int.mul_nonneg (sq_nn s) hu
  unfold nearV Ge Gt Gp Gm
  rw [Int.neg_mul_neg]
  generalize rtI (u * b * b * s * s) = R at *
  rw [eX] at *
  clear eX
  generalize s * s * u = p at *
  rcases (show 0 < b ∨ b < 0 by omega) with z | z
  · rw [if_pos z, le_fdv hbb]
    have e1 : m * (b * b) ≤ t * b * s + R ↔ b * (m * b - t * s) ≤ R := by
      rw [show b * (m * b - t * s) = m * (b * b) - t * b * s by grind]; omega
    rw [e1]
    generalize m * b - t * s = y
    have e2 : b * y * (b * y) = b * b * (y * y) := by grind
    constructor
    · rintro (⟨_, h⟩ | ⟨h, _⟩)
      · have hy : y ≤ 0 ∨ y * y ≤ p := by omega
        rcases hy with hy | hy
        · have := mul_np (Int.le_of_lt z) hy; omega
        · have := (mul_cancel_le hbb).mpr hy
          have := lt_sq (a := b * y) (b := R + 1) (by omega) (by omega)
          omega
      · omega
    · intro h
      refine .inl ⟨z, ?_⟩
      rcases (show y ≤ 0 ∨ 0 < y by omega) with hy | hy
      · omega
      · have h1 := sq_le (Int.le_of_lt (Int.mul_pos z hy)) h
        have h2 := (mul_cancel_le (a := y * y) (b := p) hbb).mp (by omega)
        omega
  · rw [if_neg (by omega), le_fdv hbb]
    generalize he : (if R * R = b * b * p then (0 : Int) else 1) = ε
    have e1 : m * (b * b) ≤ t * b * s - R - ε ↔ R + ε ≤ b * (t * s - m * b) := by
      rw [show b * (t * s - m * b) = t * b * s - m * (b * b) by grind]; omega
    rw [e1]
    generalize t * s - m * b = y
    have e2 : b * y * (b * y) = b * b * (y * y) := by grind
    have he' : (R * R = b * b * p ∧ ε = 0) ∨ (R * R < b * b * p ∧ ε = 1) := by
      split at he <;> omega
    constructor
    · rintro (⟨h, _⟩ | ⟨_, h⟩)
      · omega
      · have hy : y ≤ 0 ∧ p ≤ y * y := by omega
        have h1 := mul_nn (Int.le_of_lt z) hy.1
        have h2 := (mul_cancel_le hbb).mpr hy.2
        rcases he' with ⟨k1, k2⟩ | ⟨k1, k2⟩
        · have := le_sq (a := R) h1 (by omega); omega
        · have := lt_sq (a := R) h1 (by omega); omega
    · intro h
      refine .inr ⟨z, ?_⟩
      have hy : y ≤ 0 := by
        rcases (show y ≤ 0 ∨ 0 < y by omega) with v | v
        · exact v
        · have := Int.mul_neg_of_neg_of_pos z v; omega
      have h1 : b * b * p ≤ b * y * (b * y) := by
        rcases he' with ⟨k1, k2⟩ | ⟨k1, k2⟩
        · have := sq_le r0 (show R ≤ b * y by omega); omega
        · have := sq_le (a := R + 1) (by omega) (show R + 1 ≤ b * y by omega); omega
      have h2 := (mul_cancel_le (a := p) (b := y * y) hbb).mp (by omega)
      omega
theorem Gt_scale {a1 a2 e u1 u2 x y : Int} (hx : 0 < x) (hy : 0 < y) (h1 : x * a1 = y * a2) (h2 : x * x * u1 = y * y * u2) : Gt a1 e u1 ↔ Gt a2 e u2 := by
  have k1 : 0 < a1 ↔ 0 < a2 := by
    rw [← pos_mul hx, ← pos_mul (a := a2) hy, h1]
  have hxx := Int.mul_pos hx hx
  have hyy := Int.mul_pos hy hy
  have e1 : x * x * (a1 * a1) = y * y * (a2 * a2) := by
    rw [show x * x * (a1 * a1) = (x * a1) * (x * a1) by grind, h1]; grind
  have e2 : x * x * (e * e * u1) = y * y * (e * e * u2) := by
    rw [show x * x * (e * e * u1) = e * e * (x * x * u1) by grind, h2]; grind
  have k2 : a1 * a1 < e * e * u1 ↔ a2 * a2 < e * e * u2 := by
    rw [← Int.mul_lt_mul_left hxx, ← Int.mul_lt_mul_left (b := a2 * a2) hyy, e1, e2]
  have k3 : e * e * u1 < a1 * a1 ↔ e * e * u2 < a2 * a2 := by
    rw [← Int.mul_lt_mul_left hxx, ← Int.mul_lt_mul_left (b := e * e * u2) hyy, e1, e2]
  unfold Gt Gp Gm
  rw [k1, k2, k3]
theorem Gt_mul {k a e u : Int} (hk : 0 < k) : Gt (k * a) (k * e) u ↔ Gt a e u := by
  have hkk := Int.mul_pos hk hk
  have e1 : k * a * (k * a) = k * k * (a * a) := by grind
  have e2 : k * e * (k * e) * u = k * k * (e * e * u) := by grind
  have k1 : 0 < k * a ↔ 0 < a := by
    have := Int.mul_lt_mul_left (b := 0) (c := a) hk
    rwa [Int.mul_zero] at this
  have k2 : k * e < 0 ↔ e < 0 := by
    have := Int.mul_lt_mul_left (b := e) (c := 0) hk
    rwa [Int.mul_zero] at this
  have k3 : 0 ≤ k * e ↔ 0 ≤ e := by omega
  unfold Gt Gp Gm
  rw [k1, k2, k3, e1, e2, Int.mul_lt_mul_left hkk, Int.mul_lt_mul_left hkk]
theorem Ge_scale {t1 b1 u1 t2 b2 u2 m s x y : Int} (hx : 0 < x) (hy : 0 < y) (h1 : x * t1 = y * t2) (h2 : x * b1 = y * b2) (h3 : x * x * u1 = y * y * u2) : Ge t1 b1 u1 m s ↔ Ge t2 b2 u2 m s := by
  have k1 : 0 < b1 ↔ 0 < b2 := by
    rw [← pos_mul hx, ← pos_mul (a := b2) hy, h2]
  have k2 : b1 < 0 ↔ b2 < 0 := by
    rw [← neg_mul' hx, ← neg_mul' (a := b2) hy, h2]
  have g1 : Gt (m * b1 - t1 * s) (-s) u1 ↔ Gt (m * b2 - t2 * s) (-s) u2 := Gt_scale hx hy (by
    rw [show x * (m * b1 - t1 * s) = m * (x * b1) - (x * t1) * s by grind, h1, h2]; grind) h3
  have g2 : Gt (t1 * s - m * b1) s u1 ↔ Gt (t2 * s - m * b2) s u2 := Gt_scale hx hy (by
    rw [show x * (t1 * s - m * b1) = (x * t1) * s - m * (x * b1) by grind, h1, h2]; grind) h3
  unfold Ge
  rw [k1, k2, g1, g2]
theorem sg_sq (b : Int) : sgI b * sgI b = 1 := by rcases sgI_cs b with e | e <;> rw [e] <;> rfl
theorem sg_mul_pos {b : Int} (hb : b ≠ 0) : 0 < b * sgI b := by
  unfold sgI
  split <;> omega
/-- the same order -/
theorem Ge_nf {t b u m s : Int} (hb : b ≠ 0) (hu : 0 ≤ u) (hs : 0 < s) : Ge (nf t b u).1 (nf t b u).2.1 (nf t b u).2.2 m s ↔ Ge t b u m s := by
  by_cases hsq : Sq u
  · obtain ⟨x, y, e1, e2, e3, e4, e5⟩ := nf_frac (t := t) hb hsq
    have hy : 0 < y := sg_pos (g := gN [t + rtI u, b]) (by have := gN_nn [t + rtI u, b]; omega) hb e2
    have hr := rtI_nn u
    have hru : rtI u * rtI u = u := hsq
    rw [e4]
    simp only
    have l1 : Ge x y 0 m s ↔ m * y ≤ x * s := by
      unfold Ge
      rw [Gt0 (.inr rfl), Gt0 (.inr rfl)]
      omega
    rw [l1]
    have sr : 0 ≤ s * rtI u := Int.mul_nonneg (Int.le_of_lt hs) hr
    have es : s * s * u = (s * rtI u) * (s * rtI u) := by conv => lhs; rw [← hru]
                                                          grind
    have el : m * b - t * s - s * rtI u = gF2 t b u * (m * y - x * s) := by
      rw [Int.mul_sub, show gF2 t b u * (m * y) = m * (gF2 t b u * y) by grind, ← e2, show gF2 t b u * (x * s) = (gF2 t b u * x) * s by grind, ← e1]
      grind
    have hgb : gF2 t b u * y = b := e2.symm
    generalize gF2 t b u = g at *
    generalize s * rtI u = q at *
    unfold Ge Gt Gp Gm
    rw [Int.neg_mul_neg, es]
    rcases (show 0 < b ∨ b < 0 by omega) with z | z
    · have hg : 0 < g := by
        rcases (show 0 < g ∨ g < 0 by omega) with v | v
        · exact v
        · have := Int.mul_neg_of_neg_of_pos v hy; omega
      have k : m * b - t * s ≤ q ↔ m * y ≤ x * s := by
        have := mul_cancel_le (a := m * y - x * s) (b := 0) hg
        rw [Int.mul_zero] at this
        omega
      rw [← k]
      constructor
      · intro h
        refine .inl ⟨z, fun w => ?_⟩
        rcases w with ⟨w, _⟩ | ⟨_, w1, w2⟩
        · omega
        · have := lt_sq (Int.le_of_lt w1) w2
          omega
      · rintro (⟨_, h⟩ | ⟨h, _⟩)
        · rcases (show m * b - t * s ≤ q ∨ q < m * b - t * s by omega) with v | v
          · exact v
          · exact absurd (.inr ⟨by omega, by omega, sq_lt sr v⟩) h
        · omega
    · have hg : g < 0 := by
        rcases (show 0 ≤ g ∨ g < 0 by omega) with v | v
        · have := Int.mul_nonneg v (Int.le_of_lt hy); omega
        · exact v
      have k : t * s - m * b ≤ -q ↔ m * y ≤ x * s := by
        have := mul_cancel_le (d := -g) (a := m * y - x * s) (b := 0) (by omega)
        rw [Int.mul_zero, Int.neg_mul, ← el] at this
        omega
      rw [← k]
      constructor
      · intro h
        refine .inr ⟨z, fun w => ?_⟩
        rcases w with ⟨_, w⟩ | ⟨w, _⟩
        · rcases w with w | w
          · omega
          · have := sq_le sr (show q ≤ -(t * s - m * b) by omega)
            rw [Int.neg_mul_neg] at this
            omega
        · omega
      · rintro (⟨h, _⟩ | ⟨_, h⟩)
        · omega
        · rcases (show t * s - m * b ≤ -q ∨ -q < t * s - m * b by omega) with v | v
          · exact v
          · refine absurd (.inl ⟨by omega, ?_⟩) h
            rcases (show 0 < t * s - m * b ∨ t * s - m * b ≤ 0 by omega) with w | w
            · exact .inl w
            · right
              have := sq_lt (a := -(t * s - m * b)) (by omega) (show -(t * s - m * b) < q by omega)
              rwa [Int.neg_mul_neg] at this
  · obtain ⟨f, s', l, e1, e2, e3, e4, e5, e6⟩ := nf_irr (t := t) hb hsq
    rw [e5]
    simp only
    have hd := disc e1 e2 e3
    have hg := gN_nn [b * b, 2 * t * b, t * t - u]
    have eg : gI3 t b u = (gN [b * b, 2 * t * b, t * t - u] : Int) * sgI b := rfl
    have hsg := sg_sq b
    generalize gI3 t b u = g at *
    generalize (gN [b * b, 2 * t * b, t * t - u] : Int) = n at *
    have hpos := sg_mul_pos hb
    generalize sgI b = o at *
    have en : n = g * o := by rw [eg, Int.mul_assoc, hsg, Int.mul_one]
    refine Ge_scale (x := n) (y := 2 * (b * o)) (by omega) (by omega) ?_ ?_ ?_
    · rw [en, show g * o * -s' = -(o * (g * s')) by grind, ← e2]; grind
    · rw [en, show g * o * (2 * f) = 2 * o * (g * f) by grind, ← e1]; grind
    · rw [en, show g * o * (g * o) * (s' * s' - 4 * f * l) = (o * o) * (g * g * (s' * s' - 4 * f * l)) by grind, hd, hsg, show 2 * (b * o) * (2 * (b * o)) * u = (o * o) * (2 * b * (2 * b) * u) by grind, hsg]
end Z
namespace Z
open PySem PySem.Spec PyProof.Rows L2
/-- what a normal form has -/
structure Nf (p : T3) : Prop where
  ne : p.2.1 ≠ 0
  ns : NS p.2.2
  neg : p.2.1 < 0 → 0 < p.2.2
  zero : p.1 = 0 → p.2.2 = 0 → p = (0, 1, 0)
theorem nf_Nf {t b u : Int} (hb : b ≠ 0) (hu : 0 ≤ u) : Nf (nf t b u) := by
  have hne := nf_ne (t := t) (u := u) hb
  by_cases hs : Sq u
  · obtain ⟨x, y, e1, e2, e3, e4, e5⟩ := nf_frac (t := t) hb hs
    have hy : 0 < y := sg_pos (g := gN [t + rtI u, b]) (by have := gN_nn [t + rtI u, b]; omega) hb e2
    have k1 : gN [x, y] = 1 := gN1 (l := [t + rtI u, b]) (g := gF2 t b u) (by simp only [List.map]; rw [← e1, ← e2]) (by unfold gF2; rw [abs_sg (gN_nn _)]; rfl) e3
    rw [e4] at hne ⊢
    refine ⟨hne, .inl rfl, fun h => ?_, fun h _ => ?_⟩
    · have : y < 0 := h
      omega
    · have hx : x = 0 := h
      subst hx
      have : gN [0, y] = y.natAbs := by unfold gN gF; simp
      rw [show y = 1 by omega]
  · obtain ⟨f, s', l, e1, e2, e3, e4, e5, e6⟩ := nf_irr (t := t) hb hs
    have hun := nf_un (t := t) hb hu
    rw [e5] at hne hun ⊢
    have hU : ¬ Sq (s' * s' - 4 * f * l) := fun h => by
      obtain ⟨k, hk⟩ := sq_iff.mp h
      have hd := disc e1 e2 e3
      rw [hk] at hd
      exact hs (sq_div (m := 2 * b) (x := gI3 t b u * k) (by omega) (by rw [← hd]; grind))
    have hU0 : s' * s' - 4 * f * l ≠ 0 := fun h => hU (by rw [h]; exact sq_0)
    have hun : 0 ≤ s' * s' - 4 * f * l := hun
    refine ⟨hne, .inr ⟨?_, hU⟩, fun _ => ?_, fun _ h => absurd h hU0⟩
    · show 0 < s' * s' - 4 * f * l; omega
    · show 0 < s' * s' - 4 * f * l; omega
def sgnV (p : T3) : Int := rsg p.1 1 p.2.2 * s3 p.2.1
def floorV (p : T3) : Int := if 0 < p.2.1 then (p.1 + rtI p.2.2).fdiv p.2.1 else (-p.1 - rtI p.2.2 - 1).fdiv (-p.2.1)
def belV (p q : T3) : Bool := decide (trs (p.1 * q.2.1 - q.1 * p.2.1) q.2.1 p.2.2 (-p.2.1) q.2.2 * s3 p.2.1 * s3 q.2.1 < 0)
abbrev GeP (p : T3) (m s : Int) : Prop := Ge p.1 p.2.1 p.2.2 m s
theorem rsg_cs {w f u : Int} (hu : NS u) : (Gt w f u ∧ ¬ Lt w f u ∧ rsg w f u = 1) ∨ (Lt w f u ∧ ¬ Gt w f u ∧ rsg w f u = -1) ∨ (¬ Gt w f u ∧ ¬ Lt w f u ∧ rsg w f u = 0) := by
  rcases Classical.em (Gt w f u) with h | h
  · exact .inl ⟨h, fun z => Lt_ng hu.nn z h, rsg_gt hu h⟩
  · rcases Classical.em (Lt w f u) with h' | h'
    · exact .inr (.inl ⟨h', h, rsg_lt hu h'⟩)
    · exact .inr (.inr ⟨h, h', rsg_z hu h h'⟩)
/-- v < m -/
theorem rsg_ge {p : T3} (hp : Nf p) (m : Int) : rsg (p.1 - m * p.2.1) 1 p.2.2 * s3 p.2.1 < 0 ↔ ¬ GeP p m 1 := by
  obtain ⟨T, B, U⟩ := p
  obtain ⟨h1, h2, h3, _⟩ := hp
  simp only at *
  unfold GeP Ge
  simp only [Int.mul_one]
  have hc := rsg_cs (w := T - m * B) (f := 1) h2
  have e : Gt (m * B - T) (-1) U ↔ Lt (T - m * B) 1 U := by
    unfold Lt
    rw [show -(T - m * B) = m * B - T by omega]
  rw [e]
  rcases s3_cs B with ⟨hB, eB⟩ | ⟨hB, eB⟩ | ⟨hB, eB⟩
  · rw [eB]
    rcases hc with ⟨a, b, c⟩ | ⟨a, b, c⟩ | ⟨a, b, c⟩ <;> rw [c] <;> simp [hB, b, a] <;> omega
  · exact absurd hB h1
  · rw [eB]
    rcases hc with ⟨a, b, c⟩ | ⟨a, b, c⟩ | ⟨a, b, c⟩ <;> rw [c] <;> simp [hB, b, a] <;> omega
theorem sgn_lt {p : T3} (hp : Nf p) : sgnV p < 0 ↔ ¬ GeP p 0 1 := by
  have := rsg_ge hp 0
  rwa [Int.zero_mul, Int.sub_zero] at this
theorem sgn_0 {p : T3} (hp : Nf p) (h : sgnV p = 0) : p = (0, 1, 0) := by
  unfold sgnV at h
  have h1 := s3_one hp.ne
  have h2 : rsg p.1 1 p.2.2 = 0 := by rcases h1 with e | e <;> rw [e] at h <;> omega
  have hn := hp.ns.nn
  unfold rsg at h2
  rcases s3_cs p.1 with ⟨a, e⟩ | ⟨a, e⟩ | ⟨a, e⟩ <;> rcases s3_cs p.2.2 with ⟨a', e'⟩ | ⟨a', e'⟩ | ⟨a', e'⟩ <;> rw [e, e', show s3 1 = 1 from rfl] at h2
  all_goals first
    | (exact hp.zero a a')
    | (exfalso; revert h2; simp; done)
    | (exfalso; omega)
    | (exfalso; revert h2; simp; split <;> simp)
theorem sgn_cs (p : T3) (hp : Nf p) : sgnV p = 1 ∨ sgnV p = 0 ∨ sgnV p = -1 := by
  unfold sgnV
  rcases s3_one hp.ne with e | e <;> rcases rsg_cs (w := p.1) (f := 1) hp.ns with ⟨_, _, c⟩ | ⟨_, _, c⟩ | ⟨_, _, c⟩ <;> rw [e, c] <;> decide
theorem Ge_s {t b u s : Int} (hs : 0 < s) : Ge t b u 0 s ↔ Ge t b u 0 1 := by
  unfold Ge
  have g1 := Gt_mul (k := s) (a := -t) (e := -1) (u := u) hs
  have g2 := Gt_mul (k := s) (a := t) (e := 1) (u := u) hs
  rw [show s * -t = 0 * b - t * s by grind, show s * -1 = -s by omega] at g1
  rw [show s * t = t * s - 0 * b by grind, Int.mul_one] at g2
  rw [show 0 * b - t * 1 = -t by omega, show t * 1 - 0 * b = t by omega, g1, g2]
/-- the sign as the law tells it -/
theorem sgn_law {t b u s : Int} (hb : b ≠ 0) (hu : 0 ≤ u) (hs : 0 < s) : sgnV (nf t b u) = if nf t b u = (0, 1, 0) then 0 else if nearV t b u s < 0 then -1 else 1 := by
  have hp := nf_Nf (t := t) hb hu
  have h1 : sgnV (nf t b u) < 0 ↔ nearV t b u s < 0 := by
    rw [sgn_lt hp]
    have e1 := Ge_nf (t := t) (m := 0) (s := 1) hb hu (by decide)
    have e2 := near_spec (t := t) (m := 0) hb hu hs
    unfold GeP
    rw [e1, ← Ge_s hs, e2]
    omega
  have h2 := sgn_cs _ hp
  split
  · rename_i h
    rw [h]
    decide
  · rename_i h
    have h3 : sgnV (nf t b u) ≠ 0 := fun z => h (sgn_0 hp z)
    split <;> omega
theorem eq_of_le {x y : Int} (h : ∀ m, m ≤ x ↔ m ≤ y) : x = y := by
  have h1 := (h x).mp (Int.le_refl _)
  have h2 := (h y).mpr (Int.le_refl _)
  omega
theorem floor_spec {p : T3} (hp : Nf p) (m : Int) : m ≤ floorV p ↔ GeP p m 1 := by
  obtain ⟨T, B, U⟩ := p
  obtain ⟨h1, h2, h3, _⟩ := hp
  have hU := h2.nn
  obtain ⟨r1, r2⟩ := rtI_spec hU
  have r0 := rtI_nn U
  unfold floorV GeP Ge Gt Gp Gm
  simp only at *
  simp only [Int.mul_one, Int.one_mul, show (-1 : Int) * -1 = 1 from rfl]
  rcases (show 0 < B ∨ B < 0 by omega) with z | z
  · rw [if_pos z, le_fdv z]
    generalize rtI U = R at *
    generalize m * B = k at *
    constructor
    · intro h
      refine .inl ⟨z, ?_⟩
      rcases (show k - T ≤ 0 ∨ 0 < k - T by omega) with v | v
      · omega
      · have := sq_le (Int.le_of_lt v) (show k - T ≤ R by omega)
        omega
    · rintro (⟨_, h⟩ | ⟨h, _⟩)
      · rcases (show k - T ≤ R ∨ R < k - T by omega) with v | v
        · omega
        · have := sq_le (a := R + 1) (by omega) (show R + 1 ≤ k - T by omega)
          omega
      · omega
  · rw [if_neg (by omega), le_fdv (by omega)]
    have hns : rtI U * rtI U ≠ U := by
      rcases h2 with e | ⟨_, e⟩
      · have := h3 z; omega
      · exact e
    generalize rtI U = R at *
    rw [Int.mul_neg]
    generalize m * B = k at *
    have en : (T - k) * (T - k) = (k - T) * (k - T) := by grind
    rw [en]
    constructor
    · intro h
      refine .inr ⟨z, ?_⟩
      have := sq_le (a := R + 1) (by omega) (show R + 1 ≤ k - T by omega)
      omega
    · rintro (⟨h, _⟩ | ⟨_, h⟩)
      · omega
      · have h5 : T - k ≤ 0 ∧ U ≤ (k - T) * (k - T) := by omega
        have := lt_sq (a := R) (b := k - T) (by omega) (by omega)
        omega
theorem floor_law {t b u : Int} (hb : b ≠ 0) (hu : 0 ≤ u) : floorV (nf t b u) = nearV t b u 1 :=
  eq_of_le fun m => by
    rw [floor_spec (nf_Nf hb hu), ← near_spec hb hu (by decide)]
    exact Ge_nf hb hu (by decide)
/-- below a whole number -/
theorem bel_int {p : T3} (hp : Nf p) (n : Int) : belV p (n, 1, 0) = decide (floorV p < n) := by
  unfold belV
  simp only
  rw [decide_eq_decide]
  have e : trs (p.1 * 1 - n * p.2.1) 1 p.2.2 (-p.2.1) 0 = rsg (p.1 - n * p.2.1) 1 p.2.2 := by
    unfold trs
    rw [s3_zero, Int.mul_zero, Int.mul_zero, if_pos (Int.le_refl 0), Int.mul_one]
    split
    · rename_i h; exact h.symm
    · rfl
  rw [e, show s3 1 = 1 from rfl, Int.mul_one, rsg_ge hp, ← floor_spec hp]
  omega
theorem bel_self {p : T3} (hp : Nf p) : belV p p = false := by
  obtain ⟨T, B, U⟩ := p
  have hU : 0 ≤ U := hp.ns.nn
  unfold belV
  simp only
  rw [decide_eq_false_iff_not]
  have e : trs (T * B - T * B) B U (-B) U = 0 := by
    rw [Int.sub_self]
    have e0 : rsg 0 B U = s3 B * s3 U := by
      unfold rsg
      rw [s3_zero, Int.zero_mul, if_pos (Int.le_refl 0), if_pos rfl]
    have e1 : 0 * 0 + B * B * U - -B * -B * U = 0 := by rw [Int.neg_mul_neg]; omega
    unfold trs
    rw [e0, e1, s3_n]
    rcases s3_cs B with ⟨a, e⟩ | ⟨a, e⟩ | ⟨a, e⟩ <;> rcases s3_cs U with ⟨a', e'⟩ | ⟨a', e'⟩ | ⟨a', e'⟩ <;> rw [e, e'] <;> simp [rsg, s3_zero]
  rw [e]
  simp
theorem Lt_mul {k a e u : Int} (hk : 0 < k) : Lt (k * a) (k * e) u ↔ Lt a e u := by
  unfold Lt
  rw [show -(k * a) = k * -a by grind, show -(k * e) = k * -e by grind]
  exact Gt_mul hk
theorem s3_self {x : Int} (h : x ≠ 0) : 0 < s3 x * x := by
  rcases s3_cs x with ⟨a, e⟩ | ⟨a, e⟩ | ⟨a, e⟩ <;> rw [e] <;> omega
theorem s3_s3 {x : Int} (h : x ≠ 0) : s3 x * s3 x = 1 := by
  rcases s3_one h with e | e <;> rw [e] <;> rfl
/-- apart -/
theorem bel_sep {p q : T3} {n s : Int} (hp : Nf p) (hq : Nf q) (hs : 0 < s) (h1 : ¬ GeP p n s) (h2 : GeP q n s) : belV p q = true ∧ belV q p = false := by
  obtain ⟨T, B, U⟩ := p
  obtain ⟨T', l, W⟩ := q
  obtain ⟨b0, bU, _, _⟩ := hp
  obtain ⟨l0, lW, _, _⟩ := hq
  unfold GeP at h1 h2
  simp only at *
  have E1 : Lt (s3 B * (T * s - n * B)) (s3 B * s) U := by
    unfold Ge at h1
    unfold Lt
    rcases s3_cs B with ⟨a, e⟩ | ⟨a, e⟩ | ⟨a, e⟩
    · rw [e, Int.one_mul, Int.one_mul, show -(T * s - n * B) = n * B - T * s by omega]
      rcases Classical.em (Gt (n * B - T * s) (-s) U) with z | z
      · exact z
      · exact absurd (.inl ⟨a, z⟩) h1
    · exact absurd a b0
    · rw [e, show -(-1 * (T * s - n * B)) = T * s - n * B by omega, show -(-1 * s) = s by omega]
      rcases Classical.em (Gt (T * s - n * B) s U) with z | z
      · exact z
      · exact absurd (.inr ⟨a, z⟩) h1
  have E2 : ¬ Gt (s3 l * (n * l - T' * s)) (s3 l * -s) W := by
    unfold Ge at h2
    rcases s3_cs l with ⟨a, e⟩ | ⟨a, e⟩ | ⟨a, e⟩
    · rw [e, Int.one_mul, Int.one_mul]
      rcases h2 with ⟨_, z⟩ | ⟨z, _⟩
      · exact z
      · omega
    · exact absurd a l0
    · rw [e, show -1 * (n * l - T' * s) = T' * s - n * l by omega, show -1 * -s = s by omega]
      rcases h2 with ⟨z, _⟩ | ⟨_, z⟩
      · omega
      · exact z
  rw [← Lt_mul (s3_self l0)] at E1
  rw [← Gt_mul (s3_self b0)] at E2
  have k0 : s3 B * s3 l * s ≠ 0 := by
    have := s3_one b0
    have := s3_one l0
    refine Int.mul_ne_zero (Int.mul_ne_zero ?_ ?_) (by omega) <;> omega
  have sg : s3 (s3 B * s3 l * s) = s3 B * s3 l := by
    rw [s3_mul, s3_mul, s3_pos hs, Int.mul_one]
    rcases s3_one b0 with e | e <;> rcases s3_one l0 with e' | e' <;> rw [e, e'] <;> rfl
  have q1 := s3_s3 b0
  have q2 := s3_s3 l0
  have r1 := trs_lt bU lW.nn (Lt_ng bU.nn E1) E2 (.inl E1)
  have r2 := trs_lt lW bU.nn E2 (Lt_ng bU.nn E1) (.inr E1)
  rw [show s3 l * l * (s3 B * (T * s - n * B)) + s3 B * B * (s3 l * (n * l - T' * s)) = s3 B * s3 l * s * (T * l - T' * B) by grind,
    show s3 l * l * (s3 B * s) = s3 B * s3 l * s * l by grind, show s3 B * B * (s3 l * -s) = s3 B * s3 l * s * -B by grind, trs_mul k0, sg] at r1
  rw [show s3 B * B * (s3 l * (n * l - T' * s)) + s3 l * l * (s3 B * (T * s - n * B)) = (-(s3 B * s3 l * s)) * (T' * B - T * l) by grind,
    show s3 l * l * (s3 B * s) = (-(s3 B * s3 l * s)) * -l by grind, show s3 B * B * (s3 l * -s) = (-(s3 B * s3 l * s)) * B by grind, trs_mul (by omega), s3_n, sg] at r2
  unfold belV
  simp only
  refine ⟨?_, ?_⟩
  · rw [decide_eq_true_eq, Int.mul_assoc, Int.mul_comm]
    omega
  · rw [decide_eq_false_iff_not, Int.mul_assoc, Int.mul_comm (s3 l) (s3 B), Int.mul_comm]
    rw [Int.neg_mul] at r2
    omega
/-- as the law tells it -/
theorem bel_law {t b u t' b' u' s : Int} (hb : b ≠ 0) (hu : 0 ≤ u) (hb' : b' ≠ 0) (hu' : 0 ≤ u') (hs : 0 < s) (h : nearV t b u s < nearV t' b' u' s) : belV (nf t b u) (nf t' b' u') = true ∧ belV (nf t' b' u') (nf t b u) = false := by
  refine bel_sep (n := nearV t' b' u' s) (s := s) (nf_Nf hb hu) (nf_Nf hb' hu') hs ?_ ?_
  · unfold GeP
    rw [Ge_nf hb hu hs, near_spec hb hu hs]
    omega
  · unfold GeP
    rw [Ge_nf hb' hu' hs, near_spec hb' hu' hs]
    exact Int.le_refl _
theorem nf_int (n : Int) : nf n 1 0 = (n, 1, 0) := by
  obtain ⟨x, y, e1, e2, e3, e4, _⟩ := nf_frac (t := n) (b := 1) (u := 0) (by decide) sq_0
  have hg : gF2 n 1 0 = 1 := by
    unfold gF2 gN gF
    rw [rtI_0]
    simp
    rfl
  rw [hg, rtI_0] at e1
  rw [hg] at e2
  rw [e4]
  have hx : x = n := by omega
  have hy : y = 1 := by omega
  rw [hx, hy]
/-! sizes -/
theorem Ib.fdv {n : Nat} {z d : Int} (h : Ib n z) (hd : 0 < d) : Ib n (z.fdiv d) := by
  refine h.le ?_
  rw [Int.fdiv_eq_ediv_of_nonneg _ (by omega)]
  exact Int.natAbs_ediv_le_natAbs z d
theorem near_ib {t b u s : Int} {n k m : Nat} (hb : b ≠ 0) (hu : 0 ≤ u) (h1 : Ib n (t * b * s)) (h2 : Ib (2 * k) (u * b * b * s * s)) (hn : n ≤ m) (hk : k ≤ m) : Ib (m + 2) (nearV t b u s) := by
  have hX : 0 ≤ u * b * b * s * s := by
    rw [show u * b * b * s * s = (b * s) * (b * s) * u by grind]
    exact Int.mul_nonneg (sq_nn _) hu
  have hr := (h2.rt2 hX).mono hk
  have h1 := h1.mono hn
  have hbb := sq_pos hb
  unfold nearV
  split
  · exact ((h1.add hr).mono (by omega)).fdv hbb
  · refine Ib.fdv ?_ hbb
    refine ((h1.sub hr).sub (j := (if rtI (u * b * b * s * s) * rtI (u * b * b * s * s) = u * b * b * s * s then (0 : Int) else 1)) ?_)
    split
    · exact (Ib.c (i := 0) 1).mono (by omega)
    · exact (Ib.c (i := 1) 1).mono (by omega)
theorem nf_ib2 {t b u : Int} (hb : b ≠ 0) (hu : 0 ≤ u) (k1 : Ib 170 t) (k2 : Ib 62 b) (k3 : Ib 110 u) : Ib3 300 (nf t b u) := by
  by_cases hs : Sq u
  · obtain ⟨x, y, e1, e2, e3, e4, e5⟩ := nf_frac (t := t) hb hs
    rw [e4]
    exact ⟨((Ib.add (n := 170) k1 ((k3.rt hu).mono (by decide))).of_mul e1 e3).mono (by decide), (k2.of_mul e2 e3).mono (by decide), Ib.c (i := 0) 300⟩
  · obtain ⟨f, s, l, e1, e2, e3, e4, e5, e6⟩ := nf_irr (t := t) hb hs
    rw [e5]
    refine ⟨(((((Ib.c 2).mul k1).mul k2).of_mul e2 e4).neg).mono (by decide), ((Ib.c 2).mul ((k2.mul k2).of_mul e1 e4)).mono (by decide), ?_⟩
    exact (((((Ib.c 2).mul k2).mul ((Ib.c 2).mul k2)).mul k3).of_mul (disc e1 e2 e3).symm (Int.mul_ne_zero e4 e4)).mono (by decide)
theorem eqvT3 {M : Sto} {s t : T3} {φ : D → Prop} (h : φ (.bl (decide (s = t)))) : eqD M (.tup (tL3 s)) (.tup (tL3 t)) φ := by
  unfold eqD
  show eqvD M _ _ fun b => φ (.bl b)
  refine ⟨.tuple [.int s.1, .int s.2.1, .int s.2.2], .tuple [.int t.1, .int t.2.1, .int t.2.2], rfl, rfl, rfl, rfl, ?_⟩
  have : PyData.eqv (.tuple [.int s.1, .int s.2.1, .int s.2.2]) (.tuple [.int t.1, .int t.2.1, .int t.2.2]) = decide (s = t) := by
    obtain ⟨a, b, c⟩ := s
    obtain ⟨e, f, g⟩ := t
    simp only [PyData.eqv, PyData.eqvAll, Prod.mk.injEq]
    rw [Bool.eq_iff_iff]
    simp
  rw [this]
  exact h
end Z
namespace Z
open PySem PySem.Spec PyProof.Rows L2
/-! ### numbers led by tables -/
def upL (m : T4) (p : T3) : Int := m.1 * p.1 + m.2.1 * p.2.1
def loL (m : T4) (p : T3) : Int := m.2.2.1 * p.1 + m.2.2.2 * p.2.1
def faL (m : T4) (p : T3) : Int := m.1 * loL m p - upL m p * m.2.2.1
def reL (m : T4) (p : T3) : Int := loL m p * loL m p - m.2.2.1 * m.2.2.1 * p.2.2
def ledR (m : T4) (p : T3) : T3 := (s3 (faL m p) * (upL m p * loL m p - m.1 * m.2.2.1 * p.2.2), s3 (faL m p) * reL m p, faL m p * faL m p * p.2.2)
def scP (x : Int) (p : T3) : T3 := (x * p.1, x * p.2.1, x * x * p.2.2)
theorem faL_det (m : T4) (p : T3) : faL m p = det4 m * p.2.1 := by
  unfold faL upL loL det4
  grind
theorem ledR_sc {x : Int} (hx : 0 < x) (m : T4) (p : T3) : ledR m (scP x p) = scP (x * x) (ledR m p) := by
  have e1 : upL m (scP x p) = x * upL m p := by unfold upL scP; grind
  have e2 : loL m (scP x p) = x * loL m p := by unfold loL scP; grind
  have e3 : faL m (scP x p) = x * faL m p := by unfold faL; rw [e1, e2]; grind
  have e4 : reL m (scP x p) = x * x * reL m p := by unfold reL; rw [e2]; unfold scP; grind
  unfold ledR
  rw [e1, e2, e3, e4, s3_mul, s3_pos hx, Int.one_mul]
  unfold scP
  simp only [Prod.mk.injEq]
  refine ⟨by grind, by grind, by grind⟩
theorem abs_s3 {x : Int} : s3 x * x = x.natAbs := by
  rcases s3_cs x with ⟨a, e⟩ | ⟨a, e⟩ | ⟨a, e⟩ <;> rw [e] <;> omega
theorem s3_idem (x : Int) : s3 (s3 x) = s3 x := by
  rcases s3_cs x with ⟨a, e⟩ | ⟨a, e⟩ | ⟨a, e⟩ <;> rw [e] <;> rfl
/-- led twice -/
theorem ledR_comp {m n : T4} {p : T3} (hf : faL n p ≠ 0) (hr : reL n p ≠ 0) : ledR m (ledR n p) = scP (s3 (reL n p) * reL n p) (ledR (mul4 m n) p) := by
  obtain ⟨T, B, U⟩ := p
  obtain ⟨a, b, c, d⟩ := n
  obtain ⟨e, f, g, h⟩ := m
  have u0 : upL (a, b, c, d) (T, B, U) = a * T + b * B := rfl
  have l0 : loL (a, b, c, d) (T, B, U) = c * T + d * B := rfl
  have F0 : faL (a, b, c, d) (T, B, U) = a * (c * T + d * B) - (a * T + b * B) * c := rfl
  have r0 : reL (a, b, c, d) (T, B, U) = (c * T + d * B) * (c * T + d * B) - c * c * U := rfl
  have u2 : upL (mul4 (e, f, g, h) (a, b, c, d)) (T, B, U) = e * (a * T + b * B) + f * (c * T + d * B) := by unfold upL mul4; grind
  have l2 : loL (mul4 (e, f, g, h) (a, b, c, d)) (T, B, U) = g * (a * T + b * B) + h * (c * T + d * B) := by unfold loL mul4; grind
  have s2 := s3_s3 hf
  unfold ledR
  have F2 : faL (mul4 (e, f, g, h) (a, b, c, d)) (T, B, U) = (e * h - f * g) * faL (a, b, c, d) (T, B, U) := by
    unfold faL; rw [u2, l2, u0, l0]; unfold mul4; grind
  have r2 : reL (mul4 (e, f, g, h) (a, b, c, d)) (T, B, U) = (g * (a * T + b * B) + h * (c * T + d * B)) * (g * (a * T + b * B) + h * (c * T + d * B)) - (g * a + h * c) * (g * a + h * c) * U := by
    unfold reL; rw [l2]; rfl
  rw [F2, r2, u2, l2, u0, l0]
  rw [F0] at s2 hf
  rw [r0] at hr
  rw [F0, r0]
  generalize a * T + b * B = u at *
  generalize c * T + d * B = l at *
  generalize hF : a * l - u * c = F at *
  generalize hR : l * l - c * c * U = r at *
  generalize ho : s3 F = o at *
  have U3 : upL (e, f, g, h) (o * (u * l - a * c * U), o * r, F * F * U) = o * (e * (u * l - a * c * U) + f * r) := by unfold upL; grind
  have L3 : loL (e, f, g, h) (o * (u * l - a * c * U), o * r, F * F * U) = o * (g * (u * l - a * c * U) + h * r) := by unfold loL; grind
  have F3 : faL (e, f, g, h) (o * (u * l - a * c * U), o * r, F * F * U) = (e * h - f * g) * (o * r) := by unfold faL; rw [U3, L3]; grind
  have R3 : reL (e, f, g, h) (o * (u * l - a * c * U), o * r, F * F * U) = r * ((g * u + h * l) * (g * u + h * l) - (g * a + h * c) * (g * a + h * c) * U) := by
    unfold reL
    rw [L3, show o * (g * (u * l - a * c * U) + h * r) * (o * (g * (u * l - a * c * U) + h * r)) = (o * o) * ((g * (u * l - a * c * U) + h * r) * (g * (u * l - a * c * U) + h * r)) by grind, s2]
    subst hF hR
    simp only
    grind
  have P3 : upL (e, f, g, h) (o * (u * l - a * c * U), o * r, F * F * U) * loL (e, f, g, h) (o * (u * l - a * c * U), o * r, F * F * U) - e * g * (F * F * U) = r * ((e * u + f * l) * (g * u + h * l) - (e * a + f * c) * (g * a + h * c) * U) := by
    rw [U3, L3, show o * (e * (u * l - a * c * U) + f * r) * (o * (g * (u * l - a * c * U) + h * r)) = (o * o) * ((e * (u * l - a * c * U) + f * r) * (g * (u * l - a * c * U) + h * r)) by grind, s2]
    subst hF hR
    grind
  rw [F3, R3]
  simp only [show (e, f, g, h).1 = e from rfl, show (e, f, g, h).2.2.1 = g from rfl]
  rw [P3]
  have q1 : s3 ((e * h - f * g) * (o * r)) = s3 (e * h - f * g) * (o * s3 r) := by rw [s3_mul, s3_mul, ← ho, s3_idem]
  have q2 : s3 ((e * h - f * g) * F) = s3 (e * h - f * g) * o := by rw [s3_mul, ho]
  have q3 := s3_s3 hr
  rw [q1, q2]
  have m1 : (mul4 (e, f, g, h) (a, b, c, d)).1 = e * a + f * c := rfl
  have m2 : (mul4 (e, f, g, h) (a, b, c, d)).2.2.1 = g * a + h * c := rfl
  rw [m1, m2]
  generalize s3 (e * h - f * g) = y
  generalize s3 r = w at *
  generalize e * h - f * g = dd
  unfold scP
  simp only [Prod.mk.injEq]
  refine ⟨by grind, by grind, ?_⟩
  rw [show dd * (o * r) * (dd * (o * r)) * (F * F * U) = (o * o) * (dd * dd * r * r * F * F * U) by grind, s2,
    show w * r * (w * r) * (dd * F * (dd * F) * U) = (w * w) * (dd * dd * r * r * F * F * U) by grind, q3]
/-- led back -/
theorem ledR_id {D : Int} {p : T3} (hD : D ≠ 0) : ledR (D, 0, 0, D) p = scP (D * D * (s3 p.2.1 * p.2.1)) p := by
  obtain ⟨T, B, U⟩ := p
  have u0 : upL (D, 0, 0, D) (T, B, U) = D * T := by unfold upL; simp
  have l0 : loL (D, 0, 0, D) (T, B, U) = D * B := by unfold loL; simp
  have F0 : faL (D, 0, 0, D) (T, B, U) = D * D * B := by unfold faL; rw [u0, l0]; simp; grind
  have r0 : reL (D, 0, 0, D) (T, B, U) = D * B * (D * B) := by unfold reL; rw [l0]; simp
  unfold ledR
  rw [u0, l0, F0, r0, s3_mul, s3_pos (sq_pos hD), Int.one_mul]
  unfold scP
  simp only [Prod.mk.injEq]
  refine ⟨?_, by grind, ?_⟩
  · simp only [Int.mul_zero, Int.zero_mul, Int.sub_zero]
    grind
  · rcases (show B = 0 ∨ B ≠ 0 by omega) with z | z
    · subst z; simp
    · rw [show D * D * (s3 B * B) * (D * D * (s3 B * B)) * U = (s3 B * s3 B) * (D * D * B * (D * D * B) * U) by grind, s3_s3 z, Int.one_mul]
theorem reL_ne {m : T4} {p : T3} (hd : det4 m ≠ 0) (hb : p.2.1 ≠ 0) (hu : 0 < p.2.2) (hs : ¬ Sq p.2.2) : reL m p ≠ 0 := by
  intro h
  unfold reL at h
  rcases (show m.2.2.1 = 0 ∨ m.2.2.1 ≠ 0 by omega) with z | z
  · rw [z] at h
    simp only [Int.zero_mul, Int.sub_zero] at h
    have hl : loL m p = 0 := by rcases Int.mul_eq_zero.mp h with v | v <;> exact v
    have hf := faL_det m p
    unfold faL at hf
    rw [hl, z, Int.mul_zero, Int.mul_zero] at hf
    exact Int.mul_ne_zero hd hb (by omega)
  · exact hs (sq_div (m := m.2.2.1) (x := loL m p) z (by omega))
/-- the same value -/
def Eqv (p q : T3) : Prop := ∃ x y : Int, 0 < x ∧ 0 < y ∧ scP x p = scP y q
theorem nf_sc {p : T3} {x : Int} (hx : 0 < x) (hb : p.2.1 ≠ 0) (hu : 0 ≤ p.2.2) : nf (scP x p).1 (scP x p).2.1 (scP x p).2.2 = nf p.1 p.2.1 p.2.2 := nf_scale hb hx hu
abbrev nfP (p : T3) : T3 := nf p.1 p.2.1 p.2.2
theorem nf_eqv {p q : T3} (h : Eqv p q) (hb : p.2.1 ≠ 0) (hu : 0 ≤ p.2.2) (hb' : q.2.1 ≠ 0) (hu' : 0 ≤ q.2.2) : nfP p = nfP q := by
  obtain ⟨x, y, hx, hy, e⟩ := h
  unfold nfP
  rw [← nf_sc hx hb hu, e, nf_sc hy hb' hu']
theorem Eqv.led {p q : T3} (h : Eqv p q) (m : T4) : Eqv (ledR m p) (ledR m q) := by
  obtain ⟨x, y, hx, hy, e⟩ := h
  exact ⟨x * x, y * y, Int.mul_pos hx hx, Int.mul_pos hy hy, by rw [← ledR_sc hx, ← ledR_sc hy, e]⟩
theorem Eqv.sc {p : T3} {x : Int} (hx : 0 < x) : Eqv (scP x p) p := ⟨1, x, by decide, hx, by unfold scP; simp⟩
theorem Eqv.symm {p q : T3} (h : Eqv p q) : Eqv q p := by
  obtain ⟨x, y, hx, hy, e⟩ := h
  exact ⟨y, x, hy, hx, e.symm⟩
theorem scP_scP (x y : Int) (p : T3) : scP x (scP y p) = scP (x * y) p := by
  unfold scP
  simp only [Prod.mk.injEq]
  refine ⟨by grind, by grind, by grind⟩
theorem Eqv.trans {p q r : T3} (h : Eqv p q) (k : Eqv q r) : Eqv p r := by
  obtain ⟨x, y, hx, hy, e⟩ := h
  obtain ⟨x', y', hx', hy', e'⟩ := k
  refine ⟨x' * x, y * y', Int.mul_pos hx' hx, Int.mul_pos hy hy', ?_⟩
  rw [← scP_scP, e, scP_scP, Int.mul_comm, ← scP_scP, e', scP_scP]
/-- the normal form has the same value (no square) -/
theorem nf_Eqv {p : T3} (hb : p.2.1 ≠ 0) (hs : ¬ Sq p.2.2) : Eqv (nfP p) p := by
  obtain ⟨t, b, u⟩ := p
  obtain ⟨f, s', l, e1, e2, e3, e4, e5, e6⟩ := nf_irr (t := t) hb hs
  unfold nfP
  simp only at *
  rw [e5]
  have hd := disc e1 e2 e3
  have hg := gN_nn [b * b, 2 * t * b, t * t - u]
  have eg : gI3 t b u = (gN [b * b, 2 * t * b, t * t - u] : Int) * sgI b := rfl
  have hsg := sg_sq b
  generalize gI3 t b u = g at *
  generalize (gN [b * b, 2 * t * b, t * t - u] : Int) = n at *
  have hpos := sg_mul_pos hb
  generalize sgI b = o at *
  have en : n = g * o := by rw [eg, Int.mul_assoc, hsg, Int.mul_one]
  refine ⟨n, 2 * (b * o), by omega, by omega, ?_⟩
  unfold scP
  simp only [Prod.mk.injEq]
  refine ⟨?_, ?_, ?_⟩
  · rw [en, show g * o * -s' = -(o * (g * s')) by grind, ← e2]; grind
  · rw [en, show g * o * (2 * f) = 2 * o * (g * f) by grind, ← e1]; grind
  · rw [en, show g * o * (g * o) * (s' * s' - 4 * f * l) = (o * o) * (g * g * (s' * s' - 4 * f * l)) by grind, hd, hsg, show 2 * (b * o) * (2 * (b * o)) * u = (o * o) * (2 * b * (2 * b) * u) by grind, hsg]
/-- what led gives has a bottom, its under is no square -/
structure Irr (p : T3) : Prop where
  ne : p.2.1 ≠ 0
  pos : 0 < p.2.2
  ns : ¬ Sq p.2.2
theorem Irr.led {p : T3} (h : Irr p) {m : T4} (hd : det4 m ≠ 0) : Irr (ledR m p) := by
  have hf : faL m p ≠ 0 := by rw [faL_det]; exact Int.mul_ne_zero hd h.ne
  have hr := reL_ne hd h.ne h.pos h.ns
  have ho := s3_s3 hf
  refine ⟨fun z => ?_, ?_, fun z => h.ns ((sq_mul hf).mp z)⟩
  · have z : s3 (faL m p) * reL m p = 0 := z
    rcases Int.mul_eq_zero.mp z with v | v
    · rw [v] at ho; omega
    · exact hr v
  · exact Int.mul_pos (sq_pos hf) h.pos
theorem Irr.nf {p : T3} (h : Irr p) : Irr (nfP p) := by
  have hn := nf_Nf (t := p.1) h.ne (Int.le_of_lt h.pos)
  obtain ⟨x, y, hx, hy, e⟩ := nf_Eqv h.ne h.ns
  have e3 : x * x * (nfP p).2.2 = y * y * p.2.2 := congrArg (fun z : T3 => z.2.2) e
  have hp := Int.mul_pos (Int.mul_pos hy hy) h.pos
  have h0 : 0 < (nfP p).2.2 := by
    have := hn.ns.nn
    rcases (show (nfP p).2.2 = 0 ∨ 0 < (nfP p).2.2 by unfold nfP; omega) with v | v
    · rw [v] at e3; omega
    · exact v
  refine ⟨hn.ne, h0, ?_⟩
  rcases hn.ns with v | ⟨_, v⟩
  · have h0 : 0 < (Z.nf p.1 p.2.1 p.2.2).2.2 := h0
    omega
  · exact v
/-- the whole of what led answers, read from the whole of the number -/
def ledV (m : T4) (p : T3) : T3 := nfP (ledR m p)
theorem led_led {m n : T4} {p : T3} (h : Irr p) (hm : det4 m ≠ 0) (hn : det4 n ≠ 0) : ledV m (ledV n p) = ledV (mul4 m n) p := by
  have hf : faL n p ≠ 0 := by rw [faL_det]; exact Int.mul_ne_zero hn h.ne
  have hr := reL_ne hn h.ne h.pos h.ns
  have i1 := h.led hn
  have i2 := i1.nf
  have i3 := i2.led hm
  have i4 := h.led (m := mul4 m n) (by rw [det_mul]; exact Int.mul_ne_zero hm hn)
  unfold ledV
  refine nf_eqv ?_ i3.ne (Int.le_of_lt i3.pos) i4.ne (Int.le_of_lt i4.pos)
  refine ((nf_Eqv i1.ne i1.ns).led m).trans ?_
  rw [ledR_comp hf hr]
  exact Eqv.sc (s3_self hr)
def adj (m : T4) : T4 := (m.2.2.2, -m.2.1, -m.2.2.1, m.1)
theorem adj_mul (m : T4) : mul4 (adj m) m = (det4 m, 0, 0, det4 m) := by
  unfold mul4 adj det4
  simp only [Prod.mk.injEq]
  refine ⟨by grind, by grind, by grind, by grind⟩
theorem det_adj (m : T4) : det4 (adj m) = det4 m := by unfold det4 adj; grind
theorem led_back {m : T4} {p : T3} (h : Irr p) (hm : det4 m ≠ 0) (hp : nfP p = p) : ledV (adj m) (ledV m p) = p := by
  rw [led_led h (by rw [det_adj]; exact hm) hm, adj_mul]
  unfold ledV
  rw [ledR_id hm]
  have : 0 < det4 m * det4 m * (s3 p.2.1 * p.2.1) := Int.mul_pos (sq_pos hm) (s3_self h.ne)
  conv => rhs; rw [← hp]
  exact nf_sc this h.ne (Int.le_of_lt h.pos)
/-! fractions -/
theorem nf_sg {t b g : Int} (hb : b ≠ 0) (hg : g ≠ 0) : nf (g * t) (g * b) 0 = nf t b 0 := by
  have key : ∀ t b : Int, b ≠ 0 → nf (-t) (-b) 0 = nf t b 0 := fun t b hb => by
    obtain ⟨x, y, e1, e2, e3, e4, _⟩ := nf_frac (t := t) hb sq_0
    obtain ⟨x', y', f1, f2, f3, f4, _⟩ := nf_frac (t := -t) (b := -b) (by omega) sq_0
    have eg : gF2 (-t) (-b) 0 = -gF2 t b 0 := by
      unfold gF2
      rw [rtI_0, Int.add_zero, Int.add_zero]
      have e : gN [-t, -b] = gN [t, b] := by unfold gN gF; simp only [List.foldl, Int.natAbs_neg]
      have e' : sgI (-b) = -sgI b := by unfold sgI; split <;> split <;> omega
      rw [e, e', Int.mul_neg]
    rw [rtI_0, Int.add_zero] at e1 f1
    rw [eg] at f1 f2 f3
    have g1 : x' = x := Int.eq_of_mul_eq_mul_left f3 (by rw [← f1, e1]; grind)
    have g2 : y' = y := Int.eq_of_mul_eq_mul_left f3 (by rw [← f2]; conv => lhs; rw [e2]
                                                         grind)
    rw [e4, f4, g1, g2]
  rcases (show 0 < g ∨ g < 0 by omega) with h | h
  · have := nf_scale (t := t) (u := 0) hb h (Int.le_refl 0)
    rwa [Int.mul_zero] at this
  · have := nf_scale (t := -t) (b := -b) (u := 0) (m := -g) (by omega) (by omega) (Int.le_refl 0)
    rw [Int.mul_zero, Int.neg_mul_neg, Int.neg_mul_neg, key t b hb] at this
    exact this
def frV (m : T4) (p : T3) : T3 := nf (upL m p) (loL m p) 0
theorem fr_of {t b : Int} (hb : b ≠ 0) : ∃ g : Int, g ≠ 0 ∧ t = g * (nf t b 0).1 ∧ b = g * (nf t b 0).2.1 ∧ (nf t b 0).2.2 = 0 := by
  obtain ⟨x, y, e1, e2, e3, e4, _⟩ := nf_frac (t := t) hb sq_0
  rw [rtI_0, Int.add_zero] at e1
  rw [e4]
  exact ⟨_, e3, e1, e2, rfl⟩
theorem up_mul (m n : T4) (p : T3) (u : Int) : upL m (upL n p, loL n p, u) = upL (mul4 m n) p ∧ loL m (upL n p, loL n p, u) = loL (mul4 m n) p := by
  unfold upL loL mul4
  exact ⟨by grind, by grind⟩
theorem up_sc {m : T4} {p q : T3} {g : Int} (h1 : p.1 = g * q.1) (h2 : p.2.1 = g * q.2.1) : upL m p = g * upL m q ∧ loL m p = g * loL m q := by
  unfold upL loL
  rw [h1, h2]
  exact ⟨by grind, by grind⟩
/-- led twice, fractions -/
theorem fr_fr {m n : T4} {p : T3} (hl : loL n p ≠ 0) : (loL m (frV n p) = 0 ↔ loL (mul4 m n) p = 0) ∧ (loL (mul4 m n) p ≠ 0 → frV m (frV n p) = frV (mul4 m n) p) := by
  obtain ⟨g, hg, e1, e2, _⟩ := fr_of (t := upL n p) hl
  obtain ⟨k1, k2⟩ := up_sc (m := m) (p := (upL n p, loL n p, 0)) (q := frV n p) (g := g) e1 e2
  obtain ⟨j1, j2⟩ := up_mul m n p 0
  rw [j1] at k1
  rw [j2] at k2
  have hz : loL m (frV n p) = 0 ↔ loL (mul4 m n) p = 0 := by
    rw [k2]
    constructor
    · intro h; rw [h, Int.mul_zero]
    · intro h; rcases Int.mul_eq_zero.mp h with v | v
      · exact absurd v hg
      · exact v
  refine ⟨hz, fun h => ?_⟩
  have h0 : loL m (frV n p) ≠ 0 := fun z => h (hz.mp z)
  show nf (upL m (frV n p)) (loL m (frV n p)) 0 = nf (upL (mul4 m n) p) (loL (mul4 m n) p) 0
  rw [k1, k2, nf_sg h0 hg]
theorem fr_back {m : T4} {p : T3} (hm : det4 m ≠ 0) (hb : p.2.1 ≠ 0) (hl : loL m p ≠ 0) (hu : p.2.2 = 0) (hp : nfP p = p) : loL (adj m) (frV m p) ≠ 0 ∧ frV (adj m) (frV m p) = p := by
  obtain ⟨h1, h2⟩ := fr_fr (m := adj m) hl
  rw [adj_mul] at h1 h2
  have e1 : loL (det4 m, 0, 0, det4 m) p = det4 m * p.2.1 := by unfold loL; simp
  have e2 : upL (det4 m, 0, 0, det4 m) p = det4 m * p.1 := by unfold upL; simp
  have hne : loL (det4 m, 0, 0, det4 m) p ≠ 0 := by rw [e1]; exact Int.mul_ne_zero hm hb
  refine ⟨fun z => hne (h1.mp z), ?_⟩
  rw [h2 hne]
  unfold frV
  rw [e1, e2, nf_sg hb hm]
  unfold nfP at hp
  rw [hu] at hp
  exact hp
end Z
namespace Z
open PySem PySem.Spec PyProof.Rows L2
/-- a floor told by an integer root of another scale -/
theorem near_ap {t b U f Q S r : Int} (hb : b ≠ 0) (hU : 0 ≤ U) (hf : 0 ≤ f) (hQ : 0 < Q) (hS : 0 < S) (hr : 0 ≤ r) (h1 : r * r ≤ U * (S * S)) (h2 : U * (S * S) ≤ (r + 1) * (r + 1)) :
    (0 < b → S * (nearV t b (f * f * U) Q * b - t * Q) ≤ f * Q * (r + 1) ∧ f * Q * r ≤ S * ((nearV t b (f * f * U) Q + 1) * b - t * Q)) ∧
    (b < 0 → f * Q * r ≤ S * (nearV t b (f * f * U) Q * b - t * Q) ∧ S * ((nearV t b (f * f * U) Q + 1) * b - t * Q) ≤ f * Q * (r + 1)) := by
  have hu : 0 ≤ f * f * U := Int.mul_nonneg (sq_nn f) hU
  have g1 := (near_spec (t := t) (m := nearV t b (f * f * U) Q) hb hu hQ).mpr (Int.le_refl _)
  have g2 : ¬ Ge t b (f * f * U) (nearV t b (f * f * U) Q + 1) Q := fun h => by
    have := (near_spec hb hu hQ).mp h
    omega
  generalize nearV t b (f * f * U) Q = k at *
  have fQ : 0 ≤ f * Q := Int.mul_nonneg hf (Int.le_of_lt hQ)
  have fQ2 := sq_nn (f * Q)
  have k1 : f * Q * r * (f * Q * r) ≤ S * S * (Q * Q * (f * f * U)) := by
    have := Int.mul_le_mul_of_nonneg_left h1 fQ2
    rw [show f * Q * (f * Q) * (r * r) = f * Q * r * (f * Q * r) by grind, show f * Q * (f * Q) * (U * (S * S)) = S * S * (Q * Q * (f * f * U)) by grind] at this
    exact this
  have k2 : S * S * (Q * Q * (f * f * U)) ≤ f * Q * (r + 1) * (f * Q * (r + 1)) := by
    have := Int.mul_le_mul_of_nonneg_left h2 fQ2
    rw [show f * Q * (f * Q) * ((r + 1) * (r + 1)) = f * Q * (r + 1) * (f * Q * (r + 1)) by grind, show f * Q * (f * Q) * (U * (S * S)) = S * S * (Q * Q * (f * f * U)) by grind] at this
    exact this
  have z1 : 0 ≤ f * Q * r := Int.mul_nonneg fQ hr
  have z2 : 0 ≤ f * Q * (r + 1) := Int.mul_nonneg fQ (by omega)
  have SS := Int.mul_pos hS hS
  have up : ∀ y : Int, y ≤ 0 ∨ y * y ≤ Q * Q * (f * f * U) → S * y ≤ f * Q * (r + 1) := fun y h => by
    rcases (show y ≤ 0 ∨ 0 < y by omega) with v | v
    · have := mul_np (Int.le_of_lt hS) v; omega
    · refine le_sq z2 ?_
      have := Int.mul_le_mul_of_nonneg_left (show y * y ≤ Q * Q * (f * f * U) by omega) (Int.le_of_lt SS)
      rw [show S * y * (S * y) = S * S * (y * y) by grind]
      omega
  have dn : ∀ y : Int, 0 ≤ y → Q * Q * (f * f * U) ≤ y * y → f * Q * r ≤ S * y := fun y h0 h => by
    refine le_sq (Int.mul_nonneg (Int.le_of_lt hS) h0) ?_
    have := Int.mul_le_mul_of_nonneg_left h (Int.le_of_lt SS)
    rw [show S * y * (S * y) = S * S * (y * y) by grind]
    omega
  unfold Ge Gt Gp Gm at g1 g2
  rw [Int.neg_mul_neg] at g1 g2
  refine ⟨fun hb => ⟨up _ ?_, dn _ ?_ ?_⟩, fun hb => ⟨dn _ ?_ ?_, up _ ?_⟩⟩
  · omega
  · omega
  · omega
  · omega
  · rw [show (k * b - t * Q) * (k * b - t * Q) = (t * Q - k * b) * (t * Q - k * b) by grind]
    omega
  · rw [show ((k + 1) * b - t * Q) * ((k + 1) * b - t * Q) = (t * Q - (k + 1) * b) * (t * Q - (k + 1) * b) by grind]
    omega
theorem mag {x z : Int} (D E : Int) (hD : 0 ≤ D) (hz : 0 < z) (hE : z ≤ E) (h : D * E ≤ x * z) : D ≤ x := by
  rcases (show D ≤ x ∨ x ≤ D - 1 by omega) with v | v
  · exact v
  · have h1 := Int.mul_le_mul_of_nonneg_right v (Int.le_of_lt hz)
    have h2 := Int.mul_le_mul_of_nonneg_left hE hD
    rw [Int.sub_mul, Int.one_mul] at h1
    omega
theorem Ib.up {n : Nat} {x : Int} (h : Ib n x) : x < 2 ^ n ∧ -(2 ^ n) < x := by
  unfold Ib at h
  have : ((2 ^ n : Nat) : Int) = 2 ^ n := by simp
  rw [← this]
  generalize 2 ^ n = z at *
  omega
theorem fd_btw {x d k : Int} (hd : d ≠ 0) (h1 : 0 < d → (k - 1) * d ≤ x ∧ x < (k + 2) * d) (h2 : d < 0 → x ≤ (k - 1) * d ∧ (k + 2) * d < x) : k - 1 ≤ x.fdiv d ∧ x.fdiv d ≤ k + 1 := by
  have key : ∀ x d : Int, 0 < d → (k - 1) * d ≤ x → x < (k + 2) * d → k - 1 ≤ x.fdiv d ∧ x.fdiv d ≤ k + 1 := fun x d hd a b => by
    refine ⟨(le_fdv hd).mpr a, ?_⟩
    rcases (show x.fdiv d ≤ k + 1 ∨ k + 2 ≤ x.fdiv d by omega) with v | v
    · exact v
    · have := (le_fdv hd).mp v
      omega
  rcases (show 0 < d ∨ d < 0 by omega) with v | v
  · exact key x d v (h1 v).1 (h1 v).2
  · have e : x.fdiv d = (-x).fdiv (-d) := (Int.neg_fdiv_neg x d).symm
    rw [e]
    have := h2 v
    exact key (-x) (-d) (by omega) (by rw [Int.mul_neg]; omega) (by rw [Int.mul_neg]; omega)
/-- the signs of the parts -/
theorem signs_ap {A1 A2 Y z B fine base Q k e1 e2 e3 : Int} (hB : B ≠ 0) (hz : Ib 223 z) (hz0 : z ≠ 0)
    (a1 : (2 : Int) ^ 160 * 2 ^ 223 ≤ A1 * z) (a2 : (2 : Int) ^ 160 * 2 ^ 223 ≤ -A2 * z) (a3 : (2 : Int) ^ 160 * 2 ^ 223 ≤ Y * z)
    (i1 : Ib 155 e1) (i2 : Ib 155 e2) (i3 : Ib 155 e3)
    (h1 : B * (fine * Q - (k - 1) * base) = A1 + e1) (h2 : B * (fine * Q - (k + 2) * base) = A2 + e2) (h3 : B * base = Y + e3) :
    base ≠ 0 ∧ k - 1 ≤ (fine * Q).fdiv base ∧ (fine * Q).fdiv base ≤ k + 1 := by
  obtain ⟨u1, v1⟩ := i1.up
  obtain ⟨u2, v2⟩ := i2.up
  obtain ⟨u3, v3⟩ := i3.up
  obtain ⟨uz, vz⟩ := hz.up
  have sg : (0 < A1 + e1 ∧ A2 + e2 < 0 ∧ 0 < Y + e3) ∨ (A1 + e1 < 0 ∧ 0 < A2 + e2 ∧ Y + e3 < 0) := by
    rcases (show 0 < z ∨ z < 0 by omega) with v | v
    · left
      have b1 := mag (2 ^ 160) (2 ^ 223) (by decide) v (by omega) a1
      have b2 := mag (2 ^ 160) (2 ^ 223) (by decide) v (by omega) a2
      have b3 := mag (2 ^ 160) (2 ^ 223) (by decide) v (by omega) a3
      refine ⟨by omega, by omega, by omega⟩
    · right
      have b1 := mag (x := -A1) (z := -z) (2 ^ 160) (2 ^ 223) (by decide) (by omega) (by omega) (by rw [Int.neg_mul_neg]; exact a1)
      have b2 := mag (x := A2) (z := -z) (2 ^ 160) (2 ^ 223) (by decide) (by omega) (by omega) (by rw [Int.mul_neg, ← Int.neg_mul]; exact a2)
      have b3 := mag (x := -Y) (z := -z) (2 ^ 160) (2 ^ 223) (by decide) (by omega) (by omega) (by rw [Int.neg_mul_neg]; exact a3)
      refine ⟨by omega, by omega, by omega⟩
  rw [← h1, ← h2, ← h3] at sg
  have bs : base ≠ 0 := fun h => by rw [h] at sg; simp only [Int.mul_zero] at sg; omega
  refine ⟨bs, ?_⟩
  have pm : ∀ x : Int, (0 < B → (0 < B * x ↔ 0 < x) ∧ (B * x < 0 ↔ x < 0)) ∧ (B < 0 → (0 < B * x ↔ x < 0) ∧ (B * x < 0 ↔ 0 < x)) := fun x => by
    refine ⟨fun h => ⟨pos_mul h, neg_mul' h⟩, fun h => ?_⟩
    have p1 := pos_mul (k := -B) (a := x) (by omega)
    have p2 := neg_mul' (k := -B) (a := x) (by omega)
    rw [Int.neg_mul] at p1 p2
    exact ⟨by omega, by omega⟩
  have q1 := pm (fine * Q - (k - 1) * base)
  have q2 := pm (fine * Q - (k + 2) * base)
  have q3 := pm base
  refine fd_btw bs (fun v => ?_) (fun v => ?_)
  · rcases (show 0 < B ∨ B < 0 by omega) with w | w
    · have := q1.1 w; have := q2.1 w; have := q3.1 w
      omega
    · have := q1.2 w; have := q2.2 w; have := q3.2 w
      omega
  · rcases (show 0 < B ∨ B < 0 by omega) with w | w
    · have := q1.1 w; have := q2.1 w; have := q3.1 w
      omega
    · have := q1.2 w; have := q2.2 w; have := q3.2 w
      omega
theorem s3_Ib (x : Int) : Ib 2 (s3 x) := by rcases s3_cs x with ⟨_, e⟩ | ⟨_, e⟩ | ⟨_, e⟩ <;> rw [e] <;> (unfold Ib; decide)
theorem Ib.of_abs {n : Nat} {x : Int} (h1 : x < 2 ^ n) (h2 : -(2 ^ n) < x) : Ib n x := by
  unfold Ib
  have : ((2 ^ n : Nat) : Int) = 2 ^ n := by simp
  rw [← this] at h1 h2
  generalize 2 ^ n = z at *
  omega
theorem Ib.div {n k : Nat} {x y : Int} (h : Ib n (x * y)) (hy : y ≠ 0) : Ib n x := by
  refine h.le ?_
  rw [Int.natAbs_mul]
  exact Nat.le_mul_of_pos_right _ (by omega)
/-- the sign and the size of what is compared -/
theorem big {S b f Q v x : Int} (hS : 2 ^ 199 ≤ S) (iS : Ib 200 S) (hb : 1 ≤ b) (hf : 0 ≤ f * Q) (if_ : Ib 70 (f * Q)) (hv : S * b - f * Q ≤ v) (ix : Ib 380 x) : (2 : Int) ^ 160 * 2 ^ 223 ≤ S * v + x := by
  obtain ⟨u1, _⟩ := if_.up
  obtain ⟨_, u2⟩ := ix.up
  have h1 := Int.mul_le_mul_of_nonneg_left hb (show 0 ≤ S by omega)
  have h2 : 2 ^ 198 ≤ v := by omega
  have h3 := Int.mul_le_mul hS h2 (by decide) (by omega)
  have h4 : (2 : Int) ^ 160 * 2 ^ 223 + 2 ^ 380 ≤ 2 ^ 199 * 2 ^ 198 := by decide
  omega
theorem approx12 {a b' c d T B U S Q : Int} (hp : Irr (T, B, U)) (hd : det4 (a, b', c, d) ≠ 0) (ia : Ib 10 a) (ib : Ib 10 b') (ic : Ib 10 c) (id : Ib 10 d) (iT : Ib 11 T) (iB : Ib 11 B) (iU : Ib 17 U) (hQ : 0 < Q) (iQ : Ib 30 Q) (hS : 2 ^ 199 ≤ S) (iS : Ib 200 S) :
    c * nearV T B U S + d * S ≠ 0 ∧
    nearV (ledR (a, b', c, d) (T, B, U)).1 (ledR (a, b', c, d) (T, B, U)).2.1 (ledR (a, b', c, d) (T, B, U)).2.2 Q - 1 ≤ ((a * nearV T B U S + b' * S) * Q).fdiv (c * nearV T B U S + d * S) ∧
    ((a * nearV T B U S + b' * S) * Q).fdiv (c * nearV T B U S + d * S) ≤ nearV (ledR (a, b', c, d) (T, B, U)).1 (ledR (a, b', c, d) (T, B, U)).2.1 (ledR (a, b', c, d) (T, B, U)).2.2 Q + 1 := by
  have hl := hp.led hd
  have B0 : B ≠ 0 := hp.ne
  have U0 : 0 < U := hp.pos
  have hF : faL (a, b', c, d) (T, B, U) ≠ 0 := by rw [faL_det]; exact Int.mul_ne_zero hd B0
  have eF : faL (a, b', c, d) (T, B, U) = a * loL (a, b', c, d) (T, B, U) - upL (a, b', c, d) (T, B, U) * c := rfl
  have eR : reL (a, b', c, d) (T, B, U) = loL (a, b', c, d) (T, B, U) * loL (a, b', c, d) (T, B, U) - c * c * U := rfl
  have eu : upL (a, b', c, d) (T, B, U) = a * T + b' * B := rfl
  have el : loL (a, b', c, d) (T, B, U) = c * T + d * B := rfl
  have iu : Ib 22 (upL (a, b', c, d) (T, B, U)) := Ib.add (n := 21) (ia.mul iT) (ib.mul iB)
  have il : Ib 22 (loL (a, b', c, d) (T, B, U)) := Ib.add (n := 21) (ic.mul iT) (id.mul iB)
  have b0 : s3 (faL (a, b', c, d) (T, B, U)) * reL (a, b', c, d) (T, B, U) ≠ 0 := hl.ne
  have eL : ledR (a, b', c, d) (T, B, U) = (s3 (faL (a, b', c, d) (T, B, U)) * (upL (a, b', c, d) (T, B, U) * loL (a, b', c, d) (T, B, U) - a * c * U), s3 (faL (a, b', c, d) (T, B, U)) * reL (a, b', c, d) (T, B, U), faL (a, b', c, d) (T, B, U) * faL (a, b', c, d) (T, B, U) * U) := rfl
  rw [eL]
  simp only
  have sF := s3_s3 hF
  have fp := s3_self hF
  have iF : Ib 33 (faL (a, b', c, d) (T, B, U)) := Ib.sub (n := 32) (ia.mul il) (iu.mul ic)
  have iR : Ib 45 (reL (a, b', c, d) (T, B, U)) := Ib.sub (n := 44) (il.mul il) (((ic.mul ic).mul iU).mono (by decide))
  have is := s3_Ib (faL (a, b', c, d) (T, B, U))
  generalize upL (a, b', c, d) (T, B, U) = up at *
  generalize loL (a, b', c, d) (T, B, U) = lo at *
  generalize faL (a, b', c, d) (T, B, U) = F at *
  generalize reL (a, b', c, d) (T, B, U) = R at *
  generalize s3 F = o at *
  have eU : F * F * U = (o * F) * (o * F) * U := by rw [show (o * F) * (o * F) * U = (o * o) * (F * F * U) by grind, sF, Int.one_mul]
  rw [eU]
  have hUS : 0 ≤ U * (S * S) := Int.mul_nonneg (Int.le_of_lt U0) (sq_nn S)
  obtain ⟨r1, r2⟩ := rtI_spec hUS
  have r0 := rtI_nn (U * (S * S))
  have ir : Ib 209 (rtI (U * (S * S))) := Ib.rt2 (n := 209) ((iU.mul (iS.mul iS)).mono (by decide)) hUS
  generalize rtI (U * (S * S)) = r at *
  have S0 : 0 < S := by omega
  have na := near_ap (t := o * (up * lo - a * c * U)) (b := o * R) (f := o * F) (Q := Q) b0 (Int.le_of_lt U0) (Int.le_of_lt fp) hQ S0 r0 r1 (Int.le_of_lt r2)
  have nb := near_ap (t := T) (b := B) (f := 1) (Q := S) B0 (Int.le_of_lt U0) (by decide) S0 S0 r0 r1 (Int.le_of_lt r2)
  simp only [Int.one_mul] at nb
  have iP : Ib 45 (up * lo - a * c * U) := Ib.sub (n := 44) (iu.mul il) (((ia.mul ic).mul iU).mono (by decide))
  have ik : Ib 127 (nearV (o * (up * lo - a * c * U)) (o * R) (o * F * (o * F) * U) Q) := near_ib (n := 124) (k := 124) (m := 125) b0 (Int.mul_nonneg (sq_nn _) (Int.le_of_lt U0)) ((((is.mul iP).mul (is.mul iR)).mul iQ).mono (by decide)) (((((((is.mul iF).mul (is.mul iF)).mul iU).mul (is.mul iR)).mul (is.mul iR)).mul iQ).mul iQ |>.mono (by decide)) (by decide) (by decide)
  generalize nearV (o * (up * lo - a * c * U)) (o * R) (o * F * (o * F) * U) Q = k at *
  generalize nearV T B U S = n at *
  have i2R := is.mul iR
  generalize hP : up * lo - a * c * U = P at *
  obtain ⟨τ, hτ⟩ : ∃ τ, τ = s3 (o * R) := ⟨_, rfl⟩
  have iτ : Ib 2 τ := by rw [hτ]; exact s3_Ib _
  have tp : 1 ≤ τ * (o * R) := by rw [hτ]; exact s3_self b0
  have tc : (0 < o * R ∧ τ = 1) ∨ (o * R < 0 ∧ τ = -1) := by
    rw [hτ]
    rcases s3_cs (o * R) with ⟨x, e⟩ | ⟨x, e⟩ | ⟨x, e⟩
    · exact .inl ⟨x, e⟩
    · exact absurd x b0
    · exact .inr ⟨x, e⟩
  clear hτ
  have id1 : ∀ j : Int, (Q * (S * up + a * r) - j * (S * lo + c * r)) * ((S * lo - c * r) * (o * τ)) = S * (τ * (S * (o * P * Q - j * (o * R)) + o * F * Q * r)) + o * τ * ((U * (S * S) - r * r) * c * (Q * a - j * c)) := fun j => by
    rw [← hP, eR, eF]; grind
  have id3 : (S * lo + c * r) * ((S * lo - c * r) * (o * τ)) = S * (S * (τ * (o * R))) + o * τ * (c * c * (U * (S * S) - r * r)) := by
    rw [eR]; grind
  have iε : Ib 211 (U * (S * S) - r * r) := by
    refine Ib.of_abs ?_ ?_
    · have := ir.up; rw [show (r + 1) * (r + 1) = r * r + 2 * r + 1 by grind] at r2; omega
    · omega
  have iρ : Ib 12 (n * B - (T * S + r)) := by
    have hB := iB.up
    have cn : ∀ x y : Int, S * x ≤ S * y → x ≤ y := fun x y h => (mul_cancel_le S0).mp h
    refine Ib.of_abs ?_ ?_
    · rcases (show 0 < B ∨ B < 0 by omega) with v | v
      · have := cn _ _ (nb.1 v).1; omega
      · have := cn _ _ (nb.2 v).2; rw [Int.add_mul, Int.one_mul] at this; omega
    · rcases (show 0 < B ∨ B < 0 by omega) with v | v
      · have := cn _ _ (nb.1 v).2; rw [Int.add_mul, Int.one_mul] at this; omega
      · have := cn _ _ (nb.2 v).1; omega
  have iq : ∀ j : Int, Ib 128 j → Ib 139 (Q * a - j * c) := fun j h => Ib.sub (n := 138) ((iQ.mul ia).mono (by decide)) (h.mul ic)
  have ik1 : Ib 128 (k - 1) := Ib.sub (n := 127) ik (Ib.c (i := 1) 127)
  have ik2 : Ib 128 (k + 2) := Ib.add (n := 127) ik (Ib.c (i := 2) 127)
  have fQ0 : 0 ≤ o * F * Q := Int.mul_nonneg (Int.le_of_lt fp) (Int.le_of_lt hQ)
  have ifQ : Ib 70 (o * F * Q) := ((is.mul iF).mul iQ).mono (by decide)
  have iot := is.mul iτ
  have v1 : S * (τ * (o * R)) - o * F * Q ≤ τ * (S * (o * P * Q - (k - 1) * (o * R)) + o * F * Q * r) := by
    rcases tc with ⟨x, e⟩ | ⟨x, e⟩
    · have := (na.1 x).1
      rw [e]; grind
    · have := (na.2 x).1
      rw [e]; grind
  have v2 : S * (τ * (o * R)) - o * F * Q ≤ -(τ * (S * (o * P * Q - (k + 2) * (o * R)) + o * F * Q * r)) := by
    rcases tc with ⟨x, e⟩ | ⟨x, e⟩
    · have := (na.1 x).2
      rw [e]; grind
    · have := (na.2 x).2
      rw [e]; grind
  have x1 := big hS iS tp fQ0 ifQ v1 ((iot.mul ((iε.mul ic).mul (iq _ ik1))).mono (show _ ≤ 380 by decide))
  have x2 := big hS iS tp fQ0 ifQ v2 ((iot.mul ((iε.mul ic).mul (iq _ ik2))).neg.mono (show _ ≤ 380 by decide))
  have x3 := big (v := S * (τ * (o * R))) hS iS tp fQ0 ifQ (by omega) ((iot.mul ((ic.mul ic).mul iε)).mono (show _ ≤ 380 by decide))
  rw [← id1] at x1
  rw [← id3] at x3
  have iz : Ib 223 ((S * lo - c * r) * (o * τ)) := by
    have : Ib 223 (S * lo - c * r) := Ib.sub (n := 222) (iS.mul il) ((ic.mul ir).mono (by decide))
    have e : o * τ = 1 ∨ o * τ = -1 := by
      have ho : o = 1 ∨ o = -1 := by
        have : (o - 1) * (o + 1) = 0 := by grind
        rcases Int.mul_eq_zero.mp this with v | v <;> omega
      rcases ho with h | h <;> rcases tc with ⟨_, h'⟩ | ⟨_, h'⟩ <;> rw [h, h'] <;> decide
    rcases e with e | e <;> rw [e]
    · rw [Int.mul_one]; exact this
    · rw [Int.mul_neg, Int.mul_one]; exact this.neg
  refine signs_ap (A1 := Q * (S * up + a * r) - (k - 1) * (S * lo + c * r)) (A2 := Q * (S * up + a * r) - (k + 2) * (S * lo + c * r)) (Y := S * lo + c * r) (z := (S * lo - c * r) * (o * τ)) (B := B) (e1 := (n * B - (T * S + r)) * (Q * a - (k - 1) * c)) (e2 := (n * B - (T * S + r)) * (Q * a - (k + 2) * c)) (e3 := (n * B - (T * S + r)) * c) B0 iz (fun h => ?_) x1 ?_ x3 ((iρ.mul (iq _ ik1)).mono (by decide)) ((iρ.mul (iq _ ik2)).mono (by decide)) ((iρ.mul ic).mono (by decide)) ?_ ?_ ?_
  · rw [h, Int.mul_zero] at x3
    exact absurd x3 (by decide)
  · rw [Int.neg_mul, id1]
    rw [Int.mul_neg] at x2
    omega
  · rw [eu, el]; grind
  · rw [eu, el]; grind
  · rw [el]; grind
end Z
namespace Z
open PySem PySem.Spec PyProof.Rows L2

/-! ### try with named clauses, each of a class or of a tuple of two -/
/-- what a clause's test answers, by the class of what was raised; all objects stay -/
def TestOk (X : Cx) (t : Expr) (m : Value → Option Bool) : Prop :=
  ∀ (a : Addr) (oe : Obj) (pn pins : List (Addr × Obj)) (σ : L2.St) (H : Hp) (s : Shared) (b : Bool) (R : Bool → Shared → Prop) (E : Value → Shared → Prop),
    L2.Inv (X.suite a ((a, oe) :: pn)) pins σ H s → s.heap.get? a = some oe → m oe.cls = some b → (∀ h' t', (∀ q o, s.heap.get? q = some o → h'.get? q = some o) → R b { s with heap := h', toks := t' }) →
    wpAny (model X.prog X.w) (X.A.mark (some (.ref a))) (eval t X.env) (fun c s1 => wpAny (model X.prog X.w) (X.A.mark (some (.ref a))) (excMatches (.ref a) c) R E s1) E s
theorem ty_at {X : Cx} {h : Heap} {a : Addr} {oe : Obj} (e : h.get? a = some oe) : PySem.W.Looks (model X.prog X.w) h (typeOf (.ref a)) oe.cls := fun A Q E s k q => wpAny_typeOf_ref (k _ _ e) q
theorem test1 {X : Cx} {x : Str} {c : Value} {np : Pos} (hc : Names X x c) : TestOk X (.Name x np) fun cls => PySem.W.exmOne X.K cls c := fun a oe pn pins σ H s b R E I he hm k => by
  have LM := PySem.W.exm_one (M := model X.prog X.w) I.kIn (ty_at (X := X) he) hm
  have fin := k s.heap s.toks fun _ _ z => z
  obtain ⟨hg, hd, hm | ⟨hm, hv, hn⟩⟩ := hc
  · exact ld_glob (X := X.suite a ((a, oe) :: pn)) I hg hm (LM.here fin) hd
  · exact ld_blt (X := X.suite a ((a, oe) :: pn)) I hg hm hv (LM.here fin) hn hd
theorem test2 {X : Cx} {x y : Str} {c d : Value} {p1 p2 tp : Pos} {kk : Nat} (hx : Names X x c) (hy : Names X y d) : TestOk X (.Tuple [.Name x p1, .Name y p2] kk tp) fun cls => PySem.W.exmAny X.K cls [c, d] := fun a oe pn pins σ H s b R E I he hm k => by
  have ld : ∀ {z : Str} {u : Value} {pos : Pos} {Q : Value → Shared → Prop}, Names X z u → Q u s → wpAny (model X.prog X.w) (X.A.mark (some (.ref a))) (eval (.Name z pos) X.env) Q E s := fun {z u pos Q} hc q => by
    obtain ⟨hg, hd, hm | ⟨hm, hv, hn⟩⟩ := hc
    · exact ld_glob (X := X.suite a ((a, oe) :: pn)) I hg hm q hd
    · exact ld_blt (X := X.suite a ((a, oe) :: pn)) I hg hm hv q hn hd
  refine wpAny_Tuple (wpAny_items_cons (ld hx (wpAny_items_cons (ld hy (wpAny_items_nil ⟨by size_fits, ?_⟩)))))
  have kp : ∀ q o, s.heap.get? q = some o → (s.heap.push { cls := .type "tuple", data := .seq [c, d].toArray }).get? q = some o := fun _ _ z => Heap.get?_push_of_some _ z
  exact (PySem.W.exm_tup2 (I.kIn.keeps kp) ((ty_at (X := X) he).keeps kp) (Heap.get?_push_size s.heap rfl) hm).here (k _ s.toks kp)
theorem fly_keeps {B h h' : Heap} {l : List Env} {a : Addr} {Z : Obj → Prop} (f : HandSPX.FlyingZ B l a Z h) (k : ∀ b o, h.get? b = some o → h'.get? b = some o) : HandSPX.FlyingZ B l a Z h' := by
  obtain ⟨f1, f2, f3, oe, vs, T, oT, ts, he, hz, hd, h1, hn, hne, hT, hdT, h3⟩ := f
  exact ⟨fun b o q => k b o (f1 b o q), f2, f3.of_keeps fun b o q _ => ⟨o, k b o q, rfl⟩, oe, vs, T, oT, ts, k _ _ he, hz, hd, h1, hn, hne, k _ _ hT, hdT, h3⟩
/-- a clause: its test, the name's slot, the suite -/
structure Clause where
  m : Value → Option Bool
  i : Nat
  ts : Addr → Value → Option Addr → TS
inductive ClsOk (X : Cx) : List ExceptHandler → List Clause → Prop
  | nil : ClsOk X [] []
  | cons {t : Expr} {n : Str} {b₀ : Stmt} {suite : List Stmt} {pos : Pos} {hds : List ExceptHandler} {l : List Clause} {c : Clause} (ht : TestOk X t c.m) (hi : X.N[c.i]? = some n) (hl : X.env.kindOf n = some .local)
      (hs : ∀ (a : Addr) (oe : Obj) (cls : Value) (d : Option Addr) (pn : List (Addr × Obj)), Zc cls d oe → (∃ vs, oe.data = .fields vs) → PSs (X.suite a ((a, oe) :: pn)) (b₀ :: suite) (c.ts a cls d)) (r : ClsOk X hds l) :
      ClsOk X (.ExceptHandler (some t) (some n) (b₀ :: suite) pos :: hds) (c :: l)
/-- the ends behind a suite: the name is gone -/
def Ends.gone (D : Ends) (i : Nat) : Ends := { nx := fun σ H => D.nx (σ.set i none) H, rt := D.rt, bk := fun σ H => D.bk (σ.set i none) H, ct := fun σ H => D.ct (σ.set i none) H }
/-- what the clauses wish of what the body raises -/
def wCls (Wout : WX) (D : Ends) : List Clause → WX
  | [] => Wout
  | c :: r => fun cls d σ H => ∃ b, c.m cls = some b ∧ (b = true → ∀ a, H a = none → c.ts a cls d (Ends.gone D c.i) (σ.set c.i (some (.ref a))) H) ∧ (b = false → wCls Wout D r cls d σ H)
section
variable {X : Cx} {Wout : WX} {D : Ends} {pins : List (Addr × Obj)} {σ : L2.St} {H : Hp} {sI : Shared} {a : Addr} {cls : Value} {d : Option Addr} {B : Heap}
/-- what is known where the clauses are looked at: h the heap now -/
structure Catch (X : Cx) (pins : List (Addr × Obj)) (σ : L2.St) (H : Hp) (sI s : Shared) (a : Addr) (cls : Value) (d : Option Addr) (B : Heap) : Prop where
  inv : L2.Inv X pins σ H sI
  nb : ∀ b o, sI.heap.get? b = some o → b ∉ frs X.stack → B.get? b = some o
  up : sI.heap.UpToSlots s.heap
  fly : HandSPX.FlyingZ B (X.env :: X.outer) a (Zc cls d) s.heap
  na : H a = none
  os : s.os = sI.os
  ag : AllBare s.gens
theorem Catch.now (c : Catch X pins σ H sI s a cls d B) : L2.Inv X pins σ H s := c.inv.landed c.nb c.fly.1 c.up c.os c.ag
theorem Catch.on {s : Shared} (c : Catch X pins σ H sI s a cls d B) {h' : Heap} {t' : Nat} (f : HandSPX.FlyingZ B (X.env :: X.outer) a (Zc cls d) h') (u : s.heap.UpToSlots h') : Catch X pins σ H sI { s with heap := h', toks := t' } a cls d B :=
  ⟨c.inv, c.nb, c.up.trans u, f, c.na, c.os, c.ag⟩
theorem Catch.obj {s : Shared} (c : Catch X pins σ H sI s a cls d B) (hf : X.env.frame = some X.env.locals) : ∃ oe, s.heap.get? a = some oe ∧ Zc cls d oe ∧ (∃ vs, oe.data = .fields vs) ∧ L2.Inv (X.suite a ((a, oe) :: (X.pn ++ pins))) [] σ H s := by
  obtain ⟨oe, vs, he, hz, hd⟩ := c.fly.there
  have nfr : a ∉ frs (X.env :: X.outer) := fun hm => by
    obtain ⟨_, o, e, hn⟩ := c.fly.2.2.1.mem hm
    rw [he] at e; cases e
    exact hn _ hd
  have nL : a ≠ X.env.locals := fun z => nfr (List.mem_filterMap.mpr ⟨X.env, List.mem_cons_self, by rw [hf, z]⟩)
  have nF : a ∉ X.fs := fun hm => by
    obtain ⟨e, h1, h2⟩ := List.mem_filterMap.mp hm
    exact nfr (List.mem_filterMap.mpr ⟨e, List.mem_cons_of_mem _ h1, h2⟩)
  exact ⟨oe, he, hz, ⟨vs, hd⟩, c.now.suite he hd c.na nL nF⟩
/-- no clause took it: it flies on -/
theorem Catch.out {s : Shared} (c : Catch X pins σ H sI s a cls d B) (hs : X.stack = X.env :: X.outer) (hf : X.env.frame = some X.env.locals) (tk : Takes X Wout) (w : Wout cls d σ H) {Q : Flow → Shared → Prop} :
    wpAny (model X.prog X.w) X.A (handleBy (.ref a) X.env []) Q X.xe s := by
  refine wpAny_handleBy_nil ?_
  obtain ⟨_, _, _, oe, vs, T, oT, ts, he, _, hd, h1, _⟩ := id c.fly
  have fin : wpAny (model X.prog X.w) X.A (setFlight (.ref a) X.env.frame) (fun _ s4 => wpAny (model X.prog X.w) X.A (throw (.ref a) : Sem Flow) Q X.xe s4) X.xe s := by
    rw [hf]
    exact HandSPX.setFlight_upZ c.fly fun h4 k4 u4 => wpAny_throw (tk _ _ ⟨a, B, sI, pins, σ, H, cls, d, rfl, c.inv, c.nb, c.up.trans u4, .inr (.inr (by rw [hs]; exact k4)), c.na, c.os, c.ag, w⟩)
  unfold PySem.passOn
  refine wpAny_bind (wpAny_field he hd h1 ?_)
  rw [if_neg (by simp)]
  first
    | exact wpAny_bind fin
    | exact wpAny_bind (wpAny_pure (wpAny_bind fin))
theorem clauses_run (hs : X.stack = X.env :: X.outer) (hf : X.env.frame = some X.env.locals) (hN : X.N.Nodup) (tk : Takes X Wout) {hds : List ExceptHandler} {l : List Clause} (k : ClsOk X hds l) :
    ∀ {s : Shared}, Catch X pins σ H sI s a cls d B → wCls Wout D l cls d σ H → wpAny (model X.prog X.w) X.A (handleBy (.ref a) X.env hds) (SP X pins D) X.xe s := by
  induction k with
  | nil => exact fun c w => c.out hs hf tk w
  | @cons t n b₀ suite pos hds l cl ht hi hl hsu r ih =>
    intro s c w
    obtain ⟨b, hb, yes, no⟩ := w
    obtain ⟨oe, he, hz, hd, S⟩ := c.obj hf
    refine wpAny_handleBy_cons (codeAny_handlers_test (ht a oe (X.pn ++ pins) [] σ H s b _ _ S he (by rw [hz.1]; exact hb) fun h1 t1 k1 => ?_)) (by intro q; cases q)
    have c1 : Catch X pins σ H sI { s with heap := h1, toks := t1 } a cls d B := c.on (fly_keeps c.fly k1) (Heap.UpToSlots.of_keeps k1)
    cases b with
    | false => exact ih c1 (no rfl)
    | true =>
      refine codeAny_handlers_suite_as (HandSPX.lands_againZ c1.fly fun h2 f2 u2 => ?_)
      have c2 : Catch X pins σ H sI { s with heap := h2, toks := t1 } a cls d B := c1.on (t' := t1) f2 u2
      obtain ⟨oe2, he2, hz2, hd2, S2⟩ := c2.obj hf
      refine store_ok (X := X.suite a ((a, oe2) :: (X.pn ++ pins))) (v := .ref a) S2 hN hi (.inl hl) rfl (fun s5 S5 => ?_) (.inr hl)
      refine wpAny_mono ((hsu a oe2 cls d (X.pn ++ pins) hz2 hd2).run [] s5 _ H (Ends.gone D cl.i) S5 (yes rfl a c.na)) (fun f s6 e6 => ?_) fun _ _ z => z.elim
      have bye : ∀ {σ6 : L2.St} {H6 : Hp} {Q : Shared → Prop}, L2.Inv (X.suite a ((a, oe2) :: (X.pn ++ pins))) [] σ6 H6 s6 → (∀ s7, L2.Inv X pins (σ6.set cl.i none) H6 s7 → Q s7) →
          wpAny (model X.prog X.w) X.A (do bindName X.env n .none; unbindBehindTheSuite X.env n pos) (fun _ s7 => Q s7) X.xe s6 := fun J q => gone_ok (J.unsuite c.inv.ok) hN hi hl q
      cases f with
      | ret u =>
        obtain ⟨v, σ6, H6, J, rv, q⟩ := e6
        exact bye J fun s7 J7 => ⟨v, _, H6, J7, rv, q⟩
      | next =>
        obtain ⟨σ6, H6, J, q⟩ := e6
        exact bye J fun s7 J7 => ⟨_, H6, J7, q⟩
      | brk =>
        obtain ⟨σ6, H6, J, q⟩ := e6
        exact bye J fun s7 J7 => ⟨_, H6, J7, q⟩
      | cont =>
        obtain ⟨σ6, H6, J, q⟩ := e6
        exact bye J fun s7 J7 => ⟨_, H6, J7, q⟩
end
/-- try: body / clauses with names -/
theorem ps_tryN {X : Cx} {Wout : WX} {body : List Stmt} {hd : ExceptHandler} {hds : List ExceptHandler} {l : List Clause} {pos : Pos} {tb : WX → TS} (hs : X.stack = X.env :: X.outer) (hf : X.env.frame = some X.env.locals) (hN : X.N.Nodup) (tk : Takes X Wout)
    (hb : ∀ (W : WX) (pn : List (Addr × Obj)) (xe : Value → Shared → Prop), Takes (X.tr pn xe) W → PassesOwn (model X.prog X.w) X.A X.env xe → PSs (X.tr pn xe) body (tb W)) (k : ClsOk X (hd :: hds) l) :
    PS X (.Try body (hd :: hds) [] [] pos) (fun D σ H => tb (wCls Wout D l) D σ H) := by
  refine ⟨fun pins s σ H D I h => ?_⟩
  have ok := I.ok
  refine wpAny_Try_except ?_
  refine wpAny_mono ((hb (wCls Wout D l) (X.pn ++ pins) _ (fun u s' x => ?_) PassesOwn.looking).run [] s σ H D (I.toTry _) h) (fun f s1 e => ?_) fun e s1 x => x
  · obtain ⟨a, B, sI, pins', σ', H', cls, d, rfl, J, nb, up, sky, na, os, ag, w⟩ := x
    have sky' : Sky B (X.env :: X.outer) a (Zc cls d) X.env.locals s'.heap := by rw [← hs]; exact sky
    refine Sky.land Zc.steady (by rw [ok.frames, hs]) hf sky' fun h3 f3 u3 => ?_
    exact clauses_run hs hf hN tk k ⟨J.ofTry ok, nb, up.trans u3, f3, na, os, ag⟩ w
  · cases f with
    | ret u =>
      obtain ⟨v, σ1, H1, J, rv, q⟩ := e
      exact ⟨v, σ1, H1, J.ofTry ok, rv, q⟩
    | next =>
      obtain ⟨σ1, H1, J, q⟩ := e
      exact wpAny_execs_nil ⟨σ1, H1, J.ofTry ok, q⟩
    | brk =>
      obtain ⟨σ1, H1, J, q⟩ := e
      exact ⟨σ1, H1, J.ofTry ok, q⟩
    | cont =>
      obtain ⟨σ1, H1, J, q⟩ := e
      exact ⟨σ1, H1, J.ofTry ok, q⟩
end Z
namespace Z
open PySem PySem.Spec PyProof.Rows L2

/-! ### comparisons where only the units are known -/
section
variable {X : Cx} {B : Bs} {pos : Pos} {a b e : Expr} {fa fb : DTE}
theorem de_eqU (hu : X.A.units + 65 < cLine) (ha : DE X B a fa) (hb : DE X B b fb) : DE X B (.Compare a [.Eq] [b] pos) (bin2 eqD fa fb) := de_cmp (op_eq.or (op_eqD (by omega))) ok_eq (nomark _) ha hb
theorem dt_eqU (hu : X.A.units + 65 < cLine) (ha : DE X B a fa) (hb : DE X B b fb) : DT X B (.Compare a [.Eq] [b] pos) (bin2T eqD fa fb) := dt_cmp (op_eq.or (op_eqD (by omega))) ok_eq (nomark _) ha hb
theorem de_inU (hu : X.A.units + 65 < cLine) (ha : DE X B a fa) (hb : DE X B b fb) (hm : behindInMarks .In b = false := by rfl) : DE X B (.Compare a [.In] [b] pos) (bin2 inD fa fb) := de_cmp (op_in_sign.or (op_in_seq.or (op_inD hu))) ok_in hm ha hb
theorem dt_inU (hu : X.A.units + 65 < cLine) (ha : DE X B a fa) (hb : DE X B b fb) (hm : behindInMarks .In b = false := by rfl) : DT X B (.Compare a [.In] [b] pos) (bin2T inD fa fb) := dt_cmp (op_in_sign.or (op_in_seq.or (op_inD hu))) ok_in hm ha hb
end

/-! ### an exception that is handled -/
theorem wd_xd {K : PySem.W.Frag} {M : Sto} {H G : Hp} {a : Addr} {fs : List (Str × V)} (w : Wd K M H G) (h : H a = some (.xd fs)) : M a = none := by
  cases q : M a with
  | none => rfl
  | some c =>
    have z := (w.cells a c q).2
    cases c with
    | lst l => obtain ⟨_, e, _⟩ := z; rw [h] at e; cases e
    | dic l => rcases z with ⟨_, e, _⟩ | ⟨_, e, _⟩ <;> (rw [h] at e; cases e)
    | ins C l => obtain ⟨_, _, e, _⟩ := z; rw [h] at e; cases e
    | tab q => obtain ⟨_, e, _⟩ := z; rw [h] at e; cases e
/-- the handled exception x, its class and its dict, as the entry B knows it -/
structure XAt (K : PySem.W.Frag) (B : Bs) (x : XD) (cls : Value) (d : Option Addr) : Prop where
  rx : RepX K B.G B.H x cls d
  nm : ∀ dd, d = some dd → B.M dd = none
theorem XAt.now {K : PySem.W.Frag} {B : Bs} {x : XD} {cls : Value} {d : Option Addr} {r : En} {M : Sto} {σ : L2.St} {H G : Hp} (h : XAt K B x cls d) (R : Rel K B r M σ H G) : RepX K G H x cls d := by
  obtain ⟨e, dd, fvs, e1, e2, e3⟩ := h.rx
  exact ⟨e, dd, fvs, e1, R.sin.keep _ _ e2 (h.nm _ e1), e3.mono R.sin.gsub⟩
section
variable {X : Cx} {B : Bs} {pos : Pos} {e : Expr} {fa : DTE} {a : Addr} {oe : Obj} {x : XD} {cls : Value} {d : Option Addr} {n : Str}
/-- e.n, e the handled exception -/
theorem de_xf {K : PySem.W.Frag} (hp : (a, oe) ∈ X.pn) (hz : Zc cls d oe) (hf : ∃ vs, oe.data = .fields vs) (hx : XAt K B x cls d) (he : DE X B e fa) (hK : X.K = K := by rfl) (hb : attributeBase e n X.env (eval e X.env) = eval e X.env := by rfl) :
    DE X B (.Attribute e n pos) (fun r M Ψ => fa r M fun y M1 => y = .ref a ∧ XfC K x.1 ∧ NoAttr K x.1 n ∧ optK (x.2.lookup n) fun v => Ψ v M1) := by
  subst hK
  refine ⟨fun pins s σ H Q I ⟨r, M, G, Ψ, R, h, k⟩ => ?_⟩
  refine attr_of hb (thn (he.run pins s σ H (fun v H1 => ∃ M1 G1, v = .ref a ∧ Rel X.K B r M1 σ H1 G1 ∧ Sub G G1 ∧ XfC X.K x.1 ∧ NoAttr X.K x.1 n ∧ optK (x.2.lookup n) fun v => Ψ v M1) I ⟨r, M, G, _, R, h, fun y M1 v H1 G1 ⟨e1, e2, e3, e4⟩ R1 s1 p1 => ?_⟩) fun u s1 hh => ?_)
  · subst e1
    cases p1
    exact ⟨M1, G1, rfl, R1, s1, e2, e3, e4⟩
  · obtain ⟨v, H1, I1, rv, M1, G1, ev, R1, s1', e2, e3, e4⟩ := hh
    subst ev
    obtain rfl : u = Value.ref a := rv
    obtain ⟨y, ey, q⟩ := optK_some e4
    obtain ⟨ec, dd, fvs, ed, edd, rf⟩ := hx.now R1
    obtain ⟨w', hw, rw'⟩ := rf.look ey
    obtain ⟨ha, _⟩ := I1.pin (a, oe) (List.mem_append_left _ hp)
    obtain ⟨vs, hd⟩ := hf
    have T' := e2
    obtain ⟨mA, hns, hr⟩ := (I1.hok dd _ edd : ObjOk X.prog X.w H1 s1.heap dd (.xd fvs))
    obtain ⟨od, ho, hl⟩ := lookIn_ns hns
    obtain ⟨u, hu, ru⟩ := RelO.some_of (v := w') (o := mA n) (by rw [← hw]; exact hr n)
    have J : PySem.W.InstAt s1.heap a oe x.1 (some od) := ⟨ha, hz.1.trans ec, by unfold PySem.W.notCls; rw [hd] <;> rfl, by rw [hz.2, ed]; exact ho⟩
    exact HandSPX.exc_get I1.kIn J T'.ga T'.gg T'.exC (PySem.W.findObj_own T'.hdC e3 rfl (by rw [hl, hu])) (handed_of ru) ⟨w', H1, I1.tok _, ru, k _ _ _ _ _ q R1 s1' rw'⟩
end
/-! ### a def called where an exception is handled -/
section
variable {P : Program} {w : World} {K : PySem.W.Frag} {mg : Str → Option Value} {base : Heap} {k : Nat} {f : Addr} {fd : FuncData} {N ps : List Str} {x qual : Str} {st : Stmt} {dvs : List V} {kws : List (Str × V)}
structure FnP (P : Program) (w : World) (K : PySem.W.Frag) (mg : Str → Option Value) (base : Heap) (k : Nat) (f : Addr) (fd : FuncData) (ps : List Str) (c : Addr → XD → Ct) : Prop where
  run : ∀ (A : Around) (outer : List Env) (s : Shared) (H : Hp) (args : Args) (us : List Value) (vs : List V) (Q : VK) (p : Addr × Obj) (y : XD) (cls : Value) (d : Option Addr) (G : Hp) (M : Sto) (ds : List D) (Ψ : PD), L2H.RoomH k A → L2H.PinOk outer H s p → Env0 P w K mg base A outer s H →
    BindsTo s fd args (ps.zip us) → Vals vs us → Zc cls d p.2 → (∃ vs, p.2.data = .fields vs) → Wd K M H G → RepL K G ds vs → ds.length = ps.length → RepX K G H y cls d → c p.1 y ds M Ψ noX → Post K H G M Ψ Q →
    codeAny (model P w) A (.call (.ref f) args) (CR (L2.CX P w) outer P w H s Q (fun _ _ _ => False)) s
abbrev cxP (P : Program) (w : World) (K : PySem.W.Frag) (mg : Str → Option Value) (base : Heap) (N : List Str) (qual : Str) (scope : Scope) (f : Addr) (cd : Value) (A : Around) (outer : List Env) (s : Shared) (H : Hp) (p : Addr × Obj) : Cx := L2H.cxH (L2.CX P w) P w K mg base N qual scope f cd A outer s H (fun _ _ _ => False) p
theorem fnP (F : FnZ K x qual st dvs kws f fd) (S : FnScope N ps (defScope st)) (c : Addr → XD → Ct)
    (hb : ∀ (cdv : Value) (A : Around) (outer : List Env) (s : Shared) (H : Hp) (p : Addr × Obj) (y : XD) (cls : Value) (d : Option Addr) (B : Bs), (A.deeper (envOfC qual (defScope st) s.heap.objs.size f cdv)).units + 65 < cLine → Zc cls d p.2 → (∃ vs, p.2.data = .fields vs) → XAt K B y cls d →
      ∃ t, DSs (cxP P w K mg base N qual (defScope st) f cdv A outer s H p) B (defBody st) t ∧
        ∀ (ds : List D) (Ψ : PD), ds.length = ps.length → c p.1 y ds B.M Ψ noX → t { nx := fun _ M' => rtF B.M Ψ .non M', rt := rtF B.M Ψ } (ent N.length ds) B.M) :
    FnP P w K mg base 1 f fd ps c := by
  obtain ⟨oc, od, dV, kV, doc, pm, an, cdv, ct, osl, rfl, lk, hcd, _, _⟩ := F.ex
  refine ⟨fun A outer s H args us vs Q p y cls d G M ds Ψ hr hpin e0 hbd r hz hf wd rds hl rx hc post => ?_⟩
  have KX : K.In s.heap := e0.mod.kin.keeps fun b o e => (e0.bs b o e).1
  have lim : s.heap.NoLimit := e0.mod.nolimit.keeps fun b o e => (e0.bs b o e).1
  have hkind : ∀ y ∈ ps.zip us, (defScope st).names.lookup y.1 = some .local ∨ ((defScope st).names.lookup y.1 = some .cell ∧ ((cellsFrom (s.heap.objs.size + 1) (defScope st).names []).lookup y.1).isSome = true) := fun ⟨n, v⟩ hy => by
    rcases S.par n (List.of_mem_zip hy).1 with q | q
    · exact .inl q
    · exact .inr ⟨q, PySem.W.cellsFrom_some _ _ _ (.inl q)⟩
  refine codeAny_call_function hr.depth (KX _ _ lk) rfl S.co S.gen rfl (PySem.W.codeRec_of KX hcd) (hbd _ _ _ _ ?_)
  refine wpAny_newFunctionEnv_cells S.kind hkind fun env he s1 xx => ?_
  subst he
  refine ⟨lim.keeps xx.toInCall.keep, codeAny_func ?_⟩
  have hu : (A.deeper (envOfC qual (defScope st) s.heap.objs.size f cdv)).units + 65 < cLine := by
    have := hr.un
    show A.units + 3 + 65 < cLine
    omega
  obtain ⟨t, ht, q⟩ := hb cdv A outer s H p y cls d ⟨H, G, M⟩ hu hz hf ⟨rx, fun dd e => by
    obtain ⟨_, dd', fvs, e1, e2, _⟩ := rx
    rw [e] at e1; cases e1
    exact wd_xd wd e2⟩
  have I : L2.Inv (cxP P w K mg base N qual (defScope st) f cdv A outer s H p) [] (L2.start N vs) H s1 := L2H.inv_startH S hpin e0 (rds.length.symm.trans hl) r xx
  have end_ : ∀ (d : D) (r' : En) (M' : Sto) (v : V) (σ' : L2.St) (H' G' : Hp), rtF M Ψ d M' → Rel K ⟨H, G, M⟩ r' M' σ' H' G' → Rep K G' d v → Q v H' := fun d r' M' v σ' H' G' ⟨d', M'', fr, q⟩ R' p => by
    cases fr with
    | same => exact post _ _ _ _ _ q R'.wd R'.sin p
    | drop =>
      obtain ⟨w1, s1⟩ := frz_end R'.wd R'.sin
      exact post _ _ _ _ _ q w1 s1 (p.mono frzG_sub)
    | frz n =>
      obtain ⟨w1, s1⟩ := frz_end R'.wd R'.sin
      exact post _ _ _ _ _ q w1 s1 ((p.mono frzG_sub).sb (rep_frz R'.wd n))
  have hq : liftS K ⟨H, G, M⟩ t { nx := fun _ H' => Q .non H', rt := Q } (L2.start N vs) H := by
    refine ⟨ent N.length ds, M, G, _, rel_start wd rds, q ds Ψ hl hc, ⟨fun r' M' σ' H' G' q' R' s' => ?_, fun d r' M' v σ' H' G' q' R' p => end_ d r' M' v σ' H' G' q' R' p, fun _ _ _ _ _ q' _ _ => q'.elim, fun _ _ _ _ _ q' _ _ => q'.elim⟩⟩
    exact end_ .non r' M' .non σ' H' G' q' R' .non
  refine wpAny_mono (ht.run [] s1 (L2.start N vs) H _ I hq) (fun fl s' hs => ?_) fun e s' hs => hs
  have fin : ∀ {σ' : L2.St} {H' : Hp} {v : V} {u : Value}, L2.Inv (cxP P w K mg base N qual (defScope st) f cdv A outer s H p) [] σ' H' s' → RelV v u → Q v H' → CE outer P w H s Q u s' :=
    fun {σ' H' v u} J rv q => ⟨v, H', J.os, J.bare, J.base, J.hok, rv, q⟩
  cases fl with
  | ret u =>
    obtain ⟨v, σ', H', J, rv, q⟩ := hs
    exact fin J rv q
  | next =>
    obtain ⟨σ', H', J, q⟩ := hs
    exact fin (v := V.non) (u := Value.none) J rfl q
  | brk =>
    obtain ⟨_, _, _, q⟩ := hs
    exact q.elim
  | cont =>
    obtain ⟨_, _, _, q⟩ := hs
    exact q.elim
end
structure Hf (P : Program) (w : World) (K : PySem.W.Frag) (mg : Str → Option Value) (base : Heap) (x : Str) (c : Addr → XD → Ct) : Prop where
  ex : ∃ f fd ps, mg x = some (.ref f) ∧ PySem.W.keepIn K (.ref f) = true ∧ FnP P w K mg base 1 f fd ps c ∧ BindD K fd ps (Z.pos 1)
section
variable {X : Cx} {B : Bs} {pos p : Pos} {e : Expr} {ga : DTA} {a : Addr} {oe : Obj} {y : XD} {cls : Value} {d : Option Addr} {x : Str} {c : Addr → XD → Ct} {pn : List (Addr × Obj)}
/-- x(e) in an except suite -/
theorem de_callP (F : Hf X.prog X.w X.K X.mg X.base x c) (hr : L2H.RoomH 1 X.A) (hz : Zc cls d oe) (hf : ∃ vs, oe.data = .fields vs) (hx : XAt X.K B y cls d) (ha : DA (X.suite a ((a, oe) :: pn)) B [e] ga) (hg : Gl X x := by rfl) (hdb : (x == ("__debug__" : Str)) = false := by decide)
    (he : starEach [e] X.env = (false, eval e X.env) :: starEach [] X.env := by rfl) (hpl : (backTo pos (starEach [] X.env)).any (·.1) = false := by rfl) :
    DE (X.suite a ((a, oe) :: pn)) B (.Call (.Name x p) [e] [] pos) (fun r M Ψ => ga r M fun ds M1 => ds.length = 1 ∧ c a y ds M1 Ψ noX) := by
  obtain ⟨f, fd, ps, hm, hk, FP, hb⟩ := F.ex
  refine ⟨fun pins s σ H Q I ⟨r, M, G, Ψ, R, h, k⟩ => ?_⟩
  refine wpAny_Call_Name_kw (ld_glob (X := X.suite a ((a, oe) :: pn)) I hg hm ?_ hdb)
  refine PySem.W.callWith_K (h₀ := X.base) I.ok.mod.kin hk (thn (ha.run pos pins s σ H (fun vs H1 => ∃ ds M1 G1, ds.length = 1 ∧ c a y ds M1 Ψ noX ∧ Rel X.K B r M1 σ H1 G1 ∧ Sub G G1 ∧ RepL X.K G1 ds vs) I ⟨r, M, G, _, R, h, fun ds M1 vs H1 G1 ⟨q1, q2⟩ R1 s1 p1 => ⟨ds, M1, G1, q1, q2, R1, s1, p1⟩⟩) fun us s1 ⟨vs, H1, I1, rv, ds, M1, G1, q1, q2, R1, s1', p1⟩ => ⟨I1.kIn, ?_⟩) he hpl
  obtain ⟨hl, gl, gV, kb, rel⟩ := hb
  have u1 : us.length = 1 := by rw [← rv.length, ← p1.length]; exact q1
  have P1 := I1.pin (a, oe) (List.mem_append_left _ List.mem_cons_self)
  have hpin : L2H.PinOk X.stack H1 s1 (a, oe) := ⟨P1.1, P1.2.1, fun hm => (List.mem_cons.mp (I1.stkSub a hm)).elim P1.2.2.1 P1.2.2.2.1, P1.2.2.2.2⟩
  have rr := rel G1 ds vs [] [] p1 .nil
  refine wpAny_call (codeAny_mono (FP.run (X.A.mark (some (.ref a))) X.stack s1 H1 ⟨us, []⟩ (gl us []) (gV vs []) Q (a, oe) y cls d G1 M1 ds Ψ ⟨hr.dp, hr.un⟩ hpin I1.env0 (kb.to s1 us [] I1.kIn u1 rfl) (kb.rel rv .nil) hz hf R1.wd rr (hl ds [] q1 rfl) (hx.now R1) q2 fun d' M' v H' G' q w s p => k _ _ _ _ _ q (R1.go w s) (s1'.tr s.gsub) p) fun fr s' hq => ?_)
  cases fr with
  | error e => exact LamX.takes0 e s' (XE.of_call I1 (W := fun _ _ _ _ => False) (fun _ _ _ h => h) hq)
  | ok fl =>
    cases fl with
    | ret u => exact I1.after hq
    | next => exact False.elim hq
    | brk => exact False.elim hq
    | cont => exact False.elim hq
end
end Z
namespace Z
open PySem PySem.Spec PyProof.Rows L2

/-! ### try, at the level of data -/
def Bs.at (H G : Hp) (M : Sto) : Bs := ⟨H, G, M⟩
theorem Rel.here {K : PySem.W.Frag} {B : Bs} {r : En} {M : Sto} {σ : L2.St} {H G : Hp} (R : Rel K B r M σ H G) : Rel K (Bs.at H G M) r M σ H G := ⟨R.wd, R.len, R.slots, Since.refl⟩
theorem Rel.back {K : PySem.W.Frag} {B : Bs} {r r' : En} {M M' : Sto} {σ σ' : L2.St} {H G H' G' : Hp} (R : Rel K B r M σ H G) (R' : Rel K (Bs.at H G M) r' M' σ' H' G') : Rel K B r' M' σ' H' G' := ⟨R'.wd, R'.len, R'.slots, Since.trans R.wd R.sin R'.sin⟩
theorem EkOk.here {K : PySem.W.Frag} {B : Bs} {r : En} {M : Sto} {σ : L2.St} {H G : Hp} {E : Ek} {D : Ends} (k : EkOk K B G E D) (R : Rel K B r M σ H G) : EkOk K (Bs.at H G M) G E D :=
  ⟨fun r' M' σ' H' G' q R' s => k.nx _ _ _ _ _ q (R.back R') s, fun d r' M' v σ' H' G' q R' p => k.rt _ _ _ _ _ _ _ q (R.back R') p, fun r' M' σ' H' G' q R' s => k.bk _ _ _ _ _ q (R.back R') s, fun r' M' σ' H' G' q R' s => k.ct _ _ _ _ _ q (R.back R') s⟩
/-- a clause: its test, the name's slot, the suite for the exception at a -/
structure ClD where
  m : Value → Option Bool
  i : Nat
  fs : Addr → XD → DTS
inductive ClsD (X : Cx) : List ExceptHandler → List ClD → Prop
  | nil : ClsD X [] []
  | cons {t : Expr} {n : Str} {b₀ : Stmt} {suite : List Stmt} {pos : Pos} {hds : List ExceptHandler} {l : List ClD} {m : Value → Option Bool} {i : Nat} {fs : Addr → XD → DTS} (ht : TestOk X t m) (hi : X.N[i]? = some n) (hl : X.env.kindOf n = some .local)
      (hs : ∀ (a : Addr) (oe : Obj) (cls : Value) (d : Option Addr) (pn : List (Addr × Obj)) (B : Bs) (y : XD), Zc cls d oe → (∃ vs, oe.data = .fields vs) → XAt X.K B y cls d → DSs (X.suite a ((a, oe) :: pn)) B (b₀ :: suite) (fs a y)) (r : ClsD X hds l) :
      ClsD X (.ExceptHandler (some t) (some n) (b₀ :: suite) pos :: hds) (⟨m, i, fs⟩ :: l)
def Ek.gone (E : Ek) (i : Nat) : Ek := { nx := fun r M => E.nx (r.set i none) M, rt := E.rt, bk := fun r M => E.bk (r.set i none) M, ct := fun r M => E.ct (r.set i none) M }
theorem EkOk.gone {K : PySem.W.Frag} {B : Bs} {G : Hp} {E : Ek} {D : Ends} (k : EkOk K B G E D) (i : Nat) : EkOk K B G (E.gone i) (Ends.gone D i) :=
  ⟨fun _ _ _ _ _ q R s => k.nx _ _ _ _ _ q (R.unset i none) s, k.rt, fun _ _ _ _ _ q R s => k.bk _ _ _ _ _ q (R.unset i none) s, fun _ _ _ _ _ q R s => k.ct _ _ _ _ _ q (R.unset i none) s⟩
def clsD (Ξ : XD → En → Sto → Prop) (E : Ek) : List ClD → XD → En → Sto → Prop
  | [] => Ξ
  | c :: l => fun x r M => ∃ b, c.m (.ref x.1) = some b ∧ (b = true → ∀ a, M a = none → c.fs a x (E.gone c.i) (r.set c.i (some (.ref a))) M) ∧ (b = false → clsD Ξ E l x r M)
def ClD.up (K : PySem.W.Frag) (c : ClD) : Clause := ⟨c.m, c.i, fun a cls d D σ H => ∃ B y, XAt K B y cls d ∧ liftS K B (c.fs a y) D σ H⟩
theorem ClsD.ok {X : Cx} : ∀ {hds : List ExceptHandler} {l : List ClD}, ClsD X hds l → ClsOk X hds (l.map (ClD.up X.K))
  | _, _, .nil => .nil
  | _, _, .cons ht hi hl hs r => .cons ht hi hl (fun a oe cls d pn hz hf => ⟨fun pins s σ H D I ⟨B, y, hx, h⟩ => (hs a oe cls d pn B y hz hf hx).run pins s σ H D I h⟩) r.ok
theorem xat_here {K : PySem.W.Frag} {M : Sto} {H G : Hp} {x : XD} {cls : Value} {d : Option Addr} (w : Wd K M H G) (rx : RepX K G H x cls d) : XAt K (Bs.at H G M) x cls d := ⟨rx, fun dd e => by
  obtain ⟨_, dd', fvs, e1, e2, _⟩ := rx
  rw [e] at e1; cases e1
  exact wd_xd w e2⟩
section
variable {X : Cx} {B : Bs} {Ξ : XD → En → Sto → Prop} {E : Ek} {D : Ends} {G0 : Hp} {r0 : En} {M0 : Sto} {σ0 : L2.St} {H0 : Hp}
theorem cls_run (R : Rel X.K B r0 M0 σ0 H0 G0) (k : EkOk X.K B G0 E D) : ∀ (l : List ClD) (cls : Value) (d : Option Addr) (σ : L2.St) (H : Hp), wOf X.K (Bs.at H0 G0 M0) (clsD Ξ E l) cls d σ H → wCls (wOf X.K B Ξ) D (l.map (ClD.up X.K)) cls d σ H
  | [], cls, d, σ, H, ⟨x, r, M, G, q, R1, rx⟩ => ⟨x, r, M, G, q, R.back R1, rx⟩
  | c :: l, cls, d, σ, H, ⟨x, r, M, G, ⟨b, hb, yes, no⟩, R1, rx⟩ => by
    have ec : cls = .ref x.1 := rx.cls
    refine ⟨b, by rw [ec]; exact hb, fun e a na => ?_, fun e => cls_run R k l cls d σ H ⟨x, r, M, G, no e, R1, rx⟩⟩
    have R2 := (R.back R1)
    refine ⟨Bs.at H G M, x, xat_here R1.wd rx, r.set c.i (some (.ref a)), M, G, E.gone c.i, (R2.here).set .ref c.i, yes e a (R1.wd.nomem na), ?_⟩
    exact ((k.mono R1.sin.gsub).here R2).gone c.i
theorem ds_tryN {body : List Stmt} {hd : ExceptHandler} {hds : List ExceptHandler} {l : List ClD} {pos : Pos} {fb : (XD → En → Sto → Prop) → DTS} (hs : X.stack = X.env :: X.outer) (hf : X.env.frame = some X.env.locals) (hN : X.N.Nodup) (z : Zx X B Ξ)
    (hb : ∀ (B1 : Bs) (pn : List (Addr × Obj)) (xe : Value → Shared → Prop) (Ξ' : XD → En → Sto → Prop), Sub B.G B1.G → Zx (X.tr pn xe) B1 Ξ' → DSs (X.tr pn xe) B1 body (fb Ξ')) (k : ClsD X (hd :: hds) l) :
    DS X B (.Try body (hd :: hds) [] [] pos) (fun E r M => fb (clsD Ξ E l) E r M) := by
  refine PS_imp (ps_tryN (tb := fun W D σ H => ∃ (B1 : Bs) (Ξ' : XD → En → Sto → Prop), Sub B.G B1.G ∧ (∀ cls d σ H, wOf X.K B1 Ξ' cls d σ H → W cls d σ H) ∧ liftS X.K B1 (fb Ξ') D σ H) hs hf hN z.tk (fun W pn xe tk po => ⟨fun pins s σ H D I ⟨B1, Ξ', hS, hW, h⟩ => (hb B1 pn xe Ξ' hS ⟨tk.imp hW, po⟩).run pins s σ H D I h⟩) k.ok) fun D σ H h => ?_
  obtain ⟨r, M, G, E, R, q, kE⟩ := EkOk.of h
  exact ⟨Bs.at H G M, clsD Ξ E l, R.sin.gsub, cls_run R kE l, r, M, G, E, R.here, q, kE.here R⟩
end
/-! ### closures -/
/-- the function object of a lambda: its maker's name q, its text, the captured cells, the value of its one default -/
structure Lam where
  q : Str
  params : Arguments
  body : Expr
  scope : Scope
  cl : List (Str × Addr)
def lamFd (l : Lam) (dV pm cdv ct : Value) : FuncData := { name := "<lambda>", qualname := l.q, params := l.params, body := .expr l.body, scope := l.scope, globals := mainGlobals, closure := l.cl, defaults := dV, kwdefaults := .none, doc := .none, pyModule := pm, annotations := none, code := cdv, closureTuple := ct, builtins := builtinsNs }
abbrev lamO (l : Lam) (dV pm ctv : Value) (c' : Addr) : Obj := { cls := .type "function", data := .func (lamFd l dV pm (.ref c') ctv) }
/-- what is known of the function object at a; ns: the values of its defaults -/
def lamQ (l : Lam) (ns : List Int) (G : Hp) (a : Addr) : Prop := ∃ (dV pm ctv : Value) (c' : Addr), G a = some (.ext fun h => h.get? a = some (lamO l dV pm ctv c')) ∧ G c' = some (LamX.CodeO c' l.q) ∧
  ((ns = [] ∧ dV = .none) ∨ ∃ T, ns ≠ [] ∧ dV = .ref T ∧ G T = some (.tup (ns.map V.int)))
section
variable {X : Cx} {pins : List (Addr × Obj)} {σ : L2.St} {H : Hp} {s : Shared}
theorem mk_fn {l : Lam} {dV pm ctv : Value} {c' : Addr} {h' : Heap} {t t' : Nat} (I : L2.Inv X pins σ H { s with heap := h', toks := t }) :
    L2.Inv X pins σ (upd H h'.objs.size (.ext fun h => h.get? h'.objs.size = some (lamO l dV pm ctv c'))) { s with heap := h'.push (lamO l dV pm ctv c'), toks := t' } :=
  I.laid (fun b u e => Heap.get?_push_of_some _ e) (Nat.le_refl _) ⟨Heap.get?_push_size _ rfl, ⟨_, Heap.get?_push_size _ rfl⟩, fun h1 h2 z st => st _ z⟩
/-- a lambda's function object is made, its defaults known -/
theorem lam_tail {Kn : Addr → Prop} {l : Lam} {dV : Value} {P c : Addr} {ps : Array Value} {pos : Pos} {Q : Value → Shared → Prop} {E : Value → Shared → Prop} (I : L2.Inv X pins σ H s) (TB : LamX.TabB X.base X.mg c P) (hcode : X.env.code = .ref c) (hP : H P = some (.tbl ps)) (ht : TriplesOk ps.toList)
    (ha : ∀ (pos : Pos) (cv : Value), codeAmong pos ps.toList = some cv → ∃ c, cv = .ref c ∧ Kn c ∧ H c = some (LamX.CodeO c l.q)) (hcl : closureFor l.scope X.env = pure l.cl)
    (h : ∀ (f c' : Addr) (pm ctv : Value) (H1 : Hp) (s' : Shared), L2.Inv X pins σ (upd H1 f (.ext fun h => h.get? f = some (lamO l dV pm ctv c'))) s' → H1 f = none → H1 c' = some (LamX.CodeO c' l.q) →
      ((Kn c' ∧ H1 = H) ∨ (H c' = none ∧ H1 = upd (upd H P (.tbl (ps ++ #[rawInt pos.line, rawInt pos.col, .ref c']))) c' (LamX.CodeO c' l.q))) → Q (.ref f) s') :
    wpAny (model X.prog X.w) X.A (makeTail "<lambda>" l.q l.params (.expr l.body) l.scope X.env dV .none none pos pos.line) Q E s := by
  unfold makeTail
  rw [hcl, I.ok.glob]
  refine wpAny_bind (wpAny_pure ?_)
  have p1 : wpAny (model X.prog X.w) X.A (pure .none : Sem Value) (fun _ s1 => L2.Inv X pins σ H s1) E s := wpAny_pure I
  have p2 : ∀ its, wpAny (model X.prog X.w) X.A (newTextTuple its) (fun _ s1 => L2.Inv X pins σ H s1) E s := fun its => wpAny_newTextTuple (I.kept (t' := s.toks) fun b o e => Heap.get?_push_of_some _ e)
  cases hce : l.cl.isEmpty
  case' true =>
    simp only [if_true]
    refine wpAny_bind (wpAny_mono p1 (fun ctv s1 I1 => ?_) fun _ _ x => x)
  case' false =>
    simp only [Bool.false_eq_true, if_false]
    refine wpAny_bind (wpAny_mono (p2 _) (fun ctv s1 I1 => ?_) fun _ _ x => x)
  all_goals
    have hg := I1.mod.glob.keeps I1.bk
    obtain ⟨bm, ob, hbm, hne0, _, hneP, hbo, hcls, hdict, hdata⟩ := TB.bm.keeps I1.bk
    have hP' : s1.heap.get? P = some { cls := .none, data := .fields ps } := I1.hok P _ hP
    have C := TB.code.keeps I1.bk
    cases hc : codeAmong pos ps.toList with
    | some cv =>
      obtain ⟨c', rfl, hkn, hco⟩ := ha pos cv hc
      refine wpAny_bind (wpAny_functionCode_hit hcode (C.code hP' ht) hc ?_)
      refine wpAny_bind (wpAny_builtinsFor hg hbm hne0 hbo hcls hdict hdata ?_)
      refine wpAny_bind (wpAny_nsGet hg ?_)
      refine wpAny_bind (wpAny_pure (wpAny_newObj_type ?_ (by size_fits)))
      exact h _ c' _ ctv H _ (mk_fn (l := l) (t := s1.toks) I1) (I1.hok.fresh (Nat.le_refl _)) hco (.inl ⟨hkn, rfl⟩)
    | none =>
      refine wpAny_bind (wpAny_functionCodeX hcode (C.code hP' ht) (C.tab hP') hc fun c' h' tk hx hge hlt _ hrec htb _ => ?_)
      have hg' := hg.extBut hx TB.gP
      refine wpAny_bind (wpAny_builtinsFor hg' hbm hne0 (hx _ _ hneP hbo) hcls hdict hdata ?_)
      refine wpAny_bind (wpAny_nsGet hg' ?_)
      refine wpAny_bind (wpAny_pure (wpAny_newObj_type ?_ (by size_fits)))
      obtain ⟨c2, oc, vs, t, e2, hoc, hd, hv⟩ := hrec
      cases e2
      have nC : H c' = none := I1.hok.fresh hge
      have I2 := LamX.inv_table (t' := tk) (q := l.q) (more := #[rawInt pos.line, rawInt pos.col, .ref c']) I1 hP (fun b o hb e => hx b o hb e) htb.2 hge ⟨oc, vs, t, hoc, hd, hv⟩
      have nF : upd (upd H P (.tbl (ps ++ #[rawInt pos.line, rawInt pos.col, .ref c']))) c' (LamX.CodeO c' l.q) h'.objs.size = none := I2.hok.fresh (Nat.le_refl _)
      exact h _ c' _ ctv _ _ (mk_fn (l := l) (t := tk) I2) nF upd_same (.inr ⟨nC, rfl⟩)
end
/-- the code object of a lambda laid into the table of its maker -/
theorem tab_put {K : PySem.W.Frag} {M : Sto} {H G : Hp} {P c' : Addr} {q : Str} {ps : Array Value} {pos : Pos} (w : Wd K M H G) (hM : M P = some (.tab q)) (hP : H P = some (.tbl ps)) (ht : TriplesOk ps.toList)
    (ha : ∀ (pos : Pos) (cv : Value), codeAmong pos ps.toList = some cv → ∃ c, cv = .ref c ∧ G c = some (LamX.CodeO c q)) (nC : H c' = none) :
    Wd K M (upd (upd H P (.tbl (ps ++ #[rawInt pos.line, rawInt pos.col, .ref c']))) c' (LamX.CodeO c' q)) (upd G c' (LamX.CodeO c' q)) ∧
    Since H G M M (upd (upd H P (.tbl (ps ++ #[rawInt pos.line, rawInt pos.col, .ref c']))) c' (LamX.CodeO c' q)) (upd G c' (LamX.CodeO c' q)) := by
  have gP : G P = none := (w.cells P _ hM).1
  have nPc : P ≠ c' := ne_of_none hP nC
  have gC : G c' = none := by
    cases e : G c' with
    | none => rfl
    | some o => rw [w.sub _ _ e] at nC; cases nC
  have sg : Sub G (upd G c' (LamX.CodeO c' q)) := fun a o e => by rw [upd_ne (ne_of_none e gC)]; exact e
  have old : ∀ a o, H a = some o → a ≠ P → upd (upd H P (.tbl (ps ++ #[rawInt pos.line, rawInt pos.col, .ref c']))) c' (LamX.CodeO c' q) a = some o := fun a o e n => by rw [upd_ne (ne_of_none e nC), upd_ne n]; exact e
  refine ⟨⟨fun a o e => ?_, fun a c e => ?_⟩, ⟨fun a o e n => old a o e (fun z => by rw [z, hM] at n; cases n), fun a e => ?_, sg, fun a e n => ?_, fun a e n => absurd n e⟩⟩
  · by_cases z : a = c'
    · rw [z, upd_same] at e ⊢; exact e
    · rw [upd_ne z] at e
      exact old a o (w.sub _ _ e) (fun y => by rw [y, gP] at e; cases e)
  · obtain ⟨h1, h2⟩ := w.cells a c e
    have nc : a ≠ c' := fun z => by rw [z] at h2; exact h2.there nC
    refine ⟨by rw [upd_ne nc]; exact h1, ?_⟩
    by_cases z : a = P
    · subst z
      rw [hM] at e
      cases e
      have eL : (ps ++ #[rawInt pos.line, rawInt pos.col, .ref c']).toList = ps.toList ++ [rawInt pos.line, rawInt pos.col, .ref c'] := by simp
      refine ⟨ps ++ #[rawInt pos.line, rawInt pos.col, .ref c'], by rw [upd_ne nPc, upd_same], by rw [eL]; exact PySem.TriplesOk_snoc _ _ _ _ ht, fun p' cv hcv => ?_⟩
      rw [eL] at hcv
      rcases LamX.among_app _ ht hcv with y | y
      · obtain ⟨c0, e1, e2⟩ := ha p' cv y
        exact ⟨c0, e1, sg _ _ e2⟩
      · exact ⟨c', y, upd_same⟩
    · exact h2.move sg fun o y => old a o y z
  · cases q : H a with
    | none => exact absurd q e
    | some o =>
      by_cases z : a = P
      · rw [z, upd_ne nPc, upd_same]; simp
      · rw [old a o q z]; simp
  · by_cases z : a = c'
    · rw [z]; exact nC
    · rw [upd_ne z] at e; exact absurd n e
/-- what a lambda's names may be: captured ones, globals, parameters that its maker does not have -/
structure LamOk (X : Cx) (l : Lam) : Prop where
  q : X.env.qual ++ "<lambda>" = l.q
  cl : l.cl = cloFrom X.env.cells l.scope.names []
  free : ∀ y ∈ l.scope.names, y.2 = .free → X.env.scope.names.lookup y.1 = some .cell ∨ X.env.scope.names.lookup y.1 = some .free
theorem LamOk.has {X : Cx} {l : Lam} (L : LamOk X l) (ok : X.Ok) : ∀ y ∈ l.scope.names, y.2 = .free → ∃ c, X.env.cells.lookup y.1 = some c := fun y hy e => by
  rcases L.free y hy e with k | k
  · exact ok.has _ (.inl k)
  · exact ok.has _ (.inr k)
section
variable {X : Cx} {B : Bs} {pos : Pos} {l : Lam} {P c : Addr}
theorem lam_core {pins : List (Addr × Obj)} {σ : L2.St} {H G : Hp} {s : Shared} {r : En} {M : Sto} {Q : VK} {dV : Value} {ns : List Int} (I : L2.Inv X pins σ H s) (R : Rel X.K B r M σ H G) (TB : LamX.TabB X.base X.mg c P) (hcode : X.env.code = .ref c) (L : LamOk X l) (hM : M P = some (.tab l.q))
    (hdv : (ns = [] ∧ dV = .none) ∨ ∃ T, ns ≠ [] ∧ dV = .ref T ∧ G T = some (.tup (ns.map V.int)))
    (hQ : ∀ v H' G', Rel X.K B r M σ H' G' → Sub G G' → Rep X.K G' (.fn (lamQ l ns)) v → Q v H') :
    wpAny (model X.prog X.w) X.A (makeTail "<lambda>" l.q l.params (.expr l.body) l.scope X.env dV .none none pos pos.line) (EP X pins σ Q) X.xe s := by
  obtain ⟨gP, ps, hP, ht, ha⟩ := R.wd.cells P _ hM
  refine lam_tail (Kn := fun c => G c = some (LamX.CodeO c l.q)) I TB hcode hP ht (fun pos cv e => let ⟨c, e1, e2⟩ := ha pos cv e; ⟨c, e1, e2, R.wd.sub _ _ e2⟩) (by rw [L.cl]; exact closure_ok (L.has I.ok)) fun f c' pm ctv H1 s' I' nF hC hH => ?_
  have fin : ∀ G1, Rel X.K B r M σ H1 G1 → Sub G G1 → G1 c' = some (LamX.CodeO c' l.q) → EP X pins σ Q (.ref f) s' := fun G1 R1 s1 e1 => by
    have g := grow_upd (o := .ext fun h => h.get? f = some (lamO l dV pm ctv c')) R1.wd.sub nF
    have nG : G1 f = none := by
      cases q : G1 f with
      | none => rfl
      | some o => rw [R1.wd.sub _ _ q] at nF; cases nF
    refine ⟨.ref f, _, I', rfl, hQ _ _ _ (R1.grow g) (s1.tr g.gsub) (.fn Sub.rfl' ⟨dV, pm, ctv, c', upd_same, g.gsub _ _ e1, hdv.imp id fun ⟨T, a, b, d⟩ => ⟨T, a, b, g.gsub _ _ (s1 _ _ d)⟩⟩)⟩
  rcases hH with ⟨kn, e⟩ | ⟨nC, e⟩
  · subst e
    exact fin G R Sub.rfl' kn
  · subst e
    obtain ⟨w1, s1⟩ := tab_put (pos := pos) R.wd hM hP ht ha nC
    exact fin _ (R.go w1 s1) s1.gsub upd_same
end
end Z
namespace Z
open PySem PySem.Spec PyProof.Rows L2

section
variable {X : Cx} {B : Bs} {pos p1 : Pos} {l : Lam} {P c : Addr}
/-- lambda: .. -/
theorem de_lam {q : Str} {params : Arguments} {body : Expr} {scope : Scope} {cl : List (Str × Addr)} (TB : LamX.TabB X.base X.mg c P) (hcode : X.env.code = .ref c) (L : LamOk X ⟨q, params, body, scope, cl⟩) (hdef : defaultsOf params X.env = ([], [])) :
    DE X B (.Lambda params body scope pos) (fun _ M Ψ => M P = some (.tab q) ∧ Ψ (.fn (lamQ ⟨q, params, body, scope, cl⟩ [])) M) := by
  refine ⟨fun pins s σ H Q I ⟨r, M, G, Ψ, R, ⟨hM, h⟩, k⟩ => ?_⟩
  have Lq : X.env.qual ++ "<lambda>" = q := L.q
  refine PySem.W.kla_eval hdef ?_
  rw [makeFunction_eq, Lq]
  simp only [List.zip_nil_right, List.filterMap_nil, List.isEmpty_nil, if_true, pure_bind]
  exact lam_core (l := ⟨q, params, body, scope, cl⟩) I R TB hcode L hM (.inl ⟨rfl, rfl⟩) fun v H' G' R' s' p => k _ _ _ _ _ h R' s' p
/-- lambda x=n: .. -/
theorem de_lam1 {q : Str} {params : Arguments} {body : Expr} {scope : Scope} {cl : List (Str × Addr)} {n : Int} {j} (TB : LamX.TabB X.base X.mg c P) (hcode : X.env.code = .ref c) (L : LamOk X ⟨q, params, body, scope, cl⟩) (hdef : defaultsOf params X.env = ([eval (.Constant (.int n) j p1) X.env], [])) :
    DE X B (.Lambda params body scope pos) (fun _ M Ψ => M P = some (.tab q) ∧ Ψ (.fn (lamQ ⟨q, params, body, scope, cl⟩ [n])) M) := by
  refine ⟨fun pins s σ H Q I ⟨r, M, G, Ψ, R, ⟨hM, h⟩, k⟩ => ?_⟩
  rw [arm_eval_Lambda, hdef]
  have Lq : X.env.qual ++ "<lambda>" = q := L.q
  show wpAny _ _ (do
    let dv ← (do
      let v ← eval (.Constant (.int n) j p1) X.env
      return v :: (← holding [v] (evalAll [])))
    let kdv ← holding dv (evalAllOpt [])
    makeFunction "<lambda>" (X.env.qual ++ "<lambda>") params (.expr body) scope X.env dv kdv [] pos pos.line) _ _ _
  refine wpAny_bind (wpAny_bind (thn (pe_int.run pins s σ H (fun v H1 => v = .int n ∧ H1 = H) I ⟨rfl, rfl⟩) fun u s1 ⟨v, H1, I1, ru, ev, eH⟩ => ?_))
  subst ev eH
  refine wpAny_bind (wpAny_holding (wpAny_pure (wpAny_pure (wpAny_bind (wpAny_holding (wpAny_pure ?_))))))
  rw [makeFunction_eq, Lq]
  simp only [List.zip_nil_right, List.filterMap_nil, List.isEmpty_nil, List.isEmpty_cons, Bool.false_eq_true, if_false, if_true, pure_bind]
  refine wpAny_bind (wpAny_newTextTuple ?_)
  have hf : H1 s1.heap.objs.size = none := I1.hok.fresh (Nat.le_refl _)
  have I2 : L2.Inv X pins σ (upd H1 s1.heap.objs.size (.tup [.int n])) { s1 with heap := s1.heap.push { cls := .type "tuple", data := .seq [u].toArray } } :=
    I1.laid (t' := s1.toks) (fun b u e => Heap.get?_push_of_some _ e) (Nat.le_refl _) ⟨by show 1 ≤ sizeLine; decide, [u], .cons ru .nil, ⟨_, Heap.get?_push_size _ rfl, rfl, _, rfl⟩⟩
  have g := grow_upd (o := .tup [.int n]) R.wd.sub hf
  exact lam_core (l := ⟨q, params, body, scope, cl⟩) I2 (R.grow g) TB hcode L hM (.inr ⟨_, List.cons_ne_nil _ _, rfl, upd_same⟩) fun v H' G' R' s' p => k _ _ _ _ _ h R' (g.gsub.tr s') p
end
/-! ### the closure is called -/
/-- what a lambda's text is -/
structure LamT (X : Cx) (l : Lam) (ps : List Str) : Prop where
  kind : l.scope.kind = .function
  co : l.scope.isCoroutine = false
  gen : l.scope.isGenerator = false
  nocell : ∀ y ∈ l.scope.names, y.2 ≠ .cell
  loc : ∀ y ∈ X.N, l.scope.names.lookup y ≠ some .local
  par : ∀ y ∈ ps, l.scope.names.lookup y = some .local
  bind : (ps = [] ∧ ∀ pm cv ctv, bindArgs (lamFd l .none pm cv ctv) ⟨[], []⟩ = pure []) ∨ (ps ≠ [] ∧ ∀ (T : Addr) (pm cv ctv : Value) (its : List Value), its.length = ps.length →
    ∃ k, bindArgs (lamFd l (.ref T) pm cv ctv) ⟨[], []⟩ = seqItems? (.ref T) >>= k ∧ k (some its.toArray) = pure (ps.zip its))
section
variable {X : Cx} {pins : List (Addr × Obj)} {σ : L2.St} {H HZ : Hp} {s s1 : Shared} {l : Lam} {ps : List Str}
theorem lam_start {A : Around} {outer : List Env} {E : XK} {f c' : Addr} {h₁ : Heap} {tk : Nat} {m : Str → Option Value} (I : L2.Inv X pins σ H s) (L : LamOk X l) (T : LamT X l ps) (e0 : Env0 X.prog X.w X.K X.mg X.base A outer s1 HZ) (hd : A.handled = none)
    (un : Un (frs X.stack) [] H HZ s.heap s1.heap) (hns : h₁.Ns s1.heap.objs.size m) (kp : ∀ b o, s1.heap.get? b = some o → h₁.get? b = some o) :
    L2.Inv (LamX.lamCx X A outer s1 HZ E l.scope f c') [] σ HZ { s1 with heap := h₁, toks := tk } := by
  have hfree := L.has I.ok
  have same : ∀ {y c}, (cloFrom X.env.cells l.scope.names []).lookup y = some c → X.env.cells.lookup y = some c := fun {y c} e => by
    rcases cloFrom_mem (PySem.mem_of_lookup e) with z | ⟨h1, h2⟩
    · cases z
    · obtain ⟨c1, hc⟩ := hfree _ h1 rfl
      have hc : X.env.cells.lookup y = some c1 := hc
      rw [hc] at h2 ⊢
      rw [h2]; rfl
  have look : ∀ {y}, l.scope.names.lookup y = some .free → ∃ c, (cloFrom X.env.cells l.scope.names []).lookup y = some c := fun {y} hl => by
    have hy : (y, NameKind.free) ∈ l.scope.names := PySem.mem_of_lookup hl
    exact mem_lookup (cloFrom_has (cells := X.env.cells) (acc := []) hy)
  have cell : ∀ {c : Addr} {v : Option Value}, H c = none → s.heap.IsCell c v → h₁.IsCell c v := fun {c v} n ⟨o, ho, hd⟩ => by
    obtain ⟨sl, q⟩ := un.any ho n (by simp)
    exact ⟨_, kp _ _ q, hd⟩
  have nex : ∀ b : Addr, b ∉ (LamX.lamCx X A outer s1 HZ E l.scope f c').ex := fun b z => absurd (show b ∈ ([] : List Addr) from z) (by simp)
  have ok : (LamX.lamCx X A outer s1 HZ E l.scope f c').Ok := by
    refine ⟨e0.mod, T.kind, rfl, rfl, Nat.le_refl _, fun y z c e1 e2 => I.ok.inj y z c (same e1) (same e2), fun y hy => ?_, fun y c z _ => Bool.noConfusion (show false = true from z), fun _ => hd, Around.frames_deeper e0.frames, .inr ⟨rfl, rfl⟩, fun b z => absurd z (nex b), e0.bs, e0.bsz, fun b _ _ => nex b, fun b z => absurd z (nex b), e0.funs, e0.frf⟩
    have hy : l.scope.names.lookup y = some .cell ∨ l.scope.names.lookup y = some .free := hy
    rcases hy with hy | hy
    · exact absurd rfl (T.nocell _ (PySem.mem_of_lookup hy))
    · exact look hy
  refine ⟨ok, rfl, e0.bare, Un.kept kp, ⟨_, hns, fun i y v e1 e2 e3 => ?_⟩, fun y c e => ?_, e0.hok.fresh (Nat.le_refl _), fun y c e => ?_, fun q hq => absurd (show q ∈ ([] : List (Addr × Obj)) ++ [] from hq) (by simp), e0.hok.kept kp, I.len⟩
  · have e3 : Vis l.scope y := e3
    rcases e3 with k | k | k
    · exact absurd k (T.loc y (List.mem_of_getElem? e1))
    · exact absurd rfl (T.nocell _ (PySem.mem_of_lookup k))
    · obtain ⟨m0, hn, hl⟩ := I.loc
      have hv : Vis X.env.scope y := (L.free _ (PySem.mem_of_lookup k) rfl).elim (fun z => .inr (.inl z)) fun z => .inr (.inr z)
      obtain ⟨w', r, q⟩ := hl i y v e1 e2 hv
      obtain ⟨c2, h2⟩ := look k
      refine ⟨w', r, .inr ⟨.inr k, c2, h2, ?_⟩⟩
      have c1 := same h2
      rcases q with ⟨k', _⟩ | ⟨_, c3, e', z⟩
      · have k' : X.env.scope.names.lookup y = some .local := k'
        rcases L.free _ (PySem.mem_of_lookup k) rfl with k2 | k2 <;> rw [show X.env.scope.names.lookup y = _ from k2] at k' <;> cases k'
      · rw [c1] at e'
        cases e'
        exact cell (I.freeC y _ c1) z
  · obtain ⟨w', z⟩ := I.cell y c (same e)
    exact ⟨w', cell (I.freeC y c (same e)) z⟩
  · obtain ⟨v, o, ho, hd⟩ := I.cell y c (same e)
    exact un.free c o ho (I.freeC y c (same e)) (by simp)
end
/-- a lambda's body, read in its maker's slots: t by the wish of exceptions -/
def LamBody (X : Cx) (k : Nat) (l : Lam) (t : (XD → En → Sto → Prop) → DTE) : Prop := ∀ (A : Around) (outer : List Env) (s : Shared) (H : Hp) (E : XK) (f c' : Addr) (B : Bs) (Ξ : XD → En → Sto → Prop), Room k (A.deeper (LamX.lamEnv X l.scope s.heap.objs.size f c')) →
  Zx (LamX.lamCx X A outer s H E l.scope f c') B Ξ → DE (LamX.lamCx X A outer s H E l.scope f c') B l.body (t Ξ)
/-- the def that got a closure, in its own context X: the call of the name at slot 0 -/
def ActOk (X : Cx) (B : Bs) (q : L2.Hp → Addr → Prop) (beh : Sto → PD → (XD → Sto → Prop) → Prop) : Prop := ∀ (a : Str) (pn : List (Addr × Obj)) (xe : Value → Shared → Prop) (B1 : Bs) (Ξ : XD → En → Sto → Prop) (p1 p2 : Pos), X.N[0]? = some a → Vis X.env.scope a → (a == ("__debug__" : Str)) = false → (a == ("__classdict__" : Str)) = false →
  Sub B.G B1.G → Zx (X.tr pn xe) B1 Ξ → DE (X.tr pn xe) B1 (.Call (.Name a p1) [] [] p2) (fun r M Ψ => getS r 0 (fun d => d = .fn q) ∧ ∃ Ψ' Ξ', beh M Ψ' Ξ' ∧ (∀ d M', Ψ' d M' → Ψ d M') ∧ ∀ x M', Ξ' x M' → Ξ x r M')
section
variable {X : Cx} {pins : List (Addr × Obj)} {σ : L2.St} {H G : Hp} {s : Shared} {l : Lam} {ps : List Str} {ns : List Int} {B : Bs} {r : En} {M : Sto} {k : Nat} {t : (XD → En → Sto → Prop) → DTE} {Ng : List Str} {qg : Str} {sg : Scope} {g : Addr} {cdg : Value} {Eg : XK} {CXg : CXT}
theorem act_ok (I : L2.Inv X pins σ H s) (R : Rel X.K B r M σ H G) (L : LamOk X l) (T : LamT X l ps) (hn : ns.length = ps.length) (hr : Room (k + 1) (X.A.deeper (envOfC qg sg s.heap.objs.size g cdg))) (hb : LamBody X k l t) :
    ActOk (cxOf CXg X.prog X.w X.K X.mg X.base Ng qg sg g cdg X.A X.stack s H Eg) (Bs.at H G M) (lamQ l ns) (fun MZ Ψ Ξ => t (fun x _ M' => Ξ x M') r MZ Ψ) := by
  intro a pn xe B1 Ξ p1 p2 hN hv hd hcd hG z
  refine ⟨fun pinsZ sZ σZ HZ Q IZ ⟨rZ, MZ, GZ, Ψ, RZ, hs, kk⟩ => ?_⟩
  obtain ⟨d, ed, ed2, Ψ', Ξ', ht, hΨ, hΞ⟩ := (show ∃ d, rZ[0]? = some (some d) ∧ d = .fn (lamQ l ns) ∧ ∃ (Ψ' : PD) (Ξ' : XD → Sto → Prop), t (fun x _ M' => Ξ' x M') r MZ Ψ' ∧ (∀ d M', Ψ' d M' → Ψ d M') ∧ ∀ x M', Ξ' x M' → Ξ x rZ M' from by
    obtain ⟨h1, h2⟩ := hs
    obtain ⟨d, e, e2⟩ := getS_some h1
    exact ⟨d, e, e2, h2⟩)
  subst ed2
  obtain ⟨v, ev, pv⟩ := RZ.slots _ _ ed
  cases pv with
  | @fn _ f G0 hsub hq =>
    obtain ⟨dV, pm, ctv, c', hf, hc, hdv⟩ := hq
    refine wpAny_Call_Name_kw (thn ((pe_var (X := (cxOf CXg X.prog X.w X.K X.mg X.base Ng qg sg g cdg X.A X.stack s H Eg).tr pn xe) (pos := p1) (i := 0) hN hv hd hcd).run pinsZ sZ σZ HZ (fun v H1 => v = .ref f ∧ H1 = HZ) IZ ⟨.ref f, ev, rfl, rfl⟩) fun u s1 ⟨v, H1, I1, r1, q1⟩ => ?_)
    obtain ⟨ev', eH⟩ := q1
    subst ev'
    rw [eH] at I1
    obtain rfl : u = Value.ref f := r1
    have of1 : s1.heap.get? f = some (lamO l dV pm ctv c') := (I1.hok f _ (RZ.wd.sub _ _ (hsub _ _ hf))).1
    refine PySem.W.callWith_F0 ⟨_, _, _, _, of1⟩ ?_
    have un : Un (frs X.stack) [] H HZ s.heap s1.heap := I1.base
    obtain ⟨⟨oc, vs, tq, hoc, hdc, hvc⟩, _, _⟩ := I1.hok c' _ (RZ.wd.sub _ _ (hsub _ _ hc))
    let E : XK := fun cls d H' => ∃ x M' G', Ξ' x M' ∧ Wd X.K M' H' G' ∧ Since HZ GZ MZ M' H' G' ∧ RepX X.K G' H' x cls d
    have RB : Rel X.K (Bs.at HZ GZ MZ) r MZ σ HZ GZ := ⟨RZ.wd, R.len, fun i d e => let ⟨v, h1, h2⟩ := R.slots i d e; ⟨v, h1, h2.mono (hG.tr RZ.sin.gsub)⟩, Since.refl⟩
    have hbd : BindsTo s1 (lamFd l dV pm (.ref c') ctv) ⟨[], []⟩ (ps.zip (ps.map fun _ => Value.none)) ∨ ∃ its : List Value, its.length = ps.length ∧ BindsTo s1 (lamFd l dV pm (.ref c') ctv) ⟨[], []⟩ (ps.zip its) := by
      rcases T.bind with ⟨e, h⟩ | ⟨e, h⟩
      · subst e
        rcases hdv with ⟨_, e2⟩ | ⟨T', e2, _⟩
        · subst e2
          exact .inl (.of_eq (h pm (.ref c') ctv))
        · exact absurd (List.length_eq_zero_iff.mp hn) e2
      · rcases hdv with ⟨e1, _⟩ | ⟨T', e1, e2, e3⟩
        · subst e1
          exact absurd (List.length_eq_zero_iff.mp hn.symm) e
        · subst e2
          obtain ⟨_, its, rv, o, ho, hcl, n, hdt⟩ := I1.hok T' _ (RZ.wd.sub _ _ (hsub _ _ e3))
          have hl : its.length = ps.length := by rw [← rv.length, List.length_map]; exact hn
          obtain ⟨kb, k1, k2⟩ := h T' pm (.ref c') ctv its hl
          refine .inr ⟨its, hl, fun M0 A0 Q0 E0 q => ?_⟩
          rw [k1]
          refine wpAny_bind (wpAny_seqItems ho hdt ?_)
          rw [k2]
          exact wpAny_pure q
    have par : ∀ {its : List Value}, ∀ y ∈ ps.zip its, l.scope.names.lookup y.1 = some .local := fun {its} y hy => T.par _ (List.of_mem_zip hy).1
    have rc : codeAny (model X.prog X.w) (X.A.deeper (envOfC qg sg s.heap.objs.size g cdg)) (.call (.ref f) ⟨[], []⟩) (CR (L2.CX X.prog X.w) (envOfC qg sg s.heap.objs.size g cdg :: X.stack) X.prog X.w HZ s1 Q E) s1 := by
      obtain ⟨binds, hbinds, hpar⟩ : ∃ binds, BindsTo s1 (lamFd l dV pm (.ref c') ctv) ⟨[], []⟩ binds ∧ ∀ y ∈ binds, l.scope.names.lookup y.1 = some .local := by
        rcases hbd with h | ⟨its, _, h⟩
        · exact ⟨_, h, par⟩
        · exact ⟨_, h, par⟩
      refine PySem.W.kla_callFunE hr.depth of1 rfl T.co T.gen rfl ⟨c', oc, vs, tq, rfl, hoc, hdc, hvc⟩ ?_
      refine hbinds _ _ _ _ ?_
      refine wpAny_newFunctionEnv T.nocell hpar (fun h₁ hns hsb => ⟨I1.nolimit.fresh _ hsb, ?_⟩) T.kind
      have kp : ∀ b o, s1.heap.get? b = some o → h₁.get? b = some o := fun b o e => hsb.extBut b o (Nat.ne_of_lt (Heap.lt_size e)) (Heap.get?_push_of_some _ e)
      have J := lam_start (E := E) (f := f) (c' := c') (tk := s1.toks + binds.length) I L T I1.env0 hr.hd un hns kp
      have zb : Zx (LamX.lamCx X (X.A.deeper (envOfC qg sg s.heap.objs.size g cdg)) (envOfC qg sg s.heap.objs.size g cdg :: X.stack) s1 HZ E l.scope f c') (Bs.at HZ GZ MZ) (fun x _ M' => Ξ' x M') :=
        ⟨(takes_of rfl rfl rfl rfl).imp fun cls d σ' H' ⟨x, r', M', G', q, R', rx⟩ => ⟨x, M', G', q, R'.wd, R'.sin, rx⟩, passes_of rfl⟩
      have pb := hb (X.A.deeper (envOfC qg sg s.heap.objs.size g cdg)) (envOfC qg sg s.heap.objs.size g cdg :: X.stack) s1 HZ E f c' (Bs.at HZ GZ MZ) _ (hr.deeper _) zb
      have e1 : PySem.W.envX (X.env.qual ++ "<lambda>") l.scope s1.heap.objs.size f (.ref c') (cloFrom X.env.cells l.scope.names []) = newEnv l.scope s1.heap.objs.size mainGlobals l.cl (l.q ++ ".<locals>.") (some f) (.ref c') none builtinsNs := by
        rw [L.q, L.cl]; rfl
      show codeAny _ _ (.expr l.body (newEnv l.scope s1.heap.objs.size mainGlobals l.cl (l.q ++ ".<locals>.") (some f) (.ref c') none builtinsNs)) _ _
      rw [← e1]
      refine PySem.W.kla_codeExpr (wpAny_mono (pb.run [] _ _ HZ Q J ⟨r, MZ, GZ, Ψ', RB, ht, fun d' M' v H' G' q R' s' p => ?_⟩) (fun v s' hq => ?_) fun e s' hq => hq)
      · exact kk _ _ _ _ _ (hΨ _ _ q) (RZ.go R'.wd R'.sin) s' p
      · obtain ⟨w', H', J', rv, q⟩ := hq
        exact ⟨w', H', J'.os, J'.bare, J'.base, J'.hok, rv, q⟩
    refine wpAny_call (codeAny_mono rc fun fr s' hq => ?_)
    cases fr with
    | error e => exact z.tk e s' (XE.of_call I1 (W := wOf X.K B1 Ξ) (fun cls d H' ⟨x, M', G', q, w, sn, rx⟩ => ⟨x, rZ, M', G', hΞ _ _ q, RZ.go w sn, rx⟩) hq)
    | ok fl =>
      cases fl with
      | ret u => exact I1.after hq
      | next => exact False.elim hq
      | brk => exact False.elim hq
      | cont => exact False.elim hq
end
end Z
namespace Z
open PySem PySem.Spec PyProof.Rows L2

/-! ### the def that tells an error and its field -/
def fldN (t : Str) : Option Str :=
  if t ∈ (["InvalidWord", "InvalidRing", "InvalidRoom", "InvalidCount", "InvalidIndex", "InvalidBound", "InvalidLimit"] : List Str) then some "given"
  else if t ∈ (["TooLong", "TooGreat", "TooManyRooms"] : List Str) then some "most"
  else if t ∈ (["InvalidName", "DuplicateName", "UnknownName"] : List Str) then some "name"
  else if t = ("InvalidProgram" : Str) then some "path"
  else if t = ("CapacityExceeded" : Str) then some "limit"
  else if t = ("InvalidCommand" : Str) then some "word"
  else if t = ("InUse" : Str) then some "user"
  else if t = ("ParseError" : Str) then some "line"
  else none
/-- x is an error with the tag t; φ of its field -/
def wfX (K : PySem.W.Frag) (x : XD) (φ : Str → D → Prop) : Prop := ∃ t, x.2.lookup ("tag" : Str) = some (D.str t) ∧ XfC K x.1 ∧ NoAttr K x.1 "tag" ∧ match fldN t with
  | some n => NoAttr K x.1 n ∧ ∃ v, x.2.lookup n = some v ∧ φ t v
  | none => φ t .non
def whyX (K : PySem.W.Frag) (x : XD) (φ : Str → D → Prop) : Prop := ∃ b, PySem.W.exmAny K (.ref x.1) [.ref (He.ga K "MillError"), .ref (He.ga K "Missing")] = some b ∧ (b = true → wfX K x φ) ∧
  (b = false → PySem.W.exmOne K (.ref x.1) (.ref (He.ga K "NothingLeft")) = some true ∧ ∃ t, x.2.lookup ("tag" : Str) = some (D.str t) ∧ XfC K x.1 ∧ NoAttr K x.1 "tag" ∧ φ t .non)
/-- what the calls of a closure are wished to be, made into the pair that is told -/
abbrev whyΨ (Ψ : PD) : PD := fun d M' => Ψ (.tup [.str "", d]) M'
abbrev whyΞ (K : PySem.W.Frag) (Ψ : PD) : XD → Sto → Prop := fun x M' => whyX K x fun t v => Ψ (.tup [.str t, v]) M'
structure WhyOk (P : Program) (w : World) (K : PySem.W.Frag) (mg : Str → Option Value) (base : Heap) (x : Str) (k : Nat) : Prop where
  ex : ∃ (f : Addr) (fd : FuncData) (N : List Str) (a qual : Str) (st : Stmt), mg x = some (.ref f) ∧ PySem.W.keepIn K (.ref f) = true ∧ FnZ K x qual st [] [] f fd ∧ FnScope N [a] (defScope st) ∧ BindD K fd [a] (Z.pos 1) ∧
    ∀ (cdv : Value) (A : Around) (outer : List Env) (s : Shared) (H : Hp) (E : XK) (B : Bs) (q : L2.Hp → Addr → Prop) (beh : Sto → PD → (XD → Sto → Prop) → Prop), Room k (A.deeper (envOfC qual (defScope st) s.heap.objs.size f cdv)) →
      Zx (cxOf (L2.CX P w) P w K mg base N qual (defScope st) f cdv A outer s H E) B (exF B.M noX) → ActOk (cxOf (L2.CX P w) P w K mg base N qual (defScope st) f cdv A outer s H E) B q beh →
      ∃ t, DSs (cxOf (L2.CX P w) P w K mg base N qual (defScope st) f cdv A outer s H E) B (defBody st) t ∧ ∀ Ψ, beh B.M (whyΨ Ψ) (whyΞ K Ψ) → t { nx := fun _ M' => rtF B.M Ψ .non M', rt := rtF B.M Ψ } (ent N.length [.fn q]) B.M
/-- a lambda of the def, its defaults' names and values, what its body is -/
structure LamD where
  l : Lam
  ps : List Str
  ns : List Int
  t : (XD → En → Sto → Prop) → DTE
structure LamD.Ok (X : Cx) (k : Nat) (m : LamD) : Prop where
  o : LamOk X m.l
  t : LamT X m.l m.ps
  n : m.ns.length = m.ps.length
  b : LamBody X k m.l m.t
inductive LamsOk (X : Cx) (k : Nat) : List LamD → Prop
  | nil : LamsOk X k []
  | cons {m : LamD} {ms : List LamD} (h : m.Ok X k) (r : LamsOk X k ms) : LamsOk X k (m :: ms)
theorem LamsOk.at {X : Cx} {k : Nat} : ∀ {ms : List LamD}, LamsOk X k ms → ∀ m ∈ ms, m.Ok X k
  | _, .cons h r, m, hm => by
    rcases List.mem_cons.mp hm with e | e
    · rw [e]; exact h
    · exact r.at m e
def lamFB (sc scope : Scope) : Bool := scope.names.all fun y => !decide (y.2 = .free) || decide (sc.names.lookup y.1 = some .cell) || decide (sc.names.lookup y.1 = some .free)
theorem lamF_by {sc scope : Scope} (h : lamFB sc scope = true) : ∀ y ∈ scope.names, y.2 = .free → sc.names.lookup y.1 = some .cell ∨ sc.names.lookup y.1 = some .free := fun y hy e => by
  have h2 := List.all_eq_true.mp h y hy
  simp only [Bool.or_eq_true, Bool.not_eq_true', decide_eq_true_eq, decide_eq_false_iff_not] at h2
  rcases h2 with (z | z) | z
  · exact absurd e z
  · exact .inl z
  · exact .inr z
def lamTB (N : List Str) (scope : Scope) (ps : List Str) : Bool := decide (scope.kind = .function) && (!scope.isCoroutine && (!scope.isGenerator && ((scope.names.all fun y => !decide (y.2 = .cell)) && ((N.all fun y => !decide (scope.names.lookup y = some .local)) && ps.all fun y => decide (scope.names.lookup y = some .local)))))
theorem lamT_by {X : Cx} {l : Lam} {ps : List Str} (h : lamTB X.N l.scope ps = true) (hb : (ps = [] ∧ ∀ pm cv ctv, bindArgs (lamFd l .none pm cv ctv) ⟨[], []⟩ = pure []) ∨ (ps ≠ [] ∧ ∀ (T : Addr) (pm cv ctv : Value) (its : List Value), its.length = ps.length →
    ∃ k, bindArgs (lamFd l (.ref T) pm cv ctv) ⟨[], []⟩ = seqItems? (.ref T) >>= k ∧ k (some its.toArray) = pure (ps.zip its))) : LamT X l ps := by
  unfold lamTB at h
  simp only [Bool.and_eq_true, Bool.not_eq_true', List.all_eq_true, decide_eq_true_eq, decide_eq_false_iff_not] at h
  obtain ⟨h1, h2, h3, h4, h5, h6⟩ := h
  exact ⟨h1, h2, h3, h4, h5, h6, hb⟩
section
variable {X : Cx} {B : Bs} {k j : Nat} {x : Str} {pos p : Pos} {e : Expr} {ga : DTA}
theorem why_core {pins : List (Addr × Obj)} {σ : L2.St} {H G : Hp} {s : Shared} {r : En} {M : Sto} {Q : VK} {Ψ : PD} {m : LamD} {v : V} {u : Value} {f : Addr} (W : WhyOk X.prog X.w X.K X.mg X.base x k) (hm : X.mg x = some (.ref f)) (hr : Room (k + 2) X.A) (I : L2.Inv X pins σ H s) (R : Rel X.K B r M σ H G)
    (rv : RelV v u) (p : Rep X.K G (.fn (lamQ m.l m.ns)) v) (ok : m.Ok X k) (h : m.t (fun x _ M' => whyΞ X.K Ψ x M') r M (whyΨ Ψ)) (hQ : Post X.K H G M Ψ Q) :
    codeAny (model X.prog X.w) X.A (.call (.ref f) ⟨[u], []⟩) (CR (L2.CX X.prog X.w) X.stack X.prog X.w H s Q (fun _ _ _ => False)) s := by
  obtain ⟨f', fd, N, a, qual, st, hm', hk, F, S, hbd, body⟩ := W.ex
  rw [hm] at hm'
  cases hm'
  obtain ⟨oc, od, dV, kV, doc, pm, an, cdv, ct, osl, rfl, lk, hcd, _, _⟩ := F.ex
  obtain ⟨hl, gl, gV, kb, rel⟩ := hbd
  have rr := rel G [.fn (lamQ m.l m.ns)] [v] [] [] (.cons p .nil) .nil
  refine LamX.run_ofS (N := N) (ps := [a]) (us := gl [u] []) (vs := gV [v] []) lk hcd S (k := k + 1) hr I.env0 (kb.to s [u] [] I.kIn rfl rfl) (kb.rel (.cons rv .nil) .nil) (by rw [← rr.length]; rfl) fun hr' => ?_
  have z : Zx (cxOf (L2.CX X.prog X.w) X.prog X.w X.K X.mg X.base N qual (defScope st) f cdv X.A X.stack s H (fun _ _ _ => False)) (Bs.at H G M) (exF M noX) :=
    ⟨(takes_of rfl rfl rfl rfl).imp (exF_take (B := Bs.at H G M) (Ξ := noX) (E := fun _ _ _ => False) fun _ _ _ _ _ _ z _ _ _ => z), passes_of rfl⟩
  obtain ⟨t, ht, q⟩ := body cdv X.A X.stack s H (fun _ _ _ => False) (Bs.at H G M) (lamQ m.l m.ns) _ (hr'.mono (by omega)) z (act_ok I R ok.o ok.t ok.n hr' ok.b)
  refine ⟨_, ht, ent N.length [.fn (lamQ m.l m.ns)], M, G, _, rel_start R.wd rr, q Ψ h, ⟨fun r' M' σ' H' G' q' R' s' => ?_, fun d r' M' v σ' H' G' q' R' p => ?_, fun _ _ _ _ _ q' _ _ => q'.elim, fun _ _ _ _ _ q' _ _ => q'.elim⟩⟩
  · obtain ⟨d', M'', fr, q⟩ := q'
    cases fr with
    | same => exact hQ _ _ _ _ _ q R'.wd R'.sin .non
    | drop =>
      obtain ⟨w1, s1⟩ := frz_end R'.wd R'.sin
      exact hQ _ _ _ _ _ q w1 s1 .non
    | frz n =>
      obtain ⟨w1, s1⟩ := frz_end R'.wd R'.sin
      exact hQ _ _ _ _ _ q w1 s1 (Rep.sb (d := .non) (rep_frz R'.wd n) .non)
  · obtain ⟨d', M'', fr, q⟩ := q'
    cases fr with
    | same => exact hQ _ _ _ _ _ q R'.wd R'.sin p
    | drop =>
      obtain ⟨w1, s1⟩ := frz_end R'.wd R'.sin
      exact hQ _ _ _ _ _ q w1 s1 (p.mono frzG_sub)
    | frz n =>
      obtain ⟨w1, s1⟩ := frz_end R'.wd R'.sin
      exact hQ _ _ _ _ _ q w1 s1 ((p.mono frzG_sub).sb (rep_frz R'.wd n))
/-- x(e), e a lambda of the def -/
def whyD (X : Cx) (j : Nat) (r : En) (ds : List D) (M : Sto) (Ψ : PD) : Prop := ∃ m : LamD, m.Ok X j ∧ ds = [.fn (lamQ m.l m.ns)] ∧ m.t (fun x _ M' => whyΞ X.K Ψ x M') r M (whyΨ Ψ)
theorem de_why (W : WhyOk X.prog X.w X.K X.mg X.base x j) (hr : Room k X.A) (ha : DA X B [e] ga) (hj : j + 2 ≤ k := by decide) (hg : Gl X x := by rfl) (hdb : (x == ("__debug__" : Str)) = false := by decide)
    (he : starEach [e] X.env = (false, eval e X.env) :: starEach [] X.env := by rfl) (hpl : (backTo pos (starEach [] X.env)).any (·.1) = false := by rfl) :
    DE X B (.Call (.Name x p) [e] [] pos) (fun r M Ψ => ga r M fun ds M1 => whyD X j r ds M1 Ψ) := by
  obtain ⟨f, hm, hk⟩ : ∃ f, X.mg x = some (.ref f) ∧ PySem.W.keepIn X.K (.ref f) = true := by
    obtain ⟨f, _, _, _, _, _, h1, h2, _⟩ := W.ex
    exact ⟨f, h1, h2⟩
  refine ⟨fun pins s σ H Q I ⟨r, M, G, Ψ, R, h, k'⟩ => ?_⟩
  refine wpAny_Call_Name_kw (ld_glob I hg hm ?_ hdb)
  refine PySem.W.callWith_K (h₀ := X.base) I.ok.mod.kin hk (thn (ha.run pos pins s σ H (fun vs H1 => ∃ ds M1 G1, whyD X j r ds M1 Ψ ∧ Rel X.K B r M1 σ H1 G1 ∧ Sub G G1 ∧ RepL X.K G1 ds vs) I ⟨r, M, G, _, R, h, fun ds M1 vs H1 G1 q R1 s1 p1 => ⟨ds, M1, G1, q, R1, s1, p1⟩⟩) fun us s1 ⟨vs, H1, I1, rv, ds, M1, G1, q, R1, s1', p1⟩ => ⟨I1.kIn, ?_⟩) he hpl
  obtain ⟨m, hm', rfl, q⟩ := q
  cases p1 with
  | cons p1 p2 =>
    cases p2
    cases rv with
    | cons rv r2 =>
      cases r2
      refine wpAny_call (codeAny_mono (why_core W hm (hr.mono hj) I1 R1 rv p1 hm' q fun d M' v H' G' q w sn p => k' _ _ _ _ _ q (R1.go w sn) (s1'.tr sn.gsub) p) fun fr s' hq => ?_)
      cases fr with
      | error e => exact LamX.takes0 e s' (XE.of_call I1 (W := fun _ _ _ _ => False) (fun _ _ _ h => h) hq)
      | ok fl =>
        cases fl with
        | ret u => exact I1.after hq
        | next => exact False.elim hq
        | brk => exact False.elim hq
        | cont => exact False.elim hq
/-- x(lambda: ..), straight -/
theorem de_whyL {q : Str} {params : Arguments} {body : Expr} {scope : Scope} {cl : List (Str × Addr)} {P c : Addr} {lpos : Pos} {t : (XD → En → Sto → Prop) → DTE} (W : WhyOk X.prog X.w X.K X.mg X.base x j) (hr : Room k X.A) (TB : LamX.TabB X.base X.mg c P) (hcode : X.env.code = .ref c)
    (L : LamOk X ⟨q, params, body, scope, cl⟩) (hdef : defaultsOf params X.env = ([], [])) (T : LamT X ⟨q, params, body, scope, cl⟩ []) (hb : LamBody X j ⟨q, params, body, scope, cl⟩ t) (hj : j + 2 ≤ k := by decide) (hg : Gl X x := by rfl) (hdb : (x == ("__debug__" : Str)) = false := by decide)
    (he : starEach [Expr.Lambda params body scope lpos] X.env = (false, eval (.Lambda params body scope lpos) X.env) :: starEach [] X.env := by rfl) (hpl : (backTo pos (starEach [] X.env)).any (·.1) = false := by rfl) :
    DE X B (.Call (.Name x p) [.Lambda params body scope lpos] [] pos) (fun r M Ψ => M P = some (.tab q) ∧ t (fun x _ M' => whyΞ X.K Ψ x M') r M (whyΨ Ψ)) :=
  PE_imp (de_why (B := B) W hr (da_cons (de_lam TB hcode L hdef) da_nil he) hj hg hdb he hpl) fun σ H Q ⟨r, M, G, Ψ, R, ⟨h1, h2⟩, kk⟩ =>
    ⟨r, M, G, Ψ, R, ⟨h1, ⟨⟨q, params, body, scope, cl⟩, [], [], t⟩, ⟨L, T, rfl, hb⟩, rfl, h2⟩, kk⟩
end
end Z
namespace Z
open PySem PySem.Spec PyProof.Rows L2

/-! ### the code objects of defs that make lambdas, and their tables -/
def codA (K : PySem.W.Frag) (f : Addr) : Addr := match K.lookup f with
  | some ⟨_, _, .func fd, _⟩ => (match fd.code with
    | .ref c => c
    | _ => 0)
  | _ => 0
def tabA (K : PySem.W.Frag) (f : Addr) : Addr := match K.lookup (codA K f) with
  | some ⟨_, _, .fields vs, _⟩ => (match (vs[11]? : Option Value) with
    | some (.ref P) => P
    | _ => 0)
  | _ => 0
/-- where such a def stands, the name of its lambdas -/
abbrev Tbs := List (At × Str)
def Tbs.ps (ts : Tbs) (K : PySem.W.Frag) : List Addr := ts.map fun t => tabA K (t.1.ad K)
def Tbs.cs (ts : Tbs) (K : PySem.W.Frag) : List (Addr × Addr) := ts.map fun t => (codA K (t.1.ad K), tabA K (t.1.ad K))
def dropK (ps : List Addr) (K : PySem.W.Frag) : PySem.W.Frag := K.filter fun q => !ps.contains q.1
def emptyTab : Option Obj → Bool
  | some ⟨.none, none, .fields ⟨[]⟩, ⟨[]⟩⟩ => true
  | _ => false
theorem emptyTab_ok {o : Option Obj} (h : emptyTab o = true) : o = some { cls := .none, data := .fields #[] } := by
  unfold emptyTab at h
  split at h
  · rfl
  · cases h
def tabB (ts : Tbs) (g : Addr → Option Obj) (K : PySem.W.Frag) : Bool := (ts.cs K).all (fun q => emptyTab (g q.2) && (PySem.W.codeHdIn K q.1 q.2 && (mainGlobals != q.2 && (K.lookup q.2).isNone))) && decide ((ts.cs K).map (·.2)).Nodup
def fragT (ts : Tbs) (n : Nat) (g : Addr → Option Obj) : PySem.W.Frag := dropK (ts.ps (He.frG g (asZ g n))) (He.frG g (asZ g n))
theorem dropK_at {ps : List Addr} {a : Addr} {o : Obj} : ∀ {K : PySem.W.Frag}, (dropK ps K).lookup a = some o → K.lookup a = some o
  | [], e => e
  | (b, u) :: r, e => by
    unfold dropK at e
    rw [List.filter_cons] at e
    rw [List.lookup_cons]
    by_cases hc : ps.contains b = true
    · rw [if_neg (by simpa using hc)] at e
      have e2 : (dropK ps r).lookup a = some o := e
      have ih := dropK_at e2
      by_cases z : a = b
      · subst z
        exfalso
        have : ∀ K : PySem.W.Frag, (dropK ps K).lookup a = none := fun K => by
          induction K with
          | nil => rfl
          | cons q K ih =>
            unfold dropK at ih ⊢
            rw [List.filter_cons]
            split
            · rename_i hq
              rw [List.lookup_cons]
              have : (a == q.1) = false := by
                simp only [beq_eq_false_iff_ne]
                intro w
                rw [← w] at hq
                simp only [Bool.not_eq_true', hc] at hq
                cases hq
              rw [this]
              exact ih
            · exact ih
        rw [this r] at e2
        cases e2
      · rw [show (a == b) = false by simpa using z]
        exact ih
    · rw [if_pos (by simpa using hc), List.lookup_cons] at e
      cases q : a == b with
      | true => rw [q] at e; exact e
      | false =>
        rw [q] at e
        exact dropK_at (show (dropK ps r).lookup a = some o from e)
theorem fragT_in {ts : Tbs} {n : Nat} {h : Heap} : (fragT ts n h.get?).In h := fun a o e => He.frG_in a o (dropK_at e)
def obsT (ts : Tbs) (fa : List FF) (fn : List DefZ) (n : Nat) (g : Addr → Option Obj) : He.AlD := ((obsZ fa fn (fragT ts n g)).1 && tabB ts g (fragT ts n g), (obsZ fa fn (fragT ts n g)).2)
/-- what is known of the tables at the heap h -/
structure TabZ (ts : Tbs) (K : PySem.W.Frag) (h : Heap) : Prop where
  ok : ∀ q ∈ ts.cs K, h.get? q.2 = some { cls := .none, data := .fields #[] } ∧ PySem.W.codeHdIn K q.1 q.2 = true ∧ mainGlobals ≠ q.2 ∧ K.lookup q.2 = none
  nd : ((ts.cs K).map (·.2)).Nodup
theorem tabB_ok {ts : Tbs} {h : Heap} {K : PySem.W.Frag} (c : tabB ts h.get? K = true) : TabZ ts K h := by
  obtain ⟨c1, c2⟩ := He.ba c
  refine ⟨fun q hq => ?_, of_decide_eq_true c2⟩
  obtain ⟨d1, d2⟩ := He.ba (List.all_eq_true.mp c1 q hq)
  obtain ⟨d2, d3⟩ := He.ba d2
  obtain ⟨d3, d4⟩ := He.ba d3
  exact ⟨emptyTab_ok d1, d2, by simpa using d3, by simpa using d4⟩
def hookT (ts : Tbs) (n : Nat) (fa : List FF) (fn : List DefZ) : PySem.W.Hook where
  α := He.AlD
  obs := fun s => obsT ts fa fn n s.heap.get?
  val := fun _ => valZ fn
  says := fun _ h => ∃ K : PySem.W.Frag, K.In h ∧ SaysZ fa fn K ∧ TabZ ts K h
  of := fun _ s e => ⟨fragT ts n s.heap.get?, fragT_in, by
    have e1 : ((obsZ fa fn (fragT ts n s.heap.get?)).1 && tabB ts s.heap.get? (fragT ts n s.heap.get?)) = true := congrArg (fun z : He.AlD => z.1) e
    have e2 : (obsZ fa fn (fragT ts n s.heap.get?)).2 = fn.map DefZ.val := congrArg (fun z : He.AlD => z.2) e
    obtain ⟨h1, h2⟩ := He.ba e1
    exact ⟨Prod.ext h1 e2, tabB_ok h2⟩⟩
  keeps := fun _ _ _ ⟨K, hK, c, t⟩ k => ⟨K, PySem.W.Frag.In.keeps hK k, c, fun q hq => let ⟨a, b⟩ := t.ok q hq; ⟨k _ _ a, b⟩, t.nd⟩
theorem obsT_eq {ts : Tbs} {n : Nat} {fa : List FF} {fn : List DefZ} {g : Addr → Option Obj} {s : Shared} (h : ∀ a, g a = s.heap.get? a) : obsT ts fa fn n g = (hookT ts n fa fn).obs s := by
  have e : g = s.heap.get? := funext h
  rw [e] <;> rfl
/-- the changing things at the start: the tables -/
def tabM (ts : Tbs) (K : PySem.W.Frag) : Sto := fun a => ((ts.map fun t => (tabA K (t.1.ad K), t.2)).lookup a).map Cell.tab
theorem tabM_at {ts : Tbs} {K : PySem.W.Frag} (nd : ((ts.cs K).map (·.2)).Nodup) {t : At × Str} (h : t ∈ ts) : tabM ts K (tabA K (t.1.ad K)) = some (.tab t.2) := by
  unfold tabM
  have : ∀ ts : Tbs, ((ts.cs K).map (·.2)).Nodup → t ∈ ts → (ts.map fun t => (tabA K (t.1.ad K), t.2)).lookup (tabA K (t.1.ad K)) = some t.2 := fun ts => by
    induction ts with
    | nil => intro _ h; cases h
    | cons u r ih =>
      intro nd h
      rw [List.map_cons, List.lookup_cons]
      simp only [Tbs.cs, List.map_cons, List.nodup_cons] at nd
      rcases List.mem_cons.mp h with e | e
      · rw [e]; simp
      · have ne : tabA K (t.1.ad K) ≠ tabA K (u.1.ad K) := fun z => nd.1 (by
          rw [← z]
          exact List.mem_map.mpr ⟨_, List.mem_map.mpr ⟨t, e, rfl⟩, rfl⟩)
        rw [show (tabA K (t.1.ad K) == tabA K (u.1.ad K)) = false by simpa using ne]
        exact ih nd.2 e
  rw [this ts nd h]; rfl
theorem look_mem {β : Type} {a : Addr} {b : β} : ∀ {l : List (Addr × β)}, l.lookup a = some b → (a, b) ∈ l
  | [], e => nomatch (show (none : Option β) = some b from e)
  | (k, v) :: r, e => by
    rw [List.lookup_cons] at e
    cases q : a == k with
    | true =>
      rw [q] at e
      cases e
      rw [beq_iff_eq] at q
      subst q
      exact List.mem_cons_self
    | false =>
      rw [q] at e
      exact List.mem_cons_of_mem _ (look_mem e)
theorem tabM_mem {ts : Tbs} {K : PySem.W.Frag} {a : Addr} {c : Cell} (h : tabM ts K a = some c) : ∃ t ∈ ts, a = tabA K (t.1.ad K) ∧ c = .tab t.2 := by
  unfold tabM at h
  obtain ⟨q, h1, h2⟩ := Option.map_eq_some_iff.mp h
  have hm := look_mem h1
  obtain ⟨t, ht, e⟩ := List.mem_map.mp hm
  cases e
  exact ⟨t, ht, rfl, h2.symm⟩
theorem law_atT {l : PySem.W.OpenLaw} {w : World} {K : PySem.W.Frag} {k : Nat} {mg : Str → Option Value} {fa : Addr} {h : Heap} {fd : FuncData} {c : Ct} {x : Str} {ts : Tbs} (KX : K.In h) (TZ : TabZ ts K h) (hb : ∀ (s : Shared) (u : Value), BindsTo s fd ⟨[u], []⟩ [(x, u)])
    (F : ∀ base : Heap, K.In base → base.Ns mainGlobals mg → (∀ t ∈ ts, LamX.TabB base mg (codA K (t.1.ad K)) (tabA K (t.1.ad K))) → FnOk l.prog w K mg base (L2.CX l.prog w) k fa fd [x] (spC K 1 c))
    (hc : ∀ (ns : List Int), ns.length ≤ 63 → (∀ z ∈ ns, Builtin.Int.intBits z ≤ 1048576) → c [scr ns] (tabM ts K) (fun d _ => d = .bl true) noX) : LamX.LawAtS l w K (L2.CX l.prog w) k 63 x mg fa h := by
  refine ⟨fd, ts.cs K, spC K 1 c, fun p hp => (TZ.ok p hp).1, fun p hp => (TZ.ok p hp).2.2.2, fun p hp => PySem.W.codeHd_of_K KX (TZ.ok p hp).2.1, hb, fun H a ns hl hbits hT hS => ?_, fun base KX G hB => F base KX G fun t ht => hB _ (List.mem_map.mpr ⟨t, ht, rfl⟩)⟩
  let G0 : Hp := fun b => if b ∈ (ts.cs K).map (·.2) then none else H b
  have tb : ∀ b o, (∀ ps, o ≠ .tbl ps) → H b = some o → G0 b = some o := fun b o n e => by
    show (if b ∈ (ts.cs K).map (·.2) then none else H b) = some o
    rw [if_neg]
    · exact e
    · intro z
      obtain ⟨q, hq, e2⟩ := List.mem_map.mp z
      have := hT q hq
      rw [e2, e] at this
      exact n _ (Option.some.inj this)
  have hS' : SqL K G0 a (ns.map V.int) := by
    rcases hS with (hS | ⟨o, hS⟩) | hS
    · exact .inl (.inl (tb _ _ (by intro _ z; cases z) hS))
    · exact .inl (.inr ⟨o, tb _ _ (by intro _ z; cases z) hS⟩)
    · exact .inr hS
  refine ⟨rfl, [scr ns], G0, tabM ts K, _, _, ⟨fun b o e => ?_, fun b cc e => ?_⟩, .cons (.lk hS' (repL_scr ns)) .nil, hc ns hl hbits, fun d M' v H' G' q _ _ r => ?_, fun _ _ _ _ _ _ z _ _ _ => z⟩
  · have e : (if b ∈ (ts.cs K).map (·.2) then none else H b) = some o := e
    split at e
    · cases e
    · exact e
  · obtain ⟨t, ht, rfl, rfl⟩ := tabM_mem e
    have hm : (codA K (t.1.ad K), tabA K (t.1.ad K)) ∈ ts.cs K := List.mem_map.mpr ⟨t, ht, rfl⟩
    refine ⟨if_pos (List.mem_map.mpr ⟨_, hm, rfl⟩), #[], hT _ hm, True.intro, fun pos cv hcv => ?_⟩
    have z : codeAmong pos [] = some cv := hcv
    simp [codeAmong] at z
  · subst q
    cases r
    rfl
/-- a def that makes lambdas: its code object stands where it is told -/
theorem fnDT {P : Program} {w : World} {K : PySem.W.Frag} {mg : Str → Option Value} {base : Heap} {x qual : Str} {st : Stmt} {f : Addr} {fd : FuncData} {N ps : List Str} {k : Nat} {dvs : List V} {kws : List (Str × V)} (F : FnZ K x qual st dvs kws f fd) (S : FnScope N ps (defScope st)) (c : Ct)
    (hb : ∀ (cdv : Value) (A : Around) (outer : List Env) (s : Shared) (H : Hp) (E : XK) (B : Bs) (Ξ : XD → Sto → Prop), cdv = .ref (codA K f) → Room k (A.deeper (envOfC qual (defScope st) s.heap.objs.size f cdv)) →
      Zx (cxOf (L2.CX P w) P w K mg base N qual (defScope st) f cdv A outer s H E) B (exF B.M Ξ) →
      ∃ t, DSs (cxOf (L2.CX P w) P w K mg base N qual (defScope st) f cdv A outer s H E) B (defBody st) t ∧
        ∀ (ds : List D) (Ψ : D → Sto → Prop), ds.length = ps.length → c ds B.M Ψ Ξ → t { nx := fun _ M' => rtF B.M Ψ .non M', rt := rtF B.M Ψ } (ent N.length ds) B.M) :
    FnOk P w K mg base (L2.CX P w) (k + 1) f fd ps (spC K ps.length c) := by
  obtain ⟨oc, od, dV, kV, doc, pm, an, cd0, ct, osl, rfl, lk, hcd, hd, hk⟩ := F.ex
  have e0 : cd0 = .ref (codA K f) := by
    unfold codA
    rw [lk]
    unfold PySem.W.codeIn at hcd
    split at hcd
    · rfl
    · cases hcd
  refine fn_of lk hcd S (fun vs H Q E h => h.1) fun A outer s H vs Q E hr h => ?_
  obtain ⟨hl, ds, G, M, Ψ, Ξ, wd, r, hc, hQ, hE⟩ := h
  have tk0 : Takes (cxOf (L2.CX P w) P w K mg base N qual (defScope st) f cd0 A outer s H E) (fun cls d _ H => E cls d H) := takes_of rfl rfl rfl rfl
  obtain ⟨t, ht, q⟩ := hb cd0 A outer s H E ⟨H, G, M⟩ Ξ e0 hr ⟨tk0.imp (exF_take (B := ⟨H, G, M⟩) hE), passes_of rfl⟩
  have end_ : ∀ (d : D) (r' : En) (M' : Sto) (v : V) (σ' : L2.St) (H' G' : Hp), rtF M Ψ d M' → Rel K ⟨H, G, M⟩ r' M' σ' H' G' → Rep K G' d v → Q v H' := fun d r' M' v σ' H' G' ⟨d', M'', fr, q⟩ R' p => by
    cases fr with
    | same => exact hQ _ _ _ _ _ q R'.wd R'.sin p
    | drop =>
      obtain ⟨w1, s1⟩ := frz_end R'.wd R'.sin
      exact hQ _ _ _ _ _ q w1 s1 (p.mono frzG_sub)
    | frz n =>
      obtain ⟨w1, s1⟩ := frz_end R'.wd R'.sin
      exact hQ _ _ _ _ _ q w1 s1 ((p.mono frzG_sub).sb (rep_frz R'.wd n))
  refine ⟨_, ht, ent N.length ds, M, G, _, rel_start wd r, q ds Ψ (r.length.trans hl) hc, ⟨fun r' M' σ' H' G' q' R' s' => ?_, fun d r' M' v σ' H' G' q' R' p => end_ d r' M' v σ' H' G' q' R' p, fun _ _ _ _ _ q' _ _ => q'.elim, fun _ _ _ _ _ q' _ _ => q'.elim⟩⟩
  exact end_ .non r' M' .non σ' H' G' q' R' .non
end Z
namespace Z
open PySem PySem.Spec PyProof.Rows L2

/-! ### error classes that are told -/
/-- an own error class under MillError or Missing, with the field n -/
structure WhyC (K : PySem.W.Frag) (C : Str) (n : Option Str) : Prop where
  xf : XfC K (He.ga K C)
  tg : NoAttr K (He.ga K C) "tag"
  fl : ∀ m, n = some m → NoAttr K (He.ga K C) m
  ex : PySem.W.exmAny K (.ref (He.ga K C)) [.ref (He.ga K "MillError"), .ref (He.ga K "Missing")] = some true
def whyF (C : Str) (n : Option Str) : FF := fun K => xfB K (He.ga K C) && (decide (PySem.W.findIn K (.ref (He.ga K C)) "tag" = some none) && ((match n with
  | some m => decide (PySem.W.findIn K (.ref (He.ga K C)) m = some none)
  | none => true) && decide (PySem.W.exmAny K (.ref (He.ga K C)) [.ref (He.ga K "MillError"), .ref (He.ga K "Missing")] = some true)))
theorem whyF_ok {C : Str} {n : Option Str} {K : PySem.W.Frag} (h : whyF C n K = true) : WhyC K C n := by
  obtain ⟨h1, h⟩ := He.ba h
  obtain ⟨h2, h⟩ := He.ba h
  obtain ⟨h3, h4⟩ := He.ba h
  refine ⟨xfB_ok h1, (of_decide_eq_true h2 : PySem.W.findIn K (.ref (He.ga K C)) "tag" = some none), fun m e => ?_, of_decide_eq_true h4⟩
  subst e
  exact (of_decide_eq_true h3 : PySem.W.findIn K (.ref (He.ga K C)) m = some none)
section
variable {K : PySem.W.Frag} {C : Str} {n t : Str} {fs : List (Str × D)} {φ : Str → D → Prop} {v : D}
theorem why_of (W : WhyC K C (some n)) (h1 : fs.lookup ("tag" : Str) = some (D.str t)) (h2 : fldN t = some n) (h3 : fs.lookup n = some v) (q : φ t v) : whyX K (He.ga K C, fs) φ :=
  ⟨true, W.ex, fun _ => ⟨t, h1, W.xf, W.tg, by rw [h2]; exact ⟨W.fl n rfl, v, h3, q⟩⟩, (fun z => nomatch z)⟩
theorem why_of0 (W : WhyC K C none) (h1 : fs.lookup ("tag" : Str) = some (D.str t)) (h2 : fldN t = none) (q : φ t .non) : whyX K (He.ga K C, fs) φ :=
  ⟨true, W.ex, fun _ => ⟨t, h1, W.xf, W.tg, by rw [h2]; exact q⟩, (fun z => nomatch z)⟩
/-- the class beside them -/
structure WhyL (K : PySem.W.Frag) (C : Str) : Prop where
  xf : XfC K (He.ga K C)
  tg : NoAttr K (He.ga K C) "tag"
  ex : PySem.W.exmAny K (.ref (He.ga K C)) [.ref (He.ga K "MillError"), .ref (He.ga K "Missing")] = some false
  on : PySem.W.exmOne K (.ref (He.ga K C)) (.ref (He.ga K "NothingLeft")) = some true
def whyLF (C : Str) : FF := fun K => xfB K (He.ga K C) && (decide (PySem.W.findIn K (.ref (He.ga K C)) "tag" = some none) && (decide (PySem.W.exmAny K (.ref (He.ga K C)) [.ref (He.ga K "MillError"), .ref (He.ga K "Missing")] = some false) && decide (PySem.W.exmOne K (.ref (He.ga K C)) (.ref (He.ga K "NothingLeft")) = some true)))
theorem whyLF_ok {C : Str} {K : PySem.W.Frag} (h : whyLF C K = true) : WhyL K C := by
  obtain ⟨h1, h⟩ := He.ba h
  obtain ⟨h2, h⟩ := He.ba h
  obtain ⟨h3, h4⟩ := He.ba h
  exact ⟨xfB_ok h1, (of_decide_eq_true h2 : PySem.W.findIn K (.ref (He.ga K C)) "tag" = some none), of_decide_eq_true h3, of_decide_eq_true h4⟩
theorem why_ofL (W : WhyL K C) (h1 : fs.lookup ("tag" : Str) = some (D.str t)) (q : φ t .non) : whyX K (He.ga K C, fs) φ :=
  ⟨false, W.ex, (fun z => nomatch z), fun _ => ⟨W.on, t, h1, W.xf, W.tg, q⟩⟩
end
end Z
namespace Z
open PySem PySem.Spec PyProof.Rows L2

/-! ### how many runs are taken off: few, also off great tables -/
theorem ltm_max {a b c d : Int} (hc : 0 ≤ c) (hd : 0 ≤ d) (h : 0 < c ∨ 0 < d) : ¬ (c ≤ a - ltm a b c d * c ∧ d ≤ b - ltm a b c d * d) := fun ⟨h1, h2⟩ => by
  have k1 : 0 < c → ltm a b c d + 1 ≤ a.fdiv c := fun e => le_fdiv e (by rw [Int.add_mul, Int.one_mul]; omega)
  have k2 : 0 < d → ltm a b c d + 1 ≤ b.fdiv d := fun e => le_fdiv e (by rw [Int.add_mul, Int.one_mul]; omega)
  generalize hm : ltm a b c d = m at *
  unfold ltm at hm
  split at hm
  · rename_i e1
    split at hm
    · rename_i e2
      have := k1 e1; have := k2 e2
      omega
    · have := k1 e1
      omega
  · rename_i e1
    have := k2 (h.resolve_left e1)
    omega
theorem not_bR {t : T4} {k : Nat} (hn : Nn t) (hd : 0 < det4 t) (hk : ltm t.1 t.2.1 t.2.2.1 t.2.2.2 = (k : Int)) : bR (subR k t) = false := by
  have h := ltm_max (a := t.1) (b := t.2.1) hn.2.2.1 hn.2.2.2 (low_pos hn hd).1
  rw [hk] at h
  cases e : bR (subR k t) with
  | false => rfl
  | true => exact absurd (bR_of e) h
theorem not_bL {t : T4} {k : Nat} (hn : Nn t) (hd : 0 < det4 t) (hk : ltm t.2.2.1 t.2.2.2 t.1 t.2.1 = (k : Int)) : bL (subL k t) = false := by
  have h := ltm_max (a := t.2.2.1) (b := t.2.2.2) hn.1 hn.2.1 (low_pos hn hd).2
  rw [hk] at h
  cases e : bL (subL k t) with
  | false => rfl
  | true => exact absurd (bL_of e) h
/-- the sums of the columns -/
def c1s (t : T4) : Int := t.1 + t.2.2.1
def c2s (t : T4) : Int := t.2.1 + t.2.2.2
theorem c1_R (w : T4) (k : Int) : c1s (mul4 w (1, k, 0, 1)) = c1s w ∧ c2s (mul4 w (1, k, 0, 1)) = k * c1s w + c2s w := by
  unfold c1s c2s mul4
  simp only
  refine ⟨by grind, by grind⟩
theorem c1_L (w : T4) (k : Int) : c1s (mul4 w (1, 0, k, 1)) = c1s w + k * c2s w ∧ c2s (mul4 w (1, 0, k, 1)) = c2s w := by
  unfold c1s c2s mul4
  simp only
  refine ⟨by grind, by grind⟩
/-- what the runs so far are, and the table that is left -/
structure Few (l : List Rn) (t : T4) : Prop where
  p1 : 1 ≤ c1s (wL (wR l))
  p2 : 1 ≤ c2s (wL (wR l))
  pw : (2 : Int) ^ l.length ≤ c1s (wL (wR l)) * c2s (wL (wR l))
  r : bR t = true → c2s (wL (wR l)) ≤ c1s (wL (wR l))
  l : bL t = true → c1s (wL (wR l)) ≤ c2s (wL (wR l))
theorem Few.nil (t : T4) : Few [] t := ⟨by decide, by decide, by decide, fun _ => by decide, fun _ => by decide⟩
theorem Few.R {l : List Rn} {t t' : T4} {k : Nat} (h : Few l t) (hb : bR t = true) (hk : 1 ≤ k) (hn : bR t' = false) : Few (l ++ [(82, k)]) t' := by
  have e : wL (wR (l ++ [(82, k)])) = mul4 (wL (wR l)) (1, (k : Int), 0, 1) := by rw [wR_snoc, wL_app, wL_Rs]
  obtain ⟨e1, e2⟩ := c1_R (wL (wR l)) k
  have hs := h.r hb
  have p1 := h.p1
  have p2 := h.p2
  have hk' : c1s (wL (wR l)) ≤ (k : Int) * c1s (wL (wR l)) := by
    have := Int.mul_le_mul_of_nonneg_right (show (1 : Int) ≤ k by omega) (show 0 ≤ c1s (wL (wR l)) by omega)
    omega
  refine ⟨by rw [e, e1]; exact p1, by rw [e, e2]; omega, ?_, (fun z => by rw [hn] at z; cases z), (fun _ => by rw [e, e1, e2]; omega)⟩
  rw [e, e1, e2, List.length_append]
  show (2 : Int) ^ (l.length + 1) ≤ _
  rw [Int.pow_succ]
  have pw := h.pw
  generalize c1s (wL (wR l)) = x at *
  generalize c2s (wL (wR l)) = y at *
  have h1 : x * (x + y) ≤ x * ((k : Int) * x + y) := Int.mul_le_mul_of_nonneg_left (by omega) (by omega)
  have h2 : x * (y + y) ≤ x * (x + y) := Int.mul_le_mul_of_nonneg_left (by omega) (by omega)
  have h3 : x * (y + y) = x * y * 2 := by grind
  omega
theorem Few.L {l : List Rn} {t t' : T4} {k : Nat} (h : Few l t) (hb : bL t = true) (hk : 1 ≤ k) (hn : bL t' = false) : Few (l ++ [(76, k)]) t' := by
  have e : wL (wR (l ++ [(76, k)])) = mul4 (wL (wR l)) (1, 0, (k : Int), 1) := by rw [wR_snoc, wL_app, wL_Ls]
  obtain ⟨e1, e2⟩ := c1_L (wL (wR l)) k
  have hs := h.l hb
  have p1 := h.p1
  have p2 := h.p2
  have hk' : c2s (wL (wR l)) ≤ (k : Int) * c2s (wL (wR l)) := by
    have := Int.mul_le_mul_of_nonneg_right (show (1 : Int) ≤ k by omega) (show 0 ≤ c2s (wL (wR l)) by omega)
    omega
  refine ⟨by rw [e, e1]; omega, by rw [e, e2]; exact p2, ?_, (fun _ => by rw [e, e1, e2]; omega), (fun z => by rw [hn] at z; cases z)⟩
  rw [e, e1, e2, List.length_append]
  show (2 : Int) ^ (l.length + 1) ≤ _
  rw [Int.pow_succ]
  have pw := h.pw
  generalize c1s (wL (wR l)) = x at *
  generalize c2s (wL (wR l)) = y at *
  have h1 : (x + y) * y ≤ (x + (k : Int) * y) * y := Int.mul_le_mul_of_nonneg_right (by omega) (by omega)
  have h2 : (x + x) * y ≤ (x + y) * y := Int.mul_le_mul_of_nonneg_right (by omega) (by omega)
  have h3 : (x + x) * y = x * y * 2 := by grind
  omega
theorem col_sum {w t u : T4} (h : mul4 w t = u) (hw1 : 1 ≤ c1s w) (hw2 : 1 ≤ c2s w) (hn : Nn t) (hd : 0 < det4 t) (hu : Nn u) : c1s w ≤ sum4 u ∧ c2s w ≤ sum4 u := by
  obtain ⟨l1, l2⟩ := low_pos hn hd
  have e : (sum4 u : Int) = c1s w * (t.1 + t.2.1) + c2s w * (t.2.2.1 + t.2.2.2) := by
    obtain ⟨h1, h2, h3, h4⟩ := hu
    have z : (sum4 u : Int) = u.1 + u.2.1 + u.2.2.1 + u.2.2.2 := by unfold sum4; omega
    rw [z, ← h]
    unfold mul4 c1s c2s
    simp only
    grind
  obtain ⟨n1, n2, n3, n4⟩ := hn
  have a1 : c1s w * 1 ≤ c1s w * (t.1 + t.2.1) := Int.mul_le_mul_of_nonneg_left (by omega) (by omega)
  have a2 : c2s w * 1 ≤ c2s w * (t.2.2.1 + t.2.2.2) := Int.mul_le_mul_of_nonneg_left (by omega) (by omega)
  omega
theorem Few.len {l : List Rn} {t u : T4} {n : Nat} (h : Few l t) (e : mul4 (wL (wR l)) t = u) (hn : Nn t) (hd : 0 < det4 t) (hu : Nn u) (hs : sum4 u < 2 ^ n) : l.length < n + n := by
  obtain ⟨a, b⟩ := col_sum e h.p1 h.p2 hn hd hu
  have pw := h.pw
  have p1 := h.p1
  have p2 := h.p2
  have z : (sum4 u : Int) < 2 ^ n := by exact_mod_cast hs
  have m : c1s (wL (wR l)) * c2s (wL (wR l)) < (2 : Int) ^ n * 2 ^ n := by
    have m1 : c1s (wL (wR l)) * c2s (wL (wR l)) ≤ (sum4 u : Int) * sum4 u := Int.mul_le_mul a b (by omega) (by omega)
    have m2 : (sum4 u : Int) * sum4 u < (2 : Int) ^ n * 2 ^ n := Int.mul_lt_mul z (by omega) (by omega) (by omega)
    omega
  rw [← Int.pow_add] at m
  rcases Nat.lt_or_ge l.length (n + n) with q | q
  · exact q
  · have z2 : (2 : Int) ^ (n + n) ≤ 2 ^ l.length := by exact_mod_cast Nat.pow_le_pow_right (n := 2) (by decide) q
    omega
end Z
namespace Z
open PySem PySem.Spec PyProof.Rows L2
/-! ### words exchanged, texts cut, a text in a tuple of texts -/
def oc (c : Nat) : Nat := if c = 76 then 82 else 76
theorem ch_eq {c d : Nat} : ((⟨#[c]⟩ : Str) = ⟨#[d]⟩) ↔ c = d := ⟨fun h => by
  have := congrArg (fun z : Str => z.cps.toList) h
  simpa using this, fun h => by rw [h]⟩
def exS (x : Str) : Str := ⟨(x.cps.toList.map oc).toArray⟩
theorem exS_len (x : Str) : (exS x).cps.size = x.cps.size := by unfold exS; simp
theorem exS_LR (x : Str) : LR (exS x).cps.toList := fun c hc => by
  unfold exS at hc
  simp only [List.mem_map, Array.mem_toList_iff, List.mem_toArray] at hc
  obtain ⟨a, _, rfl⟩ := hc
  unfold oc
  split <;> simp
theorem exS_exS {x : Str} (h : LR x.cps.toList) : exS (exS x) = x := by
  unfold exS
  have : (x.cps.toList.map oc).map oc = x.cps.toList := by
    rw [List.map_map]
    refine (List.map_congr_left fun c hc => ?_).trans (List.map_id _)
    rcases h c hc with e | e <;> (subst e; rfl)
  simp only [List.toList_toArray]
  rw [this]
theorem cutS_len (z : Str) (lo hi : Option Int) : (cutS z lo hi).length ≤ z.length := by
  unfold cutS
  show ((List.take _ _).toArray).size ≤ z.cps.size
  rw [List.size_toArray, List.length_take, List.length_drop, Array.length_toList]
  omega
theorem app_mem {u v : Str} {c : Nat} : c ∈ (u ++ ⟨#[c]⟩ ++ v).cps.toList := by
  show c ∈ ((u.cps ++ #[c]) ++ v.cps).toList
  simp
theorem any_mem {t : Str} : ∀ l : List Str, (l.map PyData.str).any (fun z => PyData.eqv z (.str t)) = decide (t ∈ l)
  | [] => rfl
  | a :: l => by
    rw [List.map_cons, List.any_cons, any_mem l]
    simp only [PyData.eqv, List.mem_cons, Bool.decide_or]
    congr 1
    exact decide_eq_decide.mpr ⟨Eq.symm, Eq.symm⟩
theorem pdL_strs : ∀ l : List Str, pdL (l.map D.str) = some (l.map PyData.str)
  | [] => rfl
  | a :: l => by
    rw [List.map_cons, List.map_cons]
    unfold pdL
    rw [pdL_strs l]
    rfl
theorem inS {M : Sto} {t : Str} {φ : D → Prop} (l : List Str) (h : φ (.bl (decide (t ∈ l)))) : inD M (.str t) (.tup (l.map D.str)) φ := by
  unfold inD
  refine ⟨.str t, l.map PyData.str, rfl, pdL_strs l, ?_, rfl, ?_⟩
  · rw [List.all_map]
    exact List.all_eq_true.mpr fun _ _ => rfl
  · rw [any_mem]; exact h
end Z
namespace Z
open PySem PySem.Spec PyProof.Rows L2

/-! ### closures called inside a comprehension -/
/-- the maker's captured cells, as they stand in h -/
structure Cap (X : Cx) (σ : L2.St) (H : Hp) (h : Heap) : Prop where
  ok : X.Ok
  len : σ.length = X.N.length
  loc : ∀ (i : Nat) (y : Str) (v : V), X.N[i]? = some y → σ[i]? = some (some v) → (X.env.scope.names.lookup y = some .cell ∨ X.env.scope.names.lookup y = some .free) → ∃ w, RelV v w ∧ ∃ c, X.env.cells.lookup y = some c ∧ h.IsCell c (some w)
  cell : ∀ y c, X.env.cells.lookup y = some c → H c = none ∧ ∃ v, h.IsCell c v
theorem Cap.of {X : Cx} {pins : List (Addr × Obj)} {σ : L2.St} {H : Hp} {s : Shared} (I : L2.Inv X pins σ H s) : Cap X σ H s.heap := by
  refine ⟨I.ok, I.len, fun i y v e1 e2 hk => ?_, fun y c e => ⟨I.freeC y c e, I.cell y c e⟩⟩
  obtain ⟨m0, hn, hl⟩ := I.loc
  obtain ⟨w, r, q⟩ := hl i y v e1 e2 (hk.elim (fun z => .inr (.inl z)) fun z => .inr (.inr z))
  rcases q with ⟨k', _⟩ | ⟨_, c, e, z⟩
  · have k' : X.env.scope.names.lookup y = some .local := k'
    rcases hk with k2 | k2 <;> rw [k2] at k' <;> cases k'
  · exact ⟨w, r, c, e, z⟩
theorem Cap.move {X : Cx} {σ : L2.St} {H H' : Hp} {h h' : Heap} {fs ex : List Addr} (C : Cap X σ H h) (u : Un fs ex H H' h h') (hx : ∀ y c, X.env.cells.lookup y = some c → c ∉ ex) : Cap X σ H' h' := by
  have mv : ∀ {y c v}, X.env.cells.lookup y = some c → h.IsCell c v → h'.IsCell c v := fun {y c v} e ⟨o, ho, hd⟩ => by
    obtain ⟨sl, q⟩ := u.any ho (C.cell y c e).1 (hx y c e)
    exact ⟨_, q, hd⟩
  refine ⟨C.ok, C.len, fun i y v e1 e2 hk => ?_, fun y c e => ?_⟩
  · obtain ⟨w, r, c, e, z⟩ := C.loc i y v e1 e2 hk
    exact ⟨w, r, c, e, mv e z⟩
  · obtain ⟨n, v, z⟩ := C.cell y c e
    obtain ⟨o, ho, hd⟩ := z
    exact ⟨u.free c o ho n (hx y c e), v, mv e ⟨o, ho, hd⟩⟩
/-- other slots, alike where they are captured -/
theorem Cap.swap {X : Cx} {σ σ' : L2.St} {H : Hp} {h : Heap} {vs : List Nat} (C : Cap X σ H h) (e : L2.wipe σ' vs = L2.wipe σ vs) (hv : ∀ i ∈ vs, ∀ y, X.N[i]? = some y → ¬ (X.env.scope.names.lookup y = some .cell ∨ X.env.scope.names.lookup y = some .free)) : Cap X σ' H h := by
  refine ⟨C.ok, ?_, fun i y v e1 e2 hk => C.loc i y v e1 ?_ hk, C.cell⟩
  · have := congrArg List.length e
    rw [L2.wipe_length, L2.wipe_length] at this
    rw [this]; exact C.len
  · have hi : i ∉ vs := fun z => hv i z y e1 hk
    have : (L2.wipe σ' vs)[i]? = (L2.wipe σ vs)[i]? := by rw [e]
    rw [wipe_get, wipe_get, if_neg hi, if_neg hi] at this
    rw [← this]; exact e2
theorem Cap.kept {X : Cx} {σ : L2.St} {H : Hp} {h h' : Heap} (C : Cap X σ H h) (kp : ∀ b o, h.get? b = some o → h'.get? b = some o) : Cap X σ H h' :=
  C.move (fs := []) (ex := []) (Un.kept kp) fun _ _ _ => by simp
section
variable {X : Cx} {σ : L2.St} {H HZ : Hp} {s s1 : Shared} {l : Lam} {ps : List Str} {St : List Env}
theorem lam_startC {A : Around} {outer : List Env} {E : XK} {f c' : Addr} {h₁ : Heap} {tk : Nat} {m : Str → Option Value} (C : Cap X σ HZ s1.heap) (L : LamOk X l) (T : LamT X l ps) (e0 : Env0 X.prog X.w X.K X.mg X.base A outer s1 HZ) (hd : A.handled = none)
    (hns : h₁.Ns s1.heap.objs.size m) (kp : ∀ b o, s1.heap.get? b = some o → h₁.get? b = some o) :
    L2.Inv (LamX.lamCx X A outer s1 HZ E l.scope f c') [] σ HZ { s1 with heap := h₁, toks := tk } := by
  have C' := C.kept kp
  have hfree := L.has C.ok
  have same : ∀ {y c}, (cloFrom X.env.cells l.scope.names []).lookup y = some c → X.env.cells.lookup y = some c := fun {y c} e => by
    rcases cloFrom_mem (PySem.mem_of_lookup e) with z | ⟨h1, h2⟩
    · cases z
    · obtain ⟨c1, hc⟩ := hfree _ h1 rfl
      have hc : X.env.cells.lookup y = some c1 := hc
      rw [hc] at h2 ⊢
      rw [h2]; rfl
  have look : ∀ {y}, l.scope.names.lookup y = some .free → ∃ c, (cloFrom X.env.cells l.scope.names []).lookup y = some c := fun {y} hl => by
    have hy : (y, NameKind.free) ∈ l.scope.names := PySem.mem_of_lookup hl
    exact mem_lookup (cloFrom_has (cells := X.env.cells) (acc := []) hy)
  have nex : ∀ b : Addr, b ∉ (LamX.lamCx X A outer s1 HZ E l.scope f c').ex := fun b z => absurd (show b ∈ ([] : List Addr) from z) (by simp)
  have ok : (LamX.lamCx X A outer s1 HZ E l.scope f c').Ok := by
    refine ⟨e0.mod, T.kind, rfl, rfl, Nat.le_refl _, fun y z c e1 e2 => C.ok.inj y z c (same e1) (same e2), fun y hy => ?_, fun y c z _ => Bool.noConfusion (show false = true from z), fun _ => hd, Around.frames_deeper e0.frames, .inr ⟨rfl, rfl⟩, fun b z => absurd z (nex b), e0.bs, e0.bsz, fun b _ _ => nex b, fun b z => absurd z (nex b), e0.funs, e0.frf⟩
    have hy : l.scope.names.lookup y = some .cell ∨ l.scope.names.lookup y = some .free := hy
    rcases hy with hy | hy
    · exact absurd rfl (T.nocell _ (PySem.mem_of_lookup hy))
    · exact look hy
  refine ⟨ok, rfl, e0.bare, Un.kept kp, ⟨_, hns, fun i y v e1 e2 e3 => ?_⟩, fun y c e => ?_, e0.hok.fresh (Nat.le_refl _), fun y c e => (C.cell y c (same e)).1, fun q hq => absurd (show q ∈ ([] : List (Addr × Obj)) ++ [] from hq) (by simp), e0.hok.kept kp, C.len⟩
  · have e3 : Vis l.scope y := e3
    rcases e3 with k | k | k
    · exact absurd k (T.loc y (List.mem_of_getElem? e1))
    · exact absurd rfl (T.nocell _ (PySem.mem_of_lookup k))
    · obtain ⟨w', r, c1, h1, h2⟩ := C'.loc i y v e1 e2 (L.free _ (PySem.mem_of_lookup k) rfl)
      obtain ⟨c2, h3⟩ := look k
      have := same h3
      rw [h1] at this
      cases this
      exact ⟨w', r, .inr ⟨.inr k, c1, h3, h2⟩⟩
  · exact (C'.cell y c (same e)).2
end
section
variable {X : Cx} {σ : L2.St} {H G : Hp} {s : Shared} {l : Lam} {ps : List Str} {ns : List Int} {B : Bs} {r : En} {M : Sto} {k : Nat} {t : (XD → En → Sto → Prop) → DTE} {Ng : List Str} {qg : Str} {sg : Scope} {g : Addr} {cdg : Value} {Eg : XK} {CXg : CXT} {St : List Env}
theorem act_okC (C : Cap X σ H s.heap) (R : Rel X.K B r M σ H G) (L : LamOk X l) (T : LamT X l ps) (hn : ns.length = ps.length) (hr : Room (k + 1) (X.A.deeper (envOfC qg sg s.heap.objs.size g cdg))) (hb : LamBody X k l t) :
    ActOk (cxOf CXg X.prog X.w X.K X.mg X.base Ng qg sg g cdg X.A St s H Eg) (Bs.at H G M) (lamQ l ns) (fun MZ Ψ Ξ => t (fun x _ M' => Ξ x M') r MZ Ψ) := by
  intro a pn xe B1 Ξ p1 p2 hN hv hd hcd hG z
  refine ⟨fun pinsZ sZ σZ HZ Q IZ ⟨rZ, MZ, GZ, Ψ, RZ, hs, kk⟩ => ?_⟩
  obtain ⟨d, ed, ed2, Ψ', Ξ', ht, hΨ, hΞ⟩ := (show ∃ d, rZ[0]? = some (some d) ∧ d = .fn (lamQ l ns) ∧ ∃ (Ψ' : PD) (Ξ' : XD → Sto → Prop), t (fun x _ M' => Ξ' x M') r MZ Ψ' ∧ (∀ d M', Ψ' d M' → Ψ d M') ∧ ∀ x M', Ξ' x M' → Ξ x rZ M' from by
    obtain ⟨h1, h2⟩ := hs
    obtain ⟨d, e, e2⟩ := getS_some h1
    exact ⟨d, e, e2, h2⟩)
  subst ed2
  obtain ⟨v, ev, pv⟩ := RZ.slots _ _ ed
  cases pv with
  | @fn _ f G0 hsub hq =>
    obtain ⟨dV, pm, ctv, c', hf, hc, hdv⟩ := hq
    refine wpAny_Call_Name_kw (thn ((pe_var (X := (cxOf CXg X.prog X.w X.K X.mg X.base Ng qg sg g cdg X.A St s H Eg).tr pn xe) (pos := p1) (i := 0) hN hv hd hcd).run pinsZ sZ σZ HZ (fun v H1 => v = .ref f ∧ H1 = HZ) IZ ⟨.ref f, ev, rfl, rfl⟩) fun u s1 ⟨v, H1, I1, r1, q1⟩ => ?_)
    obtain ⟨ev', eH⟩ := q1
    subst ev'
    rw [eH] at I1
    obtain rfl : u = Value.ref f := r1
    have of1 : s1.heap.get? f = some (lamO l dV pm ctv c') := (I1.hok f _ (RZ.wd.sub _ _ (hsub _ _ hf))).1
    refine PySem.W.callWith_F0 ⟨_, _, _, _, of1⟩ ?_
    have un : Un (frs St) [] H HZ s.heap s1.heap := I1.base
    have C1 : Cap X σ HZ s1.heap := C.move un fun _ _ _ => by simp
    obtain ⟨⟨oc, vs, tq, hoc, hdc, hvc⟩, _, _⟩ := I1.hok c' _ (RZ.wd.sub _ _ (hsub _ _ hc))
    let E : XK := fun cls d H' => ∃ x M' G', Ξ' x M' ∧ Wd X.K M' H' G' ∧ Since HZ GZ MZ M' H' G' ∧ RepX X.K G' H' x cls d
    have RB : Rel X.K (Bs.at HZ GZ MZ) r MZ σ HZ GZ := ⟨RZ.wd, R.len, fun i d e => let ⟨v, h1, h2⟩ := R.slots i d e; ⟨v, h1, h2.mono (hG.tr RZ.sin.gsub)⟩, Since.refl⟩
    have hbd : BindsTo s1 (lamFd l dV pm (.ref c') ctv) ⟨[], []⟩ (ps.zip (ps.map fun _ => Value.none)) ∨ ∃ its : List Value, its.length = ps.length ∧ BindsTo s1 (lamFd l dV pm (.ref c') ctv) ⟨[], []⟩ (ps.zip its) := by
      rcases T.bind with ⟨e, h⟩ | ⟨e, h⟩
      · subst e
        rcases hdv with ⟨_, e2⟩ | ⟨T', e2, _⟩
        · subst e2
          exact .inl (.of_eq (h pm (.ref c') ctv))
        · exact absurd (List.length_eq_zero_iff.mp hn) e2
      · rcases hdv with ⟨e1, _⟩ | ⟨T', e1, e2, e3⟩
        · subst e1
          exact absurd (List.length_eq_zero_iff.mp hn.symm) e
        · subst e2
          obtain ⟨_, its, rv, o, ho, hcl, n, hdt⟩ := I1.hok T' _ (RZ.wd.sub _ _ (hsub _ _ e3))
          have hl : its.length = ps.length := by rw [← rv.length, List.length_map]; exact hn
          obtain ⟨kb, k1, k2⟩ := h T' pm (.ref c') ctv its hl
          refine .inr ⟨its, hl, fun M0 A0 Q0 E0 q => ?_⟩
          rw [k1]
          refine wpAny_bind (wpAny_seqItems ho hdt ?_)
          rw [k2]
          exact wpAny_pure q
    have par : ∀ {its : List Value}, ∀ y ∈ ps.zip its, l.scope.names.lookup y.1 = some .local := fun {its} y hy => T.par _ (List.of_mem_zip hy).1
    have rc : codeAny (model X.prog X.w) (X.A.deeper (envOfC qg sg s.heap.objs.size g cdg)) (.call (.ref f) ⟨[], []⟩) (CR (L2.CX X.prog X.w) (envOfC qg sg s.heap.objs.size g cdg :: St) X.prog X.w HZ s1 Q E) s1 := by
      obtain ⟨binds, hbinds, hpar⟩ : ∃ binds, BindsTo s1 (lamFd l dV pm (.ref c') ctv) ⟨[], []⟩ binds ∧ ∀ y ∈ binds, l.scope.names.lookup y.1 = some .local := by
        rcases hbd with h | ⟨its, _, h⟩
        · exact ⟨_, h, par⟩
        · exact ⟨_, h, par⟩
      refine PySem.W.kla_callFunE hr.depth of1 rfl T.co T.gen rfl ⟨c', oc, vs, tq, rfl, hoc, hdc, hvc⟩ ?_
      refine hbinds _ _ _ _ ?_
      refine wpAny_newFunctionEnv T.nocell hpar (fun h₁ hns hsb => ⟨I1.nolimit.fresh _ hsb, ?_⟩) T.kind
      have kp : ∀ b o, s1.heap.get? b = some o → h₁.get? b = some o := fun b o e => hsb.extBut b o (Nat.ne_of_lt (Heap.lt_size e)) (Heap.get?_push_of_some _ e)
      have J := lam_startC (E := E) (f := f) (c' := c') (tk := s1.toks + binds.length) C1 L T I1.env0 hr.hd hns kp
      have zb : Zx (LamX.lamCx X (X.A.deeper (envOfC qg sg s.heap.objs.size g cdg)) (envOfC qg sg s.heap.objs.size g cdg :: St) s1 HZ E l.scope f c') (Bs.at HZ GZ MZ) (fun x _ M' => Ξ' x M') :=
        ⟨(takes_of rfl rfl rfl rfl).imp fun cls d σ' H' ⟨x, r', M', G', q, R', rx⟩ => ⟨x, M', G', q, R'.wd, R'.sin, rx⟩, passes_of rfl⟩
      have pb := hb (X.A.deeper (envOfC qg sg s.heap.objs.size g cdg)) (envOfC qg sg s.heap.objs.size g cdg :: St) s1 HZ E f c' (Bs.at HZ GZ MZ) _ (hr.deeper _) zb
      have e1 : PySem.W.envX (X.env.qual ++ "<lambda>") l.scope s1.heap.objs.size f (.ref c') (cloFrom X.env.cells l.scope.names []) = newEnv l.scope s1.heap.objs.size mainGlobals l.cl (l.q ++ ".<locals>.") (some f) (.ref c') none builtinsNs := by
        rw [L.q, L.cl]; rfl
      show codeAny _ _ (.expr l.body (newEnv l.scope s1.heap.objs.size mainGlobals l.cl (l.q ++ ".<locals>.") (some f) (.ref c') none builtinsNs)) _ _
      rw [← e1]
      refine PySem.W.kla_codeExpr (wpAny_mono (pb.run [] _ _ HZ Q J ⟨r, MZ, GZ, Ψ', RB, ht, fun d' M' v H' G' q R' s' p => ?_⟩) (fun v s' hq => ?_) fun e s' hq => hq)
      · exact kk _ _ _ _ _ (hΨ _ _ q) (RZ.go R'.wd R'.sin) s' p
      · obtain ⟨w', H', J', rv, q⟩ := hq
        exact ⟨w', H', J'.os, J'.bare, J'.base, J'.hok, rv, q⟩
    refine wpAny_call (codeAny_mono rc fun fr s' hq => ?_)
    cases fr with
    | error e => exact z.tk e s' (XE.of_call I1 (W := wOf X.K B1 Ξ) (fun cls d H' ⟨x, M', G', q, w, sn, rx⟩ => ⟨x, rZ, M', G', hΞ _ _ q, RZ.go w sn, rx⟩) hq)
    | ok fl =>
      cases fl with
      | ret u => exact I1.after hq
      | next => exact False.elim hq
      | brk => exact False.elim hq
      | cont => exact False.elim hq
theorem why_coreC {j : Nat} {x : Str} {Q : VK} {Ψ : PD} {m : LamD} {v : V} {u : Value} {f : Addr} (W : WhyOk X.prog X.w X.K X.mg X.base x j) (hm : X.mg x = some (.ref f)) (hr : Room (j + 2) X.A) (e0 : Env0 X.prog X.w X.K X.mg X.base X.A St s H) (kin : X.K.In s.heap) (C : Cap X σ H s.heap) (R : Rel X.K B r M σ H G)
    (rv : RelV v u) (p : Rep X.K G (.fn (lamQ m.l m.ns)) v) (ok : m.Ok X j) (h : m.t (fun x _ M' => whyΞ X.K Ψ x M') r M (whyΨ Ψ)) (hQ : Post X.K H G M Ψ Q) :
    codeAny (model X.prog X.w) X.A (.call (.ref f) ⟨[u], []⟩) (CR (L2.CX X.prog X.w) St X.prog X.w H s Q (fun _ _ _ => False)) s := by
  obtain ⟨f', fd, N, a, qual, st, hm', hk, F, S, hbd, body⟩ := W.ex
  rw [hm] at hm'
  cases hm'
  obtain ⟨oc, od, dV, kV, doc, pm, an, cdv, ct, osl, rfl, lk, hcd, _, _⟩ := F.ex
  obtain ⟨hl, gl, gV, kb, rel⟩ := hbd
  have rr := rel G [.fn (lamQ m.l m.ns)] [v] [] [] (.cons p .nil) .nil
  refine LamX.run_ofS (N := N) (ps := [a]) (us := gl [u] []) (vs := gV [v] []) lk hcd S (k := j + 1) hr e0 (kb.to s [u] [] kin rfl rfl) (kb.rel (.cons rv .nil) .nil) (by rw [← rr.length]; rfl) fun hr' => ?_
  have z : Zx (cxOf (L2.CX X.prog X.w) X.prog X.w X.K X.mg X.base N qual (defScope st) f cdv X.A St s H (fun _ _ _ => False)) (Bs.at H G M) (exF M noX) :=
    ⟨(takes_of rfl rfl rfl rfl).imp (exF_take (B := Bs.at H G M) (Ξ := noX) (E := fun _ _ _ => False) fun _ _ _ _ _ _ z _ _ _ => z), passes_of rfl⟩
  obtain ⟨t, ht, q⟩ := body cdv X.A St s H (fun _ _ _ => False) (Bs.at H G M) (lamQ m.l m.ns) _ (hr'.mono (by omega)) z (act_okC C R ok.o ok.t ok.n hr' ok.b)
  refine ⟨_, ht, ent N.length [.fn (lamQ m.l m.ns)], M, G, _, rel_start R.wd rr, q Ψ h, ⟨fun r' M' σ' H' G' q' R' s' => ?_, fun d r' M' v σ' H' G' q' R' p => ?_, fun _ _ _ _ _ q' _ _ => q'.elim, fun _ _ _ _ _ q' _ _ => q'.elim⟩⟩
  · obtain ⟨d', M'', fr, q⟩ := q'
    cases fr with
    | same => exact hQ _ _ _ _ _ q R'.wd R'.sin .non
    | drop =>
      obtain ⟨w1, s1⟩ := frz_end R'.wd R'.sin
      exact hQ _ _ _ _ _ q w1 s1 .non
    | frz n =>
      obtain ⟨w1, s1⟩ := frz_end R'.wd R'.sin
      exact hQ _ _ _ _ _ q w1 s1 (Rep.sb (d := .non) (rep_frz R'.wd n) .non)
  · obtain ⟨d', M'', fr, q⟩ := q'
    cases fr with
    | same => exact hQ _ _ _ _ _ q R'.wd R'.sin p
    | drop =>
      obtain ⟨w1, s1⟩ := frz_end R'.wd R'.sin
      exact hQ _ _ _ _ _ q w1 s1 (p.mono frzG_sub)
    | frz n =>
      obtain ⟨w1, s1⟩ := frz_end R'.wd R'.sin
      exact hQ _ _ _ _ _ q w1 s1 ((p.mono frzG_sub).sb (rep_frz R'.wd n))
end
end Z
namespace Z
open PySem PySem.Spec PyProof.Rows L2

/-! ### a comprehension whose items are told with the maker's cells in hand -/
/-- the turns of the block's loop, in any context whose own objects are the iterator's -/
theorem lc_turns {Y : Cx} {tg iter elt : Expr} {scope : Scope} {pos : Pos} {it D : Addr} {tn : Nat → Heap → Prop} {J : It} {σw : L2.St} {vs : List Nat} {g : TG} {tt : TT} {te : TE} {ifs : List Expr} {R : Result → Shared → Prop} {W : Nat → Nat → Hp → Prop} {Fin : Hp → Prop}
    (T : Turn Y.prog Y.w Y.K tg J Y.ex it tn) (hc : Y.calm = true) (hp : Y.pn = []) (hw : L2.wipe σw vs = σw) (pg : PG Y tg g) (pt : PTs Y ifs tt)
    (pe : ∀ (pn : List (Addr × Obj)) (s : Shared) (σ : L2.St) (H : Hp) (Q : VK), L2.Inv Y pn σ H s → L2.wipe σ vs = σw → te σ H Q → wpAny (model Y.prog Y.w) Y.A (eval elt Y.env) (EP Y pn σ Q) (fun _ _ => False) s) (hxe : Y.xe = fun _ _ => False)
    (turn : ∀ i m H, W i m H → (J.stop i H ∧ Fin H) ∨ (J.go i H ∧ ∃ Nx : Hp → Prop, (∀ H', Nx H' → ∃ m', m' < m ∧ W (i + 1) m' H') ∧ ∀ x H', J.yld i H x H' → g x σw H' fun σ2 H2 => L2.wipe σ2 vs = σw ∧ tt σ2 H2 fun b H3 => if b = true then te σ2 H3 fun y H4 => ∃ acc, H4 D = some (.lst acc) ∧ acc.length < sizeLine ∧ Nx (upd H4 D (.lst (acc ++ [y]))) else Nx H3))
    (fin : ∀ s H, L2.Inv Y [] σw H s → Fin H → R (.ok .next) s) {s : Shared} {H : Hp} {m : Nat} (I : L2.Inv Y [] σw H s) (st : tn 0 s.heap) (nf : ∀ b ∈ Y.ex, H b = none) (w : W 0 m H) :
    codeAny (model Y.prog Y.w) Y.A (.compLoop (.ListComp elt [⟨tg, iter, ifs, 0⟩] scope pos) 0 (.ref it) (.ref D) Y.env) R s := by
  have own : ∀ {σ' : L2.St} {H' : Hp} {s' : Shared}, L2.Inv Y [] σ' H' s' → (∀ b ∈ Y.ex, H' b = none) → ∀ b ∈ Y.ex, FpOk Y [] H' b := fun {σ' H' s'} I' hn b hb =>
    ⟨hn b hb, (I'.ok.exf b hb).1, I'.ok.exfs b hb, .inl hb, fun x c e => (I'.ok.exf b hb).2 x c e, fun p hp' => absurd (show p ∈ Y.pn ++ [] from hp') (by rw [hp]; simp)⟩
  refine compLoop_any (fun n s' => ∃ i H', L2.Inv Y [] σw H' s' ∧ tn i s'.heap ∧ (∀ b ∈ Y.ex, H' b = none) ∧ W i n H') ?_ m ⟨0, H, I, st, nf, w⟩
  rintro n s5 ⟨i, H5, I5, st5, n5, w5⟩
  rcases turn i n H5 w5 with ⟨stop, q⟩ | ⟨go, Nx, hNx, step⟩
  · refine thnF (T.done Y rfl rfl rfl hc i [] s5 _ H5 (fun _ _ => False) I5 (own I5 n5) st5 stop) fun r s6 ⟨hr, I6⟩ => ?_
    subst hr
    exact fin _ _ I6 q
  · refine thnF (T.item Y rfl rfl rfl hc i [] s5 _ H5 (fun _ _ => False) I5 (own I5 n5) st5 go) fun r s6 ⟨u, hr, h6⟩ => ?_
    subst hr
    refine thnF h6 fun _ s7 ⟨x, H7, I7, r7, y7, st7, n7⟩ => ?_
    have hg := pg.run _ s7 _ H7 x u _ (I7.pinned (own I7 n7) (T.obj _ _ st7)) r7 (step x H7 y7)
    rw [hxe] at hg
    refine thnF hg fun _ s8 ⟨σ8, H8, I8, hw8, q8⟩ => ?_
    have ht := pt.run _ s8 σ8 H8 _ I8 q8
    rw [hxe] at ht
    refine thnF ht fun b s9 ⟨H9, I9, q9⟩ => ?_
    have back : ∀ {s' : Shared} {H' : Hp}, L2.Inv Y ([] ++ pinsAt Y.ex s7.heap) σ8 H' s' → Nx H' → ∃ m, m < n ∧ ∃ i H', L2.Inv Y [] σw H' s' ∧ tn i s'.heap ∧ (∀ b ∈ Y.ex, H' b = none) ∧ W i m H' := fun {s' H'} I' nx => by
      obtain ⟨m', hm, w'⟩ := hNx _ nx
      have pinned : ∀ b ∈ Y.ex, ∀ o, s7.heap.get? b = some o → s'.heap.get? b = some o ∧ H' b = none := fun b hb o e =>
        let z := I'.pin (b, o) (List.mem_append_right _ (List.mem_append_right _ (mem_pinsAt hb e)))
        ⟨z.1, z.2.1⟩
      refine ⟨m', hm, i + 1, _, (I'.unpinned (pins := [])).weak ?_ (fun j v e => ?_), T.keep _ _ _ st7 fun b hb o e => (pinned b hb o e).1, fun b hb => ?_, w'⟩
      · rw [← hw8, L2.wipe_length]
      · rw [← hw8] at e
        exact (wipe_some e).1
      · obtain ⟨o, e, _⟩ := T.obj _ _ st7 b hb
        exact (pinned b hb o e).2
    cases b with
    | false => exact back I9 q9
    | true =>
      rw [if_pos rfl] at q9 ⊢
      refine thnF (pe _ s9 σ8 _ _ I9 hw8 q9) fun z s10 ⟨yv, H10, I10, r10, acc, hD10, hz10, nx⟩ => ?_
      exact app_ok (X := Y) I10 hD10 hz10 r10 fun s11 I11 => back I11 nx
theorem lc_inv {X : Cx} {pins : List (Addr × Obj)} {s : Shared} {σ : L2.St} {H : Hp} {Q : VK} {elt tg iter : Expr} {scope : Scope} {own : List (Str × Nat)} {pos : Pos} {wi : TI} {g : TG} {tt : TT} {te : TE} {ifs : List Expr}
    (hc : X.calm = true) (hN : X.N.Nodup) (I : L2.Inv X pins σ H s) (hi : PI X tg iter wi) (ok : BlkOk X.N X.env.scope scope own)
    (hg : ∀ (s : Shared) (H : Hp) (C : Addr) (cl : List (Str × Addr)) (fp : List Addr), PG (X.blk s H scope (compEnvC scope cl C X.env) fp) tg g)
    (ht : ∀ (s : Shared) (H : Hp) (C : Addr) (cl : List (Str × Addr)) (fp : List Addr), PTs (X.blk s H scope (compEnvC scope cl C X.env) fp) ifs tt)
    (he : ∀ (s3 : Shared) (H3 : Hp) (C : Addr) (cl : List (Str × Addr)) (fp : List Addr), L2.Inv X pins σ H3 s3 → (∀ b ∈ fp, FpOk X pins H3 b) → ∀ (pn : List (Addr × Obj)) (s : Shared) (σ8 : L2.St) (H : Hp) (Q : VK), L2.Inv (X.blk s3 H3 scope (compEnvC scope cl C X.env) fp) pn σ8 H s → L2.wipe σ8 (own.map (·.2)) = L2.wipe σ (own.map (·.2)) → te σ8 H Q →
      wpAny (model X.prog X.w) X.A (eval elt (compEnvC scope cl C X.env)) (EP (X.blk s3 H3 scope (compEnvC scope cl C X.env) fp) pn σ8 Q) (fun _ _ => False) s)
    (h : tLc wi g tt te (own.map (·.2)) σ H Q) (hs : ∀ x, foldedSetIterable iter X.env x = pure x := by intro _; rfl) :
    wpAny (model X.prog X.w) X.A (eval (.ListComp elt [⟨tg, iter, ifs, 0⟩] scope pos) X.env) (EP X pins σ Q) X.xe s := by
  have hfree : ∀ y ∈ scope.names, y.2 = .free → ∃ c, X.env.cells.lookup y.1 = some c := fun y hy e => (ok.free y hy e).elim (fun k => I.ok.has _ (.inl k)) fun k => I.ok.has _ (.inr k)
  rw [eval_ListComp]
  refine wpAny_comprehension_free rfl hs (closure_ok hfree) ok.kind (fun y hy e => by rw [ok.uniq y hy, e]) (thn (hi.run pins s σ H _ I h) fun xv s1 hx => thn hx fun itv s2 h2 => ?_)
  obtain ⟨it, fp, tn, J, H2, e, I2, T, st2, f2, q⟩ := h2
  subst e
  refine wpAny_newObj_type (newEnv_comp ?_) (by show 0 ≤ sizeLine; decide)
  have hDn : H2 s2.heap.objs.size = none := I2.hok.fresh (Nat.le_refl _)
  obtain ⟨W, ⟨m0, w0⟩, turn⟩ := q s2.heap.objs.size hDn
  have I3 : L2.Inv X pins σ (upd H2 s2.heap.objs.size (.lst [])) { s2 with heap := s2.heap.push { cls := .type "list", data := .seq ([] : List Value).toArray } } :=
    I2.laid (t' := s2.toks) (fun b o e => Heap.get?_push_of_some _ e) (Nat.le_refl _) ⟨Nat.zero_le _, [], 0, .nil, Heap.get?_push_size _ rfl⟩
  have sz : ∀ b ∈ fp, b < s2.heap.objs.size := fun b hb => let ⟨o, e, _⟩ := T.obj _ _ st2 b hb; Heap.lt_size e
  have f3 : ∀ b ∈ fp, FpOk X pins (upd H2 s2.heap.objs.size (.lst [])) b := fun b hb => ⟨by rw [upd_ne (Nat.ne_of_lt (sz b hb))]; exact (f2 b hb).1, (f2 b hb).2⟩
  have st3 := T.keep _ _ (s2.heap.push { cls := .type "list", data := .seq ([] : List Value).toArray }) st2 fun b _ o e => Heap.get?_push_of_some _ e
  generalize hD : s2.heap.objs.size = D at *
  generalize hs3 : ({ s2 with heap := s2.heap.push { cls := .type "list", data := .seq ([] : List Value).toArray } } : Shared) = s3 at I3
  have h3 : s2.heap.push { cls := .type "list", data := .seq ([] : List Value).toArray } = s3.heap := by rw [← hs3]
  rw [h3] at st3
  have sz3 : ∀ b ∈ fp, b < s3.heap.objs.size := fun b hb => let ⟨o, e, _⟩ := T.obj _ _ st3 b hb; Heap.lt_size e
  generalize hH3 : upd H2 D (.lst []) = H3 at *
  have I4 := block_start I3 ok hN fun b hb => ⟨f3 b hb, sz3 b hb⟩
  have st4 : tn 0 (pushCells (s3.heap.push { cls := .type "dict", data := .dict #[] }) scope.names) := T.keep _ _ _ st3 fun b _ o e => pushCells_keeps _ _ _ _ (Heap.get?_push_of_some _ e)
  show codeAny _ _ (.compStart (.ListComp elt [⟨tg, iter, ifs, 0⟩] scope pos) 0 (.ref it) (.ref D) (compEnvC scope (cellsFrom (s3.heap.objs.size + 1) scope.names (cloFrom X.env.cells scope.names [])) s3.heap.objs.size X.env)) (compPost (model X.prog X.w) X.A X.xe none (EP X pins σ Q) (.ref D) s3.heap.objs.size) { s3 with heap := pushCells (s3.heap.push { cls := .type "dict", data := .dict #[] }) scope.names }
  have loop : codeAny (model X.prog X.w) X.A (.compLoop (.ListComp elt [⟨tg, iter, ifs, 0⟩] scope pos) 0 (.ref it) (.ref D) (compEnvC scope (cellsFrom (s3.heap.objs.size + 1) scope.names (cloFrom X.env.cells scope.names [])) s3.heap.objs.size X.env)) (compPost (model X.prog X.w) X.A X.xe none (EP X pins σ Q) (.ref D) s3.heap.objs.size) { s3 with heap := pushCells (s3.heap.push { cls := .type "dict", data := .dict #[] }) scope.names } := by
    refine lc_turns (Y := X.blk s3 H3 scope (compEnvC scope (cellsFrom (s3.heap.objs.size + 1) scope.names (cloFrom X.env.cells scope.names [])) s3.heap.objs.size X.env) fp) (W := W) (Fin := fun H => Q (.ref D) H) T hc rfl wipe_wipe (hg _ _ _ _ _) (ht _ _ _ _ _) (fun pn s' σ8 H' Q' I8 hw8 q8 => he s3 H3 _ _ fp I3 f3 pn s' σ8 H' Q' I8 hw8 q8) rfl (fun i m H' w' => ?_) (fun s6 H6 I6 q6 => ?_) I4 st4 (fun b hb => (f3 b hb).1) w0
    · rcases turn i m H' w' with z | ⟨z1, Nx, z2, z3⟩
      · exact .inl z
      · exact .inr ⟨z1, Nx, z2, z3⟩
    · obtain ⟨m, hn, _⟩ := I6.loc
      have nC : H6 s3.heap.objs.size = none := I6.free
      have I7 : L2.Inv X pins σ H6 s6 := I3.call' (ch := fp) I6.os I6.base I6.hok I6.bare fun b hb => ⟨(f3 b hb).2.2.2.1, (f3 b hb).2.1, (f3 b hb).2.2.2.2.1, (f3 b hb).2.2.2.2.2⟩
      refine ⟨m, hn, fun h'' sb => ?_⟩
      obtain ⟨g0, g1, g2, g3, g4, g5⟩ := I3.fpOk (Nat.le_refl _) nC
      exact ⟨.ref D, H6, I7.turned (t' := s6.toks) (fun b o hb e => (sb.2 b hb).trans e) g0 g1 g3 g4 g5, rfl, q6⟩
  exact codeAny_compStart_list loop (T.self X.A 0 _ _ _ st4 loop)
def ownB (N : List Str) (sc : Scope) (own : List (Str × Nat)) : Bool := own.all fun q => decide (N[q.2]? = some q.1) && (!decide (sc.names.lookup q.1 = some .cell) && !decide (sc.names.lookup q.1 = some .free))
theorem own_by {N : List Str} {sc : Scope} {own : List (Str × Nat)} (h : ownB N sc own = true) : ∀ q ∈ own, N[q.2]? = some q.1 ∧ ¬ (sc.names.lookup q.1 = some .cell ∨ sc.names.lookup q.1 = some .free) := fun q hq => by
  have := List.all_eq_true.mp h q hq
  simp only [Bool.and_eq_true, Bool.not_eq_true', decide_eq_true_eq, decide_eq_false_iff_not] at this
  exact ⟨this.1, fun z => z.elim this.2.1 this.2.2⟩
section
variable {X : Cx} {B : Bs} {j k : Nat} {x : Str} {e : Expr} {ga : DTA} {p cpos pos : Pos}
/-- [x(e) for ..], x the def that tells a closure's error -/
theorem de_lcW {tg iter : Expr} {ifs : List Expr} {scope : Scope} {own : List (Str × Nat)} {wi : DTI} {g : TG} {as : D → En → (En → Prop) → Prop} {tt : DTT} (W : WhyOk X.prog X.w X.K X.mg X.base x j) (hr : Room k X.A) (hc : X.calm = true) (hN : X.N.Nodup) (hi : DI X B tg iter wi) (ok : BlkOk X.N X.env.scope scope own) (tgk : TgOk X.K (own.map (·.2)) g as)
    (hg : ∀ (s : Shared) (H : Hp) (C : Addr) (cl : List (Str × Addr)) (fp : List Addr), PG (X.blk s H scope (compEnvC scope cl C X.env) fp) tg g)
    (ht : ∀ (B : Bs) (s : Shared) (H : Hp) (C : Addr) (cl : List (Str × Addr)) (fp : List Addr), PTs (X.blk s H scope (compEnvC scope cl C X.env) fp) ifs (liftT X.K B tt))
    (ha : ∀ (B : Bs) (s : Shared) (H : Hp) (C : Addr) (cl : List (Str × Addr)) (fp : List Addr), DA (X.blk s H scope (compEnvC scope cl C X.env) fp) B [e] ga) (hs : ∀ x, foldedSetIterable iter X.env x = pure x := by intro _; rfl)
    (hv' : ownB X.N X.env.scope own = true := by rfl) (hj : j + 2 ≤ k := by decide) (hdb : (x == ("__debug__" : Str)) = false := by decide)
    (hgl : ∀ (s : Shared) (H : Hp) (C : Addr) (cl : List (Str × Addr)) (fp : List Addr), Gl (X.blk s H scope (compEnvC scope cl C X.env) fp) x := by intros; rfl)
    (he : ∀ env : Env, starEach [e] env = (false, eval e env) :: starEach [] env := by intro _; rfl) (hpl : ∀ env : Env, (backTo cpos (starEach [] env)).any (·.1) = false := by intro _; rfl) :
    DE X B (.ListComp (.Call (.Name x p) [e] [] cpos) [⟨tg, iter, ifs, 0⟩] scope pos) (fun r M Ψ => compD (own.map (·.2)) wi as tt (fun r M Ψ => ga r M fun ds M1 => whyD X j r ds M1 Ψ) r M fun acc M' => Ψ (.lst acc) M') := by
  have hv := own_by hv'
  obtain ⟨f, hm, hk⟩ : ∃ f, X.mg x = some (.ref f) ∧ PySem.W.keepIn X.K (.ref f) = true := by
    obtain ⟨f, _, _, _, _, _, h1, h2, _⟩ := W.ex
    exact ⟨f, h1, h2⟩
  refine ⟨fun pins s σ H Q I ⟨r, M, G, Ψ, R, h, kk⟩ => ?_⟩
  refine lc_inv (tt := liftTAny X.K tt) (te := liftAny X.K _) hc hN I hi ok hg (fun s H C cl fp => ⟨fun pins s1 σ H1 Q I ⟨B', q⟩ => (ht B' s H C cl fp).run pins s1 σ H1 Q I q⟩) (fun s3 H3 C cl fp I3 hf pn s8 σ8 H8 Q8 I8 hw q8 => ?_) (comp_core tgk R h fun acc M' H' G' D us q R' s hL rl h0 hM hG => ?_) hs
  · obtain ⟨B', r8, M8, G8, Ψ8, R8, h8, k8⟩ := q8
    have C3 : Cap X σ8 H3 s3.heap := (Cap.of I3).swap hw fun i hi y hy => by
      obtain ⟨q, hq, rfl⟩ := List.mem_map.mp hi
      obtain ⟨h1, h2⟩ := hv q hq
      rw [hy] at h1
      cases h1
      exact h2
    have hx : ∀ y c, X.env.cells.lookup y = some c → c ∉ fp := fun y c e z => (hf c z).2.2.2.2.1 y c e rfl
    refine wpAny_Call_Name_kw (ld_glob I8 (hgl s3 H3 C cl fp) hm ?_ hdb)
    refine PySem.W.callWith_K (h₀ := X.base) I8.ok.mod.kin hk (thn ((ha B' s3 H3 C cl fp).run cpos pn s8 σ8 H8 (fun vs H1 => ∃ ds M1 G1, whyD X j r8 ds M1 Ψ8 ∧ Rel X.K B' r8 M1 σ8 H1 G1 ∧ Sub G8 G1 ∧ RepL X.K G1 ds vs) I8 ⟨r8, M8, G8, _, R8, h8, fun ds M1 vs H1 G1 q R1 s1 p1 => ⟨ds, M1, G1, q, R1, s1, p1⟩⟩) fun us s1 ⟨vs, H1, I1, rv, ds, M1, G1, q, R1, s1', p1⟩ => ⟨I1.kIn, ?_⟩) (he _) (hpl _)
    obtain ⟨m, hm', rfl, q⟩ := q
    have C1 : Cap X σ8 H1 s1.heap := C3.move I1.base hx
    cases p1 with
    | cons p1 p2 =>
      cases p2
      cases rv with
      | cons rv r2 =>
        cases r2
        refine wpAny_call (codeAny_mono (why_coreC W hm (hr.mono hj) I1.env0 I1.kIn C1 R1 rv p1 hm' q fun d M' v H' G' q w sn p => k8 _ _ _ _ _ q (R1.go w sn) (s1'.tr sn.gsub) p) fun fr s' hq => ?_)
        cases fr with
        | error e => exact LamX.takes0 e s' (XE.of_call I1 (W := fun _ _ _ _ => False) (fun _ _ _ h => h) hq)
        | ok fl =>
          cases fl with
          | ret u => exact I1.after hq
          | next => exact False.elim hq
          | brk => exact False.elim hq
          | cont => exact False.elim hq
  · obtain ⟨a1, a2, a3⟩ := frz_list R' hL rl h0 hM hG
    exact kk _ _ _ _ _ q a1 (s.tr a2) a3
end
end Z
namespace Z
open PySem PySem.Spec PyProof.Rows L2

/-! ### a comprehension over a known list whose turns keep the store -/
inductive Two {α β : Type} (R : α → β → Prop) : List α → List β → Prop
  | nil : Two R [] []
  | cons {x : α} {y : β} {xs : List α} {ys : List β} (h : R x y) (r : Two R xs ys) : Two R (x :: xs) (y :: ys)
theorem Two.len {α β : Type} {R : α → β → Prop} : ∀ {xs : List α} {ys : List β}, Two R xs ys → xs.length = ys.length
  | _, _, .nil => rfl
  | _, _, .cons _ r => congrArg (· + 1) r.len
theorem Two.at {α β : Type} {R : α → β → Prop} : ∀ {xs : List α} {ys : List β}, Two R xs ys → ∀ (i : Nat) (d : α), xs[i]? = some d → ∃ y, ys[i]? = some y ∧ R d y
  | _, _, .cons h r, 0, d, e => by
    simp only [List.getElem?_cons_zero, Option.some.injEq] at e
    subst e
    exact ⟨_, rfl, h⟩
  | _, _, .cons h r, i + 1, d, e => by
    simp only [List.getElem?_cons_succ] at e ⊢
    exact r.at i d e
section
variable {vs : List Nat} {wi : DTI} {as : D → En → (En → Prop) → Prop} {fe : DTE} {r : En} {M : Sto} {Φ : List D → Sto → Prop}
theorem compD_two {xs ys : List D} {S : Sto → Prop} (hw : ∀ K : List D → (Sto → Prop) → Sto → Prop, K xs S M → wi r M K) (hS : S M) (hl : xs.length ≤ sizeLine) (h : Two (fun d y => ∀ Q : D → Sto → Prop, Q y M → as d (wipeD r vs) fun r2 => fe r2 M Q) xs ys) (fin : Φ ys M) :
    compD vs wi as (fun _ M Ψ => Ψ true M) fe r M Φ := by
  unfold compD
  refine hw _ ⟨fun i acc M' => M' = M ∧ acc = ys.take i, ⟨rfl, rfl⟩, fun i acc M' h => by rw [h.1]; exact hS, fun i d acc M' hd ⟨e1, e2⟩ => ?_, fun acc M' ⟨e1, e2⟩ => ?_⟩
  · subst e1 e2
    obtain ⟨y, hy, q⟩ := h.at i d hd
    obtain ⟨hi, ei⟩ := List.getElem?_eq_some_iff.mp hy
    obtain ⟨hx, _⟩ := List.getElem?_eq_some_iff.mp hd
    have hlt : (ys.take i).length < sizeLine := Nat.lt_of_le_of_lt (List.length_take_le _ _) (Nat.lt_of_lt_of_le hx hl)
    refine q _ ?_
    refine ⟨hlt, rfl, ?_⟩
    rw [List.take_add_one, hy]
    rfl
  · subst e1 e2
    rw [h.len, List.take_length]
    exact fin
end
theorem whyD_of {X : Cx} {j : Nat} {r : En} {M : Sto} {Ψ : PD} {l : Lam} {ps : List Str} {ns : List Int} {t : (XD → En → Sto → Prop) → DTE} (o : LamOk X l) (T : LamT X l ps) (n : ns.length = ps.length) (b : LamBody X j l t) (h : t (fun x _ M' => whyΞ X.K Ψ x M') r M (whyΨ Ψ)) : whyD X j r [.fn (lamQ l ns)] M Ψ :=
  ⟨⟨l, ps, ns, t⟩, ⟨o, T, n, b⟩, rfl, h⟩
/-! ### a changing list times an int -/
theorem RepL.rep {K : PySem.W.Frag} {G : Hp} {a : List D} {us : List V} (r : RepL K G a us) : ∀ n : Nat, RepL K G (List.replicate n a).flatten (List.replicate n us).flatten
  | 0 => .nil
  | n + 1 => by
    rw [List.replicate_succ, List.replicate_succ, List.flatten_cons, List.flatten_cons]
    exact r.app (r.rep n)
def mulLD (M : Sto) (x y : D) (φ : D → Prop) : Prop := match x, y with
  | .ref p, .int n => ∃ a, M p = some (.lst a) ∧ -(2 ^ 63) ≤ n ∧ n < 2 ^ 63 ∧ a.length * n.toNat ≤ sizeLine ∧ φ (.lst (List.replicate n.toNat a).flatten)
  | _, _ => False
theorem ok_mulL {K : PySem.W.Frag} : Ok2 K rRep mulLD := fun M H G x y v u φ Q w rx ry h k => by
  unfold mulLD at h
  split at h
  · rename_i q n
    obtain ⟨a, hM, h1, h2, h3, h⟩ := h
    cases rx; cases ry
    obtain ⟨_, us, hH, rl⟩ := w.cells _ _ hM
    refine ⟨_, _, us, rfl, rfl, hH, h1, h2, by rw [← rl.length]; exact h3, fun p hp => ?_⟩
    have g : Grow H G (upd H p (.lst (List.replicate n.toNat us).flatten)) (upd G p (.lst (List.replicate n.toNat us).flatten)) := grow_upd w.sub hp
    exact k _ _ _ _ h g (.lst (.inl upd_same) ((rl.rep _).mono g.gsub))
  · exact h.elim
theorem de_mulL {X : Cx} {B : Bs} {a b : Expr} {fa fb : DTE} {pos : Pos} (ha : DE X B a fa) (hb : DE X B b fb) : DE X B (.BinOp a .Mult b pos) (fun r M Ψ => fa r M fun x M1 => fb r M1 fun y M2 => mulLD M2 x y fun z => Ψ z M2) := de_op op_rep ok_mulL ha hb
end Z
namespace Z
open PySem PySem.Spec PyProof.Rows L2

/-! ### methods of texts with several arguments -/
section
variable {X : Cx} {B : Bs} {o e a b c : Expr} {es : List Expr} {fo : DTE} {ga : DTA} {apos pos p : Pos}
theorem de_smN {id : String} {name : Str} {r : V → List V → Hp → VK → Prop} {g : Sto → D → List D → PD → Prop} (slot : Slot "str" name id) (ty : typeOf (.builtin id) = pure (.type "method_descriptor")) (rule : MtR X id r) (ok : OkM X.K r g) (ho : DE X B o fo) (ha : DA X B (e :: es) ga)
    (hbase : attributeBase o name X.env (eval o X.env) = eval o X.env := by rfl)
    (hfew : ((backTo pos (starEach (e :: es) X.env)).all (fun x => !x.1) && (backToKw pos (keywordEach [] X.env)).all (fun x => x.1.isSome)
      && decide ((e :: es).length + ([] : List Keyword).length + (if ([] : List Keyword).isEmpty then 0 else 1) < 30)) = true := by rfl)
    (hline : (apos.endLine == pos.line) = true := by rfl) (hs : starEach (e :: es) X.env = (false, eval e X.env) :: starEach es X.env := by rfl) (hplain : (backTo pos (starEach es X.env)).any (·.1) = false := by rfl) :
    DE X B (.Call (.Attribute o name apos) (e :: es) [] pos) (fun r M Ψ => fo r M fun x M1 => isS x ∧ ga r M1 fun ds M2 => g M2 x ds Ψ) :=
  PE_imp (pe_bm PySem.F.plainAttrs_str slot ty rule ho ha hbase hfew hline hs hplain) fun σ H Q ⟨r, M, G, Ψ, R, h, k⟩ => by
    refine ⟨r, M, G, _, R, h, fun x M1 v H1 G1 ⟨q1, q⟩ R1 s1 p1 => ⟨?_, r, M1, G1, _, R1, q, fun ds M2 us H2 G2 q2 R2 s2 p2 => ?_⟩⟩
    · cases p1 <;> first | exact rfl | exact q1.elim
    · exact ok M2 H2 G2 _ _ _ _ _ _ R2.wd (p1.mono s2) p2 q2 fun d M' w H' G' f w' s' p => k _ _ _ _ _ f (R2.go w' s') ((s1.tr s2).tr s'.gsub) p
def findD (M : Sto) (x : D) (ds : List D) (φ : PD) : Prop := match x, ds with
  | .str a, [.str b, .int i] => φ (.int (Txt.find3 a b i)) M
  | _, _ => False
theorem ok_find {K : PySem.W.Frag} : OkM K (fun x xs H Q => ∃ (a b : Str) (i : Int), x = .str a ∧ xs = [.str b, .int i] ∧ Q (.int (Txt.find3 a b i)) H) findD := fun M H G x v ds vs φ Q w r rs h k => by
  unfold findD at h
  split at h
  · cases r
    cases rs with
    | cons r1 rs =>
      cases rs with
      | cons r2 rs =>
        cases rs
        cases r1
        cases r2
        exact ⟨_, _, _, rfl, rfl, Post.id k w h .int⟩
  · exact h.elim
theorem de_find3 (ho : DE X B o fo) (ha : DA X B (e :: es) ga) (hbase : attributeBase o "find" X.env (eval o X.env) = eval o X.env := by rfl)
    (hfew : ((backTo pos (starEach (e :: es) X.env)).all (fun x => !x.1) && (backToKw pos (keywordEach [] X.env)).all (fun x => x.1.isSome)
      && decide ((e :: es).length + ([] : List Keyword).length + (if ([] : List Keyword).isEmpty then 0 else 1) < 30)) = true := by rfl)
    (hline : (apos.endLine == pos.line) = true := by rfl) (hs : starEach (e :: es) X.env = (false, eval e X.env) :: starEach es X.env := by rfl) (hplain : (backTo pos (starEach es X.env)).any (·.1) = false := by rfl) :
    DE X B (.Call (.Attribute o "find" apos) (e :: es) [] pos) (fun r M Ψ => fo r M fun x M1 => isS x ∧ ga r M1 fun ds M2 => findD M2 x ds Ψ) := de_smN PySem.F.slot_str_find PySem.F.type_str_find mt_find3 ok_find ho ha hbase hfew hline hs hplain
/-! ### range(a, b, c) -/
def rngC (lo c : Int) (n : Nat) : List D := (List.range n).map fun i => .int (lo + (i : Nat) * c)
theorem rngC_get {lo c : Int} {n i : Nat} (h : i < n) : (rngC lo c n)[i]? = some (.int (lo + i * c)) := by
  unfold rngC
  rw [List.getElem?_map, List.getElem?_range h]; rfl
theorem rngC_len {lo c : Int} {n : Nat} : (rngC lo c n).length = n := by unfold rngC; rw [List.length_map, List.length_range]
theorem yld_rngC {K : PySem.W.Frag} {G : Hp} {lo c : Int} {n : Nat} : Yld K B (Itc lo c n) G (rngC lo c n) (fun _ => True) := fun i r M σ H G R s _ => by
  rw [rngC_len]
  exact ⟨fun hi => ⟨hi, fun x H' ⟨e, ex⟩ => by subst e ex; exact ⟨G, _, Grow.refl R.wd.sub, rngC_get hi, .int⟩⟩, fun hi => hi⟩
theorem di_range3 {tg : Expr} (hm : X.mg "range" = none) (ha : DA X B [a, b, c] ga) (hg : Gl X "range" := by rfl)
    (hs : starEach [a, b, c] X.env = (false, eval a X.env) :: starEach [b, c] X.env := by rfl) (hpl : (backTo pos (starEach [b, c] X.env)).any (·.1) = false := by rfl) :
    DI X B tg (.Call (.Name "range" p) [a, b, c] [] pos) (fun r M Ψ => ga r M fun ds M1 => match ds with | [.int i, .int j, .int k] => ∃ n, RgC i j k n ∧ Ψ (rngC i k n) (fun _ => True) M1 | _ => False) := PI_imp (pi_range3 hg hm ha hs hpl) fun σ H Q ⟨r, M, G, Ψ, R, h, k⟩ => by
  refine ⟨r, M, G, _, R, h, fun ds M1 vs H1 G1 q R1 s1 p => ?_⟩
  split at q
  · obtain ⟨n, hn, q⟩ := q
    cases p with
    | cons p1 p2 => cases p2 with
      | cons p2 p3 => cases p3 with
        | cons p3 p4 =>
          cases p1; cases p2; cases p3; cases p4
          exact ⟨_, _, _, n, rfl, hn, k _ _ _ _ _ _ q R1 s1 yld_rngC⟩
  · exact q.elim
end
/-! ### what find tells -/
theorem find_spec (x y : Str) (lo : Nat) : (Txt.find3 x y lo = -1 ∧ ∀ i, lo ≤ i → ¬ StrLaws.At x y x.length i) ∨ ∃ i : Nat, lo ≤ i ∧ Txt.find3 x y lo = i ∧ StrLaws.At x y x.length i ∧ ∀ k, lo ≤ k → k < i → ¬ StrLaws.At x y x.length k := by
  have e0 : PySem.fromIndex x.length (lo : Int) = lo := by
    unfold PySem.fromIndex
    rw [if_neg (by omega)]
    omega
  unfold Txt.find3
  rw [e0, StrLaws.occ_eq]
  rcases StrLaws.occ_first x y x.length 1 (Nat.le_refl _) (List.range' lo (x.length + 1 - lo)) lo (fun i hi => (List.mem_range'_1.mp hi).1) with ⟨h0, hn⟩ | ⟨pre, a, post, e, h0, ha, hn⟩
  · refine .inl ⟨by rw [h0], fun i hi hA => hn i (List.mem_range'_1.mpr ⟨hi, ?_⟩) hA⟩
    have := hA.1
    omega
  · have hm : a ∈ List.range' lo (x.length + 1 - lo) := by rw [e]; simp
    refine .inr ⟨a, (List.mem_range'_1.mp hm).1, ?_, ha, fun k h1 h2 => hn k ?_⟩
    · generalize (forIn (List.range' lo (x.length + 1 - lo)) ((#[] : Array Nat), lo) (StrLaws.occBody x y x.length 1)).run.fst = arr at h0
      have h1 : arr.toList[0]? = some a := by simpa using h0
      cases hL : arr.toList with
      | nil => rw [hL] at h1; cases h1
      | cons z r => rw [hL] at h1; simp at h1; subst h1; rfl
    · have hk : k ∈ List.range' lo (x.length + 1 - lo) := List.mem_range'_1.mpr ⟨h1, by have := (List.mem_range'_1.mp hm).2; omega⟩
      rw [e] at hk
      rcases List.mem_append.mp hk with z | z
      · exact z
      · exfalso
        have srt : (List.range' lo (x.length + 1 - lo)).Pairwise (· < ·) := List.pairwise_lt_range'
        rw [e] at srt
        have := (List.pairwise_append.mp srt).2.1
        rcases List.mem_cons.mp z with q | q
        · omega
        · have := (List.pairwise_cons.mp this).1 k q
          omega
end Z
namespace Z
open PySem PySem.Spec PyProof.Rows L2

/-! ### rows: a word and a ring that is repeated -/
def cyc (l : List Nat) (i : Nat) : Nat := l.getD (i % l.length) 0
def PerF (f : Nat → Nat) (k : Nat) : Prop := ∀ i, f (i + k) = f i
theorem PerF.mul {f : Nat → Nat} {k : Nat} (h : PerF f k) (q i : Nat) : f (i + k * q) = f i := by
  induction q with
  | zero => rfl
  | succ q ih => rw [Nat.mul_succ, ← Nat.add_assoc, h, ih]
theorem PerF.sub {f : Nat → Nat} {a b : Nat} (ha : PerF f a) (hb : PerF f b) : PerF f (b % a) := fun i => by
  have := ha.mul (b / a) (i + b % a)
  rw [Nat.add_assoc, Nat.mod_add_div, hb] at this
  exact this.symm
theorem PerF.gcd {f : Nat → Nat} (a b : Nat) : PerF f a → PerF f b → PerF f (Nat.gcd a b) := by
  induction a, b using Nat.gcd.induction with
  | H0 n => intro _ hb; rw [Nat.gcd_zero_left]; exact hb
  | H1 m n hm ih =>
    intro ha hb
    rw [Nat.gcd_rec]
    exact ih (ha.sub hb) ha
theorem cyc_len {l : List Nat} : PerF (cyc l) l.length := fun i => by unfold cyc; rw [Nat.add_mod_right]
theorem cyc_lt {l : List Nat} {i : Nat} (h : i < l.length) : cyc l i = l.getD i 0 := by unfold cyc; rw [Nat.mod_eq_of_lt h]
theorem cyc_mod {l : List Nat} (i : Nat) : cyc l (i % l.length) = cyc l i := by unfold cyc; rw [Nat.mod_mod]
/-- a period told by the places of one turn -/
theorem per_of {l : List Nat} {k : Nat} (h : ∀ i, i < l.length → cyc l (i + k) = cyc l i) (h0 : 0 < l.length) : PerF (cyc l) k := fun i => by
  have h1 := h (i % l.length) (Nat.mod_lt _ h0)
  rw [cyc_mod] at h1
  rw [← h1]
  unfold cyc
  rw [Nat.mod_add_mod]
def rotL (k : Nat) (l : List Nat) : List Nat := l.drop k ++ l.take k
theorem rotL_len {k : Nat} {l : List Nat} (h : k ≤ l.length) : (rotL k l).length = l.length := by unfold rotL; rw [List.length_append, List.length_drop, List.length_take]; omega
theorem getD_append {a b : List Nat} {i : Nat} : (a ++ b).getD i 0 = if i < a.length then a.getD i 0 else b.getD (i - a.length) 0 := by
  simp only [List.getD_eq_getElem?_getD]
  split
  · rename_i h
    rw [List.getElem?_append_left h]
  · rename_i h
    rw [List.getElem?_append_right (by omega)]
theorem getD_drop {a : List Nat} {k i : Nat} : (a.drop k).getD i 0 = a.getD (k + i) 0 := by simp only [List.getD_eq_getElem?_getD, List.getElem?_drop]
theorem getD_take {a : List Nat} {k i : Nat} (h : i < k) : (a.take k).getD i 0 = a.getD i 0 := by simp only [List.getD_eq_getElem?_getD, List.getElem?_take, if_pos h]
theorem cyc_rot {l : List Nat} {k : Nat} (h0 : 0 < l.length) (h : k ≤ l.length) (i : Nat) : cyc (rotL k l) i = cyc l (i + k) := by
  have hi : i % l.length < l.length := Nat.mod_lt _ h0
  have e : cyc (rotL k l) i = (rotL k l).getD (i % l.length) 0 := by unfold cyc; rw [rotL_len h]
  have e2 : cyc l (i + k) = cyc l (i % l.length + k) := by
    unfold cyc
    rw [Nat.mod_add_mod]
  rw [e, e2]
  generalize i % l.length = j at hi
  unfold rotL
  rw [getD_append, List.length_drop]
  split
  · rename_i h1
    rw [getD_drop, Nat.add_comm k j, cyc_lt (by omega)]
  · rename_i h1
    have e3 : j + k = (j - (l.length - k)) + l.length := by omega
    rw [e3, cyc_len, cyc_lt (by omega), getD_take (by omega)]
theorem list_ext {a b : List Nat} (hl : a.length = b.length) (h : ∀ i, i < a.length → a.getD i 0 = b.getD i 0) : a = b := by
  apply List.ext_getElem hl
  intro i h1 h2
  have := h i h1
  simp only [List.getD_eq_getElem?_getD, List.getElem?_eq_getElem h1, List.getElem?_eq_getElem h2, Option.getD_some] at this
  exact this
theorem rot_per {l : List Nat} {k : Nat} (h0 : 0 < l.length) (h : k ≤ l.length) : rotL k l = l ↔ PerF (cyc l) k := by
  constructor
  · intro e i
    rw [← cyc_rot h0 h, e]
  · intro p
    refine list_ext (rotL_len h) fun i hi => ?_
    rw [rotL_len h] at hi
    rw [← cyc_lt (l := rotL k l) (by rw [rotL_len h]; exact hi), cyc_rot h0 h, p, cyc_lt hi]
/-- a shifted period -/
theorem per_shift {l : List Nat} {c k : Nat} (h0 : 0 < l.length) (h : PerF (fun i => cyc l (i + c)) k) : PerF (cyc l) k := fun i => by
  have h1 := h (i + (l.length * c - c))
  have hc : c ≤ l.length * c := Nat.le_mul_of_pos_left c h0
  have e : i + (l.length * c - c) + c = i + l.length * c := by omega
  have e2 : i + (l.length * c - c) + k + c = i + k + l.length * c := by omega
  simp only [e, e2] at h1
  rw [cyc_len.mul, cyc_len.mul] at h1
  exact h1
theorem ex_least {p : Nat → Prop} : ∀ n, p n → ∃ k, p k ∧ ∀ j, j < k → ¬ p j := fun n => by
  induction n using Nat.strongRecOn with
  | ind n ih =>
    intro h
    by_cases c : ∃ j, j < n ∧ p j
    · obtain ⟨j, hj, hp⟩ := c
      exact ih j hj hp
    · exact ⟨n, h, fun j hj hp => c ⟨j, hj, hp⟩⟩
/-- no shorter word is repeated -/
def PrimR (r : List Nat) : Prop := r ≠ [] ∧ ∀ k, 0 < k → k < r.length → ¬ PerF (cyc r) k
theorem PrimR.pos {r : List Nat} (h : PrimR r) : 0 < r.length := List.length_pos_iff.mpr h.1
theorem PrimR.dvd {r : List Nat} {k : Nat} (h : PrimR r) (p : PerF (cyc r) k) : r.length ∣ k := by
  have g := PerF.gcd r.length k cyc_len p
  have hg : Nat.gcd r.length k ∣ r.length := Nat.gcd_dvd_left _ _
  have h1 : 0 < Nat.gcd r.length k := Nat.gcd_pos_of_pos_left _ h.pos
  have h2 : Nat.gcd r.length k = r.length := by
    have := Nat.le_of_dvd h.pos hg
    rcases Nat.lt_or_ge (Nat.gcd r.length k) r.length with z | z
    · exact absurd g (h.2 _ h1 z)
    · omega
  rw [← h2]
  exact Nat.gcd_dvd_right _ _
theorem PrimR.rot {r : List Nat} {c : Nat} (h : PrimR r) (hc : c ≤ r.length) : PrimR (rotL c r) := by
  refine ⟨fun e => ?_, fun k h1 h2 p => ?_⟩
  · have := rotL_len hc
    rw [e] at this
    have := h.pos
    simp at *
    omega
  · rw [rotL_len hc] at h2
    refine h.2 k h1 h2 (per_shift (c := c) h.pos fun i => ?_)
    have := p i
    rw [cyc_rot h.pos hc, cyc_rot h.pos hc] at this
    exact this
def sq (a r : List Nat) (i : Nat) : Nat := if i < a.length then a.getD i 0 else cyc r (i - a.length)
structure NR (a r : List Nat) : Prop where
  prim : PrimR r
  last : a = [] ∨ a.getD (a.length - 1) 0 ≠ cyc r (r.length - 1)
structure NfR (a r a' r' : List Nat) : Prop where
  nr : NR a' r'
  sq : ∀ i, sq a' r' i = sq a r i
theorem sq_ge {a r : List Nat} {i : Nat} : sq a r (a.length + i) = cyc r i := by unfold sq; rw [if_neg (by omega), Nat.add_sub_cancel_left]
theorem nr_dvd {a r b s : List Nat} (h : NR a r) (h' : NR b s) (e : ∀ i, sq a r i = sq b s i) : r.length ∣ s.length := by
  refine h.prim.dvd (per_shift (c := b.length) h.prim.pos fun i => ?_)
  have f : ∀ i, cyc r (i + b.length) = cyc s (i + a.length) := fun i => by
    have h1 := e (a.length + (i + b.length))
    rw [sq_ge, show a.length + (i + b.length) = b.length + (i + a.length) by omega, sq_ge] at h1
    exact h1
  show cyc r (i + s.length + b.length) = cyc r (i + b.length)
  rw [f, f, show i + s.length + a.length = i + a.length + s.length by omega, cyc_len]
theorem nr_le {a r b s : List Nat} (h : NR a r) (h' : NR b s) (e : ∀ i, sq a r i = sq b s i) (hl : r.length = s.length) : b.length ≤ a.length := by
  refine Nat.le_of_not_lt fun lt => ?_
  rcases h'.last with z | z
  · rw [z] at lt; simp at lt
  · apply z
    have h1 := e (b.length - 1)
    have h2 := e (b.length + (s.length - 1))
    rw [sq_ge] at h2
    have hp := h'.prim.pos
    have e1 : sq b s (b.length - 1) = b.getD (b.length - 1) 0 := by unfold sq; rw [if_pos (by omega)]
    rw [← e1, ← h1, ← h2]
    have e2 : b.length - 1 = a.length + (b.length - 1 - a.length) := by omega
    have e3 : b.length + (s.length - 1) = a.length + (b.length - 1 - a.length + r.length) := by omega
    rw [e2, e3, sq_ge, sq_ge, cyc_len]
theorem nr_uniq {a r b s : List Nat} (h : NR a r) (h' : NR b s) (e : ∀ i, sq a r i = sq b s i) : a = b ∧ r = s := by
  have hl : r.length = s.length := Nat.dvd_antisymm (nr_dvd h h' e) (nr_dvd h' h fun i => (e i).symm)
  have ha : a.length = b.length := Nat.le_antisymm (nr_le h' h (fun i => (e i).symm) hl.symm) (nr_le h h' e hl)
  refine ⟨list_ext ha fun i hi => ?_, list_ext hl fun i hi => ?_⟩
  · have := e i
    unfold sq at this
    rw [if_pos hi, if_pos (by omega)] at this
    exact this
  · have := e (a.length + i)
    rw [sq_ge, ha, sq_ge, cyc_lt hi, cyc_lt (by omega)] at this
    exact this
theorem NfR.uniq {a r a' r' b s : List Nat} (h : NfR a r a' r') (h' : NfR a r b s) : a' = b ∧ r' = s := nr_uniq h.nr h'.nr fun i => by rw [h.sq, h'.sq]
theorem NfR.self {a r : List Nat} (h : NR a r) : NfR a r a r := ⟨h, fun _ => rfl⟩
end Z
namespace Z
open PySem PySem.Spec PyProof.Rows L2

/-! ### words as texts -/
theorem wlen {w : List Nat} : (⟨w.toArray⟩ : Str).length = w.length := List.size_toArray
theorem wapp {a b : List Nat} : (⟨a.toArray⟩ : Str) ++ ⟨b.toArray⟩ = ⟨(a ++ b).toArray⟩ := by
  show (⟨_ ++ _⟩ : Str) = _
  simp
theorem weq {a b : List Nat} : (⟨a.toArray⟩ : Str) = ⟨b.toArray⟩ ↔ a = b := ⟨fun h => by
  have : a.toArray = b.toArray := congrArg Str.cps h
  simpa using this, fun h => by rw [h]⟩
theorem cut_take {w : List Nat} {k : Nat} : cutS ⟨w.toArray⟩ none (some (k : Int)) = ⟨(w.take k).toArray⟩ := by
  unfold cutS
  rw [HT.sIx_nat, HT.sIx_none, wlen]
  simp only [List.drop_zero, Nat.sub_zero, List.take_eq_take_iff.mpr]
  congr 2
  rcases Nat.le_total k w.length with h | h
  · rw [Nat.min_eq_left h]
  · rw [Nat.min_eq_right h, List.take_of_length_le (Nat.le_refl _), List.take_of_length_le h]
theorem cut_drop {w : List Nat} {k : Nat} : cutS ⟨w.toArray⟩ (some (k : Int)) none = ⟨(w.drop k).toArray⟩ := by
  unfold cutS
  rw [HT.sIx_nat, HT.sIx_none, wlen]
  congr 2
  rcases Nat.le_total k w.length with h | h
  · rw [Nat.min_eq_left h]
    exact List.take_of_length_le (by simp)
  · rw [Nat.min_eq_right h, List.drop_of_length_le (Nat.le_refl _), List.drop_of_length_le h, List.take_nil]
theorem cut_last {w : List Nat} : cutS ⟨w.toArray⟩ none (some (-1)) = ⟨(w.take (w.length - 1)).toArray⟩ := by
  unfold cutS
  rw [HT.sIx_none, wlen]
  have : HT.sIx w.length w.length (some (-1)) = w.length - 1 := by
    show (if (-1 : Int) < 0 then ((-1 : Int) + (w.length : Int)).toNat else min (-1 : Int).toNat w.length) = _
    rw [if_pos (by decide)]
    omega
  rw [this]
  simp [HT.sIx_none]
theorem at_w {w : List Nat} {i : Nat} (h : i < w.length) : L2.atI w (i : Int) = some (w.getD i 0) := by
  unfold L2.atI L2.ixN
  rw [if_pos (by omega)]
  simp [h]
theorem at_neg {w : List Nat} {i : Nat} (h : i < w.length) : L2.atI w (-1 - (i : Int)) = some (w.getD (w.length - 1 - i) 0) := by
  unfold L2.atI L2.ixN
  rw [if_neg (by omega), if_pos (by omega)]
  have : (-1 - (i : Int) + (w.length : Int)).toNat = w.length - 1 - i := by omega
  show w[_]? = _
  have h2 : w.length - 1 - i < w.length := by omega
  rw [this, List.getD_eq_getElem?_getD, List.getElem?_eq_getElem h2, Option.getD_some]
theorem mul_word {w : List Nat} {k : Nat} : Txt.mul ⟨w.toArray⟩ (k : Int) = ⟨(List.replicate k w).flatten.toArray⟩ := by
  unfold Txt.mul
  by_cases h : (k : Int) < 1
  · rw [if_pos h]
    have : k = 0 := by omega
    subst this; rfl
  · rw [if_neg h]
    by_cases h1 : k = 1 ∨ w = []
    · rw [if_pos (by rcases h1 with e | e <;> subst e <;> simp [Str.length])]
      rcases h1 with e | e
      · subst e
        simp
      · subst e
        simp
    · have h2 : ¬ k = 1 ∧ ¬ w = [] := ⟨fun z => h1 (.inl z), fun z => h1 (.inr z)⟩
      rw [if_neg (by simp [Str.length]; exact ⟨by omega, h2.2⟩)]
      have e := fold_rep w.toArray k #[]
      simp only [Int.toNat_natCast]
      generalize hz : (List.replicate k w.toArray).foldl (· ++ ·) #[] = z at e ⊢
      have e2 : z.toList = (List.replicate k w).flatten := by rw [e]; simp
      rw [← e2]
/-! ### the shortest ring -/
theorem cyc_take {r : List Nat} {k : Nat} (h0 : 0 < k) (hk : k ≤ r.length) (p : PerF (cyc r) k) (i : Nat) : cyc (r.take k) i = cyc r i := by
  have hl : (r.take k).length = k := by rw [List.length_take]; omega
  have hm : i % k < k := Nat.mod_lt _ h0
  have e1 : cyc (r.take k) i = r.getD (i % k) 0 := by
    unfold cyc
    rw [hl, getD_take hm]
  have e2 := p.mul (i / k) (i % k)
  rw [Nat.mod_add_div] at e2
  rw [e1, e2, cyc_lt (by omega)]
theorem flat_len {l : List Nat} : ∀ q, (List.replicate q l).flatten.length = q * l.length := fun q => by
  rw [List.length_flatten, List.map_replicate, List.sum_replicate_nat]
theorem flat_get {l : List Nat} : ∀ (q i : Nat), i < q * l.length → (List.replicate q l).flatten.getD i 0 = l.getD (i % l.length) 0
  | 0, i, h => by omega
  | q + 1, i, h => by
    rw [List.replicate_succ, List.flatten_cons, getD_append]
    split
    · rename_i h1
      rw [Nat.mod_eq_of_lt h1]
    · rename_i h1
      rw [Nat.succ_mul] at h
      rw [flat_get q _ (by omega), Nat.mod_eq_sub_mod (a := i) (by omega)]
theorem flat_cyc {l : List Nat} {q : Nat} (hq : 0 < q) (hl : l ≠ []) (i : Nat) : cyc (List.replicate q l).flatten i = cyc l i := by
  have h0 : 0 < l.length := List.length_pos_iff.mpr hl
  have h1 : 0 < q * l.length := Nat.mul_pos hq h0
  unfold cyc
  rw [flat_len, flat_get _ _ (Nat.mod_lt _ h1), Nat.mod_mod_of_dvd _ (Nat.dvd_mul_left _ _)]
/-- a part that makes the whole -/
theorem flat_iff {r : List Nat} {k : Nat} (h0 : 0 < k) (hd : k ∣ r.length) (hr : r ≠ []) : (List.replicate (r.length / k) (r.take k)).flatten = r ↔ PerF (cyc r) k := by
  have hn : 0 < r.length := List.length_pos_iff.mpr hr
  have hk : k ≤ r.length := Nat.le_of_dvd hn hd
  have hl : (r.take k).length = k := by rw [List.length_take]; omega
  have hq : 0 < r.length / k := Nat.div_pos hk h0
  have ne : r.take k ≠ [] := fun z => by rw [z] at hl; simp at hl; omega
  constructor
  · intro e i
    have f := flat_cyc (l := r.take k) hq ne
    rw [e] at f
    rw [f, f]
    have := cyc_len (l := r.take k) i
    rw [hl] at this
    exact this
  · intro p
    refine list_ext (by rw [flat_len, hl, Nat.div_mul_cancel hd]) fun i hi => ?_
    rw [flat_len] at hi
    rw [flat_get _ _ hi]
    have := cyc_take h0 hk p i
    unfold cyc at this
    rw [this, Nat.mod_eq_of_lt (by rw [hl, Nat.div_mul_cancel hd] at hi; exact hi)]
/-- one shortest ring -/
theorem prim_take {r : List Nat} {k : Nat} (h0 : 0 < k) (hk : k ≤ r.length) (p : PerF (cyc r) k) (hm : ∀ j, 0 < j → j < k → ¬ PerF (cyc r) j) : PrimR (r.take k) := by
  have hl : (r.take k).length = k := by rw [List.length_take]; omega
  refine ⟨fun z => by rw [z] at hl; simp at hl; omega, fun j j0 j1 q => ?_⟩
  rw [hl] at j1
  refine hm j j0 j1 fun i => ?_
  have := q i
  rw [cyc_take h0 hk p, cyc_take h0 hk p] at this
  exact this
theorem at_rot {r : List Nat} {k : Nat} : StrLaws.At (⟨(r ++ r).toArray⟩ : Str) ⟨r.toArray⟩ (⟨(r ++ r).toArray⟩ : Str).length k ↔ k ≤ r.length ∧ rotL k r = r := by
  unfold StrLaws.At
  rw [StrLaws.subAt_eq, wlen, wlen, List.length_append]
  have h1 : k + r.length ≤ r.length + r.length ↔ k ≤ r.length := by omega
  rw [h1]
  refine and_congr_right fun hk => ?_
  have e : ((r ++ r).drop k).take r.length = rotL k r := by
    unfold rotL
    rw [List.drop_append_of_le_length hk, List.take_append, List.length_drop, List.take_of_length_le (by rw [List.length_drop]; omega)]
    congr 1
    congr 1
    omega
  simp only [e, beq_iff_eq]
theorem least_find {r : List Nat} (hr : r ≠ []) : ∃ k : Nat, 0 < k ∧ k ≤ r.length ∧ Txt.find3 ⟨(r ++ r).toArray⟩ ⟨r.toArray⟩ 1 = k ∧ PrimR (r.take k) ∧ ∀ i, cyc (r.take k) i = cyc r i := by
  have hn : 0 < r.length := List.length_pos_iff.mpr hr
  rcases find_spec ⟨(r ++ r).toArray⟩ ⟨r.toArray⟩ 1 with ⟨_, hno⟩ | ⟨k, k1, e, hA, hm⟩
  · exfalso
    exact hno r.length hn (at_rot.mpr ⟨Nat.le_refl _, (rot_per hn (Nat.le_refl _)).mpr cyc_len⟩)
  · obtain ⟨hk, hrot⟩ := at_rot.mp hA
    have p := (rot_per hn hk).mp hrot
    exact ⟨k, k1, hk, e, prim_take k1 hk p fun j j0 j1 q => hm j j0 j1 (at_rot.mpr ⟨by omega, (rot_per hn (by omega)).mpr q⟩), cyc_take k1 hk p⟩
end Z
namespace Z
open PySem PySem.Spec PyProof.Rows L2

/-! ### a row's shortest form -/
theorem sq_rot {a l : List Nat} {j : Nat} (h0 : 0 < l.length) (hj : j ≤ a.length) (hm : ∀ u, u < j → a.getD (a.length - 1 - u) 0 = l.getD (l.length - 1 - u % l.length) 0) (i : Nat) : sq (a.take (a.length - j)) (rotL (l.length - j % l.length) l) i = sq a l i := by
  have hl : (a.take (a.length - j)).length = a.length - j := by rw [List.length_take]; omega
  unfold sq
  rw [hl]
  by_cases h1 : i < a.length - j
  · rw [if_pos h1, if_pos (by omega), getD_take h1]
  · rw [if_neg h1, cyc_rot h0 (Nat.sub_le _ _)]
    have hjm : j % l.length < l.length := Nat.mod_lt _ h0
    have ej := Nat.mod_add_div j l.length
    by_cases h2 : i < a.length
    · rw [if_pos h2]
      have hu := hm (a.length - 1 - i) (by omega)
      rw [show a.length - 1 - (a.length - 1 - i) = i by omega] at hu
      rw [hu]
      have hum : (a.length - 1 - i) % l.length < l.length := Nat.mod_lt _ h0
      have eu := Nat.mod_add_div (a.length - 1 - i) l.length
      have e1 := PerF.mul (cyc_len (l := l)) ((a.length - 1 - i) / l.length) (i - (a.length - j) + (l.length - j % l.length))
      have e2 := PerF.mul (cyc_len (l := l)) (j / l.length) (l.length - 1 - (a.length - 1 - i) % l.length)
      have e3 : i - (a.length - j) + (l.length - j % l.length) + l.length * ((a.length - 1 - i) / l.length) = (l.length - 1 - (a.length - 1 - i) % l.length) + l.length * (j / l.length) := by
        generalize l.length * (j / l.length) = A at *
        generalize l.length * ((a.length - 1 - i) / l.length) = Bq at *
        omega
      rw [← e1, e3, e2, cyc_lt (by omega)]
    · rw [if_neg h2]
      have e1 := PerF.mul (cyc_len (l := l)) (j / l.length) (i - a.length)
      have e3 : i - (a.length - j) + (l.length - j % l.length) = i - a.length + l.length * (j / l.length) + l.length := by
        generalize l.length * (j / l.length) = A at *
        omega
      rw [e3, cyc_len, e1]
theorem row_nf {a l : List Nat} {j : Nat} (hp : PrimR l) (hj : j ≤ a.length) (hm : ∀ u, u < j → a.getD (a.length - 1 - u) 0 = l.getD (l.length - 1 - u % l.length) 0) (he : j = a.length ∨ a.getD (a.length - 1 - j) 0 ≠ l.getD (l.length - 1 - j % l.length) 0) :
    NfR a l (a.take (a.length - j)) (rotL (l.length - j % l.length) l) := by
  have h0 := hp.pos
  have hc : l.length - j % l.length ≤ l.length := Nat.sub_le _ _
  refine ⟨⟨hp.rot hc, ?_⟩, sq_rot h0 hj hm⟩
  rcases he with e | e
  · refine .inl ?_
    rw [e, Nat.sub_self, List.take_zero]
  · by_cases hl : j = a.length
    · refine .inl ?_
      rw [hl, Nat.sub_self, List.take_zero]
    · refine .inr ?_
      have hjm : j % l.length < l.length := Nat.mod_lt _ h0
      have e1 : (a.take (a.length - j)).length = a.length - j := by rw [List.length_take]; omega
      rw [e1, getD_take (by omega), show a.length - j - 1 = a.length - 1 - j by omega, rotL_len hc, cyc_rot h0 hc, show l.length - 1 + (l.length - j % l.length) = l.length - 1 - j % l.length + l.length by omega, cyc_len, cyc_lt (by omega)]
      exact e
theorem NfR.ring {a r l x y : List Nat} (h : NfR a l x y) (e : ∀ i, cyc l i = cyc r i) : NfR a r x y := ⟨h.nr, fun i => by
  rw [h.sq]
  unfold Z.sq
  split
  · rfl
  · exact e _⟩
/-- one turn of the law's way -/
theorem sq_step {a r : List Nat} (h0 : 0 < r.length) (ha : 0 < a.length) (e : a.getD (a.length - 1) 0 = r.getD (r.length - 1) 0) (i : Nat) : sq (a.take (a.length - 1)) (rotL (r.length - 1) r) i = sq a r i := by
  have h1 := sq_rot (a := a) (l := r) (j := 1) h0 ha (fun u hu => by
    have : u = 0 := by omega
    subst this
    rw [Nat.zero_mod]
    exact e) i
  by_cases c : r.length = 1
  · rw [c] at h1 ⊢
    have : rotL (1 - 1 % 1) r = rotL (1 - 1) r := by
      unfold rotL
      show r.drop 1 ++ r.take 1 = r.drop 0 ++ r.take 0
      rw [List.drop_of_length_le (by omega), List.take_of_length_le (by omega)]
      simp
    rw [this] at h1
    exact h1
  · rw [Nat.mod_eq_of_lt (by omega : 1 < r.length)] at h1
    exact h1
theorem drop_last {r : List Nat} (h0 : 0 < r.length) : r.drop (r.length - 1) = [r.getD (r.length - 1) 0] := by
  rw [List.drop_eq_getElem_cons (by omega), List.drop_of_length_le (by omega), List.getD_eq_getElem?_getD, List.getElem?_eq_getElem (by omega)]
  rfl
theorem rot_last {r : List Nat} (h0 : 0 < r.length) : [r.getD (r.length - 1) 0] ++ r.take (r.length - 1) = rotL (r.length - 1) r := by
  unfold rotL
  rw [drop_last h0]
end Z
namespace Z
open PySem PySem.Spec PyProof.Rows L2

/-! ### words: the steps -/
section
variable {M : Sto} {w u : List Nat} {φ : D → Prop} {Φ : PD}
theorem w_sz (h : w.length ≤ 400000) : (⟨w.toArray⟩ : Str).length ≤ sizeLine := sz_le (n := 400000) (by rw [wlen]; exact h) (by decide)
theorem w_tz (h : w.length ≤ 400000) : ∀ x, D.str ⟨w.toArray⟩ = .str x → x.cps.size ≤ 1000000 := fun x e => by cases e; exact Nat.le_trans (by rw [List.size_toArray]; exact h) (by decide)
theorem len_w (h : w.length ≤ 400000) (q : Φ (.int w.length) M) : lenD M [.str ⟨w.toArray⟩] Φ := by
  refine ⟨w_sz h, ?_⟩
  rw [wlen]
  exact q
theorem ix_w {i : Nat} (h : w.length ≤ 400000) (hi : i < w.length) (q : φ (.str ⟨#[w.getD i 0]⟩)) : ixD M (.str ⟨w.toArray⟩) (.int (i : Int)) φ := by
  refine ⟨w_sz h, ?_⟩
  show optK (L2.atI w.toArray.toList (i : Int)) _
  rw [List.toList_toArray, at_w hi]
  exact q
theorem ix_neg {i : Nat} (h : w.length ≤ 400000) (hi : i < w.length) (q : φ (.str ⟨#[w.getD (w.length - 1 - i) 0]⟩)) : ixD M (.str ⟨w.toArray⟩) (.int (-1 - (i : Int))) φ := by
  refine ⟨w_sz h, ?_⟩
  show optK (L2.atI w.toArray.toList (-1 - (i : Int))) _
  rw [List.toList_toArray, at_neg hi]
  exact q
theorem ix_last (h : w.length ≤ 400000) (hi : 0 < w.length) (q : φ (.str ⟨#[w.getD (w.length - 1) 0]⟩)) : ixD M (.str ⟨w.toArray⟩) (.int (-1)) φ := ix_neg (i := 0) h hi q
theorem sl_take {k : Nat} (h : w.length ≤ 400000) (q : φ (.str ⟨(w.take k).toArray⟩)) : slD M (.str ⟨w.toArray⟩) none (some (k : Int)) φ := by
  refine ⟨w_sz h, ?_⟩
  rw [cut_take]
  exact q
theorem sl_drop {k : Nat} (h : w.length ≤ 400000) (q : φ (.str ⟨(w.drop k).toArray⟩)) : slD M (.str ⟨w.toArray⟩) (some (k : Int)) none φ := by
  refine ⟨w_sz h, ?_⟩
  rw [cut_drop]
  exact q
theorem sl_last (h : w.length ≤ 400000) (q : φ (.str ⟨(w.take (w.length - 1)).toArray⟩)) : slD M (.str ⟨w.toArray⟩) none (some (-1)) φ := by
  refine ⟨w_sz h, ?_⟩
  rw [cut_last]
  exact q
theorem add_w (h : w.length ≤ 400000) (h' : u.length ≤ 400000) (q : φ (.str ⟨(w ++ u).toArray⟩)) : addD M (.str ⟨w.toArray⟩) (.str ⟨u.toArray⟩) φ := by
  refine ⟨sz2 (n := 400000) (m := 400000) (by rw [wlen]; exact h) (by rw [wlen]; exact h') (by decide), ?_⟩
  rw [wapp]
  exact q
theorem one_w {c : Nat} : (⟨#[c]⟩ : Str) = ⟨[c].toArray⟩ := rfl
theorem mul_w {k : Nat} (hk : k ≤ 400000) (h : w.length * k ≤ 400000) (h' : w.length ≤ 400000) (q : φ (.str ⟨(List.replicate k w).flatten.toArray⟩)) : mulSD M (.str ⟨w.toArray⟩) (.int (k : Int)) φ := by
  refine ⟨⟨?_, fun h1 h2 => ?_, fun h1 h2 => ?_⟩, ?_⟩
  · rw [Bool.or_eq_false_iff]
    exact ⟨decide_eq_false (by omega), decide_eq_false (by omega)⟩
  · rw [wlen]
    have : (w.length : Int) ≤ (2 ^ 63 - 1) / (k : Int) := (Int.le_ediv_iff_mul_le (by omega)).mpr (by
      have : ((w.length * k : Nat) : Int) ≤ 400000 := by omega
      rw [Int.natCast_mul] at this
      omega)
    omega
  · rw [wlen, Int.toNat_natCast]
    show decide (w.length * k > sizeLine) = false
    refine decide_eq_false ?_
    have := big_ok
    omega
  · rw [mul_word]
    exact q
theorem fdiv_n {a n : Nat} (h : 0 < n) (hn : n ≤ 400000) (q : φ (.int ((a / n : Nat) : Int))) : fdivD M (.int (a : Int)) (.int (n : Int)) φ := by
  refine ⟨dok_s (by omega) (by omega), ?_⟩
  rw [show (a : Int).fdiv (n : Int) = ((a / n : Nat) : Int) from by rw [Int.fdiv_eq_ediv_of_nonneg _ (by omega)]; rfl]
  exact q
theorem mul_n {a b : Nat} (ha : a ≤ 400000) (hb : b ≤ 400000) (q : φ (.int ((a * b : Nat) : Int))) : mulD M (.int (a : Int)) (.int (b : Int)) φ := by
  refine ⟨mok_of (a := 40) (b := 40) (by omega) (by omega) (by decide) (by decide) (by decide), ?_⟩
  rw [← Int.natCast_mul]
  exact q
theorem eq_n {a b : Nat} (q : φ (.bl (decide (a = b)))) : eqD M (.int (a : Int)) (.int (b : Int)) φ := eqI (by rw [show decide ((a : Int) = (b : Int)) = decide (a = b) from decide_eq_decide.mpr (by omega)]; exact q)
theorem ne_emp {s : List Nat} (q : φ (.bl (!decide (s = [])))) : neD M (.str ⟨s.toArray⟩) (.str "") φ := by
  refine neS ?_
  rw [show decide ((⟨s.toArray⟩ : Str) = "") = decide (s = []) from decide_eq_decide.mpr (weq (b := []))]
  exact q
def lenN (r : En) (i : Nat) : Nat := match r[i]? with
  | some (some (.str z)) => z.length
  | _ => 0
theorem inKI {i : Int} {ψ : Int → Prop} (q : ψ i) : inK (.int i) ψ := q
theorem subI {i j : Int} (q : φ (.int (i - j))) : subD M (.int i) (.int j) φ := q
theorem sub_n {a b : Nat} (h : b ≤ a) (q : φ (.int ((a - b : Nat) : Int))) : subD M (.int (a : Int)) (.int (b : Int)) φ := by
  show φ (.int ((a : Int) - (b : Int)))
  rw [show (a : Int) - (b : Int) = ((a - b : Nat) : Int) by omega]
  exact q
theorem fmod_n {a n : Nat} (h : 0 < n) (q : φ (.int ((a % n : Nat) : Int))) : fmodD M (.int (a : Int)) (.int (n : Int)) φ := by
  refine ⟨by omega, ?_⟩
  rw [show (a : Int).fmod (n : Int) = ((a % n : Nat) : Int) from by rw [Int.fmod_eq_emod_of_nonneg _ (by omega)]; rfl]
  exact q
theorem eq_w {s : List Nat} {t : List Nat} (q : φ (.bl (decide (s = t)))) : eqD M (.str ⟨s.toArray⟩) (.str ⟨t.toArray⟩) φ := eqS (by rw [show decide ((⟨s.toArray⟩ : Str) = ⟨t.toArray⟩) = decide (s = t) from decide_eq_decide.mpr weq]; exact q)
theorem eq_c {s t : Nat} (q : φ (.bl (decide (s = t)))) : eqD M (.str ⟨#[s]⟩) (.str ⟨#[t]⟩) φ := eqS (by rw [show decide ((⟨#[s]⟩ : Str) = ⟨#[t]⟩) = decide (s = t) from decide_eq_decide.mpr ch_eq]; exact q)
end
theorem PerF.least {f : Nat → Nat} {m k : Nat} (m0 : 0 < m) (pm : PerF f m) (hm : ∀ j, j < m → ¬ (0 < j ∧ PerF f j)) (p : PerF f k) : m ∣ k := by
  have g := PerF.gcd m k pm p
  have h1 : 0 < Nat.gcd m k := Nat.gcd_pos_of_pos_left _ m0
  have h2 : Nat.gcd m k = m := by
    have := Nat.le_of_dvd m0 (Nat.gcd_dvd_left m k)
    rcases Nat.lt_or_ge (Nat.gcd m k) m with z | z
    · exact absurd ⟨h1, g⟩ (hm _ z)
    · omega
  rw [← h2]
  exact Nat.gcd_dvd_right _ _
theorem per_congr {f g : Nat → Nat} {k : Nat} (e : ∀ i, f i = g i) (p : PerF f k) : PerF g k := fun i => by rw [← e, ← e]; exact p i
theorem LR.take {w : List Nat} (h : LR w) (k : Nat) : LR (w.take k) := fun c hc => h c (List.mem_of_mem_take hc)
theorem LR.drop {w : List Nat} (h : LR w) (k : Nat) : LR (w.drop k) := fun c hc => h c (List.mem_of_mem_drop hc)
theorem LR.app {w u : List Nat} (h : LR w) (h' : LR u) : LR (w ++ u) := fun c hc => (List.mem_append.mp hc).elim (h c) (h' c)
theorem LR.rot {w : List Nat} (h : LR w) (k : Nat) : LR (rotL k w) := (h.drop k).app (h.take k)
theorem lr_get {w : List Nat} (h : LR w) {i : Nat} (hi : i < w.length) : w.getD i 0 = 76 ∨ w.getD i 0 = 82 := by
  rw [List.getD_eq_getElem?_getD, List.getElem?_eq_getElem hi]
  exact h _ (List.getElem_mem hi)
theorem sq_lr {a r : List Nat} (ha : LR a) (hr : LR r) (h0 : 0 < r.length) (i : Nat) : sq a r i = 76 ∨ sq a r i = 82 := by
  unfold sq
  split
  · rename_i h
    exact lr_get ha h
  · unfold cyc
    exact lr_get hr (Nat.mod_lt _ h0)
theorem NfR.lr {a r x y : List Nat} (h : NfR a r x y) (ha : LR a) (hr : LR r) (h0 : 0 < r.length) : LR x ∧ LR y := by
  refine ⟨fun c hc => ?_, fun c hc => ?_⟩
  · obtain ⟨i, hi, e⟩ := List.getElem_of_mem hc
    have := sq_lr ha hr h0 i
    rw [← h.sq] at this
    unfold Z.sq at this
    rw [if_pos hi, List.getD_eq_getElem?_getD, List.getElem?_eq_getElem hi, Option.getD_some, e] at this
    exact this
  · obtain ⟨i, hi, e⟩ := List.getElem_of_mem hc
    have := sq_lr ha hr h0 (x.length + i)
    rw [← h.sq, sq_ge, cyc_lt hi, List.getD_eq_getElem?_getD, List.getElem?_eq_getElem hi, Option.getD_some, e] at this
    exact this
theorem sq_drop {x y : List Nat} {n : Nat} (h : n ≤ x.length) (i : Nat) : sq (x.drop n) y i = sq x y (i + n) := by
  unfold sq
  rw [List.length_drop]
  by_cases h1 : i < x.length - n
  · rw [if_pos h1, if_pos (by omega), getD_drop, Nat.add_comm]
  · rw [if_neg h1, if_neg (by omega)]
    congr 1
    omega
theorem sq_past {x y : List Nat} {n : Nat} (h0 : 0 < y.length) (h : x.length ≤ n) (i : Nat) : sq [] (rotL ((n - x.length) % y.length) y) i = sq x y (i + n) := by
  have hm := Nat.mod_lt (n - x.length) h0
  unfold sq
  rw [if_neg (by simp), if_neg (by omega), List.length_nil, Nat.sub_zero, cyc_rot h0 (by omega)]
  have e1 := PerF.mul (cyc_len (l := y)) ((n - x.length) / y.length) (i + (n - x.length) % y.length)
  rw [Nat.add_assoc, Nat.mod_add_div] at e1
  rw [← e1]
  congr 1
  omega
/-- the first turns of a row -/
def beg (x y : List Nat) (n : Nat) : List Nat := (List.range n).map (sq x y)
theorem beg_len {x y : List Nat} {n : Nat} : (beg x y n).length = n := by unfold beg; rw [List.length_map, List.length_range]
theorem beg_get {x y : List Nat} {n i : Nat} (h : i < n) : (beg x y n).getD i 0 = sq x y i := by
  unfold beg
  rw [List.getD_eq_getElem?_getD, List.getElem?_map, List.getElem?_range h]
  rfl
theorem beg_of {x y l : List Nat} {n : Nat} (hl : n ≤ l.length) (h : ∀ i, i < l.length → l.getD i 0 = sq x y i) : l.take n = beg x y n := by
  have e : (l.take n).length = n := by rw [List.length_take]; omega
  refine list_ext (by rw [e, beg_len]) fun i hi => ?_
  rw [e] at hi
  rw [getD_take hi, beg_get hi, h i (by omega)]
theorem beg_next {x y l : List Nat} {k : Nat} (h0 : 0 < y.length) (hk : l.length = x.length + y.length * k) (h : ∀ i, i < l.length → l.getD i 0 = sq x y i) : ∀ i, i < (l ++ y).length → (l ++ y).getD i 0 = sq x y i := fun i hi => by
  rw [List.length_append] at hi
  rw [getD_append]
  split
  · rename_i h1
    exact h i h1
  · rename_i h1
    have e1 := PerF.mul (cyc_len (l := y)) k (i - l.length)
    unfold sq
    rw [if_neg (by omega), show i - x.length = i - l.length + y.length * k by omega, e1, cyc_lt (by omega)]
theorem no_w {f : Str} {d : D} (h : (f == ("whole" : Str)) = false := by decide +kernel) : List.lookup f [(("whole" : Str), d)] = none := look_ne h
end Z
namespace Z
open PySem PySem.Spec PyProof.Rows L2

/-! ### list(text) -/
theorem vals_get : ∀ {vs : List V} {us : List Value}, vs.length = us.length → (∀ (j : Nat) (v : V) (u : Value), vs[j]? = some v → us[j]? = some u → L2.RelV v u) → Vals vs us
  | [], [], _, _ => .nil
  | [], u :: us, h, _ => by cases h
  | v :: vs, [], h, _ => by cases h
  | v :: vs, u :: us, h, k => .cons (k 0 v u rfl rfl) (vals_get (Nat.succ.inj h) fun j v u h1 h2 => k (j + 1) v u (by simpa using h1) (by simpa using h2))
theorem call_list_text {X : Cx} (hc : X.calm = true) : CallR X (.type "list") (fun xs H Q => ∃ z : Str, xs = [.str z] ∧ z.length ≤ sizeLine ∧ ∀ l, H l = none → Q (.ref l) (upd H l (.lst (z.cps.toList.map fun c => V.str ⟨#[c]⟩)))) := by
  intro pins s σ H xs us Q I r h
  obtain ⟨z, rfl, hz, q⟩ := h
  obtain ⟨u, rfl, t, rfl⟩ := vals1 r
  refine call_list_str (I.ok.hd hc) z t (hn := hz) fun h' tk acc' c' kp e hacc => ?_
  have hl : (z.cps.toList.map fun c => V.str ⟨#[c]⟩).length = acc'.toList.length := by
    rw [List.length_map, Array.length_toList, Array.length_toList, hacc.1]
  refine ⟨.ref s.heap.objs.size, _, I.laid (t' := tk) kp (Nat.le_refl _) (show ObjOk X.prog X.w _ h' _ (.lst _) from ⟨by rw [List.length_map]; exact hz, acc'.toList, c', vals_get hl fun j v u h1 h2 => ?_, by rw [Array.toArray_toList]; exact e⟩), rfl, q _ (I.hok.fresh (Nat.le_refl _))⟩
  obtain ⟨c, u', hc', rfl⟩ := hacc.2 j u (by simpa using h2)
  rw [List.getElem?_map] at h1
  rw [show z.cps.toList[j]? = some c by simpa using hc'] at h1
  cases h1
  exact ⟨_, rfl⟩
def listSD (M : Sto) (ds : List D) (φ : PD) : Prop := match ds with
  | [.str z] => z.length ≤ sizeLine ∧ φ (.lst (z.cps.toList.map fun c => .str ⟨#[c]⟩)) M
  | _ => False
theorem rep_signs {K : PySem.W.Frag} {G : Hp} : ∀ l : List Nat, RepL K G (l.map fun c => D.str ⟨#[c]⟩) (l.map fun c => V.str ⟨#[c]⟩)
  | [] => .nil
  | c :: l => .cons .str (rep_signs l)
theorem ok_listS {K : PySem.W.Frag} : OkC K (fun xs H Q => ∃ z : Str, xs = [.str z] ∧ z.length ≤ sizeLine ∧ ∀ l, H l = none → Q (.ref l) (upd H l (.lst (z.cps.toList.map fun c => V.str ⟨#[c]⟩)))) listSD := fun M H G ds vs φ Q w r h k => by
  unfold listSD at h
  split at h
  · rename_i z
    cases r with
    | cons r1 r2 =>
      cases r2
      cases r1
      refine ⟨_, rfl, h.1, fun l hl => ?_⟩
      have g := grow_upd (o := .lst (z.cps.toList.map fun c => V.str ⟨#[c]⟩)) w.sub hl
      exact k.grow w g h.2 (.lst (.inl upd_same) (rep_signs _))
  · exact h.elim
theorem de_listS {X : Cx} {B : Bs} {a : Expr} {ga : DTA} {p pos : Pos} (hc : X.calm = true) (hm : X.mg "list" = none) (ha : DA X B [a] ga) (hg : Gl X "list" := by rfl) (he : starEach [a] X.env = (false, eval a X.env) :: starEach [] X.env := by rfl) : DE X B (.Call (.Name "list" p) [a] [] pos) (fun r M Ψ => ga r M fun ds M1 => listSD M1 ds Ψ) :=
  de_callT (call_list_text hc) ok_listS hm bt_list ha hg (by decide) (by decide) he rfl
def tAt (x y : List Nat) (d : D) : D := match d with
  | .int i => .str ⟨#[sq x y i.toNat]⟩
  | _ => .non
theorem rng_beg {x y : List Nat} {n : Nat} : (rngD 0 n).map (tAt x y) = (beg x y n).map fun c => D.str ⟨#[c]⟩ := by
  unfold rngD beg
  rw [List.map_map, List.map_map]
  refine List.map_congr_left fun i _ => ?_
  show D.str ⟨#[sq x y ((0 : Int) + (i : Int)).toNat]⟩ = _
  rw [show ((0 : Int) + (i : Int)).toNat = i by omega]
  rfl
theorem sameL_signs {M : Sto} {n : Nat} : ∀ l : List Nat, SameL M (n + 1) (l.map fun c => D.str ⟨#[c]⟩) (l.map fun c => D.str ⟨#[c]⟩)
  | [] => .nil
  | c :: l => .cons (.s _) (sameL_signs l)
theorem listS_w {M : Sto} {w : List Nat} {φ : PD} (h : w.length ≤ 400000) (q : φ (.lst (w.map fun c => .str ⟨#[c]⟩)) M) : listSD M [.str ⟨w.toArray⟩] φ := by
  refine ⟨w_sz h, ?_⟩
  show φ (.lst (w.toArray.toList.map _)) M
  rw [List.toList_toArray]
  exact q
theorem int_i {M : Sto} {i : Int} {φ : PD} (q : φ (.int i) M) : intD M [.int i] φ := q
theorem ne_w {M : Sto} {s t : List Nat} {φ : D → Prop} (q : φ (.bl (!decide (s = t)))) : neD M (.str ⟨s.toArray⟩) (.str ⟨t.toArray⟩) φ := by
  refine neS ?_
  rw [show decide ((⟨s.toArray⟩ : Str) = ⟨t.toArray⟩) = decide (s = t) from decide_eq_decide.mpr weq]
  exact q
theorem eqv_ss {a b c d : Str} : PyData.eqv (.tuple [.str a, .str b]) (.tuple [.str c, .str d]) = decide (a = c ∧ b = d) := by
  rw [Bool.eq_iff_iff]
  simp [PyData.eqv, PyData.eqvAll]
theorem strOk_lr {a : List Nat} (h : LR a) : PyData.strOk (⟨a.toArray⟩ : Str) = true := by
  unfold PyData.strOk
  rw [Array.all_eq_true]
  intro i hi
  have hi : i < a.length := by simpa using hi
  have := h _ (List.getElem_mem hi)
  simp only [List.getElem_toArray, decide_eq_true_eq]
  omega
theorem shaped_ss {a b : List Nat} (ha : LR a) (hb : LR b) : SeqAt.shaped (.tuple [.str ⟨a.toArray⟩, .str ⟨b.toArray⟩]) = true := by
  simp [SeqAt.shaped, PyData.canLay0, PyData.canLayAll0, PyData.depth, PyData.depthAll, strOk_lr ha, strOk_lr hb]
theorem ne_ss {M : Sto} {a b c d : List Nat} {φ : D → Prop} (ha : LR a) (hb : LR b) (hc : LR c) (hd : LR d) (q : φ (.bl (!decide (a = c ∧ b = d)))) : neD M (.tup [.str ⟨a.toArray⟩, .str ⟨b.toArray⟩]) (.tup [.str ⟨c.toArray⟩, .str ⟨d.toArray⟩]) φ := by
  unfold neD
  refine ⟨.tuple [.str ⟨a.toArray⟩, .str ⟨b.toArray⟩], .tuple [.str ⟨c.toArray⟩, .str ⟨d.toArray⟩], rfl, rfl, shaped_ss ha hb, shaped_ss hc hd, ?_⟩
  rw [eqv_ss, show decide ((⟨a.toArray⟩ : Str) = ⟨c.toArray⟩ ∧ (⟨b.toArray⟩ : Str) = ⟨d.toArray⟩) = decide (a = c ∧ b = d) from decide_eq_decide.mpr (and_congr weq weq)]
  exact q
theorem prim_of {r : List Nat} (hr : r ≠ []) (h : ∀ k, 0 < k → k < r.length → ∃ i, cyc r (i + k) ≠ cyc r i) : PrimR r := ⟨hr, fun k h0 h1 p => let ⟨i, hi⟩ := h k h0 h1; hi (p i)⟩
end Z
namespace K15
open PySem PySem.Spec PyProof.Rows L2 Z

def top (i : Nat) : Stmt := PySem.Challenge.pw_turnmill_k15_turns_of_rows.main.body.getD i (.Pass ⟨0, 0, 0, 0⟩)
abbrev s__law_hand : Stmt := top 43
abbrev s__law_pick : Stmt := top 44
abbrev s__law_of : Stmt := top 45
abbrev s__law_word : Stmt := top 49
abbrev s__law_some : Stmt := top 50
abbrev s__law_normal : Stmt := top 51
abbrev s__law_line : Stmt := top 52
abbrev s_is_word : Stmt := top 21
abbrev s_check_word : Stmt := top 22
abbrev s_least_ring : Stmt := top 40
abbrev s_Rowd_initd : Stmt := inClass (top 41) 0
abbrev s__law_row : Stmt := top 53
abbrev s__law_begin : Stmt := top 55
abbrev s__law_same : Stmt := top 46
abbrev s_is_integer : Stmt := top 19
abbrev s_is_within : Stmt := top 20
abbrev s_Row_turn_at : Stmt := inClass (top 41) 5
abbrev s_Row_beginning : Stmt := inClass (top 41) 7
abbrev s_Row_turn : Stmt := inClass (top 41) 6
abbrev s_Row_lead : Stmt := inClass (top 41) 2
abbrev s_Row_ring : Stmt := inClass (top 41) 3
abbrev s__law_told : Stmt := top 54
abbrev s_Row_behind : Stmt := inClass (top 41) 8
abbrev s__law_field : Stmt := top 47
abbrev s__law_why : Stmt := top 48
abbrev s_law : Stmt := top 56
abbrev s_InvalidCount : Stmt := inClass (top 8) 0
abbrev s_InvalidIndex : Stmt := inClass (top 9) 0
abbrev s_InvalidRing : Stmt := inClass (top 7) 0
abbrev s_InvalidWord : Stmt := inClass (top 4) 0
theorem sc__law_hand : FnScope ["_law_script", "_law_cells", "_law_mark", "_law_cell"] ["_law_script"] (defScope s__law_hand) := ⟨rfl, rfl, rfl, by decide +kernel, rfl, by decide +kernel, by decide +kernel⟩
theorem sc__law_pick : FnScope ["_law_hand_here", "_law_many", "_law_cell", "_law_one", "_law_two", "_law_drawn"] ["_law_hand_here", "_law_many"] (defScope s__law_pick) := ⟨rfl, rfl, rfl, by decide +kernel, rfl, by decide +kernel, by decide +kernel⟩
theorem sc__law_of : FnScope ["_law_hand_here", "_law_items"] ["_law_hand_here", "_law_items"] (defScope s__law_of) := ⟨rfl, rfl, rfl, by decide +kernel, rfl, by decide +kernel, by decide +kernel⟩
theorem sc__law_word : FnScope ["_law_hand_here", "_law_peak", "_law_k"] ["_law_hand_here", "_law_peak"] (defScope s__law_word) := ⟨rfl, rfl, rfl, by decide +kernel, rfl, by decide +kernel, by decide +kernel⟩
theorem sc__law_some : FnScope ["_law_hand_here", "_law_peak"] ["_law_hand_here", "_law_peak"] (defScope s__law_some) := ⟨rfl, rfl, rfl, by decide +kernel, rfl, by decide +kernel, by decide +kernel⟩
theorem sc__law_normal : FnScope ["_law_front", "_law_loop", "_law_size"] ["_law_front", "_law_loop"] (defScope s__law_normal) := ⟨rfl, rfl, rfl, by decide +kernel, rfl, by decide +kernel, by decide +kernel⟩
theorem sc__law_line : FnScope ["_law_hand_here", "_law_peak", "_law_loop"] ["_law_hand_here", "_law_peak"] (defScope s__law_line) := ⟨rfl, rfl, rfl, by decide +kernel, rfl, by decide +kernel, by decide +kernel⟩
theorem sc_is_word : FnScope ["value", "turn"] ["value"] (defScope s_is_word) := ⟨rfl, rfl, rfl, by decide +kernel, rfl, by decide +kernel, by decide +kernel⟩
theorem sc_check_word : FnScope ["value"] ["value"] (defScope s_check_word) := ⟨rfl, rfl, rfl, by decide +kernel, rfl, by decide +kernel, by decide +kernel⟩
theorem sc_least_ring : FnScope ["ring"] ["ring"] (defScope s_least_ring) := ⟨rfl, rfl, rfl, by decide +kernel, rfl, by decide +kernel, by decide +kernel⟩
theorem sc_Rowd_initd : FnScope ["self", "lead", "ring", "least", "same", "cut"] ["self", "lead", "ring"] (defScope s_Rowd_initd) := ⟨rfl, rfl, rfl, by decide +kernel, rfl, by decide +kernel, by decide +kernel⟩
theorem sc__law_row : FnScope ["_law_phrase"] ["_law_phrase"] (defScope s__law_row) := ⟨rfl, rfl, rfl, by decide +kernel, rfl, by decide +kernel, by decide +kernel⟩
theorem sc__law_begin : FnScope ["_law_phrase", "_law_many", "_law_found"] ["_law_phrase", "_law_many"] (defScope s__law_begin) := ⟨rfl, rfl, rfl, by decide +kernel, rfl, by decide +kernel, by decide +kernel⟩
theorem sc__law_same : FnScope ["_law_found", "_law_due", "_law_one", "_law_two"] ["_law_found", "_law_due"] (defScope s__law_same) := ⟨rfl, rfl, rfl, by decide +kernel, rfl, by decide +kernel, by decide +kernel⟩
theorem sc_is_integer : FnScope ["value"] ["value"] (defScope s_is_integer) := ⟨rfl, rfl, rfl, by decide +kernel, rfl, by decide +kernel, by decide +kernel⟩
theorem sc_is_within : FnScope ["value", "least", "most"] ["value", "least", "most"] (defScope s_is_within) := ⟨rfl, rfl, rfl, by decide +kernel, rfl, by decide +kernel, by decide +kernel⟩
theorem sc_Row_turn_at : FnScope ["self", "index", "lead", "ring"] ["self", "index"] (defScope s_Row_turn_at) := ⟨rfl, rfl, rfl, by decide +kernel, rfl, by decide +kernel, by decide +kernel⟩
theorem sc_Row_beginning : FnScope ["self", "count", "index"] ["self", "count"] (defScope s_Row_beginning) := ⟨rfl, rfl, rfl, by decide +kernel, rfl, by decide +kernel, by decide +kernel⟩
theorem sc_Row_turn : FnScope ["self", "index"] ["self", "index"] (defScope s_Row_turn) := ⟨rfl, rfl, rfl, by decide +kernel, rfl, by decide +kernel, by decide +kernel⟩
theorem sc_Row_lead : FnScope ["self"] ["self"] (defScope s_Row_lead) := ⟨rfl, rfl, rfl, by decide +kernel, rfl, by decide +kernel, by decide +kernel⟩
theorem sc_Row_ring : FnScope ["self"] ["self"] (defScope s_Row_ring) := ⟨rfl, rfl, rfl, by decide +kernel, rfl, by decide +kernel, by decide +kernel⟩
theorem sc__law_told : FnScope ["_law_path"] ["_law_path"] (defScope s__law_told) := ⟨rfl, rfl, rfl, by decide +kernel, rfl, by decide +kernel, by decide +kernel⟩
theorem sc_Row_behind : FnScope ["self", "count", "lead", "ring", "cut"] ["self", "count"] (defScope s_Row_behind) := ⟨rfl, rfl, rfl, by decide +kernel, rfl, by decide +kernel, by decide +kernel⟩
theorem sc__law_field : FnScope ["_law_e"] ["_law_e"] (defScope s__law_field) := ⟨rfl, rfl, rfl, by decide +kernel, rfl, by decide +kernel, by decide +kernel⟩
theorem sc__law_why : FnScope ["_law_ask", "_law_told_here", "_law_e"] ["_law_ask"] (defScope s__law_why) := ⟨rfl, rfl, rfl, by decide +kernel, rfl, by decide +kernel, by decide +kernel⟩
theorem sc_law : FnScope ["_law_script", "_law_hand_here", "_law_step", "_law_phrase", "_law_path", "_law_many", "_law_token", "_law_far", "_law_size", "_law_side", "_law_cut", "_law_due", "_law_late", "_law_odd", "_law_wrong", "_law_asks", "_law_ask", "_law_k"] ["_law_script"] (defScope s_law) := ⟨rfl, rfl, rfl, by decide +kernel, rfl, by decide +kernel, by decide +kernel⟩
theorem sc_InvalidCount : FnScope ["self", "given"] ["self", "given"] (defScope s_InvalidCount) := ⟨rfl, rfl, rfl, by decide +kernel, rfl, by decide +kernel, by decide +kernel⟩
theorem sc_InvalidIndex : FnScope ["self", "given"] ["self", "given"] (defScope s_InvalidIndex) := ⟨rfl, rfl, rfl, by decide +kernel, rfl, by decide +kernel, by decide +kernel⟩
theorem sc_InvalidRing : FnScope ["self", "given"] ["self", "given"] (defScope s_InvalidRing) := ⟨rfl, rfl, rfl, by decide +kernel, rfl, by decide +kernel, by decide +kernel⟩
theorem sc_InvalidWord : FnScope ["self", "given"] ["self", "given"] (defScope s_InvalidWord) := ⟨rfl, rfl, rfl, by decide +kernel, rfl, by decide +kernel, by decide +kernel⟩
structure Txt (K : PySem.W.Frag) (mg : Str → Option Value) : Prop where
  n_range : mg "range" = none
  cl_Row : Cls K (He.ga K "Row")
  n_list : mg "list" = none
  n_len : mg "len" = none
  n_int : mg "int" = none
  gl_NothingLeft : mg "NothingLeft" = some (.ref (He.ga K "NothingLeft"))
  gl_MillError : mg "MillError" = some (.ref (He.ga K "MillError"))
  gl_Missing : mg "Missing" = some (.ref (He.ga K "Missing"))
  k_MOST_TURNS : ∃ t, mg "MOST_TURNS" = some (.int 4000 t)
  na_Row_whole : NoAttr K (He.ga K "Row") "whole"
  n_isinstance : mg "isinstance" = none
  n_bool : mg "bool" = none
  k_FAR : ∃ t, mg "FAR" = some (.int 1000000000000000000000000000000 t)
  n_all : mg "all" = none
  k_TURNS : ∃ t, mg "TURNS" = some (.str "LR" t)
  n_str : mg "str" = none
  n_tuple : mg "tuple" = none
  n_zip : mg "zip" = none
  wy_InvalidIndex : WhyC K "InvalidIndex" (some "given")
  wy_InvalidCount : WhyC K "InvalidCount" (some "given")
def tab (C : Addr) (t : T4) : D := .obj C [("whole", tD t)]
def isIn (M : Sto) (d : D) : Bool := decide (tyN M d = some "int")
def wB (d : D) : Bool := match d with
  | .str x => x.cps.toList.all fun c => decide (c ∈ ("LR" : Str).cps.toList)
  | _ => false
def inB (d : D) (a b : Int) : Bool := match d with
  | .int i => decide (a ≤ i) && decide (i ≤ b)
  | _ => false
theorem cutJ {P A : Prop} (main : P → A) (rest : P) : A := main rest
theorem cut1 {α : Type} {Q C : α → Prop} {A : Prop} (main : (∀ a, C a → Q a) → A) (rest : ∀ a, C a → Q a) : A := main rest
theorem cut3 {α β γ : Type} {Q C : α → β → γ → Prop} {A : Prop} (main : (∀ a b c, C a b c → Q a b c) → A) (rest : ∀ a b c, C a b c → Q a b c) : A := main rest
theorem no_at {f : Str} {d : D} (h : (f == ("whole" : Str)) = false) : List.lookup f [(("whole" : Str), d)] = none := look_ne h
theorem no_plain {d : D} : List.lookup ("plain" : Str) [(("whole" : Str), d)] = none := no_at (by decide +kernel)
theorem no_back {d : D} : List.lookup ("back" : Str) [(("whole" : Str), d)] = none := no_at (by decide +kernel)
theorem no_alike {d : D} : List.lookup ("alike" : Str) [(("whole" : Str), d)] = none := no_at (by decide +kernel)
theorem no_taken {d : D} : List.lookup ("taken" : Str) [(("whole" : Str), d)] = none := no_at (by decide +kernel)
theorem no_entries {d : D} : List.lookup ("entries" : Str) [(("whole" : Str), d)] = none := no_at (by decide +kernel)
theorem no_power {d : D} : List.lookup ("power" : Str) [(("whole" : Str), d)] = none := no_at (by decide +kernel)
theorem wB_LR {x : Str} (h : LR x.cps.toList) : wB (.str x) = true := List.all_eq_true.mpr fun c hc => decide_eq_true (lr_mem.mpr (h c hc))
theorem wB_odd {x : Str} {c : Nat} (hc : c ∈ x.cps.toList) (h : c ≠ 76 ∧ c ≠ 82) : wB (.str x) = false := by
  cases e : wB (.str x) with
  | false => rfl
  | true =>
    have := of_decide_eq_true (List.all_eq_true.mp e c hc)
    rcases lr_mem.mp this with z | z
    · exact absurd z h.1
    · exact absurd z h.2
section
variable {P : Program} {w : World} {K : PySem.W.Frag} {mg : Str → Option Value} {base : Heap}
abbrev b__law_hand : List (Nat × List Str × (List D → List D → List D)) := [(pos 1)]
abbrev b__law_pick : List (Nat × List Str × (List D → List D → List D)) := [(pos 2)]
abbrev b__law_of : List (Nat × List Str × (List D → List D → List D)) := [(pos 2)]
abbrev b__law_word : List (Nat × List Str × (List D → List D → List D)) := [(pos 2)]
abbrev b__law_some : List (Nat × List Str × (List D → List D → List D)) := [(pos 2)]
abbrev b__law_normal : List (Nat × List Str × (List D → List D → List D)) := [(pos 2)]
abbrev b__law_line : List (Nat × List Str × (List D → List D → List D)) := [(pos 2)]
abbrev b_is_word : List (Nat × List Str × (List D → List D → List D)) := [(pos 1)]
abbrev b_check_word : List (Nat × List Str × (List D → List D → List D)) := [(pos 1)]
abbrev b_least_ring : List (Nat × List Str × (List D → List D → List D)) := [(pos 1)]
abbrev b_Rowd_initd : List (Nat × List Str × (List D → List D → List D)) := [(pos 3)]
abbrev b__law_row : List (Nat × List Str × (List D → List D → List D)) := [(pos 1)]
abbrev b__law_begin : List (Nat × List Str × (List D → List D → List D)) := [(pos 2)]
abbrev b__law_same : List (Nat × List Str × (List D → List D → List D)) := [(pos 2)]
abbrev b_is_integer : List (Nat × List Str × (List D → List D → List D)) := [(pos 1)]
abbrev b_is_within : List (Nat × List Str × (List D → List D → List D)) := [(pos 3)]
abbrev b_Row_turn_at : List (Nat × List Str × (List D → List D → List D)) := [(pos 2)]
abbrev b_Row_beginning : List (Nat × List Str × (List D → List D → List D)) := [(pos 2), (1, ["count"], fun ds dz => gS [.p 0, .k 0] ds [] dz)]
abbrev b_Row_turn : List (Nat × List Str × (List D → List D → List D)) := [(pos 2), (1, ["index"], fun ds dz => gS [.p 0, .k 0] ds [] dz)]
abbrev b_Row_lead : List (Nat × List Str × (List D → List D → List D)) := [(pos 1)]
abbrev b_Row_ring : List (Nat × List Str × (List D → List D → List D)) := [(pos 1)]
abbrev b__law_told : List (Nat × List Str × (List D → List D → List D)) := [(pos 1)]
abbrev b_Row_behind : List (Nat × List Str × (List D → List D → List D)) := [(pos 2), (1, ["count"], fun ds dz => gS [.p 0, .k 0] ds [] dz)]
abbrev b__law_field : List (Nat × List Str × (List D → List D → List D)) := [(pos 1)]
abbrev b__law_why : List (Nat × List Str × (List D → List D → List D)) := [(pos 1)]
abbrev b_law : List (Nat × List Str × (List D → List D → List D)) := [(pos 1)]
def c__law_hand : Ct := fun ds M Ψ _ => ∃ ns : List Int, ds = [scr ns] ∧ ns.length ≤ 63 ∧ ∀ p (h : Hand), M p = none → h.cs.length ≤ 63 → 0 ≤ h.i → Ψ (.ref p) (updM M p (hd h))
theorem ok__law_hand {f : Addr} {fd : FuncData} {dvs : List V} {kws : List (Str × V)} (T : Txt K mg)  (F : FnZ K "_law_hand" "_law_hand" s__law_hand dvs kws f fd) : FnOk P w K mg base (L2.CX P w) 2 f fd ["_law_script"] (spC K ["_law_script"].length (c__law_hand)) := by
  have hnd := sc__law_hand.nd
  refine fnD F sc__law_hand (c__law_hand) fun cdv A outer s H E B Ξ hr z => ⟨_, (dss_cons (ds_setLc (i := 1) rfl hnd (sw_true rfl rfl rfl rfl) (di_list (de_slice (de_var (i := 0)) do_none (do_some de_int))) (blkOk_by (own := [("_law_cell", 3)]) (by rfl)) (tg_name (i := 3) (by decide)) (fun _ _ _ _ _ => (pg_name (i := 3) hnd rfl (by first | exact Or.inl rfl | exact Or.inr rfl) (by first | exact .inl rfl | exact .inr rfl))) (fun _ _ _ _ _ _ => dts_nil) (fun _ _ _ _ _ _ => (de_int1 T.n_int (da_cons (de_var (i := 3)) da_nil))))
    (dss_cons (ds_set (i := 2) hnd (de_add de_int (de_mul de_int (de_len T.n_len (da_cons (de_var (i := 1)) da_nil)))))
    (dss_cons (ds_for z.po rfl (di_list (de_var (i := 1))) (dg_name (i := 3) hnd) (dss_one (ds_set (i := 2) hnd (de_fmod (de_int1 T.n_int (da_cons (de_add (de_mul (de_var (i := 2)) de_int) (de_var (i := 3))) da_nil)) de_int))))
    (dss_one (ds_ret (de_lstM (da_cons (de_var (i := 1)) (da_cons de_int (da_cons de_int (da_cons (de_var (i := 2)) da_nil)))))))))), fun ds Ψ hl hc => ?_⟩
  obtain ⟨ns, rfl, hl, q⟩ := hc
  have hl2 : (cutD ns none (some 63)).length ≤ 63 := Nat.le_trans (cut_len _ _ _) hl
  refine compD_map (xs := cutD (ns.map D.int) none (some 63)) (S := fun M => lstOf M (.lst (cutD (ns.map D.int) none (some 63))) = some (cutD (ns.map D.int) none (some 63))) (fun K h => ⟨_, rfl, h⟩) (fun d => d) rfl ?_ (fun d hd Q q => ?_) ?_
  · rw [cut_map, List.length_map]
    exact Nat.le_trans hl2 (Nat.le_trans (by decide) big_ok)
  · rw [cut_map] at hd
    obtain ⟨i, _, rfl⟩ := List.mem_map.mp hd
    exact q
  rw [List.map_id', cut_map]
  generalize hcs : cutD ns none (some 63) = cs at hl2 ⊢
  refine ⟨IntMulOk.of_left (by decide), ?_⟩
  refine forD_n (xs := cs.map D.int) (S := fun M => lstOf M (.lst (cs.map D.int)) = some (cs.map D.int)) (fun K h => ⟨_, rfl, h⟩) (fun i r M' => M' = B.M ∧ ∃ (m : Int) (o : Option D), r = [some (scr ns), some (.lst (cs.map D.int)), some (.int m), o]) ⟨rfl, _, none, rfl⟩ (fun _ _ _ _ => rfl) (fun i d r M' hd h => ?_) (fun r M' h => ?_)
  · obtain ⟨rfl, m, o, rfl⟩ := h
    obtain ⟨c, _, rfl⟩ := List.mem_map.mp (lmem hd)
    exact ⟨IntMulOk.of_right (by decide), by decide, .of ⟨rfl, _, _, rfl⟩⟩
  · obtain ⟨rfl, m, o, rfl⟩ := h
    exact ⟨ln (n := 4) rfl (by decide), fun p hp => ⟨_, _, .same, q p ⟨cs, 0, 0, m⟩ hp hl2 (Int.le_refl 0)⟩⟩
def c__law_pick : Ct := fun ds M Ψ _ => ∃ (p : Addr) (n : Int), ds = [.ref p, .int n] ∧ HandAt M p ∧ 0 < n ∧ n < 2 ^ 39 ∧ ∀ k M', 0 ≤ k → k < n → Dr p M M' → Ψ (.int k) M'
theorem ok__law_pick {f : Addr} {fd : FuncData} {dvs : List V} {kws : List (Str × V)} (T : Txt K mg)  (F : FnZ K "_law_pick" "_law_pick" s__law_pick dvs kws f fd) : FnOk P w K mg base (L2.CX P w) 2 f fd ["_law_hand_here", "_law_many"] (spC K ["_law_hand_here", "_law_many"].length (c__law_pick)) := by
  have hnd := sc__law_pick.nd
  refine fnD F sc__law_pick (c__law_pick) fun cdv A outer s H E B Ξ hr z => ⟨_, (dss_cons (ds_if (dt_lt (de_ix (de_var (i := 0)) de_int) de_int) (dss_cons (ds_setix (de_add (de_ix (de_var (i := 0)) de_int) de_int) (de_var (i := 0)) de_int)
    (dss_cons (ds_set (i := 2) hnd (de_add (de_ix (de_var (i := 0)) de_int) (de_mul (de_ix (de_var (i := 0)) de_int) de_int)))
    (dss_cons (ds_if (dt_le (de_ix (de_var (i := 0)) de_int) (de_len T.n_len (da_cons (de_ix (de_var (i := 0)) de_int) da_nil))) (dss_one (ds_set (i := 2) hnd (de_ix (de_ix (de_var (i := 0)) de_int) (de_sub (de_ix (de_var (i := 0)) de_int) de_int)))) dss_nil)
    (dss_cons (ds_if (dw_or (dt_gt (de_ix (de_var (i := 0)) de_int) (de_len T.n_len (da_cons (de_ix (de_var (i := 0)) de_int) da_nil))) (dw_or1 (dt_lt (de_var (i := 2)) (de_pow de_int de_int)))).pt (dss_cons (ds_set (i := 3) hnd (de_fmod (de_int1 T.n_int (da_cons (de_add (de_add (de_mul (de_var (i := 2)) de_int) (de_mul (de_ix (de_var (i := 0)) de_int) de_int)) (de_ix (de_var (i := 0)) de_int)) da_nil)) de_int))
    (dss_cons (ds_set (i := 4) hnd (de_fmod (de_int1 T.n_int (da_cons (de_add (de_mul (de_var (i := 3)) (de_var (i := 3))) (de_mul (de_ix (de_var (i := 0)) de_int) de_int)) da_nil)) de_int))
    (dss_one (ds_ret (de_fmod (de_fdiv (de_fmod (de_int1 T.n_int (da_cons (de_add (de_mul (de_var (i := 4)) de_int) (de_var (i := 3))) da_nil)) de_int) de_int) (de_var (i := 1))))))) dss_nil)
    (dss_one (ds_setix (de_var (i := 2)) (de_var (i := 0)) de_int)))))) dss_nil)
    (dss_cons (ds_set (i := 5) hnd (de_fmod (de_int1 T.n_int (da_cons (de_ix (de_var (i := 0)) de_int) da_nil)) (de_var (i := 1))))
    (dss_cons (ds_setix (de_fdiv (de_int1 T.n_int (da_cons (de_ix (de_var (i := 0)) de_int) da_nil)) (de_var (i := 1))) (de_var (i := 0)) de_int)
    (dss_one (ds_ret (de_var (i := 5))))))), fun ds Ψ hl hc => ?_⟩
  obtain ⟨p, n, rfl, ⟨h, e0, hcl, hi⟩, n0, n1, q⟩ := hc
  have nz : n ≠ 0 := by omega
  refine ix_ref e0 ?_
  refine bl_c (fun _ => ?_) (fun _ => ?_)
  rotate_left
  · refine ix_ref e0 ?_
    refine ⟨nz, ?_⟩
    refine ix_ref e0 ?_
    refine ⟨dok_s n0 (by omega), ?_⟩
    refine set_ref e0 rfl ?_
    exact ⟨_, _, .same, q _ _ (fm0 n0) (fm1 n0) ⟨handAt_of updM_same hcl hi, fun b hb => updM_ne hb⟩⟩
  refine ix_ref e0 ?_
  refine set_gen e0 rfl fun M1 e1 f1 => ?_
  have e1 : M1 p = some (hd ⟨h.cs, h.i + 1, h.r, h.m⟩) := e1
  have hi1 : 0 ≤ h.i + 1 := by omega
  refine ix_ref e1 ?_
  refine ix_ref e1 ?_
  refine ⟨IntMulOk.of_right (by decide), ?_⟩
  refine ix_ref e1 ?_
  refine ix_ref e1 ?_
  refine bl_c (fun h1 => ?_) (fun h1 => ?_)
  · refine ix_ref e1 ?_
    refine ix_ref e1 ?_
    have h1' : h.i + 1 ≤ ((h.cs.map D.int).length : Int) := of_decide_eq_true h1
    obtain ⟨d, hd, hm⟩ := at_some (xs := h.cs.map D.int) (i := h.i + 1 - 1) (by omega) (by omega)
    obtain ⟨c, _, rfl⟩ := List.mem_map.mp hm
    refine optK_of (d := .int (h.i + 1)) rfl ?_
    refine optK_of hd ?_
    refine ix_ref e1 ?_
    refine ix_ref e1 ?_
    refine bl_c (fun h2 => ?_) (fun h2 => ?_)
    rotate_left
    · refine ⟨⟨by decide, by decide, by decide⟩, ?_⟩
      refine bl_c (fun h3 => ?_) (fun h3 => ?_)
      rotate_left
      · refine set_ref e1 rfl ?_
        refine ix_ref updM_same ?_
        refine ⟨nz, ?_⟩
        refine ix_ref updM_same ?_
        refine ⟨dok_s n0 (by omega), ?_⟩
        refine set_ref updM_same rfl ?_
        exact ⟨_, _, .same, q _ _ (fm0 n0) (fm1 n0) ⟨handAt_of updM_same hcl hi1, fun b hb => (updM_ne hb).trans ((updM_ne hb).trans (f1 b hb))⟩⟩
      refine ⟨IntMulOk.of_right (by decide), ?_⟩
      refine ix_ref e1 ?_
      refine ⟨IntMulOk.of_right (by decide), ?_⟩
      refine ix_ref e1 ?_
      refine ⟨by decide, ?_⟩
      refine ⟨mok_s (fm_small (by decide) (by decide)), ?_⟩
      refine ix_ref e1 ?_
      refine ⟨IntMulOk.of_right (by decide), ?_⟩
      refine ⟨by decide, ?_⟩
      refine ⟨IntMulOk.of_right (by decide), by decide, dok_s (by decide) (by decide), nz, ?_⟩
      exact ⟨_, _, .same, q _ _ (fm0 n0) (fm1 n0) ⟨handAt_of e1 hcl hi1, f1⟩⟩
    refine ⟨IntMulOk.of_right (by decide), ?_⟩
    refine ix_ref e1 ?_
    refine ⟨IntMulOk.of_right (by decide), ?_⟩
    refine ix_ref e1 ?_
    refine ⟨by decide, ?_⟩
    refine ⟨mok_s (fm_small (by decide) (by decide)), ?_⟩
    refine ix_ref e1 ?_
    refine ⟨IntMulOk.of_right (by decide), ?_⟩
    refine ⟨by decide, ?_⟩
    refine ⟨IntMulOk.of_right (by decide), by decide, dok_s (by decide) (by decide), nz, ?_⟩
    exact ⟨_, _, .same, q _ _ (fm0 n0) (fm1 n0) ⟨handAt_of e1 hcl hi1, f1⟩⟩
  · refine ix_ref e1 ?_
    refine ix_ref e1 ?_
    refine bl_c (fun h2 => ?_) (fun h2 => ?_)
    rotate_left
    · refine ⟨⟨by decide, by decide, by decide⟩, ?_⟩
      refine bl_c (fun h3 => ?_) (fun h3 => ?_)
      rotate_left
      · refine set_ref e1 rfl ?_
        refine ix_ref updM_same ?_
        refine ⟨nz, ?_⟩
        refine ix_ref updM_same ?_
        refine ⟨dok_s n0 (by omega), ?_⟩
        refine set_ref updM_same rfl ?_
        exact ⟨_, _, .same, q _ _ (fm0 n0) (fm1 n0) ⟨handAt_of updM_same hcl hi1, fun b hb => (updM_ne hb).trans ((updM_ne hb).trans (f1 b hb))⟩⟩
      refine ⟨IntMulOk.of_right (by decide), ?_⟩
      refine ix_ref e1 ?_
      refine ⟨IntMulOk.of_right (by decide), ?_⟩
      refine ix_ref e1 ?_
      refine ⟨by decide, ?_⟩
      refine ⟨mok_s (fm_small (by decide) (by decide)), ?_⟩
      refine ix_ref e1 ?_
      refine ⟨IntMulOk.of_right (by decide), ?_⟩
      refine ⟨by decide, ?_⟩
      refine ⟨IntMulOk.of_right (by decide), by decide, dok_s (by decide) (by decide), nz, ?_⟩
      exact ⟨_, _, .same, q _ _ (fm0 n0) (fm1 n0) ⟨handAt_of e1 hcl hi1, f1⟩⟩
    refine ⟨IntMulOk.of_right (by decide), ?_⟩
    refine ix_ref e1 ?_
    refine ⟨IntMulOk.of_right (by decide), ?_⟩
    refine ix_ref e1 ?_
    refine ⟨by decide, ?_⟩
    refine ⟨mok_s (fm_small (by decide) (by decide)), ?_⟩
    refine ix_ref e1 ?_
    refine ⟨IntMulOk.of_right (by decide), ?_⟩
    refine ⟨by decide, ?_⟩
    refine ⟨IntMulOk.of_right (by decide), by decide, dok_s (by decide) (by decide), nz, ?_⟩
    exact ⟨_, _, .same, q _ _ (fm0 n0) (fm1 n0) ⟨handAt_of e1 hcl hi1, f1⟩⟩
def c__law_of : Ct := fun ds M Ψ _ => ∃ (p : Addr) (x : D) (l : List D), ds = [.ref p, x] ∧ HandAt M p ∧ itm x = some l ∧ 0 < l.length ∧ l.length ≤ 1000000 ∧ ∀ d M', d ∈ l → Dr p M M' → Ψ d M'
theorem ok__law_of {f : Addr} {fd : FuncData} {dvs : List V} {kws : List (Str × V)} (T : Txt K mg) (h__law_pick : Gf P w K mg base "_law_pick" 2 (c__law_pick) b__law_pick) (F : FnZ K "_law_of" "_law_of" s__law_of dvs kws f fd) : FnOk P w K mg base (L2.CX P w) 3 f fd ["_law_hand_here", "_law_items"] (spC K ["_law_hand_here", "_law_items"].length (c__law_of)) := by
  have hnd := sc__law_of.nd
  refine fnD F sc__law_of (c__law_of) fun cdv A outer s H E B Ξ hr z => ⟨_, (dss_one (ds_ret (de_ix (de_var (i := 1)) (de_call h__law_pick hr z (List.Mem.head _) (da_cons (de_var (i := 0)) (da_cons (de_len T.n_len (da_cons (de_var (i := 1)) da_nil)) da_nil)))))), fun ds Ψ hl hc => ?_⟩
  obtain ⟨p, x, l, rfl, hh, hx, l0, l1, q⟩ := hc
  cases x with
  | str x =>
    cases hx
    rw [signs_len] at l0 l1
    have hz : x.length ≤ sizeLine := Nat.le_trans l1 big_ok
    refine ⟨hz, rfl, rfl, p, _, rfl, hh, (show (0 : Int) < (x.cps.size : Int) by omega), (show (x.cps.size : Int) < 2 ^ 39 by omega), fun k M' k0 k1 dr => ⟨hz, ?_⟩⟩
    obtain ⟨c, hc, hm⟩ := at_some (xs := x.cps.toList) k0 (by rw [Array.length_toList]; exact k1)
    exact optK_of hc ⟨_, _, .same, q _ _ (List.mem_map.mpr ⟨c, hm, rfl⟩) dr⟩
  | tup l =>
    cases hx
    refine ⟨rfl, rfl, p, _, rfl, hh, by omega, by omega, fun k M' k0 k1 dr => ?_⟩
    obtain ⟨c, hc, hm⟩ := at_some k0 k1
    exact optK_of hc ⟨_, _, .same, q _ _ hm dr⟩
  | lst l =>
    cases hx
    refine ⟨rfl, rfl, p, _, rfl, hh, by omega, by omega, fun k M' k0 k1 dr => ?_⟩
    obtain ⟨c, hc, hm⟩ := at_some k0 k1
    exact optK_of hc ⟨_, _, .same, q _ _ hm dr⟩
  | _ => cases hx
def c__law_word : Ct := fun ds M Ψ _ => ∃ (p : Addr) (n : Int), ds = [.ref p, .int n] ∧ HandAt M p ∧ 0 ≤ n ∧ n ≤ 100000 ∧ ∀ w M', LR w → (w.length : Int) ≤ n → Dr p M M' → Ψ (.str ⟨w.toArray⟩) M'
theorem ok__law_word {f : Addr} {fd : FuncData} {dvs : List V} {kws : List (Str × V)} (T : Txt K mg) (h__law_pick : Gf P w K mg base "_law_pick" 2 (c__law_pick) b__law_pick) (h__law_of : Gf P w K mg base "_law_of" 3 (c__law_of) b__law_of) (F : FnZ K "_law_word" "_law_word" s__law_word dvs kws f fd) : FnOk P w K mg base (L2.CX P w) 4 f fd ["_law_hand_here", "_law_peak"] (spC K ["_law_hand_here", "_law_peak"].length (c__law_word)) := by
  have hnd := sc__law_word.nd
  refine fnD F sc__law_word (c__law_word) fun cdv A outer s H E B Ξ hr z => ⟨_, (dss_one (ds_ret (de_join de_str (de_lc rfl hnd (di_range1 T.n_range (da_cons (de_call h__law_pick hr z (List.Mem.head _) (da_cons (de_var (i := 0)) (da_cons (de_add (de_var (i := 1)) de_int) da_nil))) da_nil)) (blkOk_by (own := [("_law_k", 2)]) (by rfl)) (tg_name (i := 2) (by decide)) (fun _ _ _ _ _ => (pg_name (i := 2) hnd rfl (by first | exact Or.inl rfl | exact Or.inr rfl) (by first | exact .inl rfl | exact .inr rfl))) (fun _ _ _ _ _ _ => dts_nil) (fun _ _ _ _ _ _ => (de_call h__law_of hr zx_blk (List.Mem.head _) (da_cons (de_var (i := 0)) (da_cons de_str da_nil)))))))), fun ds Ψ hl hc => ?_⟩
  obtain ⟨p, n, rfl, hh, n0, n1, q⟩ := hc
  refine ⟨trivial, ?_⟩
  refine compD_of (fun xs S M1 => ∃ k : Int, 0 ≤ k ∧ k ≤ n ∧ xs = rngD 0 k.toNat ∧ S = (fun _ => True) ∧ Dr p B.M M1) (fun K h => ?_) (fun xs S M1 ⟨k, k0, k1, e1, e2, dr⟩ => ?_)
  · exact ⟨rfl, rfl, p, _, rfl, hh, by omega, by omega, fun k M' k0 k1 dr => ⟨⟨by omega, by omega⟩, h _ _ _ ⟨k, k0, by omega, rfl, rfl, dr⟩⟩⟩
  subst e1 e2
  refine comp_st (Dr p B.M) (fun _ y => ∃ c : Nat, (c = 76 ∨ c = 82) ∧ y = .str ⟨#[c]⟩) dr (fun _ _ => trivial) (by rw [rng_len]; exact Nat.le_trans (by omega) big_ok) (fun d hd M' I Q hQ => ?_) (fun acc M' I hl hy => ?_)
  · refine ⟨rfl, rfl, p, _, _, rfl, I.1, rfl, by decide, by decide, fun d M4 hd dr' => hQ _ _ (I.trans dr') ?_⟩
    obtain ⟨c, hc, rfl⟩ := signs_mem hd
    exact ⟨c, lr_mem.mp hc, rfl⟩
  · have hall : ∀ y ∈ acc, ∃ c : Nat, (c = 76 ∨ c = 82) ∧ y = .str ⟨#[c]⟩ := fun y hm => by
      obtain ⟨i, hi, e⟩ := List.getElem_of_mem hm
      have hi2 : i < (rngD 0 k.toNat).length := hl ▸ hi
      exact hy i _ y (List.getElem?_eq_getElem hi2) (by rw [List.getElem?_eq_getElem hi, e])
    obtain ⟨w, hw, rfl⟩ := chars_of hall
    rw [rng_len, List.length_map] at hl
    refine ⟨_, w.map fun c => (⟨#[c]⟩ : Str), .inl rfl, strsD_chars w, ?_, ?_⟩
    · rw [chars_sum, List.length_map]
      show _ + _ * 0 ≤ _
      omega
    · refine ⟨_, _, .same, ?_⟩
      show Ψ (.str (Txt.join Str.empty _)) M'
      rw [join_chars]
      exact q w M' hw (by omega) I
def c__law_some : Ct := fun ds M Ψ _ => ∃ (p : Addr) (n : Int), ds = [.ref p, .int n] ∧ HandAt M p ∧ 1 ≤ n ∧ n ≤ 1000 ∧ ∀ w M', LR w → w ≠ [] → (w.length : Int) ≤ n → Dr p M M' → Ψ (.str ⟨w.toArray⟩) M'
theorem ok__law_some {f : Addr} {fd : FuncData} {dvs : List V} {kws : List (Str × V)} (T : Txt K mg) (h__law_of : Gf P w K mg base "_law_of" 3 (c__law_of) b__law_of) (h__law_word : Gf P w K mg base "_law_word" 4 (c__law_word) b__law_word) (F : FnZ K "_law_some" "_law_some" s__law_some dvs kws f fd) : FnOk P w K mg base (L2.CX P w) 5 f fd ["_law_hand_here", "_law_peak"] (spC K ["_law_hand_here", "_law_peak"].length (c__law_some)) := by
  have hnd := sc__law_some.nd
  refine fnD F sc__law_some (c__law_some) fun cdv A outer s H E B Ξ hr z => ⟨_, (dss_one (ds_ret (de_add (de_call h__law_of hr z (List.Mem.head _) (da_cons (de_var (i := 0)) (da_cons de_str da_nil))) (de_call h__law_word hr z (List.Mem.head _) (da_cons (de_var (i := 0)) (da_cons (de_sub (de_var (i := 1)) de_int) da_nil)))))), fun ds Ψ hl hc => ?_⟩
  obtain ⟨p, n, rfl, hh, n0, n1, q⟩ := hc
  refine ⟨rfl, rfl, p, _, _, rfl, hh, rfl, (by decide), (by decide), fun d M1 hd d1 => ?_⟩
  obtain ⟨c, hc, rfl⟩ := signs_mem hd
  have hc := lr_mem.mp hc
  refine ⟨rfl, rfl, p, n - 1, rfl, d1.1, by omega, by omega, fun w M2 lw hw d2 => ?_⟩
  rw [one_w]
  refine add_w (by show 1 ≤ 400000; decide) (by omega) ?_
  exact ⟨_, _, .same, q _ _ (LR.app (fun x hx => by have : x = c := by simpa using hx
                                                    rw [this]; exact hc) lw) (by simp) (by rw [List.length_append]; show ((1 + w.length : Nat) : Int) ≤ n; omega) (d1.trans d2)⟩
def c__law_normal : Ct := fun ds M Ψ _ => ∃ a r : List Nat, ds = [.str ⟨a.toArray⟩, .str ⟨r.toArray⟩] ∧ r ≠ [] ∧ a.length ≤ 20000 ∧ r.length ≤ 20000 ∧ ∀ x y, NfR a r x y → x.length ≤ a.length → y.length ≤ r.length → Ψ (.tup [.str ⟨x.toArray⟩, .str ⟨y.toArray⟩]) M
theorem ok__law_normal {f : Addr} {fd : FuncData} {dvs : List V} {kws : List (Str × V)} (T : Txt K mg)  (F : FnZ K "_law_normal" "_law_normal" s__law_normal dvs kws f fd) : FnOk P w K mg base (L2.CX P w) 2 f fd ["_law_front", "_law_loop"] (spC K ["_law_front", "_law_loop"].length (c__law_normal)) := by
  have hnd := sc__law_normal.nd
  refine fnD F sc__law_normal (c__law_normal) fun cdv A outer s H E B Ξ hr z => ⟨_, (dss_cons (ds_for z.po rfl (di_range3 T.n_range (da_cons (de_len T.n_len (da_cons (de_var (i := 1)) da_nil)) (da_cons de_int (da_cons (de_neg de_int) da_nil)))) (dg_name (i := 2) hnd) (dss_one (ds_if (dw_and (dt_eq hr (de_mul (de_fdiv (de_len T.n_len (da_cons (de_var (i := 1)) da_nil)) (de_var (i := 2))) (de_var (i := 2))) (de_len T.n_len (da_cons (de_var (i := 1)) da_nil))) (dw_and1 (dt_eq hr (de_mulS (de_slice (de_var (i := 1)) do_none (do_some (de_var (i := 2)))) (de_fdiv (de_len T.n_len (da_cons (de_var (i := 1)) da_nil)) (de_var (i := 2)))) (de_var (i := 1))))).pt (dss_one (ds_set (i := 1) hnd (de_slice (de_var (i := 1)) do_none (do_some (de_var (i := 2)))))) dss_nil)))
    (dss_cons (ds_while z.po (dw_and (dt_ne hr (de_var (i := 0)) de_str) (dw_and1 (dt_eq hr (de_ix (de_var (i := 0)) (de_neg de_int)) (de_ix (de_var (i := 1)) (de_neg de_int))))).pt (dss_one (ds_par (i := 0) (j := 1) rfl hnd (da_cons (de_slice (de_var (i := 0)) do_none (do_some (de_neg de_int))) (da_cons (de_add (de_ix (de_var (i := 1)) (de_neg de_int)) (de_slice (de_var (i := 1)) do_none (do_some (de_neg de_int)))) da_nil)))))
    (dss_one (ds_ret (de_tup (da_cons (de_var (i := 0)) (da_cons (de_var (i := 1)) da_nil))))))), fun ds Ψ hl hc => ?_⟩
  obtain ⟨a, r, rfl, hr, sa, sr, q⟩ := hc
  have r0 : 0 < r.length := List.length_pos_iff.mpr hr
  obtain ⟨m, ⟨m0, pm⟩, hmin⟩ := ex_least (p := fun k => 0 < k ∧ PerF (cyc r) k) r.length ⟨r0, cyc_len⟩
  have hmr : m ≤ r.length := Nat.le_of_not_lt fun z => hmin _ z ⟨r0, cyc_len⟩
  have bA : a.length ≤ 400000 := by omega
  have bR : r.length ≤ 400000 := by omega
  rw [show ent (["_law_front", "_law_loop", "_law_size"] : List Str).length [D.str ⟨a.toArray⟩, .str ⟨r.toArray⟩] = [some (.str ⟨a.toArray⟩), some (.str ⟨r.toArray⟩), none] from rfl]
  try dsimp only [List.set, getS_z, getS_s, bin2, bin2T, ltD, leD, gtD, geD, cmp_i, add_i, sub_i, min2_i, max2_i]
  refine forD_n (xs := rngC r.length (-1) r.length) (S := fun _ => True) (fun K h => ?_) (fun i e M' => M' = B.M ∧ ∃ (l : List Nat) (o : Option D), e = [some (.str ⟨a.toArray⟩), some (.str ⟨l.toArray⟩), o] ∧ l ≠ [] ∧ l.length ≤ r.length ∧ (∀ i, cyc l i = cyc r i) ∧ m ∣ l.length ∧ (r.length < m + i → l.length = m)) ?_ (fun _ _ _ _ => trivial) (fun i d e M' hd' hI => ?_) (fun e M' hI => ?_)
  · try dsimp only [List.set, getS_z, getS_s, bin2, bin2T, ltD, leD, gtD, geD, cmp_i, add_i, sub_i, min2_i, max2_i]
    refine len_w bR ?_
    refine ⟨r.length, ?_, h⟩
    have := RgC.neg (i := r.length) (j := 0) (by omega) (by omega) (by decide) (by decide)
    rw [show ((r.length : Int) - 0).toNat = r.length by omega] at this
    exact this
  · exact ⟨rfl, r, none, rfl, hr, Nat.le_refl _, fun _ => rfl, PerF.least m0 pm hmin cyc_len, fun z => by omega⟩
  · obtain ⟨rfl, l, o, rfl, hl, sl, cl, dl, ml⟩ := hI
    have hi : i < r.length := by
      have := (List.getElem?_eq_some_iff.mp hd').1
      rw [rngC_len] at this
      exact this
    obtain ⟨s', es⟩ : ∃ s' : Nat, s' + i = r.length := ⟨r.length - i, by omega⟩
    rw [rngC_get hi, show (r.length : Int) + (i : Int) * -1 = (s' : Int) by omega] at hd'
    cases hd'
    have s0 : 0 < s' := by omega
    have bl' : l.length ≤ 400000 := by omega
    have l0 : 0 < l.length := List.length_pos_iff.mpr hl
    have plm : PerF (cyc l) m := per_congr (fun i => (cl i).symm) pm
    try dsimp only [List.set, getS_z, getS_s, bin2, bin2T, ltD, leD, gtD, geD, cmp_i, add_i, sub_i, min2_i, max2_i]
    refine len_w bl' (fdiv_n s0 (by omega) (mul_n (Nat.le_trans (Nat.div_le_self _ _) bl') (by omega) (len_w bl' (eq_n ?_))))
    refine bl_c (fun e => ?_) (fun e => ?_)
    · have e := of_decide_eq_true e
      have ds : s' ∣ l.length := ⟨l.length / s', by rw [Nat.mul_comm]; exact e.symm⟩
      have hsl : s' ≤ l.length := Nat.le_of_dvd l0 ds
      have ht : (l.take s').length = s' := by rw [List.length_take]; omega
      refine ite_t rfl ?_
      refine inKI (sl_take bl' ?_)
      refine len_w bl' (fdiv_n s0 (by omega) ?_)
      refine mul_w (Nat.le_trans (Nat.div_le_self _ _) bl') (by rw [ht, Nat.mul_comm, e]; exact bl') (by omega) ?_
      refine eq_w ?_
      refine bl_c (fun e2 => ?_) (fun e2 => ?_)
      · have p := (flat_iff s0 ds hl).mp (of_decide_eq_true e2)
        refine ite_t rfl ?_
        refine inKI (sl_take bl' ?_)
        have c2 : ∀ i, cyc (l.take s') i = cyc r i := fun i => (cyc_take s0 hsl p i).trans (cl i)
        have dm : m ∣ s' := PerF.least m0 pm hmin (per_congr cl p)
        refine .of ⟨rfl, _, _, rfl, fun z => by rw [z] at ht; simp at ht; omega, by omega, c2, by rw [ht]; exact dm, fun z => ?_⟩
        rw [ht]
        have := Nat.le_of_dvd s0 dm
        omega
      · refine ite_f rfl ?_
        refine .of ⟨rfl, l, _, rfl, hl, sl, cl, dl, fun z => ?_⟩
        by_cases z2 : r.length < m + i
        · exact ml z2
        · have : s' = m := by omega
          subst this
          exact absurd ((flat_iff s0 ds hl).mpr plm) (of_decide_eq_false e2)
    · refine ite_f rfl ?_
      refine ite_f rfl ?_
      refine .of ⟨rfl, l, _, rfl, hl, sl, cl, dl, fun z => ?_⟩
      by_cases z2 : r.length < m + i
      · exact ml z2
      · have : s' = m := by omega
        subst this
        exact absurd (Nat.div_mul_cancel dl) (of_decide_eq_false e)
  · obtain ⟨rfl, l, o, rfl, hl, sl, cl, dl, ml⟩ := hI
    have lm : l.length = m := ml (by rw [rngC_len]; omega)
    have pl : PrimR l := ⟨hl, fun k k0 k1 p => hmin k (by omega) ⟨k0, per_congr cl p⟩⟩
    refine ⟨fun e M' => M' = B.M ∧ ∃ (u v : List Nat) (o : Option D), e = [some (.str ⟨u.toArray⟩), some (.str ⟨v.toArray⟩), o] ∧ PrimR v ∧ (∀ i, sq u v i = sq a r i) ∧ u.length ≤ a.length ∧ v.length = m, fun e _ => lenN e 0, .of ⟨rfl, a, l, o, rfl, pl, fun i => ?_, Nat.le_refl _, lm⟩, fun e M' he => ?_⟩
    · unfold sq
      split
      · rfl
      · exact cl _
    obtain ⟨rfl, u, v, o, rfl, pv, sv, lu, lv⟩ := he
    have v0 := pv.pos
    have bU : u.length ≤ 400000 := by omega
    have bV : v.length ≤ 400000 := by omega
    try dsimp only [List.set, getS_z, getS_s, bin2, bin2T, ltD, leD, gtD, geD, cmp_i, add_i, sub_i, min2_i, max2_i]
    refine ne_emp ?_
    refine bl_c (fun e => ?_) (fun e => ?_)
    · have hu : u ≠ [] := fun z => by rw [z] at e; cases e
      have u0 : 0 < u.length := List.length_pos_iff.mpr hu
      refine ite_t rfl ?_
      refine ix_last bU u0 (ix_last bV v0 (eq_c ?_))
      refine bl_c (fun e2 => ?_) (fun e2 => ?_)
      · refine ite_t rfl ?_
        refine inKI (sl_last bU ?_)
        refine ix_last bV v0 ?_
        refine inKI (sl_last bV ?_)
        rw [one_w]
        refine add_w (by show 1 ≤ 400000; decide) (by rw [List.length_take]; omega) ?_
        rw [rot_last v0]
        refine .of ⟨⟨rfl, _, _, o, rfl, pv.rot (by omega), fun i => by rw [sq_step v0 u0 (of_decide_eq_true e2), sv], by rw [List.length_take]; omega, by rw [rotL_len (by omega)]; exact lv⟩, ?_⟩
        show (⟨(u.take (u.length - 1)).toArray⟩ : Str).length < (⟨u.toArray⟩ : Str).length
        rw [wlen, wlen, List.length_take]
        omega
      · refine ite_f rfl ?_
        refine ⟨ln (n := 2) rfl (by decide), _, _, .same, q u v ⟨⟨pv, .inr ?_⟩, sv⟩ lu (by omega)⟩
        rw [cyc_lt (by omega)]
        exact of_decide_eq_false e2
    · have hu : u = [] := by simpa using e
      refine ite_f rfl ?_
      refine ite_f rfl ?_
      exact ⟨ln (n := 2) rfl (by decide), _, _, .same, q u v ⟨⟨pv, .inl hu⟩, sv⟩ lu (by omega)⟩
/-- a row in its shortest form, of letters, with bounds -/
structure Ln (n : Nat) (x y : List Nat) : Prop where
  nr : NR x y
  lx : LR x
  ly : LR y
  sx : x.length ≤ n
  sy : y.length ≤ n + 2
def c__law_line : Ct := fun ds M Ψ _ => ∃ (p : Addr) (n : Nat), ds = [.ref p, .int n] ∧ HandAt M p ∧ 1 ≤ n ∧ n ≤ 1000 ∧ ∀ x y M', Ln n x y → Dr p M M' → Ψ (.tup [.str ⟨x.toArray⟩, .str ⟨y.toArray⟩]) M'
theorem ok__law_line {f : Addr} {fd : FuncData} {dvs : List V} {kws : List (Str × V)} (T : Txt K mg) (h__law_of : Gf P w K mg base "_law_of" 3 (c__law_of) b__law_of) (h__law_some : Gf P w K mg base "_law_some" 5 (c__law_some) b__law_some) (h__law_word : Gf P w K mg base "_law_word" 4 (c__law_word) b__law_word) (h__law_normal : Gf P w K mg base "_law_normal" 2 (c__law_normal) b__law_normal) (F : FnZ K "_law_line" "_law_line" s__law_line dvs kws f fd) : FnOk P w K mg base (L2.CX P w) 6 f fd ["_law_hand_here", "_law_peak"] (spC K ["_law_hand_here", "_law_peak"].length (c__law_line)) := by
  have hnd := sc__law_line.nd
  refine fnD F sc__law_line (c__law_line) fun cdv A outer s H E B Ξ hr z => ⟨_, (dss_cons (ds_set (i := 2) hnd (de_call h__law_of hr z (List.Mem.head _) (da_cons (de_var (i := 0)) (da_cons (de_lst (da_cons de_str (da_cons de_str (da_cons (de_call h__law_some hr z (List.Mem.head _) (da_cons (de_var (i := 0)) (da_cons (de_var (i := 1)) da_nil))) (da_cons (de_call h__law_some hr z (List.Mem.head _) (da_cons (de_var (i := 0)) (da_cons (de_var (i := 1)) da_nil))) (da_cons (de_add (de_add de_str (de_call h__law_word hr z (List.Mem.head _) (da_cons (de_var (i := 0)) (da_cons (de_var (i := 1)) da_nil)))) de_str) da_nil)))))) da_nil))))
    (dss_one (ds_ret (de_call h__law_normal hr z (List.Mem.head _) (da_cons (de_call h__law_word hr z (List.Mem.head _) (da_cons (de_var (i := 0)) (da_cons (de_var (i := 1)) da_nil))) (da_cons (de_var (i := 2)) da_nil)))))), fun ds Ψ hl hc => ?_⟩
  obtain ⟨p, n, rfl, hh, n0, n1, q⟩ := hc
  rw [show ent (["_law_hand_here", "_law_peak", "_law_loop"] : List Str).length [D.ref p, .int n] = [some (.ref p), some (.int n), none] from rfl]
  try dsimp only [List.set, getS_z, getS_s, bin2, bin2T, ltD, leD, gtD, geD, cmp_i, add_i, sub_i, min2_i, max2_i]
  refine ⟨rfl, rfl, p, n, rfl, hh, by omega, by omega, fun u M1 lu hu su d1 => ?_⟩
  refine ⟨rfl, rfl, p, n, rfl, d1.1, by omega, by omega, fun v M2 lv hv sv d2 => ?_⟩
  have d2 := d1.trans d2
  refine ⟨rfl, rfl, p, n, rfl, d2.1, by omega, by omega, fun w M3 lw sw d3 => ?_⟩
  have d3 := d2.trans d3
  have eR : ("R" : Str) = ⟨[82].toArray⟩ := by decide +kernel
  have eL : ("L" : Str) = ⟨[76].toArray⟩ := by decide +kernel
  try dsimp only [List.set, getS_z, getS_s, bin2, bin2T, ltD, leD, gtD, geD, cmp_i, add_i, sub_i, min2_i, max2_i]
  rw [eR, eL]
  have l82 : LR [82] := fun c hc => .inr (by simpa using hc)
  have l76 : LR [76] := fun c hc => .inl (by simpa using hc)
  refine add_w (by show 1 ≤ 400000; decide) (by omega) ?_
  refine add_w (by rw [List.length_append]; show 1 + w.length ≤ 400000; omega) (by show 1 ≤ 400000; decide) ?_
  refine ⟨ln (n := 5) rfl (by decide), ?_⟩
  refine ⟨rfl, rfl, p, _, _, rfl, d3.1, rfl, (show 0 < 5 by decide), (show 5 ≤ 1000000 by decide), fun z M4 hz d4 => ?_⟩
  have d4 := d3.trans d4
  have hz : ∃ l : List Nat, z = .str ⟨l.toArray⟩ ∧ LR l ∧ l ≠ [] ∧ l.length ≤ n + 2 := by
    simp only [List.mem_cons, List.not_mem_nil, or_false] at hz
    rcases hz with rfl | rfl | rfl | rfl | rfl
    · exact ⟨_, rfl, l76, by simp, by show 1 ≤ _; omega⟩
    · exact ⟨_, rfl, l82, by simp, by show 1 ≤ _; omega⟩
    · exact ⟨_, rfl, lu, hu, by omega⟩
    · exact ⟨_, rfl, lv, hv, by omega⟩
    · exact ⟨_, rfl, (l82.app lw).app l76, by simp, by rw [List.length_append, List.length_append]; show 1 + w.length + 1 ≤ _; omega⟩
  obtain ⟨l, rfl, ll, nl, sl⟩ := hz
  try dsimp only [List.set, getS_z, getS_s, bin2, bin2T, ltD, leD, gtD, geD, cmp_i, add_i, sub_i, min2_i, max2_i]
  refine ⟨rfl, rfl, p, n, rfl, d4.1, by omega, by omega, fun a M5 la sa d5 => ?_⟩
  refine ⟨rfl, rfl, a, l, rfl, nl, by omega, by omega, fun x y nf hx hy => ?_⟩
  have lr := nf.lr la ll (List.length_pos_iff.mpr nl)
  exact ⟨_, _, .same, q x y _ ⟨nf.nr, lr.1, lr.2, by omega, by omega⟩ (d4.trans d5)⟩
def c_is_word : Ct := fun ds M Ψ _ => ∃ d t, ds = [d] ∧ tyN M d = some t ∧ (∀ x, d = .str x → x.cps.size ≤ 1000000) ∧ Ψ (.bl (wB d)) M
theorem ok_is_word {f : Addr} {fd : FuncData} {dvs : List V} {kws : List (Str × V)} (T : Txt K mg)  (F : FnZ K "is_word" "is_word" s_is_word dvs kws f fd) : FnOk P w K mg base (L2.CX P w) 2 f fd ["value"] (spC K ["value"].length (c_is_word)) := by
  have hnd := sc_is_word.nd
  refine fnD F sc_is_word (c_is_word) fun cdv A outer s H E B Ξ hr z => ⟨_, (dss_one (ds_ret (de_and (de_isi T.n_isinstance (da_cons (de_var (i := 0)) (da_cons (de_ty (n := "str") T.n_str (by decide +kernel)) da_nil))) (de_and1 (de_all1 rfl T.n_all (da_cons (de_lc rfl hnd (di_str (de_var (i := 0))) (blkOk_by (own := [("turn", 1)]) (by rfl)) (tg_name (i := 1) (by decide)) (fun _ _ _ _ _ => (pg_name (i := 1) hnd rfl (by first | exact Or.inl rfl | exact Or.inr rfl) (by first | exact .inl rfl | exact .inr rfl))) (fun _ _ _ _ _ _ => dts_nil) (fun _ _ _ _ _ _ => (de_in hr (de_var (i := 1)) (de_gstr T.k_TURNS)))) da_nil)))))), fun ds Ψ hl hc => ?_⟩
  obtain ⟨d, t, rfl, ht, hz, q⟩ := hc
  refine ⟨by decide, t, ht, ?_⟩
  by_cases e : t = "str"
  · subst e
    obtain ⟨x, rfl⟩ := ty_str ht
    refine bl_t (by rfl) ?_
    refine compD_map (xs := Z.signs x) (fun K h => h) (fun d => match d with | .str z => .bl (decide ((z.cps.toList.headD 0) ∈ ("LR" : Str).cps.toList)) | _ => .non) trivial (by rw [signs_len]; exact Nat.le_trans (hz x rfl) big_ok) (fun d hd Q q => ?_) ?_
    · obtain ⟨c, _, rfl⟩ := signs_mem hd
      exact ⟨c, rfl, q⟩
    · refine ⟨x.cps.toList.map fun c => decide (c ∈ ("LR" : Str).cps.toList), ?_, _, _, .same, ?_⟩
      · show some _ = some _
        unfold Z.signs
        rw [List.map_map, List.map_map]
        rfl
      · rw [List.all_map]
        exact q
  · have e0 : isB t "str" = false := by
      have h7 := tyN_ok ht
      simp only [okTy, List.mem_cons, List.not_mem_nil, or_false] at h7
      rcases h7 with rfl | rfl | rfl | rfl | rfl | rfl | rfl
      all_goals first
        | rfl
        | exact absurd rfl e
    refine bl_f e0 ?_
    refine ⟨_, _, .same, ?_⟩
    have e2 : wB d = false := by
      cases d <;> first | rfl | (cases ht; exact absurd rfl e)
    rw [e2] at q
    exact q
def c_check_word (CW : Addr) : Ct := fun ds M Ψ Ξ => ∃ d t, ds = [d] ∧ tyN M d = some t ∧ (∀ x, d = .str x → x.cps.size ≤ 1000000) ∧ (wB d = true → Ψ .non M) ∧ (wB d = false → Ξ (CW, [("given", d), ("tag", .str "InvalidWord")]) M)
theorem ok_check_word {f : Addr} {fd : FuncData} {dvs : List V} {kws : List (Str × V)} (T : Txt K mg) (h_is_word : Gf P w K mg base "is_word" 2 (c_is_word) b_is_word) (x_InvalidWord : Xf P w K mg base "InvalidWord" (He.ga K "InvalidWord") 1 (tag2 "InvalidWord" "given")) (F : FnZ K "check_word" "check_word" s_check_word dvs kws f fd) : FnOk P w K mg base (L2.CX P w) 3 f fd ["value"] (spC K ["value"].length (c_check_word (He.ga K "InvalidWord"))) := by
  have hnd := sc_check_word.nd
  refine fnD F sc_check_word (c_check_word (He.ga K "InvalidWord")) fun cdv A outer s H E B Ξ hr z => ⟨_, (dss_one (ds_if (dt_not (dt_val (de_call h_is_word hr z (List.Mem.head _) (da_cons (de_var (i := 0)) da_nil)))) (dss_one (ds_raise1 x_InvalidWord hr z rfl (da_cons (de_var (i := 0)) da_nil))) dss_nil)), fun ds Ψ hl hc => ?_⟩
  obtain ⟨d, t, rfl, ht, hz, q1, q2⟩ := hc
  refine ⟨rfl, rfl, d, t, rfl, ht, hz, ?_⟩
  refine bl_c (fun e => ?_) (fun e => ?_)
  · exact ⟨_, _, .same, q1 e⟩
  · exact ⟨_, .same, q2 e⟩
def c_least_ring : Ct := fun ds M Ψ _ => ∃ r : List Nat, ds = [.str ⟨r.toArray⟩] ∧ r ≠ [] ∧ r.length ≤ 20000 ∧ ∀ l, PrimR l → (∀ i, cyc l i = cyc r i) → l.length ≤ r.length → Ψ (.str ⟨l.toArray⟩) M
theorem ok_least_ring {f : Addr} {fd : FuncData} {dvs : List V} {kws : List (Str × V)} (T : Txt K mg)  (F : FnZ K "least_ring" "least_ring" s_least_ring dvs kws f fd) : FnOk P w K mg base (L2.CX P w) 2 f fd ["ring"] (spC K ["ring"].length (c_least_ring)) := by
  have hnd := sc_least_ring.nd
  refine fnD F sc_least_ring (c_least_ring) fun cdv A outer s H E B Ξ hr z => ⟨_, (dss_one (ds_ret (de_slice (de_var (i := 0)) do_none (do_some (de_find3 (de_add (de_var (i := 0)) (de_var (i := 0))) (da_cons (de_var (i := 0)) (da_cons de_int da_nil))))))), fun ds Ψ hl hc => ?_⟩
  obtain ⟨r, rfl, hr, hl, q⟩ := hc
  obtain ⟨k, k0, k1, e, hp, hcy⟩ := least_find hr
  rw [show ent (["ring"] : List Str).length [D.str ⟨r.toArray⟩] = [some (D.str ⟨r.toArray⟩)] from rfl]
  try dsimp only [List.set, getS_z, getS_s, bin2, bin2T, ltD, leD, gtD, geD, cmp_i, add_i, sub_i, min2_i, max2_i]
  refine ⟨sz2 (n := 20000) (m := 20000) (by rw [wlen]; exact hl) (by rw [wlen]; exact hl) (by decide), trivial, ?_⟩
  rw [wapp]
  try dsimp only [List.set, getS_z, getS_s, bin2, bin2T, ltD, leD, gtD, geD, cmp_i, add_i, sub_i, min2_i, max2_i]
  show slD B.M (.str ⟨r.toArray⟩) none (some (Txt.find3 ⟨(r ++ r).toArray⟩ ⟨r.toArray⟩ 1)) fun d => rtF B.M Ψ d B.M
  rw [e]
  refine ⟨Nat.le_trans (Nat.le_trans (by rw [wlen]; exact hl) (show 20000 ≤ 1000000 by decide)) big_ok, ?_⟩
  rw [cut_take]
  exact ⟨_, _, .same, q _ hp hcy (by rw [List.length_take]; omega)⟩
def row (C : Addr) (x y : List Nat) : D := .obj C [("whole", .tup [.str ⟨x.toArray⟩, .str ⟨y.toArray⟩])]
def c_Rowd_initd (C CW CI : Addr) : Ct := fun ds M Ψ Ξ => ∃ p, ∃ a r : List Nat, ds = [.ref p, .str ⟨a.toArray⟩, .str ⟨r.toArray⟩] ∧ M p = some (.ins C []) ∧ LR a ∧ LR r ∧ r ≠ [] ∧ a.length ≤ 20000 ∧ r.length ≤ 20000 ∧ ∀ x y, NfR a r x y → x.length ≤ a.length → y.length ≤ r.length → Ψ .non (updM M p (.ins C [("whole", .tup [.str ⟨x.toArray⟩, .str ⟨y.toArray⟩])]))
theorem ok_Rowd_initd {f : Addr} {fd : FuncData} {dvs : List V} {kws : List (Str × V)} (T : Txt K mg) (h_check_word : Gf P w K mg base "check_word" 3 (c_check_word (He.ga K "InvalidWord")) b_check_word) (h_is_word : Gf P w K mg base "is_word" 2 (c_is_word) b_is_word) (h_least_ring : Gf P w K mg base "least_ring" 2 (c_least_ring) b_least_ring) (x_InvalidRing : Xf P w K mg base "InvalidRing" (He.ga K "InvalidRing") 1 (tag2 "InvalidRing" "given")) (F : FnZ K "__init__" "Row.__init__" s_Rowd_initd dvs kws f fd) : FnOk P w K mg base (L2.CX P w) 4 f fd ["self", "lead", "ring"] (spC K ["self", "lead", "ring"].length (c_Rowd_initd (He.ga K "Row") (He.ga K "InvalidWord") (He.ga K "InvalidRing"))) := by
  have hnd := sc_Rowd_initd.nd
  refine fnD F sc_Rowd_initd (c_Rowd_initd (He.ga K "Row") (He.ga K "InvalidWord") (He.ga K "InvalidRing")) fun cdv A outer s H E B Ξ hr z => ⟨_, (dss_cons (ds_expr (de_call h_check_word hr z (List.Mem.head _) (da_cons (de_var (i := 1)) da_nil)))
    (dss_cons (ds_if (dw_or (dt_not (dt_val (de_call h_is_word hr z (List.Mem.head _) (da_cons (de_var (i := 2)) da_nil)))) (dw_or1 (dt_eq hr (de_var (i := 2)) de_str))).pt (dss_one (ds_raise1 x_InvalidRing hr z rfl (da_cons (de_var (i := 2)) da_nil))) dss_nil)
    (dss_cons (ds_par (i := 3) (j := 4) rfl hnd (da_cons (de_call h_least_ring hr z (List.Mem.head _) (da_cons (de_var (i := 2)) da_nil)) (da_cons de_int da_nil)))
    (dss_cons (ds_while z.po (dw_and (dt_lt (de_var (i := 4)) (de_len T.n_len (da_cons (de_var (i := 1)) da_nil))) (dw_and1 (dt_eq hr (de_ix (de_var (i := 1)) (de_sub (de_neg de_int) (de_var (i := 4)))) (de_ix (de_var (i := 3)) (de_sub (de_neg de_int) (de_fmod (de_var (i := 4)) (de_len T.n_len (da_cons (de_var (i := 3)) da_nil)))))))).pt (dss_one (ds_iadd (i := 4) hnd de_int)))
    (dss_cons (ds_set (i := 5) hnd (de_sub (de_len T.n_len (da_cons (de_var (i := 3)) da_nil)) (de_fmod (de_var (i := 4)) (de_len T.n_len (da_cons (de_var (i := 3)) da_nil)))))
    (dss_one (ds_fld T.cl_Row T.na_Row_whole (de_tup (da_cons (de_slice (de_var (i := 1)) do_none (do_some (de_sub (de_len T.n_len (da_cons (de_var (i := 1)) da_nil)) (de_var (i := 4))))) (da_cons (de_add (de_slice (de_var (i := 3)) (do_some (de_var (i := 5))) do_none) (de_slice (de_var (i := 3)) do_none (do_some (de_var (i := 5))))) da_nil))) (de_var (i := 0))))))))), fun ds Ψ hl hc => ?_⟩
  obtain ⟨p, a, r, rfl, hp, la, lr, hr, sa, sr, q⟩ := hc
  rw [show ent (["self", "lead", "ring", "least", "same", "cut"] : List Str).length [D.ref p, .str ⟨a.toArray⟩, .str ⟨r.toArray⟩] = [some (D.ref p), some (.str ⟨a.toArray⟩), some (.str ⟨r.toArray⟩), none, none, none] from rfl]
  try dsimp only [List.set, getS_z, getS_s, bin2, bin2T, ltD, leD, gtD, geD, cmp_i, add_i, sub_i, min2_i, max2_i]
  have wa : ∀ {u : List Nat}, LR u → wB (.str ⟨u.toArray⟩) = true := fun h => wB_LR h
  have sz : ∀ {u : List Nat}, u.length ≤ 20000 → (⟨u.toArray⟩ : Str).length ≤ sizeLine := fun h => sz_le (n := 20000) (by rw [wlen]; exact h) (by decide)
  have tz : ∀ {u : List Nat}, u.length ≤ 20000 → (∀ x, D.str ⟨u.toArray⟩ = .str x → x.cps.size ≤ 1000000) := fun h x e => by cases e; exact Nat.le_trans (by rw [List.size_toArray]; exact h) (by decide)
  refine ⟨rfl, rfl, _, _, rfl, rfl, tz sa, fun _ => ?_, fun z => by rw [wa la] at z; cases z⟩
  refine ⟨rfl, rfl, _, _, rfl, rfl, tz sr, ?_⟩
  rw [wa lr]
  refine bl_t rfl ?_
  refine ite_f rfl ?_
  refine eqS ?_
  refine bl_f (decide_eq_false fun z => hr (weq.mp z)) ?_
  refine ite_f rfl ?_
  refine ⟨rfl, rfl, r, rfl, hr, sr, fun l pl cl sl => ?_⟩
  have l0 := pl.pos
  try dsimp only [List.set, getS_z, getS_s, bin2, bin2T, ltD, leD, gtD, geD, cmp_i, add_i, sub_i, min2_i, max2_i]
  refine ⟨fun e M' => M' = B.M ∧ ∃ j : Nat, e = [some (D.ref p), some (.str ⟨a.toArray⟩), some (.str ⟨r.toArray⟩), some (.str ⟨l.toArray⟩), some (.int j), none] ∧ j ≤ a.length ∧ ∀ u, u < j → a.getD (a.length - 1 - u) 0 = l.getD (l.length - 1 - u % l.length) 0, fun e _ => a.length - slotN e 4, .of ⟨rfl, 0, rfl, Nat.zero_le _, fun u hu => absurd hu (Nat.not_lt_zero u)⟩, fun e M' he => ?_⟩
  obtain ⟨rfl, j, rfl, hj, hm⟩ := he
  try dsimp only [List.set, getS_z, getS_s, bin2, bin2T, ltD, leD, gtD, geD, cmp_i, add_i, sub_i, min2_i, max2_i]
  have bA : a.length ≤ 400000 := by omega
  have bL : l.length ≤ 400000 := by omega
  refine len_w bA ?_
  have fin : (j = a.length ∨ a.getD (a.length - 1 - j) 0 ≠ l.getD (l.length - 1 - j % l.length) 0) → lenD B.M [D.str ⟨l.toArray⟩] fun x M1 => lenD M1 [D.str ⟨l.toArray⟩] fun y M2 => fmodD M2 (D.int j) y fun z => subD M2 x z fun z => lenD M2 [D.str ⟨a.toArray⟩] fun x M1 => subD M1 x (D.int j) fun z_4 => inK z_4 fun i => slD M1 (D.str ⟨a.toArray⟩) none (some i) fun d => inK z fun i => slD M1 (D.str ⟨l.toArray⟩) (some i) none fun d_1 => inK z fun i => slD M1 (D.str ⟨l.toArray⟩) none (some i) fun d_2 => addD M1 d_1 d_2 fun z => [d, z].length ≤ sizeLine ∧ match M1 p with
      | some (Cell.ins C' fs) => C' = He.ga K "Row" ∧ fs.length < 1000 ∧ rtF B.M Ψ D.non (updM M1 p (Cell.ins (He.ga K "Row") (putD "whole" (D.tup [d, z]) fs)))
      | _ => False := fun he => by
    have nf := (row_nf pl hj hm he).ring cl
    have hjm : j % l.length < l.length := Nat.mod_lt _ l0
    refine len_w bL (len_w bL (fmod_n l0 (sub_n (by omega) (len_w bA (sub_n hj ?_)))))
    refine inKI (sl_take bA ?_)
    refine inKI (sl_drop bL ?_)
    refine inKI (sl_take bL ?_)
    refine add_w (by rw [List.length_drop]; omega) (by rw [List.length_take]; omega) ?_
    refine ⟨ln (n := 2) rfl (by decide), ?_⟩
    rw [hp]
    refine ⟨rfl, by decide, _, _, .same, q _ _ nf (by rw [List.length_take]; omega) (by rw [← show rotL (l.length - j % l.length) l = List.drop (l.length - j % l.length) l ++ List.take (l.length - j % l.length) l from rfl, rotL_len (by omega)]; exact sl)⟩
  refine bl_c (fun e => ?_) (fun e => ?_)
  · refine ite_t rfl ?_
    have e := of_decide_eq_true e
    have ej : j < a.length := by omega
    refine ix_neg bA ej (len_w bL (fmod_n l0 (subI (ix_neg bL (Nat.mod_lt _ l0) (eq_c ?_)))))
    refine bl_c (fun e2 => ?_) (fun e2 => ?_)
    · refine ite_t rfl ?_
      have e2 := of_decide_eq_true e2
      refine .of ⟨⟨rfl, j + 1, rfl, ej, fun u hu => ?_⟩, ?_⟩
      · rcases Nat.lt_or_ge u j with z | z
        · exact hm u z
        · have : u = j := by omega
          rw [this]; exact e2
      · show a.length - (j + 1) < a.length - j
        omega
    · refine ite_f rfl ?_
      exact fin (.inr (of_decide_eq_false e2))
  · refine ite_f rfl ?_
    refine ite_f rfl ?_
    have e := of_decide_eq_false e
    exact fin (.inl (by omega))
def c__law_row (C : Addr) : Ct := fun ds M Ψ _ => ∃ (x y : List Nat), ds = [.tup [.str ⟨x.toArray⟩, .str ⟨y.toArray⟩]] ∧ NR x y ∧ LR x ∧ LR y ∧ x.length ≤ 20000 ∧ y.length ≤ 20000 ∧ Ψ (row C x y) M
theorem ok__law_row {f : Addr} {fd : FuncData} {dvs : List V} {kws : List (Str × V)} (T : Txt K mg) (c_Row : Cf P w K mg base "Row" (He.ga K "Row") 4 (c_Rowd_initd (He.ga K "Row") (He.ga K "InvalidWord") (He.ga K "InvalidRing")) b_Rowd_initd) (F : FnZ K "_law_row" "_law_row" s__law_row dvs kws f fd) : FnOk P w K mg base (L2.CX P w) 6 f fd ["_law_phrase"] (spC K ["_law_phrase"].length (c__law_row (He.ga K "Row"))) := by
  have hnd := sc__law_row.nd
  refine fnD F sc__law_row (c__law_row (He.ga K "Row")) fun cdv A outer s H E B Ξ hr z => ⟨_, (dss_one (ds_ret (de_make c_Row hr z (List.Mem.head _) (da_cons (de_ix (de_var (i := 0)) de_int) (da_cons (de_ix (de_var (i := 0)) de_int) da_nil))))), fun ds Ψ hl hc => ?_⟩
  obtain ⟨x, y, rfl, hn, lx, ly, sx, sy, q⟩ := hc
  refine ⟨rfl, rfl, fun p hp => ⟨p, x, y, rfl, updM_same, lx, ly, hn.prim.1, sx, sy, fun x' y' nf _ _ => ?_⟩⟩
  obtain ⟨e1, e2⟩ := nr_uniq nf.nr hn nf.sq
  subst e1 e2
  exact ⟨rfl, _, updM_updM, _, _, .same, q⟩
def c__law_begin : Ct := fun ds M Ψ _ => ∃ (x y : List Nat) (n : Nat), ds = [.tup [.str ⟨x.toArray⟩, .str ⟨y.toArray⟩], .int n] ∧ y ≠ [] ∧ x.length ≤ 20000 ∧ y.length ≤ 20000 ∧ n ≤ 20000 ∧ Ψ (.str ⟨(beg x y n).toArray⟩) M
theorem ok__law_begin {f : Addr} {fd : FuncData} {dvs : List V} {kws : List (Str × V)} (T : Txt K mg)  (F : FnZ K "_law_begin" "_law_begin" s__law_begin dvs kws f fd) : FnOk P w K mg base (L2.CX P w) 2 f fd ["_law_phrase", "_law_many"] (spC K ["_law_phrase", "_law_many"].length (c__law_begin)) := by
  have hnd := sc__law_begin.nd
  refine fnD F sc__law_begin (c__law_begin) fun cdv A outer s H E B Ξ hr z => ⟨_, (dss_cons (ds_set (i := 2) hnd (de_ix (de_var (i := 0)) de_int))
    (dss_cons (ds_while z.po (dt_lt (de_len T.n_len (da_cons (de_var (i := 2)) da_nil)) (de_var (i := 1))) (dss_one (ds_set (i := 2) hnd (de_add (de_var (i := 2)) (de_ix (de_var (i := 0)) de_int)))))
    (dss_one (ds_ret (de_slice (de_var (i := 2)) do_none (do_some (de_var (i := 1)))))))), fun ds Ψ hl hc => ?_⟩
  obtain ⟨x, y, n, rfl, hy, sx, sy, hn, q⟩ := hc
  have y0 : 0 < y.length := List.length_pos_iff.mpr hy
  rw [show ent (["_law_phrase", "_law_many", "_law_found"] : List Str).length [D.tup [.str ⟨x.toArray⟩, .str ⟨y.toArray⟩], .int n] = [some (.tup [.str ⟨x.toArray⟩, .str ⟨y.toArray⟩]), some (.int n), none] from rfl]
  try dsimp only [List.set, getS_z, getS_s, bin2, bin2T, ltD, leD, gtD, geD, cmp_i, add_i, sub_i, min2_i, max2_i]
  show ∃ Iv μ, _
  refine ⟨fun e M' => M' = B.M ∧ ∃ (l : List Nat) (k : Nat), e = [some (.tup [.str ⟨x.toArray⟩, .str ⟨y.toArray⟩]), some (.int n), some (.str ⟨l.toArray⟩)] ∧ l.length = x.length + y.length * k ∧ l.length ≤ x.length + y.length + n ∧ ∀ i, i < l.length → l.getD i 0 = sq x y i, fun e _ => n - lenN e 2, .of ⟨rfl, x, 0, rfl, by omega, by omega, fun i hi => by unfold sq; rw [if_pos hi]⟩, fun e M' he => ?_⟩
  obtain ⟨rfl, l, k, rfl, hk, sl, hg⟩ := he
  try dsimp only [List.set, getS_z, getS_s, bin2, bin2T, ltD, leD, gtD, geD, cmp_i, add_i, sub_i, min2_i, max2_i]
  refine len_w (by omega) ?_
  refine bl_c (fun e => ?_) (fun e => ?_)
  · have e := of_decide_eq_true e
    refine ite_t rfl ?_
    refine ix_t rfl ?_
    refine add_w (w := l) (u := y) (by omega) (by omega) ?_
    refine .of ⟨⟨rfl, l ++ y, k + 1, rfl, by rw [List.length_append, hk, Nat.mul_succ]; omega, by rw [List.length_append]; omega, beg_next y0 hk hg⟩, ?_⟩
    show n - (⟨(l ++ y).toArray⟩ : Str).length < n - (⟨l.toArray⟩ : Str).length
    rw [wlen, wlen, List.length_append]
    omega
  · have e := of_decide_eq_false e
    refine ite_f rfl ?_
    refine inKI (sl_take (by omega) ?_)
    rw [beg_of (by omega) hg]
    exact ⟨_, _, .same, q⟩
def c__law_same (n : Nat) : Ct := fun ds M Ψ _ => ∃ x y, ds = [x, y] ∧ Same M n x y ∧ Ψ (.bl true) M
theorem no__law_same : ∀ ds M Ψ Ξ, ¬ c__law_same 0 ds M Ψ Ξ := fun ds M Ψ Ξ ⟨_, _, _, h, _⟩ => h
theorem ok__law_same {f : Addr} {fd : FuncData} {dvs : List V} {kws : List (Str × V)} (T : Txt K mg) {lv dp : Nat} (h__law_same : Gf P w K mg base "_law_same" lv (c__law_same dp) b__law_same) (F : FnZ K "_law_same" "_law_same" s__law_same dvs kws f fd) : FnOk P w K mg base (L2.CX P w) (lv + 1) f fd ["_law_found", "_law_due"] (spC K ["_law_found", "_law_due"].length (c__law_same (dp + 1))) := by
  have hnd := sc__law_same.nd
  refine fnD F sc__law_same (c__law_same (dp + 1)) fun cdv A outer s H E B Ξ hr z => ⟨_, (dss_cons (ds_if (dt_is (de_var (i := 1)) de_non) (dss_one (ds_ret (de_is (de_var (i := 0)) de_non))) dss_nil)
    (dss_cons (ds_if (dw_or (dt_val (de_isi T.n_isinstance (da_cons (de_var (i := 1)) (da_cons (de_ty (n := "bool") T.n_bool (by decide +kernel)) da_nil)))) (dw_or1 (dt_val (de_isi T.n_isinstance (da_cons (de_var (i := 0)) (da_cons (de_ty (n := "bool") T.n_bool (by decide +kernel)) da_nil)))))).pt (dss_one (ds_ret (de_and (de_isi T.n_isinstance (da_cons (de_var (i := 1)) (da_cons (de_ty (n := "bool") T.n_bool (by decide +kernel)) da_nil))) (de_and (de_isi T.n_isinstance (da_cons (de_var (i := 0)) (da_cons (de_ty (n := "bool") T.n_bool (by decide +kernel)) da_nil))) (de_and1 (de_eq hr (de_var (i := 0)) (de_var (i := 1)))))))) dss_nil)
    (dss_cons (ds_if (dt_val (de_isi T.n_isinstance (da_cons (de_var (i := 1)) (da_cons (de_tup (da_cons (de_ty (n := "int") T.n_int (by decide +kernel)) (da_cons (de_ty (n := "str") T.n_str (by decide +kernel)) da_nil))) da_nil)))) (dss_one (ds_ret (de_and (de_isi T.n_isinstance (da_cons (de_var (i := 0)) (da_cons (de_tup (da_cons (de_ty (n := "int") T.n_int (by decide +kernel)) (da_cons (de_ty (n := "str") T.n_str (by decide +kernel)) da_nil))) da_nil))) (de_and (de_eq hr (de_isi T.n_isinstance (da_cons (de_var (i := 0)) (da_cons (de_ty (n := "int") T.n_int (by decide +kernel)) da_nil))) (de_isi T.n_isinstance (da_cons (de_var (i := 1)) (da_cons (de_ty (n := "int") T.n_int (by decide +kernel)) da_nil)))) (de_and1 (de_eq hr (de_var (i := 0)) (de_var (i := 1)))))))) dss_nil)
    (dss_cons (ds_if (dw_or (dt_ne hr (de_isi T.n_isinstance (da_cons (de_var (i := 1)) (da_cons (de_ty (n := "list") T.n_list (by decide +kernel)) da_nil))) (de_isi T.n_isinstance (da_cons (de_var (i := 0)) (da_cons (de_ty (n := "list") T.n_list (by decide +kernel)) da_nil)))) (dw_or1 (dt_ne hr (de_isi T.n_isinstance (da_cons (de_var (i := 1)) (da_cons (de_ty (n := "tuple") T.n_tuple (by decide +kernel)) da_nil))) (de_isi T.n_isinstance (da_cons (de_var (i := 0)) (da_cons (de_ty (n := "tuple") T.n_tuple (by decide +kernel)) da_nil)))))).pt (dss_one (ds_ret de_bl)) dss_nil)
    (dss_one (ds_ret (de_and (de_eq hr (de_len T.n_len (da_cons (de_var (i := 0)) da_nil)) (de_len T.n_len (da_cons (de_var (i := 1)) da_nil))) (de_and1 (de_all1 rfl T.n_all (da_cons (de_lc rfl hnd (di_zip T.n_zip (da_cons (de_var (i := 0)) (da_cons (de_var (i := 1)) da_nil))) (blkOk_by (own := [("_law_one", 2), ("_law_two", 3)]) (by rfl)) (tg_tup2 (by decide) (by decide)) (fun _ _ _ _ _ => (pg_tup rfl (pgs_cons (pg_name (i := 2) hnd rfl (by first | exact Or.inl rfl | exact Or.inr rfl) (by first | exact .inl rfl | exact .inr rfl)) (pgs_cons (pg_name (i := 3) hnd rfl (by first | exact Or.inl rfl | exact Or.inr rfl) (by first | exact .inl rfl | exact .inr rfl)) pgs_nil)))) (fun _ _ _ _ _ _ => dts_nil) (fun _ _ _ _ _ _ => (de_call h__law_same hr zx_blk (List.Mem.head _) (da_cons (de_var (i := 2)) (da_cons (de_var (i := 3)) da_nil)) (hj := Nat.le_refl _)))) da_nil)))))))))), fun ds Ψ hl hc => ?_⟩
  obtain ⟨x, y, rfl, hs, q⟩ := hc
  rcases hs with ⟨rfl, rfl⟩ | ⟨b, rfl, rfl⟩ | ⟨i, rfl, rfl⟩ | ⟨s, rfl, rfl⟩ | ⟨xs, ys, hxy, hl, hl2, hs⟩
  · refine bl_t rfl ?_
    exact ⟨_, _, .same, q⟩
  · refine bl_f rfl ?_
    refine ⟨by decide, "bool", rfl, ?_⟩
    refine bl_t rfl ?_
    refine ⟨by decide, "bool", rfl, ?_⟩
    refine bl_t rfl ?_
    refine ⟨by decide, "bool", rfl, ?_⟩
    refine bl_t rfl ?_
    refine eqB ?_
    refine ⟨_, _, .same, ?_⟩
    rw [decide_eq_true rfl]
    exact q
  · refine bl_f rfl ?_
    refine ⟨by decide, "int", rfl, ?_⟩
    refine bl_f rfl ?_
    refine ⟨by decide, "int", rfl, ?_⟩
    refine bl_f rfl ?_
    refine ⟨ln (n := 2) rfl (by decide), ?_⟩
    refine ⟨["int", "str"], rfl, by decide, "int", rfl, ?_⟩
    refine bl_t rfl ?_
    refine ⟨ln (n := 2) rfl (by decide), ?_⟩
    refine ⟨["int", "str"], rfl, by decide, "int", rfl, ?_⟩
    refine bl_t rfl ?_
    refine ⟨by decide, "int", rfl, ?_⟩
    refine ⟨by decide, "int", rfl, ?_⟩
    refine eqB ?_
    refine bl_t rfl ?_
    refine eqI ?_
    refine ⟨_, _, .same, ?_⟩
    rw [decide_eq_true rfl]
    exact q
  · refine bl_f rfl ?_
    refine ⟨by decide, "str", rfl, ?_⟩
    refine bl_f rfl ?_
    refine ⟨by decide, "str", rfl, ?_⟩
    refine bl_f rfl ?_
    refine ⟨ln (n := 2) rfl (by decide), ?_⟩
    refine ⟨["int", "str"], rfl, by decide, "str", rfl, ?_⟩
    refine bl_t rfl ?_
    refine ⟨ln (n := 2) rfl (by decide), ?_⟩
    refine ⟨["int", "str"], rfl, by decide, "str", rfl, ?_⟩
    refine bl_t rfl ?_
    refine ⟨by decide, "str", rfl, ?_⟩
    refine ⟨by decide, "str", rfl, ?_⟩
    refine eqB ?_
    refine bl_t rfl ?_
    refine eqS ?_
    refine ⟨_, _, .same, ?_⟩
    rw [decide_eq_true rfl]
    exact q
  · rcases hxy with ⟨hx, hy⟩ | ⟨rfl, rfl⟩
    · have tx := lst_ty hx
      have ty := lst_ty hy
      have ny : isN y = false := by rcases lst_cs hy with rfl | ⟨p, rfl, _⟩ <;> rfl
      refine bl_f ny ?_
      refine ⟨by decide, _, ty, ?_⟩
      refine bl_f rfl ?_
      refine ⟨by decide, _, tx, ?_⟩
      refine bl_f rfl ?_
      refine ⟨ln (n := 2) rfl (by decide), ?_⟩
      refine ⟨["int", "str"], rfl, by decide, _, ty, ?_⟩
      refine bl_f rfl ?_
      refine ⟨by decide, _, ty, ?_⟩
      refine ⟨by decide, _, tx, ?_⟩
      refine neB ?_
      refine bl_f rfl ?_
      refine ⟨by decide, _, ty, ?_⟩
      refine ⟨by decide, _, tx, ?_⟩
      refine neB ?_
      refine bl_f rfl ?_
      rcases lst_cs hx with rfl | ⟨p, rfl, hp⟩
      · rcases lst_cs hy with rfl | ⟨p', rfl, hp'⟩
        · refine eqI ?_
          refine bl_t (decide_eq_true (by omega)) ?_
          refine compD_map (xs := zipD xs ys) (S := fun M => lstOf M _ = some xs ∧ lstOf M _ = some ys) (fun K h => ⟨_, _, hx, hy, h⟩) (fun _ => .bl true) ⟨hx, hy⟩ (by rw [zip_len]; exact Nat.le_trans (by omega) big_ok) (fun d hd Q h => ?_) ?_
          · obtain ⟨i, a, b, e1, e2, rfl⟩ := zip_mem hd
            exact ⟨rfl, rfl, a, b, rfl, hs i a b e1 e2, h⟩
          · rw [all_bl]
            refine ⟨_, rfl, ?_⟩
            rw [all_tt]
            exact ⟨_, _, .same, q⟩
        · refine ⟨_, hy, ?_⟩
          refine eqI ?_
          refine bl_t (decide_eq_true (by omega)) ?_
          refine compD_map (xs := zipD xs ys) (S := fun M => lstOf M _ = some xs ∧ lstOf M _ = some ys) (fun K h => ⟨_, _, hx, hy, h⟩) (fun _ => .bl true) ⟨hx, hy⟩ (by rw [zip_len]; exact Nat.le_trans (by omega) big_ok) (fun d hd Q h => ?_) ?_
          · obtain ⟨i, a, b, e1, e2, rfl⟩ := zip_mem hd
            exact ⟨rfl, rfl, a, b, rfl, hs i a b e1 e2, h⟩
          · rw [all_bl]
            refine ⟨_, rfl, ?_⟩
            rw [all_tt]
            exact ⟨_, _, .same, q⟩
      · rcases lst_cs hy with rfl | ⟨p', rfl, hp'⟩
        · refine ⟨_, hx, ?_⟩
          refine eqI ?_
          refine bl_t (decide_eq_true (by omega)) ?_
          refine compD_map (xs := zipD xs ys) (S := fun M => lstOf M _ = some xs ∧ lstOf M _ = some ys) (fun K h => ⟨_, _, hx, hy, h⟩) (fun _ => .bl true) ⟨hx, hy⟩ (by rw [zip_len]; exact Nat.le_trans (by omega) big_ok) (fun d hd Q h => ?_) ?_
          · obtain ⟨i, a, b, e1, e2, rfl⟩ := zip_mem hd
            exact ⟨rfl, rfl, a, b, rfl, hs i a b e1 e2, h⟩
          · rw [all_bl]
            refine ⟨_, rfl, ?_⟩
            rw [all_tt]
            exact ⟨_, _, .same, q⟩
        · refine ⟨_, hx, _, hy, ?_⟩
          refine eqI ?_
          refine bl_t (decide_eq_true (by omega)) ?_
          refine compD_map (xs := zipD xs ys) (S := fun M => lstOf M _ = some xs ∧ lstOf M _ = some ys) (fun K h => ⟨_, _, hx, hy, h⟩) (fun _ => .bl true) ⟨hx, hy⟩ (by rw [zip_len]; exact Nat.le_trans (by omega) big_ok) (fun d hd Q h => ?_) ?_
          · obtain ⟨i, a, b, e1, e2, rfl⟩ := zip_mem hd
            exact ⟨rfl, rfl, a, b, rfl, hs i a b e1 e2, h⟩
          · rw [all_bl]
            refine ⟨_, rfl, ?_⟩
            rw [all_tt]
            exact ⟨_, _, .same, q⟩
    · refine bl_f rfl ?_
      refine ⟨by decide, "tuple", rfl, ?_⟩
      refine bl_f rfl ?_
      refine ⟨by decide, "tuple", rfl, ?_⟩
      refine bl_f rfl ?_
      refine ⟨ln (n := 2) rfl (by decide), ?_⟩
      refine ⟨["int", "str"], rfl, by decide, "tuple", rfl, ?_⟩
      refine bl_f rfl ?_
      refine ⟨by decide, "tuple", rfl, ?_⟩
      refine ⟨by decide, "tuple", rfl, ?_⟩
      refine neB ?_
      refine bl_f rfl ?_
      refine ⟨by decide, "tuple", rfl, ?_⟩
      refine ⟨by decide, "tuple", rfl, ?_⟩
      refine neB ?_
      refine bl_f rfl ?_
      refine eqI ?_
      refine bl_t (decide_eq_true (by omega)) ?_
      refine compD_map (xs := zipD xs ys) (S := fun _ => True) (fun K h => h) (fun _ => .bl true) trivial (by rw [zip_len]; exact Nat.le_trans (by omega) big_ok) (fun d hd Q h => ?_) ?_
      · obtain ⟨i, a, b, e1, e2, rfl⟩ := zip_mem hd
        exact ⟨rfl, rfl, a, b, rfl, hs i a b e1 e2, h⟩
      · rw [all_bl]
        refine ⟨_, rfl, ?_⟩
        rw [all_tt]
        exact ⟨_, _, .same, q⟩
def c_is_integer : Ct := fun ds M Ψ _ => ∃ d t, ds = [d] ∧ tyN M d = some t ∧ Ψ (.bl (isIn M d)) M
theorem ok_is_integer {f : Addr} {fd : FuncData} {dvs : List V} {kws : List (Str × V)} (T : Txt K mg)  (F : FnZ K "is_integer" "is_integer" s_is_integer dvs kws f fd) : FnOk P w K mg base (L2.CX P w) 2 f fd ["value"] (spC K ["value"].length (c_is_integer)) := by
  have hnd := sc_is_integer.nd
  refine fnD F sc_is_integer (c_is_integer) fun cdv A outer s H E B Ξ hr z => ⟨_, (dss_one (ds_ret (de_and (de_isi T.n_isinstance (da_cons (de_var (i := 0)) (da_cons (de_ty (n := "int") T.n_int (by decide +kernel)) da_nil))) (de_and1 (de_not (de_isi T.n_isinstance (da_cons (de_var (i := 0)) (da_cons (de_ty (n := "bool") T.n_bool (by decide +kernel)) da_nil)))))))), fun ds Ψ hl hc => ?_⟩
  obtain ⟨d, t, rfl, ht, q⟩ := hc
  refine ⟨by decide, t, ht, ?_⟩
  unfold isIn at q
  rw [ht] at q
  have h7 := tyN_ok ht
  simp only [okTy, List.mem_cons, List.not_mem_nil, or_false] at h7
  rcases h7 with rfl | rfl | rfl | rfl | rfl | rfl | rfl
  all_goals first
    | exact bl_f rfl ⟨_, _, .same, q⟩
    | exact bl_t rfl ⟨by decide, _, ht, bl_t rfl ⟨_, _, .same, q⟩⟩
    | exact bl_t rfl ⟨by decide, _, ht, bl_f rfl ⟨_, _, .same, q⟩⟩
def c_is_within : Ct := fun ds M Ψ _ => ∃ d t a b, ds = [d, .int a, .int b] ∧ tyN M d = some t ∧ Ψ (.bl (inB d a b)) M
theorem ok_is_within {f : Addr} {fd : FuncData} {dvs : List V} {kws : List (Str × V)} (T : Txt K mg) (h_is_integer : Gf P w K mg base "is_integer" 2 (c_is_integer) b_is_integer) (F : FnZ K "is_within" "is_within" s_is_within dvs kws f fd) : FnOk P w K mg base (L2.CX P w) 3 f fd ["value", "least", "most"] (spC K ["value", "least", "most"].length (c_is_within)) := by
  have hnd := sc_is_within.nd
  refine fnD F sc_is_within (c_is_within) fun cdv A outer s H E B Ξ hr z => ⟨_, (dss_one (ds_ret (de_and (de_call h_is_integer hr z (List.Mem.head _) (da_cons (de_var (i := 0)) da_nil)) (de_and1 (de_chain oc_le oc_le (de_var (i := 1)) (de_var (i := 0)) (de_var (i := 2))))))), fun ds Ψ hl hc => ?_⟩
  obtain ⟨d, t, a, b, rfl, ht, q⟩ := hc
  refine ⟨rfl, rfl, d, t, rfl, ht, ?_⟩
  by_cases e : t = "int"
  · subst e
    obtain ⟨i, rfl⟩ := ty_int ht
    refine bl_t (decide_eq_true ht) ?_
    by_cases h1 : a ≤ i
    · have e : inB (.int i) a b = decide (i ≤ b) := by show (decide (a ≤ i) && decide (i ≤ b)) = _; rw [decide_eq_true h1]; rfl
      refine bl_t (decide_eq_true h1) ?_
      refine bl_c (fun h2 => ?_) (fun h2 => ?_)
      · rw [e, show decide (i ≤ b) = true from h2] at q
        exact ⟨_, _, .same, q⟩
      · rw [e, show decide (i ≤ b) = false from h2] at q
        exact ⟨_, _, .same, q⟩
    · refine bl_f (decide_eq_false h1) ?_
      refine ⟨_, _, .same, ?_⟩
      have e : inB (.int i) a b = false := by show (decide (a ≤ i) && decide (i ≤ b)) = _; rw [decide_eq_false h1]; rfl
      rw [e] at q
      exact q
  · have e0 : isIn B.M d = false := decide_eq_false (by rw [ht]; simp [e])
    refine bl_f e0 ?_
    refine ⟨_, _, .same, ?_⟩
    have e2 : inB d a b = false := by
      cases d <;> first | rfl | (cases ht; exact absurd rfl e)
    rw [e2] at q
    exact q
def c_Row_turn_at (C : Addr) : Ct := fun ds M Ψ _ => ∃ (x y : List Nat) (i : Nat), ds = [row C x y, .int i] ∧ y ≠ [] ∧ x.length ≤ 20000 ∧ y.length ≤ 20000 ∧ Ψ (.str ⟨#[sq x y i]⟩) M
theorem ok_Row_turn_at {f : Addr} {fd : FuncData} {dvs : List V} {kws : List (Str × V)} (T : Txt K mg)  (F : FnZ K "turn_at" "Row.turn_at" s_Row_turn_at dvs kws f fd) : FnOk P w K mg base (L2.CX P w) 2 f fd ["self", "index"] (spC K ["self", "index"].length (c_Row_turn_at (He.ga K "Row"))) := by
  have hnd := sc_Row_turn_at.nd
  refine fnD F sc_Row_turn_at (c_Row_turn_at (He.ga K "Row")) fun cdv A outer s H E B Ξ hr z => ⟨_, (dss_cons (ds_asg (de_fld T.cl_Row T.na_Row_whole (de_var (i := 0))) (dg_tup rfl (dgs_cons (dg_name (i := 2) hnd) (dgs_cons (dg_name (i := 3) hnd) dgs_nil))))
    (dss_one (ds_ret (de_if (dt_lt (de_var (i := 1)) (de_len T.n_len (da_cons (de_var (i := 2)) da_nil))) (de_ix (de_var (i := 2)) (de_var (i := 1))) (de_ix (de_var (i := 3)) (de_fmod (de_sub (de_var (i := 1)) (de_len T.n_len (da_cons (de_var (i := 2)) da_nil))) (de_len T.n_len (da_cons (de_var (i := 3)) da_nil)))))))), fun ds Ψ hl hc => ?_⟩
  obtain ⟨x, y, i, rfl, hy, sx, sy, q⟩ := hc
  rw [show ent (["self", "index", "lead", "ring"] : List Str).length [row (He.ga K "Row") x y, .int i] = [some (row (He.ga K "Row") x y), some (.int i), none, none] from rfl]
  try dsimp only [List.set, getS_z, getS_s, bin2, bin2T, ltD, leD, gtD, geD, cmp_i, add_i, sub_i, min2_i, max2_i]
  have y0 : 0 < y.length := List.length_pos_iff.mpr hy
  refine ⟨rfl, fld_hd ⟨rfl, rfl, ?_⟩⟩
  try dsimp only [List.set, getS_z, getS_s, bin2, bin2T, ltD, leD, gtD, geD, cmp_i, add_i, sub_i, min2_i, max2_i]
  refine len_w (by omega) ?_
  refine bl_c (fun e => ?_) (fun e => ?_)
  · have e := of_decide_eq_true e
    have hi : i < x.length := by omega
    refine ite_t rfl ?_
    refine ix_w (by omega) hi ?_
    have : sq x y i = x.getD i 0 := by unfold sq; rw [if_pos hi]
    rw [this] at q
    exact ⟨_, _, .same, q⟩
  · have e := of_decide_eq_false e
    have hi : x.length ≤ i := by omega
    refine ite_f rfl ?_
    refine len_w (by omega) (sub_n hi (len_w (by omega) (fmod_n y0 ?_)))
    refine ix_w (by omega) (Nat.mod_lt _ y0) ?_
    have : sq x y i = y.getD ((i - x.length) % y.length) 0 := by unfold sq; rw [if_neg (by omega)]; rfl
    rw [this] at q
    exact ⟨_, _, .same, q⟩
def c_Row_beginning (C CC : Addr) : Ct := fun ds M Ψ Ξ => ∃ (x y : List Nat) (d : D), ds = [row C x y, d] ∧ y ≠ [] ∧ x.length ≤ 20000 ∧ y.length ≤ 20000 ∧ (∃ t, tyN M d = some t) ∧ (∀ n : Nat, d = .int n → n ≤ 4000 → Ψ (.str ⟨(beg x y n).toArray⟩) M) ∧ (inB d 0 4000 = false → Ξ (CC, [("given", d), ("tag", .str "InvalidCount")]) M)
theorem ok_Row_beginning {f : Addr} {fd : FuncData} {dvs : List V} {kws : List (Str × V)} (T : Txt K mg) (h_is_within : Gf P w K mg base "is_within" 3 (c_is_within) b_is_within) (h_Row_turn_at : Mf P w K mg base (He.ga K "Row") "turn_at" 2 (c_Row_turn_at (He.ga K "Row")) b_Row_turn_at) (x_InvalidCount : Xf P w K mg base "InvalidCount" (He.ga K "InvalidCount") 1 (tag2 "InvalidCount" "given")) (F : FnZ K "beginning" "Row.beginning" s_Row_beginning dvs kws f fd) : FnOk P w K mg base (L2.CX P w) 4 f fd ["self", "count"] (spC K ["self", "count"].length (c_Row_beginning (He.ga K "Row") (He.ga K "InvalidCount"))) := by
  have hnd := sc_Row_beginning.nd
  refine fnD F sc_Row_beginning (c_Row_beginning (He.ga K "Row") (He.ga K "InvalidCount")) fun cdv A outer s H E B Ξ hr z => ⟨_, (dss_cons (ds_if (dt_not (dt_val (de_call h_is_within hr z (List.Mem.head _) (da_cons (de_var (i := 1)) (da_cons de_int (da_cons (de_gint T.k_MOST_TURNS) da_nil)))))) (dss_one (ds_raise1 x_InvalidCount hr z rfl (da_cons (de_var (i := 1)) da_nil))) dss_nil)
    (dss_one (ds_ret (de_join de_str (de_lc rfl hnd (di_range1 T.n_range (da_cons (de_var (i := 1)) da_nil)) (blkOk_by (own := [("index", 2)]) (by rfl)) (tg_name (i := 2) (by decide)) (fun _ _ _ _ _ => (pg_name (i := 2) hnd rfl (by first | exact Or.inl rfl | exact Or.inr rfl) (by first | exact .inl rfl | exact .inr rfl))) (fun _ _ _ _ _ _ => dts_nil) (fun _ _ _ _ _ _ => (de_meth h_Row_turn_at T.cl_Row hr zx_blk (List.Mem.head _) (de_var (i := 0)) (da_cons (de_var (i := 2)) da_nil)))))))), fun ds Ψ hl hc => ?_⟩
  obtain ⟨x, y, d, rfl, hy, sx, sy, ⟨t, ht⟩, q1, q2⟩ := hc
  refine ⟨rfl, rfl, d, t, 0, 4000, rfl, ht, ?_⟩
  refine bl_c (fun e2 => ?_) (fun e => ?_)
  rotate_left
  · exact ⟨_, .same, q2 e⟩
  obtain ⟨i, rfl⟩ : ∃ i, d = .int i := by
    cases d <;> first | exact ⟨_, rfl⟩ | cases e2
  have e3 : 0 ≤ i ∧ i ≤ 4000 := by
    unfold inB at e2
    simpa using e2
  obtain ⟨n, rfl⟩ := Int.eq_ofNat_of_zero_le e3.1
  refine ite_f rfl ?_
  refine ⟨trivial, ?_⟩
  refine compD_map (xs := rngD 0 n) (S := fun _ => True) (fun K h => ⟨⟨by omega, by omega⟩, h⟩) (fun d => match d with | .int i => .str ⟨#[sq x y i.toNat]⟩ | _ => .non) trivial (by rw [rng_len]; exact Nat.le_trans (by omega) big_ok) (fun d hd Q q => ?_) ?_
  · unfold rngD at hd
    obtain ⟨i, hi, rfl⟩ := List.mem_map.mp hd
    refine ⟨rfl, no_w, rfl, rfl, x, y, i, by rw [show (0 : Int) + (i : Int) = (i : Int) by omega], hy, sx, sy, ?_⟩
    have : ((0 : Int) + (i : Int)).toNat = i := by omega
    rw [show (.str ⟨#[sq x y i]⟩ : D) = .str ⟨#[sq x y ((0 : Int) + (i : Int)).toNat]⟩ by rw [this]]
    exact q
  · have e1 : (rngD 0 n).map (fun d => match d with | .int i => .str ⟨#[sq x y i.toNat]⟩ | _ => .non) = (beg x y n).map fun c => D.str ⟨#[c]⟩ := by
      unfold rngD beg
      rw [List.map_map, List.map_map]
      refine List.map_congr_left fun i _ => ?_
      show D.str ⟨#[sq x y ((0 : Int) + (i : Int)).toNat]⟩ = _
      rw [show ((0 : Int) + (i : Int)).toNat = i by omega]
      rfl
    refine ⟨_, (beg x y n).map fun c => (⟨#[c]⟩ : Str), .inl rfl, by rw [e1]; exact strsD_chars _, ?_, ?_⟩
    · rw [chars_sum, List.length_map, beg_len]
      show _ + _ * 0 ≤ _
      omega
    · refine ⟨_, _, .same, ?_⟩
      show Ψ (.str (Txt.join Str.empty _)) _
      rw [join_chars]
      exact q1 n rfl (by omega)
def c_Row_turn (C CI : Addr) : Ct := fun ds M Ψ Ξ => ∃ (x y : List Nat) (d : D), ds = [row C x y, d] ∧ y ≠ [] ∧ x.length ≤ 20000 ∧ y.length ≤ 20000 ∧ (∃ t, tyN M d = some t) ∧ (∀ i : Nat, d = .int i → (i : Int) ≤ 1000000000000000000000000000000 → Ψ (.str ⟨#[sq x y i]⟩) M) ∧ (inB d 0 1000000000000000000000000000000 = false → Ξ (CI, [("given", d), ("tag", .str "InvalidIndex")]) M)
theorem ok_Row_turn {f : Addr} {fd : FuncData} {dvs : List V} {kws : List (Str × V)} (T : Txt K mg) (h_is_within : Gf P w K mg base "is_within" 3 (c_is_within) b_is_within) (h_Row_turn_at : Mf P w K mg base (He.ga K "Row") "turn_at" 2 (c_Row_turn_at (He.ga K "Row")) b_Row_turn_at) (x_InvalidIndex : Xf P w K mg base "InvalidIndex" (He.ga K "InvalidIndex") 1 (tag2 "InvalidIndex" "given")) (F : FnZ K "turn" "Row.turn" s_Row_turn dvs kws f fd) : FnOk P w K mg base (L2.CX P w) 4 f fd ["self", "index"] (spC K ["self", "index"].length (c_Row_turn (He.ga K "Row") (He.ga K "InvalidIndex"))) := by
  have hnd := sc_Row_turn.nd
  refine fnD F sc_Row_turn (c_Row_turn (He.ga K "Row") (He.ga K "InvalidIndex")) fun cdv A outer s H E B Ξ hr z => ⟨_, (dss_cons (ds_if (dt_not (dt_val (de_call h_is_within hr z (List.Mem.head _) (da_cons (de_var (i := 1)) (da_cons de_int (da_cons (de_gint T.k_FAR) da_nil)))))) (dss_one (ds_raise1 x_InvalidIndex hr z rfl (da_cons (de_var (i := 1)) da_nil))) dss_nil)
    (dss_one (ds_ret (de_meth h_Row_turn_at T.cl_Row hr z (List.Mem.head _) (de_var (i := 0)) (da_cons (de_var (i := 1)) da_nil))))), fun ds Ψ hl hc => ?_⟩
  obtain ⟨x, y, d, rfl, hy, sx, sy, ⟨t, ht⟩, q1, q2⟩ := hc
  refine ⟨rfl, rfl, d, t, 0, 1000000000000000000000000000000, rfl, ht, ?_⟩
  refine bl_c (fun e2 => ?_) (fun e => ?_)
  rotate_left
  · exact ⟨_, .same, q2 e⟩
  obtain ⟨i, rfl⟩ : ∃ i, d = .int i := by
    cases d <;> first | exact ⟨_, rfl⟩ | cases e2
  have e3 : 0 ≤ i ∧ i ≤ 1000000000000000000000000000000 := by
    unfold inB at e2
    simpa using e2
  obtain ⟨n, rfl⟩ := Int.eq_ofNat_of_zero_le e3.1
  refine ite_f rfl ?_
  exact ⟨rfl, no_w, rfl, rfl, x, y, n, rfl, hy, sx, sy, _, _, .same, q1 n rfl e3.2⟩
def c_Row_lead (C : Addr) : Ct := fun ds M Ψ _ => ∃ (x y : List Nat), ds = [row C x y] ∧ Ψ (.str ⟨x.toArray⟩) M
theorem ok_Row_lead {f : Addr} {fd : FuncData} {dvs : List V} {kws : List (Str × V)} (T : Txt K mg)  (F : FnZ K "lead" "Row.lead" s_Row_lead dvs kws f fd) : FnOk P w K mg base (L2.CX P w) 2 f fd ["self"] (spC K ["self"].length (c_Row_lead (He.ga K "Row"))) := by
  have hnd := sc_Row_lead.nd
  refine fnD F sc_Row_lead (c_Row_lead (He.ga K "Row")) fun cdv A outer s H E B Ξ hr z => ⟨_, (dss_one (ds_ret (de_ix (de_fld T.cl_Row T.na_Row_whole (de_var (i := 0))) de_int))), fun ds Ψ hl hc => ?_⟩
  obtain ⟨x, y, rfl, q⟩ := hc
  exact ⟨rfl, fld_hd ⟨_, _, .same, q⟩⟩
def c_Row_ring (C : Addr) : Ct := fun ds M Ψ _ => ∃ (x y : List Nat), ds = [row C x y] ∧ Ψ (.str ⟨y.toArray⟩) M
theorem ok_Row_ring {f : Addr} {fd : FuncData} {dvs : List V} {kws : List (Str × V)} (T : Txt K mg)  (F : FnZ K "ring" "Row.ring" s_Row_ring dvs kws f fd) : FnOk P w K mg base (L2.CX P w) 2 f fd ["self"] (spC K ["self"].length (c_Row_ring (He.ga K "Row"))) := by
  have hnd := sc_Row_ring.nd
  refine fnD F sc_Row_ring (c_Row_ring (He.ga K "Row")) fun cdv A outer s H E B Ξ hr z => ⟨_, (dss_one (ds_ret (de_ix (de_fld T.cl_Row T.na_Row_whole (de_var (i := 0))) de_int))), fun ds Ψ hl hc => ?_⟩
  obtain ⟨x, y, rfl, q⟩ := hc
  exact ⟨rfl, fld_hd ⟨_, _, .same, q⟩⟩
def c__law_told (C : Addr) : Ct := fun ds M Ψ _ => ∃ (x y : List Nat), ds = [row C x y] ∧ Ψ (.tup [.str ⟨x.toArray⟩, .str ⟨y.toArray⟩]) M
theorem ok__law_told {f : Addr} {fd : FuncData} {dvs : List V} {kws : List (Str × V)} (T : Txt K mg) (h_Row_lead : Pf P w K mg base (He.ga K "Row") "lead" 2 (c_Row_lead (He.ga K "Row"))) (h_Row_ring : Pf P w K mg base (He.ga K "Row") "ring" 2 (c_Row_ring (He.ga K "Row"))) (F : FnZ K "_law_told" "_law_told" s__law_told dvs kws f fd) : FnOk P w K mg base (L2.CX P w) 4 f fd ["_law_path"] (spC K ["_law_path"].length (c__law_told (He.ga K "Row"))) := by
  have hnd := sc__law_told.nd
  refine fnD F sc__law_told (c__law_told (He.ga K "Row")) fun cdv A outer s H E B Ξ hr z => ⟨_, (dss_one (ds_ret (de_tup (da_cons (de_prop h_Row_lead T.cl_Row hr (de_var (i := 0))) (da_cons (de_prop h_Row_ring T.cl_Row hr (de_var (i := 0))) da_nil))))), fun ds Ψ hl hc => ?_⟩
  obtain ⟨x, y, rfl, q⟩ := hc
  exact ⟨rfl, x, y, rfl, rfl, x, y, rfl, ln (n := 2) rfl (by decide), _, _, .same, q⟩
def c_Row_behind (C CC : Addr) : Ct := fun ds M Ψ Ξ => ∃ (x y : List Nat) (d : D), ds = [row C x y, d] ∧ y ≠ [] ∧ LR x ∧ LR y ∧ x.length ≤ 20000 ∧ y.length ≤ 20000 ∧ (∃ t, tyN M d = some t) ∧
  (∀ n : Nat, d = .int n → (n : Int) ≤ 1000000000000000000000000000000 → ∀ x' y', NR x' y' → (∀ i, sq x' y' i = sq x y (i + n)) → x'.length ≤ x.length → y'.length ≤ y.length → Ψ (row C x' y') M) ∧ (inB d 0 1000000000000000000000000000000 = false → Ξ (CC, [("given", d), ("tag", .str "InvalidCount")]) M)
theorem ok_Row_behind {f : Addr} {fd : FuncData} {dvs : List V} {kws : List (Str × V)} (T : Txt K mg) (h_is_within : Gf P w K mg base "is_within" 3 (c_is_within) b_is_within) (c_Row : Cf P w K mg base "Row" (He.ga K "Row") 4 (c_Rowd_initd (He.ga K "Row") (He.ga K "InvalidWord") (He.ga K "InvalidRing")) b_Rowd_initd) (x_InvalidCount : Xf P w K mg base "InvalidCount" (He.ga K "InvalidCount") 1 (tag2 "InvalidCount" "given")) (F : FnZ K "behind" "Row.behind" s_Row_behind dvs kws f fd) : FnOk P w K mg base (L2.CX P w) 6 f fd ["self", "count"] (spC K ["self", "count"].length (c_Row_behind (He.ga K "Row") (He.ga K "InvalidCount"))) := by
  have hnd := sc_Row_behind.nd
  refine fnD F sc_Row_behind (c_Row_behind (He.ga K "Row") (He.ga K "InvalidCount")) fun cdv A outer s H E B Ξ hr z => ⟨_, (dss_cons (ds_if (dt_not (dt_val (de_call h_is_within hr z (List.Mem.head _) (da_cons (de_var (i := 1)) (da_cons de_int (da_cons (de_gint T.k_FAR) da_nil)))))) (dss_one (ds_raise1 x_InvalidCount hr z rfl (da_cons (de_var (i := 1)) da_nil))) dss_nil)
    (dss_cons (ds_asg (de_fld T.cl_Row T.na_Row_whole (de_var (i := 0))) (dg_tup rfl (dgs_cons (dg_name (i := 2) hnd) (dgs_cons (dg_name (i := 3) hnd) dgs_nil))))
    (dss_cons (ds_if (dt_lt (de_var (i := 1)) (de_len T.n_len (da_cons (de_var (i := 2)) da_nil))) (dss_one (ds_ret (de_make c_Row hr z (List.Mem.head _) (da_cons (de_slice (de_var (i := 2)) (do_some (de_var (i := 1))) do_none) (da_cons (de_var (i := 3)) da_nil))))) dss_nil)
    (dss_cons (ds_set (i := 4) hnd (de_fmod (de_sub (de_var (i := 1)) (de_len T.n_len (da_cons (de_var (i := 2)) da_nil))) (de_len T.n_len (da_cons (de_var (i := 3)) da_nil))))
    (dss_one (ds_ret (de_make c_Row hr z (List.Mem.head _) (da_cons de_str (da_cons (de_add (de_slice (de_var (i := 3)) (do_some (de_var (i := 4))) do_none) (de_slice (de_var (i := 3)) do_none (do_some (de_var (i := 4))))) da_nil))))))))), fun ds Ψ hl hc => ?_⟩
  obtain ⟨x, y, d, rfl, hy, lx, ly, sx, sy, ⟨t, ht⟩, q1, q2⟩ := hc
  have y0 : 0 < y.length := List.length_pos_iff.mpr hy
  rw [show ent (["self", "count", "lead", "ring", "cut"] : List Str).length [row (He.ga K "Row") x y, d] = [some (row (He.ga K "Row") x y), some d, none, none, none] from rfl]
  try dsimp only [List.set, getS_z, getS_s, bin2, bin2T, ltD, leD, gtD, geD, cmp_i, add_i, sub_i, min2_i, max2_i]
  refine ⟨rfl, rfl, d, t, 0, 1000000000000000000000000000000, rfl, ht, ?_⟩
  refine bl_c (fun e2 => ?_) (fun e => ?_)
  rotate_left
  · exact ⟨_, .same, q2 e⟩
  obtain ⟨i, rfl⟩ : ∃ i, d = .int i := by
    cases d <;> first | exact ⟨_, rfl⟩ | cases e2
  have e3 : 0 ≤ i ∧ i ≤ 1000000000000000000000000000000 := by
    unfold inB at e2
    simpa using e2
  obtain ⟨n, rfl⟩ := Int.eq_ofNat_of_zero_le e3.1
  refine ite_f rfl ?_
  refine ⟨rfl, fld_hd ⟨rfl, rfl, ?_⟩⟩
  try dsimp only [List.set, getS_z, getS_s, bin2, bin2T, ltD, leD, gtD, geD, cmp_i, add_i, sub_i, min2_i, max2_i]
  refine len_w (by omega) ?_
  refine bl_c (fun e => ?_) (fun e => ?_)
  · have e := of_decide_eq_true e
    have hn : n < x.length := by omega
    refine ite_t rfl ?_
    refine inKI (sl_drop (by omega) ?_)
    refine ⟨rfl, rfl, fun p hp => ⟨p, x.drop n, y, rfl, updM_same, lx.drop n, ly, hy, by rw [List.length_drop]; omega, sy, fun x' y' nf h1 h2 => ⟨rfl, _, updM_updM, _, _, .same, q1 n rfl e3.2 x' y' nf.nr (fun i => by rw [nf.sq, sq_drop (by omega)]) (by rw [List.length_drop] at h1; omega) h2⟩⟩⟩
  · have e := of_decide_eq_false e
    have hn : x.length ≤ n := by omega
    have hm := Nat.mod_lt (n - x.length) y0
    refine ite_f rfl ?_
    refine len_w (by omega) (sub_n hn (len_w (by omega) (fmod_n y0 ?_)))
    try dsimp only [List.set, getS_z, getS_s, bin2, bin2T, ltD, leD, gtD, geD, cmp_i, add_i, sub_i, min2_i, max2_i]
    refine inKI (sl_drop (by omega) ?_)
    refine inKI (sl_take (by omega) ?_)
    refine add_w (by rw [List.length_drop]; omega) (by rw [List.length_take]; omega) ?_
    have el : (rotL ((n - x.length) % y.length) y).length = y.length := rotL_len (by omega)
    refine ⟨rfl, rfl, fun p hp => ⟨p, [], rotL ((n - x.length) % y.length) y, rfl, updM_same, (fun c hc => nomatch hc), ly.rot _, fun z => by rw [z] at el; simp at el; omega, by simp, by omega, fun x' y' nf h1 h2 => ⟨rfl, _, updM_updM, _, _, .same, q1 n rfl e3.2 x' y' nf.nr (fun i => by rw [nf.sq, sq_past y0 hn]) (by simp at h1; rw [h1]; exact Nat.zero_le _) (by omega)⟩⟩⟩
def c__law_field (K : PySem.W.Frag) (a : Addr) (x : XD) : Ct := fun ds M Ψ _ => ds = [.ref a] ∧ wfX K x fun _ v => Ψ v M
theorem ok__law_field {f : Addr} {fd : FuncData} {dvs : List V} {kws : List (Str × V)} (T : Txt K mg)  (F : FnZ K "_law_field" "_law_field" s__law_field dvs kws f fd) : FnP P w K mg base 1 f fd ["_law_e"] (c__law_field K) := by
  have hnd := sc__law_field.nd
  refine fnP F sc__law_field (c__law_field K) fun cdv A outer s H p y cls d B hu hz hf hx => ⟨_, (dss_cons (ds_if (dt_inU hu (de_xf (List.Mem.head _) hz hf hx (de_var (i := 0))) (de_tup (da_cons de_str (da_cons de_str (da_cons de_str (da_cons de_str (da_cons de_str (da_cons de_str (da_cons de_str da_nil))))))))) (dss_one (ds_ret (de_xf (List.Mem.head _) hz hf hx (de_var (i := 0))))) dss_nil)
    (dss_cons (ds_if (dt_inU hu (de_xf (List.Mem.head _) hz hf hx (de_var (i := 0))) (de_tup (da_cons de_str (da_cons de_str (da_cons de_str da_nil))))) (dss_one (ds_ret (de_xf (List.Mem.head _) hz hf hx (de_var (i := 0))))) dss_nil)
    (dss_cons (ds_if (dt_inU hu (de_xf (List.Mem.head _) hz hf hx (de_var (i := 0))) (de_tup (da_cons de_str (da_cons de_str (da_cons de_str da_nil))))) (dss_one (ds_ret (de_xf (List.Mem.head _) hz hf hx (de_var (i := 0))))) dss_nil)
    (dss_cons (ds_if (dt_inU hu (de_xf (List.Mem.head _) hz hf hx (de_var (i := 0))) (de_tup (da_cons de_str (da_cons de_str da_nil)))) (dss_one (ds_ret (de_if (dt_eqU hu (de_xf (List.Mem.head _) hz hf hx (de_var (i := 0))) de_str) (de_xf (List.Mem.head _) hz hf hx (de_var (i := 0))) (de_xf (List.Mem.head _) hz hf hx (de_var (i := 0)))))) dss_nil)
    (dss_cons (ds_if (dt_inU hu (de_xf (List.Mem.head _) hz hf hx (de_var (i := 0))) (de_tup (da_cons de_str (da_cons de_str da_nil)))) (dss_one (ds_ret (de_if (dt_eqU hu (de_xf (List.Mem.head _) hz hf hx (de_var (i := 0))) de_str) (de_xf (List.Mem.head _) hz hf hx (de_var (i := 0))) (de_xf (List.Mem.head _) hz hf hx (de_var (i := 0)))))) dss_nil)
    (dss_one (ds_ret (de_if (dt_eqU hu (de_xf (List.Mem.head _) hz hf hx (de_var (i := 0))) de_str) (de_xf (List.Mem.head _) hz hf hx (de_var (i := 0))) de_non)))))))), fun ds Ψ hl hc => ?_⟩
  obtain ⟨rfl, t, ht, hX, hT, hm⟩ := hc
  have tg : ∀ {φ : D → Prop}, φ (.str t) → (D.ref p.1 = .ref p.1 ∧ XfC K y.1 ∧ NoAttr K y.1 "tag" ∧ optK (y.2.lookup ("tag" : Str)) φ) := fun h => ⟨rfl, hX, hT, optK_of ht h⟩
  unfold fldN at hm
  refine tg ?_
  refine ⟨ln (n := 7) rfl (by decide), inS ["InvalidWord", "InvalidRing", "InvalidRoom", "InvalidCount", "InvalidIndex", "InvalidBound", "InvalidLimit"] ?_⟩
  refine bl_c (fun e => ?_) (fun e => ?_)
  · rw [if_pos (of_decide_eq_true e)] at hm
    obtain ⟨h1, v, h2, q⟩ := hm
    exact ⟨rfl, hX, h1, optK_of h2 ⟨_, _, .same, q⟩⟩
  rw [if_neg (of_decide_eq_false e)] at hm
  refine ite_f rfl ?_
  refine tg ?_
  refine ⟨ln (n := 3) rfl (by decide), inS ["TooLong", "TooGreat", "TooManyRooms"] ?_⟩
  refine bl_c (fun e => ?_) (fun e => ?_)
  · rw [if_pos (of_decide_eq_true e)] at hm
    obtain ⟨h1, v, h2, q⟩ := hm
    exact ⟨rfl, hX, h1, optK_of h2 ⟨_, _, .same, q⟩⟩
  rw [if_neg (of_decide_eq_false e)] at hm
  refine ite_f rfl ?_
  refine tg ?_
  refine ⟨ln (n := 3) rfl (by decide), inS ["InvalidName", "DuplicateName", "UnknownName"] ?_⟩
  refine bl_c (fun e => ?_) (fun e => ?_)
  · rw [if_pos (of_decide_eq_true e)] at hm
    obtain ⟨h1, v, h2, q⟩ := hm
    exact ⟨rfl, hX, h1, optK_of h2 ⟨_, _, .same, q⟩⟩
  rw [if_neg (of_decide_eq_false e)] at hm
  refine ite_f rfl ?_
  refine tg ?_
  refine ⟨ln (n := 2) rfl (by decide), inS ["InvalidProgram", "CapacityExceeded"] ?_⟩
  refine bl_c (fun e => ?_) (fun e => ?_)
  · refine ite_t rfl ?_
    refine tg (eqS ?_)
    refine bl_c (fun e2 => ?_) (fun e2 => ?_)
    · rw [if_pos (of_decide_eq_true e2)] at hm
      obtain ⟨h1, v, h2, q⟩ := hm
      exact ⟨rfl, hX, h1, optK_of h2 ⟨_, _, .same, q⟩⟩
    · have e2 := of_decide_eq_false e2
      have e3 : t = "CapacityExceeded" := by
        have := of_decide_eq_true e
        simp only [List.mem_cons, List.not_mem_nil, or_false] at this
        exact this.resolve_left e2
      rw [if_neg e2, if_pos e3] at hm
      obtain ⟨h1, v, h2, q⟩ := hm
      exact ⟨rfl, hX, h1, optK_of h2 ⟨_, _, .same, q⟩⟩
  have e1 := of_decide_eq_false e
  simp only [List.mem_cons, List.not_mem_nil, or_false, not_or] at e1
  rw [if_neg e1.1, if_neg e1.2] at hm
  refine ite_f rfl ?_
  refine tg ?_
  refine ⟨ln (n := 2) rfl (by decide), inS ["InvalidCommand", "InUse"] ?_⟩
  refine bl_c (fun e => ?_) (fun e => ?_)
  · refine ite_t rfl ?_
    refine tg (eqS ?_)
    refine bl_c (fun e2 => ?_) (fun e2 => ?_)
    · rw [if_pos (of_decide_eq_true e2)] at hm
      obtain ⟨h1, v, h2, q⟩ := hm
      exact ⟨rfl, hX, h1, optK_of h2 ⟨_, _, .same, q⟩⟩
    · have e2 := of_decide_eq_false e2
      have e3 : t = "InUse" := by
        have := of_decide_eq_true e
        simp only [List.mem_cons, List.not_mem_nil, or_false] at this
        exact this.resolve_left e2
      rw [if_neg e2, if_pos e3] at hm
      obtain ⟨h1, v, h2, q⟩ := hm
      exact ⟨rfl, hX, h1, optK_of h2 ⟨_, _, .same, q⟩⟩
  have e1 := of_decide_eq_false e
  simp only [List.mem_cons, List.not_mem_nil, or_false, not_or] at e1
  rw [if_neg e1.1, if_neg e1.2] at hm
  refine ite_f rfl ?_
  refine tg (eqS ?_)
  refine bl_c (fun e2 => ?_) (fun e2 => ?_)
  · rw [if_pos (of_decide_eq_true e2)] at hm
    obtain ⟨h1, v, h2, q⟩ := hm
    exact ⟨rfl, hX, h1, optK_of h2 ⟨_, _, .same, q⟩⟩
  · rw [if_neg (of_decide_eq_false e2)] at hm
    exact ⟨_, _, .same, hm⟩

theorem wk__law_why {f : Addr} {fd : FuncData} {k : Nat} (T : Txt K mg) (h__law_field : Hf P w K mg base "_law_field" (c__law_field K)) (hm : mg "_law_why" = some (.ref f)) (F : FnZ K "_law_why" "_law_why" s__law_why [] [] f fd) (hb : BindD K fd ["_law_ask"] (Z.pos 1)) (hk : 1 ≤ k) : WhyOk P w K mg base "_law_why" k := by
  have hnd := sc__law_why.nd
  refine ⟨f, fd, _, "_law_ask", "_law_why", s__law_why, hm, F.kp, F, sc__law_why, hb, fun cdv A outer s H E B q beh hr z act => ⟨_, (dss_cons (ds_set (i := 1) hnd (de_tup (da_cons de_str (da_cons de_non da_nil))))
    (dss_cons (ds_tryN rfl rfl hnd z (fun B1 pn xe Ξ' hS z => (dss_one (ds_set (i := 1) hnd (de_tup (da_cons de_str (da_cons (act _ _ _ _ _ _ _ rfl (.inl rfl) rfl rfl hS z) da_nil)))))) (.cons (i := 2) (test2 ⟨rfl, rfl, .inl T.gl_MillError⟩ ⟨rfl, rfl, .inl T.gl_Missing⟩) rfl rfl (fun a oe cls d pn B y hz hf hx => (dss_one (ds_set (i := 1) hnd (de_tup (da_cons (de_xf (List.Mem.head _) hz hf hx (de_var (i := 2))) (da_cons (de_callP h__law_field (L2H.roomH_of (hr.mono hk)) hz hf hx (da_cons (de_var (i := 2)) da_nil)) da_nil)))))) (.cons (i := 2) (test1 ⟨rfl, rfl, .inl T.gl_NothingLeft⟩) rfl rfl (fun a oe cls d pn B y hz hf hx => (dss_one (ds_set (i := 1) hnd (de_tup (da_cons (de_xf (List.Mem.head _) hz hf hx (de_var (i := 2))) (da_cons de_non da_nil)))))) .nil)))
    (dss_one (ds_ret (de_var (i := 1)))))), fun Ψ hc => ?_⟩⟩
  refine ⟨ln (n := 2) rfl (by decide), ?_⟩
  try dsimp only [List.set, getS_z, getS_s, bin2, bin2T, ltD, leD, gtD, geD, cmp_i, add_i, sub_i, min2_i, max2_i]
  refine ⟨rfl, whyΨ Ψ, whyΞ K Ψ, hc, fun d M' q => ⟨ln (n := 2) rfl (by decide), ?_⟩, fun x M' q => ?_⟩
  · try dsimp only [List.set, getS_z, getS_s, bin2, bin2T, ltD, leD, gtD, geD, cmp_i, add_i, sub_i, min2_i, max2_i]
    exact ⟨_, _, .same, q⟩
  · obtain ⟨b, hb, yes, no⟩ := q
    refine ⟨b, hb, fun e a na => ?_, fun e => ?_⟩
    · obtain ⟨t, ht, hX, hT, hm⟩ := yes e
      refine ⟨rfl, hX, hT, optK_of ht ⟨rfl, rfl, t, ht, hX, hT, ?_⟩⟩
      generalize fldN t = o at hm ⊢
      cases o with
      | none => exact ⟨ln (n := 2) rfl (by decide), _, _, .same, hm⟩
      | some n =>
        obtain ⟨h1, v, h2, q⟩ := hm
        exact ⟨h1, v, h2, ln (n := 2) rfl (by decide), _, _, .same, q⟩
    · obtain ⟨h1, t, ht, hX, hT, hm⟩ := no e
      refine ⟨true, h1, fun _ a na => ?_, fun z => nomatch z⟩
      exact ⟨rfl, hX, hT, optK_of ht ⟨ln (n := 2) rfl (by decide), _, _, .same, hm⟩⟩
section
variable {C CC : Addr} {x y : List Nat} {M : Sto} {Ψ : PD} {Ξ : XD → Sto → Prop} {n : Nat} {d : D}
theorem begC (hy : y ≠ []) (sx : x.length ≤ 20000) (sy : y.length ≤ 20000) (hn : n ≤ 4000) (q : Ψ (.str ⟨(beg x y n).toArray⟩) M) : c_Row_beginning C CC [row C x y, .int n] M Ψ Ξ :=
  ⟨x, y, .int n, rfl, hy, sx, sy, ⟨_, rfl⟩, fun m e _ => by
    have : n = m := Int.ofNat.inj (D.int.inj e)
    subst this
    exact q, fun z => by
    unfold inB at z
    simp at z
    omega⟩
theorem turnC (hy : y ≠ []) (sx : x.length ≤ 20000) (sy : y.length ≤ 20000) (hn : (n : Int) ≤ 1000000000000000000000000000000) (q : Ψ (.str ⟨#[sq x y n]⟩) M) : c_Row_turn C CC [row C x y, .int n] M Ψ Ξ :=
  ⟨x, y, .int n, rfl, hy, sx, sy, ⟨_, rfl⟩, fun m e _ => by
    have : n = m := Int.ofNat.inj (D.int.inj e)
    subst this
    exact q, fun z => by
    unfold inB at z
    simp at z
    omega⟩
theorem behC (hy : y ≠ []) (lx : LR x) (ly : LR y) (sx : x.length ≤ 20000) (sy : y.length ≤ 20000) (hn : (n : Int) ≤ 1000000000000000000000000000000) (q : ∀ x' y', NR x' y' → (∀ i, sq x' y' i = sq x y (i + n)) → x'.length ≤ x.length → y'.length ≤ y.length → Ψ (row C x' y') M) : c_Row_behind C CC [row C x y, .int n] M Ψ Ξ :=
  ⟨x, y, .int n, rfl, hy, lx, ly, sx, sy, ⟨_, rfl⟩, fun m e _ => by
    have : n = m := Int.ofNat.inj (D.int.inj e)
    subst this
    exact q, fun z => by
    unfold inB at z
    simp at z
    omega⟩
theorem begX (hy : y ≠ []) (sx : x.length ≤ 20000) (sy : y.length ≤ 20000) (ht : ∃ t, tyN M d = some t) (hd : inB d 0 4000 = false) (q : Ξ (CC, [("given", d), ("tag", .str "InvalidCount")]) M) : c_Row_beginning C CC [row C x y, d] M Ψ Ξ :=
  ⟨x, y, d, rfl, hy, sx, sy, ht, fun m e h => by
    rw [e] at hd
    unfold inB at hd
    simp at hd
    omega, fun _ => q⟩
theorem turnX (hy : y ≠ []) (sx : x.length ≤ 20000) (sy : y.length ≤ 20000) (ht : ∃ t, tyN M d = some t) (hd : inB d 0 1000000000000000000000000000000 = false) (q : Ξ (CC, [("given", d), ("tag", .str "InvalidIndex")]) M) : c_Row_turn C CC [row C x y, d] M Ψ Ξ :=
  ⟨x, y, d, rfl, hy, sx, sy, ht, fun m e h => by
    rw [e] at hd
    unfold inB at hd
    simp at hd
    omega, fun _ => q⟩
theorem behX (hy : y ≠ []) (lx : LR x) (ly : LR y) (sx : x.length ≤ 20000) (sy : y.length ≤ 20000) (ht : ∃ t, tyN M d = some t) (hd : inB d 0 1000000000000000000000000000000 = false) (q : Ξ (CC, [("given", d), ("tag", .str "InvalidCount")]) M) : c_Row_behind C CC [row C x y, d] M Ψ Ξ :=
  ⟨x, y, d, rfl, hy, lx, ly, sx, sy, ht, fun m e h => by
    rw [e] at hd
    unfold inB at hd
    simp at hd
    omega, fun _ => q⟩
end
theorem mk_row {C CW CI : Addr} {a r : List Nat} {e : En} {M : Sto} {Ψ : PD} {Ξ : XD → En → Sto → Prop} (h : NR a r) (la : LR a) (lr : LR r) (sa : a.length ≤ 20000) (sr : r.length ≤ 20000) (q : Ψ (row C a r) M) : mkD 2 0 (fun ds _ => ds) C (c_Rowd_initd C CW CI) Ξ [.str ⟨a.toArray⟩, .str ⟨r.toArray⟩] [] e M Ψ := by
  refine ⟨rfl, rfl, fun p hp => ⟨p, a, r, rfl, updM_same, la, lr, h.prim.1, sa, sr, fun x y nf _ _ => ?_⟩⟩
  obtain ⟨e1, e2⟩ := nr_uniq nf.nr h nf.sq
  subst e1 e2
  exact ⟨rfl, _, updM_updM, q⟩
/-- a value that is no index -/
structure OddF (b : Int) (d : D) : Prop where
  no : inB d 0 b = false
  ty : ∀ M, ∃ t, tyN M d = some t
  sm : ∀ M n, Same M (n + 1) d d
def c_law (P : Addr) : Ct := fun ds M Ψ _ => ∃ ns, ds = [scr ns] ∧ ns.length ≤ 63 ∧ M P = some (.tab "law.<locals>.<lambda>") ∧ ∀ M', Ψ (.bl true) M'
theorem ok_law {f : Addr} {fd : FuncData} {dvs : List V} {kws : List (Str × V)} (T : Txt K mg) (h__law_hand : Gf P w K mg base "_law_hand" 2 (c__law_hand) b__law_hand) (h__law_line : Gf P w K mg base "_law_line" 6 (c__law_line) b__law_line) (h__law_row : Gf P w K mg base "_law_row" 6 (c__law_row (He.ga K "Row")) b__law_row) (h__law_pick : Gf P w K mg base "_law_pick" 2 (c__law_pick) b__law_pick) (h__law_begin : Gf P w K mg base "_law_begin" 2 (c__law_begin) b__law_begin) (h__law_same : Gf P w K mg base "_law_same" 5 (c__law_same 4) b__law_same) (h_Row_beginning : Mf P w K mg base (He.ga K "Row") "beginning" 4 (c_Row_beginning (He.ga K "Row") (He.ga K "InvalidCount")) b_Row_beginning) (h_Row_turn : Mf P w K mg base (He.ga K "Row") "turn" 4 (c_Row_turn (He.ga K "Row") (He.ga K "InvalidIndex")) b_Row_turn) (h__law_normal : Gf P w K mg base "_law_normal" 2 (c__law_normal) b__law_normal) (h__law_told : Gf P w K mg base "_law_told" 4 (c__law_told (He.ga K "Row")) b__law_told) (h_Row_behind : Mf P w K mg base (He.ga K "Row") "behind" 6 (c_Row_behind (He.ga K "Row") (He.ga K "InvalidCount")) b_Row_behind) (h__law_of : Gf P w K mg base "_law_of" 3 (c__law_of) b__law_of) (c_Row : Cf P w K mg base "Row" (He.ga K "Row") 4 (c_Rowd_initd (He.ga K "Row") (He.ga K "InvalidWord") (He.ga K "InvalidRing")) b_Rowd_initd) (W__law_why : WhyOk P w K mg base "_law_why" 6) (TB : LamX.TabB base mg (codA K f) (tabA K f)) (F : FnZ K "law" "law" s_law dvs kws f fd) : FnOk P w K mg base (L2.CX P w) 9 f fd ["_law_script"] (spC K ["_law_script"].length (c_law (tabA K f))) := by
  have hnd := sc_law.nd
  refine fnDT F sc_law (c_law (tabA K f)) fun cdv A outer s H E B Ξ hcd hr z => ⟨_, (dss_cons (ds_set (i := 1) hnd (de_call h__law_hand hr z (List.Mem.head _) (da_cons (de_var (i := 0)) da_nil)))
    (dss_cons (ds_for z.po rfl (di_range1 T.n_range (da_cons de_int da_nil)) (dg_name (i := 2) hnd) (dss_cons (ds_set (i := 3) hnd (de_call h__law_line hr z (List.Mem.head _) (da_cons (de_var (i := 1)) (da_cons de_int da_nil))))
    (dss_cons (ds_asg (de_tup (da_cons (de_call h__law_row hr z (List.Mem.head _) (da_cons (de_var (i := 3)) da_nil)) (da_cons (de_call h__law_pick hr z (List.Mem.head _) (da_cons (de_var (i := 1)) (da_cons de_int da_nil))) da_nil))) (dg_tup rfl (dgs_cons (dg_name (i := 4) hnd) (dgs_cons (dg_name (i := 5) hnd) dgs_nil))))
    (dss_cons (ds_set (i := 6) hnd (de_call h__law_begin hr z (List.Mem.head _) (da_cons (de_var (i := 3)) (da_cons (de_var (i := 5)) da_nil))))
    (dss_cons (ds_if (dt_not (dt_val (de_call h__law_same hr z (List.Mem.head _) (da_cons (de_lst (da_cons (de_meth h_Row_beginning T.cl_Row hr z (List.Mem.head _) (de_var (i := 4)) (da_cons (de_var (i := 5)) da_nil)) (da_cons (de_methK0 h_Row_beginning T.cl_Row hr z (List.Mem.tail _ (List.Mem.head _)) (de_var (i := 4)) (dk_cons (de_var (i := 5)) dk_nil)) (da_cons (de_lc rfl hnd (di_range1 T.n_range (da_cons (de_var (i := 5)) da_nil)) (blkOk_by (own := [("_law_k", 17)]) (by rfl)) (tg_name (i := 17) (by decide)) (fun _ _ _ _ _ => (pg_name (i := 17) hnd rfl (by first | exact Or.inl rfl | exact Or.inr rfl) (by first | exact .inl rfl | exact .inr rfl))) (fun _ _ _ _ _ _ => dts_nil) (fun _ _ _ _ _ _ => (de_meth h_Row_turn T.cl_Row hr zx_blk (List.Mem.head _) (de_var (i := 4)) (da_cons (de_var (i := 17)) da_nil)))) da_nil)))) (da_cons (de_lst (da_cons (de_var (i := 6)) (da_cons (de_var (i := 6)) (da_cons (de_listS rfl T.n_list (da_cons (de_var (i := 6)) da_nil)) da_nil)))) da_nil))))) (dss_one (ds_ret de_bl)) dss_nil)
    (dss_cons (ds_set (i := 7) hnd (de_sub (de_pow de_int de_int) (de_call h__law_pick hr z (List.Mem.head _) (da_cons (de_var (i := 1)) (da_cons (de_pow de_int de_int) da_nil)))))
    (dss_cons (ds_set (i := 8) hnd (de_len T.n_len (da_cons (de_ix (de_var (i := 3)) de_int) da_nil)))
    (dss_cons (ds_set (i := 9) hnd (de_ix (de_ix (de_var (i := 3)) de_int) (de_fmod (de_int1 T.n_int (da_cons (de_sub (de_var (i := 7)) (de_len T.n_len (da_cons (de_ix (de_var (i := 3)) de_int) da_nil))) da_nil)) (de_var (i := 8)))))
    (dss_cons (ds_set (i := 10) hnd (de_fmod (de_int1 T.n_int (da_cons (de_sub (de_var (i := 7)) (de_len T.n_len (da_cons (de_ix (de_var (i := 3)) de_int) da_nil))) da_nil)) (de_var (i := 8))))
    (dss_cons (ds_set (i := 11) hnd (de_call h__law_normal hr z (List.Mem.head _) (da_cons de_str (da_cons (de_add (de_slice (de_ix (de_var (i := 3)) de_int) (do_some (de_var (i := 10))) do_none) (de_slice (de_ix (de_var (i := 3)) de_int) do_none (do_some (de_var (i := 10))))) da_nil))))
    (dss_cons (ds_if (dt_not (dt_val (de_call h__law_same hr z (List.Mem.head _) (da_cons (de_lst (da_cons (de_meth h_Row_turn T.cl_Row hr z (List.Mem.head _) (de_var (i := 4)) (da_cons (de_var (i := 7)) da_nil)) (da_cons (de_methK0 h_Row_turn T.cl_Row hr z (List.Mem.tail _ (List.Mem.head _)) (de_var (i := 4)) (dk_cons (de_var (i := 7)) dk_nil)) (da_cons (de_call h__law_told hr z (List.Mem.head _) (da_cons (de_meth h_Row_behind T.cl_Row hr z (List.Mem.head _) (de_var (i := 4)) (da_cons (de_var (i := 7)) da_nil)) da_nil)) da_nil)))) (da_cons (de_lst (da_cons (de_var (i := 9)) (da_cons (de_var (i := 9)) (da_cons (de_var (i := 11)) da_nil)))) da_nil))))) (dss_one (ds_ret de_bl)) dss_nil)
    (dss_cons (ds_set (i := 12) hnd (de_methK0 h_Row_behind T.cl_Row hr z (List.Mem.tail _ (List.Mem.head _)) (de_var (i := 4)) (dk_cons (de_var (i := 5)) dk_nil)))
    (dss_cons (ds_if (dw_or (dt_ne hr (de_meth h_Row_beginning T.cl_Row hr z (List.Mem.head _) (de_var (i := 12)) (da_cons de_int da_nil)) (de_slice (de_call h__law_begin hr z (List.Mem.head _) (da_cons (de_var (i := 3)) (da_cons (de_add (de_var (i := 5)) de_int) da_nil))) (do_some (de_var (i := 5))) do_none)) (dw_or1 (dt_ne hr (de_call h__law_told hr z (List.Mem.head _) (da_cons (de_var (i := 4)) da_nil)) (de_var (i := 3))))).pt (dss_one (ds_ret de_bl)) dss_nil)
    (dss_cons (ds_asg (de_tup (da_cons (de_call h__law_of hr z (List.Mem.head _) (da_cons (de_var (i := 1)) (da_cons (de_lst (da_cons (de_neg de_int) (da_cons (de_add (de_pow de_int de_int) de_int) (da_cons de_non (da_cons de_bl (da_cons de_str da_nil)))))) da_nil))) (da_cons (de_call h__law_of hr z (List.Mem.head _) (da_cons (de_var (i := 1)) (da_cons (de_lst (da_cons (de_neg de_int) (da_cons de_int (da_cons de_non (da_cons de_bl (da_cons de_str da_nil)))))) da_nil))) da_nil))) (dg_tup rfl (dgs_cons (dg_name (i := 13) hnd) (dgs_cons (dg_name (i := 14) hnd) dgs_nil))))
    (dss_cons (ds_set (i := 15) hnd (de_lst (da_cons (de_lam (q := "law.<locals>.<lambda>") TB hcd ⟨rfl, rfl, lamF_by rfl⟩ rfl) (da_cons (de_lam1 (q := "law.<locals>.<lambda>") TB hcd ⟨rfl, rfl, lamF_by rfl⟩ rfl) (da_cons (de_lam1 (q := "law.<locals>.<lambda>") TB hcd ⟨rfl, rfl, lamF_by rfl⟩ rfl) da_nil)))))
    (dss_one (ds_if (dt_not (dt_val (de_call h__law_same hr z (List.Mem.head _) (da_cons (de_lcW W__law_why hr rfl hnd (di_list (de_var (i := 15))) (blkOk_by (own := [("_law_ask", 16)]) (by rfl)) (tg_name (i := 16) (by decide)) (fun _ _ _ _ _ => (pg_name (i := 16) hnd rfl (by first | exact Or.inl rfl | exact Or.inr rfl) (by first | exact .inl rfl | exact .inr rfl))) (fun _ _ _ _ _ _ => dts_nil) (fun _ _ _ _ _ _ => (da_cons (de_var (i := 16)) da_nil))) (da_cons (de_lst (da_cons (de_tup (da_cons de_str (da_cons (de_var (i := 13)) da_nil))) (da_cons (de_tup (da_cons de_str (da_cons (de_var (i := 13)) da_nil))) (da_cons (de_tup (da_cons de_str (da_cons (de_var (i := 14)) da_nil))) da_nil)))) da_nil))))) (dss_one (ds_ret de_bl)) dss_nil)))))))))))))))))
    (dss_one (ds_ret (de_and (de_eq hr (de_meth h_Row_beginning T.cl_Row hr z (List.Mem.head _) (de_make c_Row hr z (List.Mem.head _) (da_cons de_str (da_cons de_str da_nil))) (da_cons de_int da_nil)) (de_mulS de_str de_int)) (de_and1 (de_eq hr (de_meth h_Row_turn T.cl_Row hr z (List.Mem.head _) (de_make c_Row hr z (List.Mem.head _) (da_cons de_str (da_cons de_str da_nil))) (da_cons (de_pow de_int de_int) da_nil)) de_str))))))), fun ds Ψ hl hc => ?_⟩
  obtain ⟨ns, rfl, hl, hM, q⟩ := hc
  refine ⟨rfl, rfl, ns, rfl, hl, fun p h hp hc0 hi0 => ?_⟩
  have h0 : HandAt (updM B.M p (hd h)) p := ⟨h, updM_same, hc0, hi0⟩
  have nP : tabA K f ≠ p := fun z => by rw [z, hp] at hM; cases hM
  have t0 : updM B.M p (hd h) (tabA K f) = some (.tab "law.<locals>.<lambda>") := by rw [updM_ne nP]; exact hM
  try dsimp only [List.set, getS_z, getS_s, bin2, bin2T, ltD, leD, gtD, geD, cmp_i, add_i, sub_i, min2_i, max2_i]
  refine forD_n (xs := rngD 0 8) (S := fun _ => True) (fun K h => ⟨⟨by decide, by decide⟩, h⟩) (fun i r M' => HandAt M' p ∧ M' (tabA K f) = some (.tab "law.<locals>.<lambda>") ∧ ∃ o2 o3 o4 o5 o6 o7 o8 o9 o10 o11 o12 o13 o14 o15 o16 o17, r = [some (scr ns), some (.ref p), o2, o3, o4, o5, o6, o7, o8, o9, o10, o11, o12, o13, o14, o15, o16, o17]) ⟨h0, t0, _, _, _, _, _, _, _, _, _, _, _, _, _, _, _, _, rfl⟩ (fun _ _ _ _ => trivial) (fun i d r M' hd' hI => ?_) (fun r M' hI => ?_)
  · obtain ⟨hh, tM, o2, o3, o4, o5, o6, o7, o8, o9, o10, o11, o12, o13, o14, o15, o16, o17, rfl⟩ := hI
    try dsimp only [List.set, getS_z, getS_s, bin2, bin2T, ltD, leD, gtD, geD, cmp_i, add_i, sub_i, min2_i, max2_i]
    refine ⟨rfl, rfl, p, 6, rfl, hh, by decide, by decide, fun x y M1 lw d1 => ?_⟩
    have hy := lw.nr.prim.1
    have y0 := lw.nr.prim.pos
    have sx : x.length ≤ 20000 := Nat.le_trans lw.sx (by decide)
    have sy : y.length ≤ 20000 := Nat.le_trans lw.sy (by decide)
    have sx6 := lw.sx
    have sy8 := lw.sy
    try dsimp only [List.set, getS_z, getS_s, bin2, bin2T, ltD, leD, gtD, geD, cmp_i, add_i, sub_i, min2_i, max2_i]
    refine ⟨rfl, rfl, x, y, rfl, lw.nr, lw.lx, lw.ly, sx, sy, ?_⟩
    refine ⟨rfl, rfl, p, 40, rfl, d1.1, by decide, by decide, fun k M2 k0 k1 d2 => ?_⟩
    have d2 := d1.trans d2
    obtain ⟨n, rfl⟩ := Int.eq_ofNat_of_zero_le k0
    refine ⟨ln (n := 2) rfl (by decide), rfl, rfl, ?_⟩
    try dsimp only [List.set, getS_z, getS_s, bin2, bin2T, ltD, leD, gtD, geD, cmp_i, add_i, sub_i, min2_i, max2_i]
    refine ⟨rfl, rfl, x, y, n, rfl, hy, sx, sy, by omega, ?_⟩
    try dsimp only [List.set, getS_z, getS_s, bin2, bin2T, ltD, leD, gtD, geD, cmp_i, add_i, sub_i, min2_i, max2_i]
    refine ⟨rfl, no_w, rfl, rfl, begC hy sx sy (by omega) ?_⟩
    refine ⟨rfl, no_w, rfl, rfl, begC hy sx sy (by omega) ?_⟩
    refine compD_map (xs := rngD 0 n) (S := fun _ => True) (fun K h => ⟨⟨by omega, by omega⟩, h⟩) (tAt x y) trivial (by rw [rng_len]; exact Nat.le_trans (by omega) big_ok) (fun d hd Q q => ?_) ?_
    · unfold rngD at hd
      obtain ⟨i, hi, rfl⟩ := List.mem_map.mp hd
      have e0 : (0 : Int) + (i : Int) = (i : Int) := by omega
      rw [e0] at q ⊢
      have hi := List.mem_range.mp hi
      exact ⟨rfl, no_w, rfl, rfl, turnC hy sx sy (by omega) q⟩
    rw [rng_beg]
    refine ⟨ln (n := 3) rfl (by decide), listS_w (by rw [beg_len]; omega) ⟨ln (n := 3) rfl (by decide), ?_⟩⟩
    refine ⟨rfl, rfl, _, _, rfl, Same.l (.cons (.s _) (.cons (.s _) (.cons (Same.l (sameL_signs _) (by rw [List.length_map, beg_len]; omega)) .nil))) (show 3 ≤ 1000000 by decide), ?_⟩
    refine bl_t rfl ?_
    refine ite_f rfl ?_
    have cp : ∀ n : Int, 0 ≤ n → n ≤ 64 → CPow 10 n := fun n h0 h1 => ⟨by omega, by omega, by decide⟩
    refine ⟨cp 30 (by decide) (by decide), cp 6 (by decide) (by decide), ?_⟩
    try dsimp only [List.set, getS_z, getS_s, bin2, bin2T, ltD, leD, gtD, geD, cmp_i, add_i, sub_i, min2_i, max2_i]
    refine ⟨rfl, rfl, p, _, rfl, d2.1, by decide, by decide, fun k' M3 k0' k1' d3 => ?_⟩
    have d3 := d2.trans d3
    try dsimp only [List.set, getS_z, getS_s, bin2, bin2T, ltD, leD, gtD, geD, cmp_i, add_i, sub_i, min2_i, max2_i]
    obtain ⟨Fa, hF⟩ : ∃ Fa : Nat, (10 : Int) ^ Int.toNat 30 - k' = (Fa : Int) := ⟨((10 : Int) ^ Int.toNat 30 - k').toNat, by
      have : (10 : Int) ^ Int.toNat 30 = 1000000000000000000000000000000 := by decide
      have : (10 : Int) ^ Int.toNat 6 = 1000000 := by decide
      omega⟩
    have hF1 : (Fa : Int) ≤ 1000000000000000000000000000000 := by
      have : (10 : Int) ^ Int.toNat 30 = 1000000000000000000000000000000 := by decide
      omega
    have hF0 : x.length ≤ Fa := by
      have : (10 : Int) ^ Int.toNat 30 = 1000000000000000000000000000000 := by decide
      have : (10 : Int) ^ Int.toNat 6 = 1000000 := by decide
      omega
    rw [hF]
    have hm := Nat.mod_lt (Fa - x.length) y0
    have eF : sq x y Fa = y.getD ((Fa - x.length) % y.length) 0 := by unfold sq; rw [if_neg (by omega)]; rfl
    have bX : x.length ≤ 400000 := by omega
    have bY : y.length ≤ 400000 := by omega
    refine ix_t rfl (len_w bY (ix_t rfl (ix_t rfl ?_)))
    refine len_w bX (sub_n hF0 (int_i (fmod_n y0 ?_)))
    refine ix_w bY hm (ix_t rfl ?_)
    refine len_w bX (sub_n hF0 (int_i (fmod_n y0 ?_)))
    refine ix_t rfl ?_
    refine inKI (sl_drop bY (ix_t rfl ?_))
    refine inKI (sl_take bY ?_)
    refine add_w (by rw [List.length_drop]; omega) (by rw [List.length_take]; omega) ?_
    try dsimp only [List.set, getS_z, getS_s, bin2, bin2T, ltD, leD, gtD, geD, cmp_i, add_i, sub_i, min2_i, max2_i]
    rw [← eF]
    have el : (rotL ((Fa - x.length) % y.length) y).length = y.length := rotL_len (by omega)
    refine ⟨rfl, rfl, [], rotL ((Fa - x.length) % y.length) y, rfl, fun z => by rw [z] at el; simp at el; omega, by simp, by omega, fun x' y' nf _ _ => ?_⟩
    try dsimp only [List.set, getS_z, getS_s, bin2, bin2T, ltD, leD, gtD, geD, cmp_i, add_i, sub_i, min2_i, max2_i]
    refine ⟨rfl, no_w, rfl, rfl, turnC hy sx sy hF1 ?_⟩
    refine ⟨rfl, no_w, rfl, rfl, turnC hy sx sy hF1 ?_⟩
    refine ⟨rfl, no_w, rfl, rfl, behC hy lw.lx lw.ly sx sy hF1 fun x2 y2 nr2 sq2 _ _ => ?_⟩
    obtain ⟨e1, e2⟩ := nr_uniq nr2 nf.nr fun i => by rw [sq2, nf.sq, sq_past y0 hF0]
    subst e1 e2
    refine ⟨rfl, rfl, x2, y2, rfl, ln (n := 3) rfl (by decide), ln (n := 3) rfl (by decide), ?_⟩
    refine ⟨rfl, rfl, _, _, rfl, Same.l (.cons (.s _) (.cons (.s _) (.cons (Same.t (.cons (.s _) (.cons (.s _) .nil)) (show 2 ≤ 1000000 by decide)) .nil))) (show 3 ≤ 1000000 by decide), ?_⟩
    refine bl_t rfl ?_
    refine ite_f rfl ?_
    refine ⟨rfl, no_w, rfl, rfl, behC hy lw.lx lw.ly sx sy (by omega) fun x3 y3 nr3 sq3 g1 g2 => ?_⟩
    try dsimp only [List.set, getS_z, getS_s, bin2, bin2T, ltD, leD, gtD, geD, cmp_i, add_i, sub_i, min2_i, max2_i]
    refine ⟨rfl, no_w, rfl, rfl, begC (n := 30) nr3.prim.1 (by omega) (by omega) (by decide) ?_⟩
    refine ⟨rfl, rfl, x, y, n + 30, rfl, hy, sx, sy, by omega, ?_⟩
    refine inKI (sl_drop (by rw [beg_len]; omega) ?_)
    have eb : beg x3 y3 30 = (beg x y (n + 30)).drop n := by
      refine list_ext (by rw [List.length_drop, beg_len, beg_len]; omega) fun i hi => ?_
      rw [beg_len] at hi
      rw [getD_drop, beg_get hi, beg_get (by omega), sq3, Nat.add_comm]
    refine ne_w ?_
    refine bl_f (by rw [eb]; simp) ?_
    refine ite_f rfl ?_
    refine ⟨rfl, rfl, x, y, rfl, ?_⟩
    refine ne_ss lw.lx lw.ly lw.lx lw.ly ?_
    refine bl_f (by simp) ?_
    refine ite_f rfl ?_
    refine ⟨cp 30 (by decide) (by decide), ln (n := 5) rfl (by decide), ?_⟩
    refine ⟨rfl, rfl, p, _, _, rfl, d3.1, rfl, (show 0 < 5 by decide), (show 5 ≤ 1000000 by decide), fun u M4 hu d4 => ?_⟩
    have d4 := d3.trans d4
    have hu : OddF 1000000000000000000000000000000 u := by
      simp only [List.mem_cons, List.not_mem_nil, or_false] at hu
      rcases hu with rfl | rfl | rfl | rfl | rfl
      · exact ⟨by decide, fun _ => ⟨_, rfl⟩, fun M n => .i _⟩
      · exact ⟨by decide, fun _ => ⟨_, rfl⟩, fun M n => .i _⟩
      · exact ⟨rfl, fun _ => ⟨_, rfl⟩, fun M n => .no⟩
      · exact ⟨rfl, fun _ => ⟨_, rfl⟩, fun M n => .b _⟩
      · exact ⟨rfl, fun _ => ⟨_, rfl⟩, fun M n => .s _⟩
    refine ⟨ln (n := 5) rfl (by decide), ?_⟩
    refine ⟨rfl, rfl, p, _, _, rfl, d4.1, rfl, (show 0 < 5 by decide), (show 5 ≤ 1000000 by decide), fun v M5 hv d5 => ?_⟩
    have d5 := d4.trans d5
    have hv : OddF 4000 v := by
      simp only [List.mem_cons, List.not_mem_nil, or_false] at hv
      rcases hv with rfl | rfl | rfl | rfl | rfl
      · exact ⟨by decide, fun _ => ⟨_, rfl⟩, fun M n => .i _⟩
      · exact ⟨by decide, fun _ => ⟨_, rfl⟩, fun M n => .i _⟩
      · exact ⟨rfl, fun _ => ⟨_, rfl⟩, fun M n => .no⟩
      · exact ⟨rfl, fun _ => ⟨_, rfl⟩, fun M n => .b _⟩
      · exact ⟨rfl, fun _ => ⟨_, rfl⟩, fun M n => .s _⟩
    refine ⟨ln (n := 2) rfl (by decide), rfl, rfl, ?_⟩
    try dsimp only [List.set, getS_z, getS_s, bin2, bin2T, ltD, leD, gtD, geD, cmp_i, add_i, sub_i, min2_i, max2_i]
    have t5 : M5 (tabA K f) = some (.tab "law.<locals>.<lambda>") := by rw [d5.2 _ nP]; exact tM
    refine ⟨t5, t5, t5, ln (n := 3) rfl (by decide), ?_⟩
    try dsimp only [List.set, getS_z, getS_s, bin2, bin2T, ltD, leD, gtD, geD, cmp_i, add_i, sub_i, min2_i, max2_i]
    refine compD_two (fun K h => ⟨_, rfl, h⟩) rfl (ln (n := 3) rfl (by decide)) (ys := [.tup [.str "InvalidIndex", u], .tup [.str "InvalidCount", u], .tup [.str "InvalidCount", v]]) ?_ ?_
    · generalize (some (D.lst [D.fn _, D.fn _, D.fn _])) = oL
      refine .cons (fun Q q => ?_) (.cons (fun Q q => ?_) (.cons (fun Q q => ?_) .nil))
      · refine whyD_of (ps := []) ⟨rfl, rfl, lamF_by rfl⟩ (lamT_by rfl (.inl ⟨rfl, fun _ _ _ => rfl⟩)) rfl (fun A outer s H E f c' B Ξ hr z => (de_meth h_Row_turn T.cl_Row hr z (List.Mem.head _) (de_var (i := 4)) (da_cons (de_var (i := 13)) da_nil))) ?_
        dsimp only [wipeD, List.map, List.set]
        try dsimp only [List.set, getS_z, getS_s, bin2, bin2T, ltD, leD, gtD, geD, cmp_i, add_i, sub_i, min2_i, max2_i]
        exact ⟨rfl, no_w, rfl, rfl, turnX hy sx sy (hu.ty _) hu.no (why_of (t := "InvalidIndex") T.wy_InvalidIndex rfl (by decide) rfl q)⟩
      · refine whyD_of (ps := ["_law_a_z"]) ⟨rfl, rfl, lamF_by rfl⟩ (lamT_by rfl (.inr ⟨List.cons_ne_nil _ _, fun T pm cv ctv its h => match its, h with | [_], _ => ⟨_, rfl, rfl⟩⟩)) rfl (fun A outer s H E f c' B Ξ hr z => (de_meth h_Row_behind T.cl_Row hr z (List.Mem.head _) (de_var (i := 4)) (da_cons (de_var (i := 13)) da_nil))) ?_
        dsimp only [wipeD, List.map, List.set]
        try dsimp only [List.set, getS_z, getS_s, bin2, bin2T, ltD, leD, gtD, geD, cmp_i, add_i, sub_i, min2_i, max2_i]
        exact ⟨rfl, no_w, rfl, rfl, behX hy lw.lx lw.ly sx sy (hu.ty _) hu.no (why_of (t := "InvalidCount") T.wy_InvalidCount rfl (by decide) rfl q)⟩
      · refine whyD_of (ps := ["_law_b_z"]) ⟨rfl, rfl, lamF_by rfl⟩ (lamT_by rfl (.inr ⟨List.cons_ne_nil _ _, fun T pm cv ctv its h => match its, h with | [_], _ => ⟨_, rfl, rfl⟩⟩)) rfl (fun A outer s H E f c' B Ξ hr z => (de_meth h_Row_beginning T.cl_Row hr z (List.Mem.head _) (de_var (i := 4)) (da_cons (de_var (i := 14)) da_nil))) ?_
        dsimp only [wipeD, List.map, List.set]
        try dsimp only [List.set, getS_z, getS_s, bin2, bin2T, ltD, leD, gtD, geD, cmp_i, add_i, sub_i, min2_i, max2_i]
        exact ⟨rfl, no_w, rfl, rfl, begX hy sx sy (hv.ty _) hv.no (why_of (t := "InvalidCount") T.wy_InvalidCount rfl (by decide) rfl q)⟩
    refine ⟨ln (n := 2) rfl (by decide), ln (n := 2) rfl (by decide), ln (n := 2) rfl (by decide), ln (n := 3) rfl (by decide), ?_⟩
    refine ⟨rfl, rfl, _, _, rfl, Same.l (.cons (Same.t (.cons (.s _) (.cons (hu.sm _ _) .nil)) (show 2 ≤ 1000000 by decide)) (.cons (Same.t (.cons (.s _) (.cons (hu.sm _ _) .nil)) (show 2 ≤ 1000000 by decide)) (.cons (Same.t (.cons (.s _) (.cons (hv.sm _ _) .nil)) (show 2 ≤ 1000000 by decide)) .nil))) (show 3 ≤ 1000000 by decide), ?_⟩
    refine bl_t rfl ?_
    refine ite_f rfl ?_
    exact .of ⟨d5.1, t5, _, _, _, _, _, _, _, _, _, _, _, _, _, _, _, _, rfl⟩
  · obtain ⟨hh, tM, o2, o3, o4, o5, o6, o7, o8, o9, o10, o11, o12, o13, o14, o15, o16, o17, rfl⟩ := hI
    try dsimp only [List.set, getS_z, getS_s, bin2, bin2T, ltD, leD, gtD, geD, cmp_i, add_i, sub_i, min2_i, max2_i]
    have eRL : ("RL" : Str) = ⟨[82, 76].toArray⟩ := by decide +kernel
    have eR : ("R" : Str) = ⟨[82].toArray⟩ := by decide +kernel
    have eL : ("L" : Str) = ⟨[76].toArray⟩ := by decide +kernel
    have l82 : LR [82] := fun c hc => .inr (by simpa using hc)
    have l76 : LR [76] := fun c hc => .inl (by simpa using hc)
    have n1 : NR [] [82, 76] := ⟨prim_of (by simp) fun k k0 k1 => by
      have : k = 1 := by
        have : k < 2 := k1
        omega
      subst this
      exact ⟨0, by decide⟩, .inl rfl⟩
    have n2 : NR [76] [82] := ⟨prim_of (by simp) fun k k0 k1 => by
      have : k < 1 := k1
      omega, .inr (by decide)⟩
    rw [eRL, eR, eL]
    refine mk_row (a := []) n1 (fun c hc => nomatch hc) (LR.app (w := [82]) (u := [76]) l82 l76) (by decide) (by decide) ?_
    refine ⟨rfl, no_w, rfl, rfl, begC (n := 4000) (by simp) (by decide) (by decide) (by decide) ?_⟩
    refine mul_w (k := 2000) (by decide) (by decide) (by decide) ?_
    refine eq_w ?_
    refine bl_t (decide_eq_true (list_ext (by rw [beg_len, flat_len]; rfl) fun i hi => ?_)) ?_
    · rw [beg_len] at hi
      rw [beg_get hi, flat_get _ _ (by show i < 2000 * 2; omega)]
      unfold sq cyc
      rw [if_neg (by simp)]
      rfl
    refine ite_t rfl ?_
    refine mk_row n2 l76 l82 (by decide) (by decide) ?_
    refine ⟨rfl, no_w, ⟨by decide, by decide, by decide⟩, ?_⟩
    refine ⟨rfl, rfl, turnC (n := 1000000000000000000000000000000) (by simp) (by decide) (by decide) (by decide) ?_⟩
    have e : sq [76] [82] 1000000000000000000000000000000 = 82 := by
      unfold sq cyc
      rw [if_neg (by decide)]
      rfl
    rw [e, one_w]
    refine eq_w ?_
    rw [decide_eq_true rfl]
    exact ⟨_, _, .same, q _⟩
end
def fn : List DefZ := [⟨.g "_law_hand", "_law_hand", "_law_hand", s__law_hand, [], []⟩,
  ⟨.g "_law_pick", "_law_pick", "_law_pick", s__law_pick, [], []⟩,
  ⟨.g "_law_of", "_law_of", "_law_of", s__law_of, [], []⟩,
  ⟨.g "_law_word", "_law_word", "_law_word", s__law_word, [], []⟩,
  ⟨.g "_law_some", "_law_some", "_law_some", s__law_some, [], []⟩,
  ⟨.g "_law_normal", "_law_normal", "_law_normal", s__law_normal, [], []⟩,
  ⟨.g "_law_line", "_law_line", "_law_line", s__law_line, [], []⟩,
  ⟨.g "is_word", "is_word", "is_word", s_is_word, [], []⟩,
  ⟨.g "check_word", "check_word", "check_word", s_check_word, [], []⟩,
  ⟨.g "least_ring", "least_ring", "least_ring", s_least_ring, [], []⟩,
  ⟨.mt "Row" "__init__", "__init__", "Row.__init__", s_Rowd_initd, [], []⟩,
  ⟨.g "_law_row", "_law_row", "_law_row", s__law_row, [], []⟩,
  ⟨.g "_law_begin", "_law_begin", "_law_begin", s__law_begin, [], []⟩,
  ⟨.g "_law_same", "_law_same", "_law_same", s__law_same, [], []⟩,
  ⟨.g "is_integer", "is_integer", "is_integer", s_is_integer, [], []⟩,
  ⟨.g "is_within", "is_within", "is_within", s_is_within, [], []⟩,
  ⟨.mt "Row" "turn_at", "turn_at", "Row.turn_at", s_Row_turn_at, [], []⟩,
  ⟨.mt "Row" "beginning", "beginning", "Row.beginning", s_Row_beginning, [], []⟩,
  ⟨.mt "Row" "turn", "turn", "Row.turn", s_Row_turn, [], []⟩,
  ⟨.pr "Row" "lead", "lead", "Row.lead", s_Row_lead, [], []⟩,
  ⟨.pr "Row" "ring", "ring", "Row.ring", s_Row_ring, [], []⟩,
  ⟨.g "_law_told", "_law_told", "_law_told", s__law_told, [], []⟩,
  ⟨.mt "Row" "behind", "behind", "Row.behind", s_Row_behind, [], []⟩,
  ⟨.g "_law_field", "_law_field", "_law_field", s__law_field, [], []⟩,
  ⟨.g "_law_why", "_law_why", "_law_why", s__law_why, [], []⟩,
  ⟨.g "law", "law", "law", s_law, [], []⟩,
  ⟨.mt "InvalidCount" "__init__", "__init__", "InvalidCount.__init__", s_InvalidCount, [], []⟩,
  ⟨.mt "InvalidIndex" "__init__", "__init__", "InvalidIndex.__init__", s_InvalidIndex, [], []⟩,
  ⟨.mt "InvalidRing" "__init__", "__init__", "InvalidRing.__init__", s_InvalidRing, [], []⟩,
  ⟨.mt "InvalidWord" "__init__", "__init__", "InvalidWord.__init__", s_InvalidWord, [], []⟩]
def fa : List FF := [isF (.free "range"),
  isF (.cls "Row"),
  isF (.free "list"),
  isF (.free "len"),
  isF (.free "int"),
  isF (.glo "NothingLeft"),
  isF (.glo "MillError"),
  isF (.glo "Missing"),
  isF (.int "MOST_TURNS" 4000),
  isF (.noat "Row" "whole"),
  isF (.free "isinstance"),
  isF (.free "bool"),
  isF (.int "FAR" 1000000000000000000000000000000),
  isF (.free "all"),
  isF (.str "TURNS" "LR"),
  isF (.free "str"),
  isF (.free "tuple"),
  isF (.free "zip"),
  whyF "InvalidIndex" (some "given"),
  whyF "InvalidCount" (some "given"),
  isF (.glo "law"),
  excF "InvalidCount",
  isF (.glo "InvalidCount"),
  isF (.meth "InvalidCount" "__init__"),
  isF (.noat "InvalidCount" "tag"),
  isF (.noat "InvalidCount" "given"),
  excF "InvalidIndex",
  isF (.glo "InvalidIndex"),
  isF (.meth "InvalidIndex" "__init__"),
  isF (.noat "InvalidIndex" "tag"),
  isF (.noat "InvalidIndex" "given"),
  excF "InvalidRing",
  isF (.glo "InvalidRing"),
  isF (.meth "InvalidRing" "__init__"),
  isF (.noat "InvalidRing" "tag"),
  isF (.noat "InvalidRing" "given"),
  excF "InvalidWord",
  isF (.glo "InvalidWord"),
  isF (.meth "InvalidWord" "__init__"),
  isF (.noat "InvalidWord" "tag"),
  isF (.noat "InvalidWord" "given"),
  isF (.glo "_law_hand"),
  isF (.glo "_law_pick"),
  isF (.glo "_law_of"),
  isF (.glo "_law_word"),
  isF (.glo "_law_some"),
  isF (.glo "_law_normal"),
  isF (.glo "_law_line"),
  isF (.glo "is_word"),
  isF (.glo "check_word"),
  isF (.glo "least_ring"),
  isF (.glo "Row"),
  isF (.mkr "Row"),
  isF (.glo "_law_row"),
  isF (.glo "_law_begin"),
  isF (.glo "_law_same"),
  isF (.glo "is_integer"),
  isF (.glo "is_within"),
  isF (.meth "Row" "turn_at"),
  isF (.meth "Row" "beginning"),
  isF (.meth "Row" "turn"),
  prF "Row" "lead",
  prF "Row" "ring",
  isF (.glo "_law_told"),
  isF (.meth "Row" "behind"),
  isF (.glo "_law_field"),
  isF (.glo "_law_why")]
def ts : Tbs := [(.g "law", "law.<locals>.<lambda>")]
theorem all {l : PySem.W.OpenLaw} {w : World} {K : PySem.W.Frag} {h : Heap} {mg : Str → Option Value} {f : Addr} (KX : K.In h) (G : h.Ns mainGlobals mg) (hfa : mg ("law" : Str) = some (.ref f)) (c : SaysZ fa fn K) (TZ : TabZ ts K h) : LamX.LawAtS l w K (L2.CX l.prog w) 9 63 "_law_script" mg f h := by
  have T : Txt K mg := {n_range := He.free_ok KX G (c.fact 0), cl_Row := He.cls_ok (c.fact 1), n_list := He.free_ok KX G (c.fact 2), n_len := He.free_ok KX G (c.fact 3), n_int := He.free_ok KX G (c.fact 4), gl_NothingLeft := He.glo_ok KX G (c.fact 5), gl_MillError := He.glo_ok KX G (c.fact 6), gl_Missing := He.glo_ok KX G (c.fact 7), k_MOST_TURNS := He.int_ok KX G (c.fact 8), na_Row_whole := He.noat_ok (c.fact 9), n_isinstance := He.free_ok KX G (c.fact 10), n_bool := He.free_ok KX G (c.fact 11), k_FAR := He.int_ok KX G (c.fact 12), n_all := He.free_ok KX G (c.fact 13), k_TURNS := He.str_ok KX G (c.fact 14), n_str := He.free_ok KX G (c.fact 15), n_tuple := He.free_ok KX G (c.fact 16), n_zip := He.free_ok KX G (c.fact 17), wy_InvalidIndex := whyF_ok (c.fact 18), wy_InvalidCount := whyF_ok (c.fact 19)}
  obtain ⟨fd__law_hand, F__law_hand⟩ := c.def_ 0 (by rfl)
  obtain ⟨fd__law_pick, F__law_pick⟩ := c.def_ 1 (by rfl)
  obtain ⟨fd__law_of, F__law_of⟩ := c.def_ 2 (by rfl)
  obtain ⟨fd__law_word, F__law_word⟩ := c.def_ 3 (by rfl)
  obtain ⟨fd__law_some, F__law_some⟩ := c.def_ 4 (by rfl)
  obtain ⟨fd__law_normal, F__law_normal⟩ := c.def_ 5 (by rfl)
  obtain ⟨fd__law_line, F__law_line⟩ := c.def_ 6 (by rfl)
  obtain ⟨fd_is_word, F_is_word⟩ := c.def_ 7 (by rfl)
  obtain ⟨fd_check_word, F_check_word⟩ := c.def_ 8 (by rfl)
  obtain ⟨fd_least_ring, F_least_ring⟩ := c.def_ 9 (by rfl)
  obtain ⟨fd_Rowd_initd, F_Rowd_initd⟩ := c.def_ 10 (by rfl)
  obtain ⟨fd__law_row, F__law_row⟩ := c.def_ 11 (by rfl)
  obtain ⟨fd__law_begin, F__law_begin⟩ := c.def_ 12 (by rfl)
  obtain ⟨fd__law_same, F__law_same⟩ := c.def_ 13 (by rfl)
  obtain ⟨fd_is_integer, F_is_integer⟩ := c.def_ 14 (by rfl)
  obtain ⟨fd_is_within, F_is_within⟩ := c.def_ 15 (by rfl)
  obtain ⟨fd_Row_turn_at, F_Row_turn_at⟩ := c.def_ 16 (by rfl)
  obtain ⟨fd_Row_beginning, F_Row_beginning⟩ := c.def_ 17 (by rfl)
  obtain ⟨fd_Row_turn, F_Row_turn⟩ := c.def_ 18 (by rfl)
  obtain ⟨fd_Row_lead, F_Row_lead⟩ := c.def_ 19 (by rfl)
  obtain ⟨fd_Row_ring, F_Row_ring⟩ := c.def_ 20 (by rfl)
  obtain ⟨fd__law_told, F__law_told⟩ := c.def_ 21 (by rfl)
  obtain ⟨fd_Row_behind, F_Row_behind⟩ := c.def_ 22 (by rfl)
  obtain ⟨fd__law_field, F__law_field⟩ := c.def_ 23 (by rfl)
  obtain ⟨fd__law_why, F__law_why⟩ := c.def_ 24 (by rfl)
  obtain ⟨fd_law, F_law⟩ := c.def_ 25 (by rfl)
  obtain ⟨fd_InvalidCount, F_InvalidCount⟩ := c.def_ 26 (by rfl)
  obtain ⟨fd_InvalidIndex, F_InvalidIndex⟩ := c.def_ 27 (by rfl)
  obtain ⟨fd_InvalidRing, F_InvalidRing⟩ := c.def_ 28 (by rfl)
  obtain ⟨fd_InvalidWord, F_InvalidWord⟩ := c.def_ 29 (by rfl)
  have e0 := hfa.symm.trans (He.glo_ok KX G (c.fact 20))
  cases e0
  refine law_atT (c := c_law (tabA K (He.ga K "law"))) (fd := fd_law) (ts := ts) KX TZ (fun s u => FunD.bindsA (ps := ["_law_script"]) F_law (fun _ _ _ _ _ _ us h => match us, h with | [_], _ => rfl) s [u] rfl) (fun base _ _ TBs => ?_) (fun ns hl _ => ⟨ns, rfl, hl, tabM_at TZ.nd (t := (.g "law", "law.<locals>.<lambda>")) (by simp [ts]), fun _ => rfl⟩)
  have m_InvalidCount := methF_ok (c.fact 23)
  have x_InvalidCount : Xf l.prog w K mg base "InvalidCount" (He.ga K "InvalidCount") 1 (tag2 "InvalidCount" "given") := ⟨excF_ok (c.fact 21), He.glo_ok KX G (c.fact 22), _, fd_InvalidCount, _, m_InvalidCount.at_, beq_iff_eq.mp m_InvalidCount.fn, (x1_ok (fun_of F_InvalidCount) (excF_ok (c.fact 21)) (He.noat_ok (c.fact 24)) (He.noat_ok (c.fact 25)) rfl rfl sc_InvalidCount rfl rfl (by decide) (by decide)), (FunD.bindsN F_InvalidCount (fun _ _ _ _ _ _ us h => match us, h with | [_, _], _ => rfl)), rfl⟩
  have m_InvalidIndex := methF_ok (c.fact 28)
  have x_InvalidIndex : Xf l.prog w K mg base "InvalidIndex" (He.ga K "InvalidIndex") 1 (tag2 "InvalidIndex" "given") := ⟨excF_ok (c.fact 26), He.glo_ok KX G (c.fact 27), _, fd_InvalidIndex, _, m_InvalidIndex.at_, beq_iff_eq.mp m_InvalidIndex.fn, (x1_ok (fun_of F_InvalidIndex) (excF_ok (c.fact 26)) (He.noat_ok (c.fact 29)) (He.noat_ok (c.fact 30)) rfl rfl sc_InvalidIndex rfl rfl (by decide) (by decide)), (FunD.bindsN F_InvalidIndex (fun _ _ _ _ _ _ us h => match us, h with | [_, _], _ => rfl)), rfl⟩
  have m_InvalidRing := methF_ok (c.fact 33)
  have x_InvalidRing : Xf l.prog w K mg base "InvalidRing" (He.ga K "InvalidRing") 1 (tag2 "InvalidRing" "given") := ⟨excF_ok (c.fact 31), He.glo_ok KX G (c.fact 32), _, fd_InvalidRing, _, m_InvalidRing.at_, beq_iff_eq.mp m_InvalidRing.fn, (x1_ok (fun_of F_InvalidRing) (excF_ok (c.fact 31)) (He.noat_ok (c.fact 34)) (He.noat_ok (c.fact 35)) rfl rfl sc_InvalidRing rfl rfl (by decide) (by decide)), (FunD.bindsN F_InvalidRing (fun _ _ _ _ _ _ us h => match us, h with | [_, _], _ => rfl)), rfl⟩
  have m_InvalidWord := methF_ok (c.fact 38)
  have x_InvalidWord : Xf l.prog w K mg base "InvalidWord" (He.ga K "InvalidWord") 1 (tag2 "InvalidWord" "given") := ⟨excF_ok (c.fact 36), He.glo_ok KX G (c.fact 37), _, fd_InvalidWord, _, m_InvalidWord.at_, beq_iff_eq.mp m_InvalidWord.fn, (x1_ok (fun_of F_InvalidWord) (excF_ok (c.fact 36)) (He.noat_ok (c.fact 39)) (He.noat_ok (c.fact 40)) rfl rfl sc_InvalidWord rfl rfl (by decide) (by decide)), (FunD.bindsN F_InvalidWord (fun _ _ _ _ _ _ us h => match us, h with | [_, _], _ => rfl)), rfl⟩
  have h__law_hand : Gf l.prog w K mg base "_law_hand" 2 (c__law_hand) b__law_hand := gf_mk (He.glo_ok KX G (c.fact 41)) F__law_hand (ok__law_hand T F__law_hand) (all_cons (bind0 F__law_hand 1 rfl (fun _ _ _ _ _ _ us h => match us, h with | [_], _ => rfl)) all_nil)
  have h__law_pick : Gf l.prog w K mg base "_law_pick" 2 (c__law_pick) b__law_pick := gf_mk (He.glo_ok KX G (c.fact 42)) F__law_pick (ok__law_pick T F__law_pick) (all_cons (bind0 F__law_pick 2 rfl (fun _ _ _ _ _ _ us h => match us, h with | [_, _], _ => rfl)) all_nil)
  have h__law_of : Gf l.prog w K mg base "_law_of" 3 (c__law_of) b__law_of := gf_mk (He.glo_ok KX G (c.fact 43)) F__law_of (ok__law_of T h__law_pick F__law_of) (all_cons (bind0 F__law_of 2 rfl (fun _ _ _ _ _ _ us h => match us, h with | [_, _], _ => rfl)) all_nil)
  have h__law_word : Gf l.prog w K mg base "_law_word" 4 (c__law_word) b__law_word := gf_mk (He.glo_ok KX G (c.fact 44)) F__law_word (ok__law_word T h__law_pick h__law_of F__law_word) (all_cons (bind0 F__law_word 2 rfl (fun _ _ _ _ _ _ us h => match us, h with | [_, _], _ => rfl)) all_nil)
  have h__law_some : Gf l.prog w K mg base "_law_some" 5 (c__law_some) b__law_some := gf_mk (He.glo_ok KX G (c.fact 45)) F__law_some (ok__law_some T h__law_of h__law_word F__law_some) (all_cons (bind0 F__law_some 2 rfl (fun _ _ _ _ _ _ us h => match us, h with | [_, _], _ => rfl)) all_nil)
  have h__law_normal : Gf l.prog w K mg base "_law_normal" 2 (c__law_normal) b__law_normal := gf_mk (He.glo_ok KX G (c.fact 46)) F__law_normal (ok__law_normal T F__law_normal) (all_cons (bind0 F__law_normal 2 rfl (fun _ _ _ _ _ _ us h => match us, h with | [_, _], _ => rfl)) all_nil)
  have h__law_line : Gf l.prog w K mg base "_law_line" 6 (c__law_line) b__law_line := gf_mk (He.glo_ok KX G (c.fact 47)) F__law_line (ok__law_line T h__law_of h__law_some h__law_word h__law_normal F__law_line) (all_cons (bind0 F__law_line 2 rfl (fun _ _ _ _ _ _ us h => match us, h with | [_, _], _ => rfl)) all_nil)
  have h_is_word : Gf l.prog w K mg base "is_word" 2 (c_is_word) b_is_word := gf_mk (He.glo_ok KX G (c.fact 48)) F_is_word (ok_is_word T F_is_word) (all_cons (bind0 F_is_word 1 rfl (fun _ _ _ _ _ _ us h => match us, h with | [_], _ => rfl)) all_nil)
  have h_check_word : Gf l.prog w K mg base "check_word" 3 (c_check_word (He.ga K "InvalidWord")) b_check_word := gf_mk (He.glo_ok KX G (c.fact 49)) F_check_word (ok_check_word T h_is_word x_InvalidWord F_check_word) (all_cons (bind0 F_check_word 1 rfl (fun _ _ _ _ _ _ us h => match us, h with | [_], _ => rfl)) all_nil)
  have h_least_ring : Gf l.prog w K mg base "least_ring" 2 (c_least_ring) b_least_ring := gf_mk (He.glo_ok KX G (c.fact 50)) F_least_ring (ok_least_ring T F_least_ring) (all_cons (bind0 F_least_ring 1 rfl (fun _ _ _ _ _ _ us h => match us, h with | [_], _ => rfl)) all_nil)
  have c_Row : Cf l.prog w K mg base "Row" (He.ga K "Row") 4 (c_Rowd_initd (He.ga K "Row") (He.ga K "InvalidWord") (He.ga K "InvalidRing")) b_Rowd_initd := cf_mk (He.glo_ok KX G (c.fact 51)) (mkrF_ok (c.fact 52)) (ok_Rowd_initd T h_check_word h_is_word h_least_ring x_InvalidRing F_Rowd_initd) (all_cons (bind0 F_Rowd_initd 3 rfl (fun _ _ _ _ _ _ us h => match us, h with | [_, _, _], _ => rfl)) all_nil)
  have h__law_row : Gf l.prog w K mg base "_law_row" 6 (c__law_row (He.ga K "Row")) b__law_row := gf_mk (He.glo_ok KX G (c.fact 53)) F__law_row (ok__law_row T c_Row F__law_row) (all_cons (bind0 F__law_row 1 rfl (fun _ _ _ _ _ _ us h => match us, h with | [_], _ => rfl)) all_nil)
  have h__law_begin : Gf l.prog w K mg base "_law_begin" 2 (c__law_begin) b__law_begin := gf_mk (He.glo_ok KX G (c.fact 54)) F__law_begin (ok__law_begin T F__law_begin) (all_cons (bind0 F__law_begin 2 rfl (fun _ _ _ _ _ _ us h => match us, h with | [_, _], _ => rfl)) all_nil)
  have h__law_same_0 : Gf l.prog w K mg base "_law_same" 1 (c__law_same 0) b__law_same := gf_mk (ps := ["_law_found", "_law_due"]) (He.glo_ok KX G (c.fact 55)) F__law_same (fn_no no__law_same) (all_cons (bind0 F__law_same 2 rfl (fun _ _ _ _ _ _ us h => match us, h with | [_, _], _ => rfl)) all_nil)
  have h__law_same_1 : Gf l.prog w K mg base "_law_same" 2 (c__law_same 1) b__law_same := gf_mk (He.glo_ok KX G (c.fact 55)) F__law_same (ok__law_same T h__law_same_0 F__law_same) (all_cons (bind0 F__law_same 2 rfl (fun _ _ _ _ _ _ us h => match us, h with | [_, _], _ => rfl)) all_nil)
  have h__law_same_2 : Gf l.prog w K mg base "_law_same" 3 (c__law_same 2) b__law_same := gf_mk (He.glo_ok KX G (c.fact 55)) F__law_same (ok__law_same T h__law_same_1 F__law_same) (all_cons (bind0 F__law_same 2 rfl (fun _ _ _ _ _ _ us h => match us, h with | [_, _], _ => rfl)) all_nil)
  have h__law_same_3 : Gf l.prog w K mg base "_law_same" 4 (c__law_same 3) b__law_same := gf_mk (He.glo_ok KX G (c.fact 55)) F__law_same (ok__law_same T h__law_same_2 F__law_same) (all_cons (bind0 F__law_same 2 rfl (fun _ _ _ _ _ _ us h => match us, h with | [_, _], _ => rfl)) all_nil)
  have h__law_same_4 : Gf l.prog w K mg base "_law_same" 5 (c__law_same 4) b__law_same := gf_mk (He.glo_ok KX G (c.fact 55)) F__law_same (ok__law_same T h__law_same_3 F__law_same) (all_cons (bind0 F__law_same 2 rfl (fun _ _ _ _ _ _ us h => match us, h with | [_, _], _ => rfl)) all_nil)
  have h__law_same := h__law_same_4
  have h_is_integer : Gf l.prog w K mg base "is_integer" 2 (c_is_integer) b_is_integer := gf_mk (He.glo_ok KX G (c.fact 56)) F_is_integer (ok_is_integer T F_is_integer) (all_cons (bind0 F_is_integer 1 rfl (fun _ _ _ _ _ _ us h => match us, h with | [_], _ => rfl)) all_nil)
  have h_is_within : Gf l.prog w K mg base "is_within" 3 (c_is_within) b_is_within := gf_mk (He.glo_ok KX G (c.fact 57)) F_is_within (ok_is_within T h_is_integer F_is_within) (all_cons (bind0 F_is_within 3 rfl (fun _ _ _ _ _ _ us h => match us, h with | [_, _, _], _ => rfl)) all_nil)
  have h_Row_turn_at : Mf l.prog w K mg base (He.ga K "Row") "turn_at" 2 (c_Row_turn_at (He.ga K "Row")) b_Row_turn_at := mf_mk (methF_ok (c.fact 58)) (ok_Row_turn_at T F_Row_turn_at) (all_cons (bind0 F_Row_turn_at 2 rfl (fun _ _ _ _ _ _ us h => match us, h with | [_, _], _ => rfl)) all_nil)
  have h_Row_beginning : Mf l.prog w K mg base (He.ga K "Row") "beginning" 4 (c_Row_beginning (He.ga K "Row") (He.ga K "InvalidCount")) b_Row_beginning := mf_mk (methF_ok (c.fact 59)) (ok_Row_beginning T h_is_within h_Row_turn_at x_InvalidCount F_Row_beginning) (all_cons (bind0 F_Row_beginning 2 rfl (fun _ _ _ _ _ _ us h => match us, h with | [_, _], _ => rfl)) (all_cons (bind0k F_Row_beginning 1 ["count"] _ (fun us its ws h1 h2 h3 => match us, its, ws, h1, h2, h3 with | [_], [], [_], _, _, _ => rfl) (fun _ _ _ _ _ _ us ws h1 h2 => match us, ws, h1, h2 with | [_], [_], _, _ => rfl)) all_nil))
  have h_Row_turn : Mf l.prog w K mg base (He.ga K "Row") "turn" 4 (c_Row_turn (He.ga K "Row") (He.ga K "InvalidIndex")) b_Row_turn := mf_mk (methF_ok (c.fact 60)) (ok_Row_turn T h_is_within h_Row_turn_at x_InvalidIndex F_Row_turn) (all_cons (bind0 F_Row_turn 2 rfl (fun _ _ _ _ _ _ us h => match us, h with | [_, _], _ => rfl)) (all_cons (bind0k F_Row_turn 1 ["index"] _ (fun us its ws h1 h2 h3 => match us, its, ws, h1, h2, h3 with | [_], [], [_], _, _, _ => rfl) (fun _ _ _ _ _ _ us ws h1 h2 => match us, ws, h1, h2 with | [_], [_], _, _ => rfl)) all_nil))
  have h_Row_lead : Pf l.prog w K mg base (He.ga K "Row") "lead" 2 (c_Row_lead (He.ga K "Row")) := pf_mk (prF_ok (c.fact 61)) (ok_Row_lead T F_Row_lead) (bind0 F_Row_lead 1 rfl (fun _ _ _ _ _ _ us h => match us, h with | [_], _ => rfl))
  have h_Row_ring : Pf l.prog w K mg base (He.ga K "Row") "ring" 2 (c_Row_ring (He.ga K "Row")) := pf_mk (prF_ok (c.fact 62)) (ok_Row_ring T F_Row_ring) (bind0 F_Row_ring 1 rfl (fun _ _ _ _ _ _ us h => match us, h with | [_], _ => rfl))
  have h__law_told : Gf l.prog w K mg base "_law_told" 4 (c__law_told (He.ga K "Row")) b__law_told := gf_mk (He.glo_ok KX G (c.fact 63)) F__law_told (ok__law_told T h_Row_lead h_Row_ring F__law_told) (all_cons (bind0 F__law_told 1 rfl (fun _ _ _ _ _ _ us h => match us, h with | [_], _ => rfl)) all_nil)
  have h_Row_behind : Mf l.prog w K mg base (He.ga K "Row") "behind" 6 (c_Row_behind (He.ga K "Row") (He.ga K "InvalidCount")) b_Row_behind := mf_mk (methF_ok (c.fact 64)) (ok_Row_behind T h_is_within c_Row x_InvalidCount F_Row_behind) (all_cons (bind0 F_Row_behind 2 rfl (fun _ _ _ _ _ _ us h => match us, h with | [_, _], _ => rfl)) (all_cons (bind0k F_Row_behind 1 ["count"] _ (fun us its ws h1 h2 h3 => match us, its, ws, h1, h2, h3 with | [_], [], [_], _, _, _ => rfl) (fun _ _ _ _ _ _ us ws h1 h2 => match us, ws, h1, h2 with | [_], [_], _, _ => rfl)) all_nil))
  have h__law_field : Hf l.prog w K mg base "_law_field" (c__law_field K) := ⟨_, fd__law_field, _, He.glo_ok KX G (c.fact 65), F__law_field.kp, ok__law_field T F__law_field, bind0 F__law_field 1 rfl (fun _ _ _ _ _ _ us h => match us, h with | [_], _ => rfl)⟩
  have W__law_why : WhyOk l.prog w K mg base "_law_why" 6 := wk__law_why T h__law_field (He.glo_ok KX G (c.fact 66)) F__law_why (bind0 F__law_why 1 rfl (fun _ _ _ _ _ _ us h => match us, h with | [_], _ => rfl)) (by decide)
  exact ok_law T h__law_hand h__law_line h__law_row h__law_pick h__law_begin h__law_same h_Row_beginning h_Row_turn h__law_normal h__law_told h_Row_behind h__law_of c_Row W__law_why (TBs (.g "law", "law.<locals>.<lambda>") (by simp [ts])) F_law
def nms : List Str := (["_wall", "__name__", "MillError", "Missing", "InvalidWord", "InvalidTable", "InvalidNumber", "InvalidRing", "InvalidCount", "InvalidIndex", "TooLong", "ParseError", "NothingLeft", "TURNS", "MOST_TURNS", "LEFT"] : List Str) ++ (["RIGHT", "NEUTRAL", "is_integer", "is_within", "is_word", "check_word", "divisor_of", "product", "word_table", "least_times", "runs_taken", "word_taken", "Table", "table_with", "root_floor", "sign_of"] : List Str) ++ (["root_sign", "Number", "number_led", "FAR", "MOST_RUNS", "least_ring", "Row", "_law_hand", "_law_pick", "_law_of", "_law_same", "_law_field", "_law_why", "_law_word", "_law_some", "_law_normal"] : List Str) ++ (["_law_line", "_law_row", "_law_told", "_law_begin"] : List Str)
abbrev R : PySem.W.OpenRow := PySem.W.OpenLaw.row PySem.Challenge.rw_turnmill_k15_turns_of_rows
abbrev hk : PySem.W.Hook := hookT ts 5 fa fn
def ob (s : PySem.W.SharedT) : He.AlD := obsT ts fa fn 5 (HandSHeadRun.getT s)
theorem ob_eq (s : PySem.W.SharedT) : ob s = hk.obs s.abs := obsT_eq (HandSHeadRun.getT_eq s)
set_option maxHeartbeats 0 in
theorem run (w : World) : HandSHeadRun.RunEq R (PySem.W.view R.prog [56]) hk ob 20000 nms w := by
  intro os
  kernel_rfl
end K15
open PySem PySem.W PySem.Calls PyProof.Rows in
set_option maxHeartbeats 0 in
theorem PySem.Challenge.cw_turnmill_k15_turns_of_rows_holds : PySem.Challenge.rw_turnmill_k15_turns_of_rows.Holds := by
  w_on; o_law
  refine HandSHeadRun.head_any (r := OpenLaw.row PySem.Challenge.rw_turnmill_k15_turns_of_rows) (q := view (OpenLaw.row PySem.Challenge.rw_turnmill_k15_turns_of_rows).prog [56]) (H := K15.hk) (ob := K15.ob) (M := 20000) (loose := K15.nms) (d := HandSHeadRun.topDef (OpenLaw.row PySem.Challenge.rw_turnmill_k15_turns_of_rows).prog 56) (kwd := []) K15.ob_eq
    (by kernel_rfl) (fun s => by kernel_rfl) K15.run (by kernel_rfl) (by kernel_rfl) (by kernel_rfl) (by rfl) (by first | assumption | decide +kernel) (by decide +kernel) ⟨rfl, rfl, rfl, rfl, rfl, by decide +kernel⟩ ?hw ?hc
  case hw => w_witness2
  case hc =>
    refine LamX.walk_ofTsE (l := PySem.Challenge.rw_turnmill_k15_turns_of_rows) (n := 63) (k := 9) (x := "_law_script") (CX := fun w => L2.CX (OpenLaw.prog PySem.Challenge.rw_turnmill_k15_turns_of_rows) w) rfl (by decide) (by kernel_rfl) ⟨rfl, by decide, by decide⟩ ?F (fun _ _ _ _ _ ⟨_, _, _, _, _, _, _, _, _, _, _, _, z⟩ => z)
    intro w mg fa h Y G hmg0
    obtain ⟨K, KX, c, TZ⟩ := Y
    have hmg : mg ("law" : PySem.Str) = some (.ref fa) := by
      have e : (HandSHeadRun.topDef (OpenLaw.row PySem.Challenge.rw_turnmill_k15_turns_of_rows).prog 56).name = ("law" : PySem.Str) := by kernel_rfl
      rw [← e]
      exact hmg0
    exact ⟨K, KX, K15.all KX G hmg c TZ⟩
