import PyProof.Rows.All
import Wide.All
import OpenK.AllK
import Wide.FinOn
import PyProof.EqAt
import PyProof.EqKinds
import PyProof.TupleCall
import HandS.Base
import HandS.Call
import HandS.List
import HandS.Comp
import HandS.Exc
import HandS.Lambda
import HandS.Words
import HandS.Text
import HandS.TupAny
import HandS.IsInst
import HandS.Wide
import HandS.Dict
import HandS.WordsDict
import HandS.Deep
import HandS.Flow
import HandS.Defaults
import HandS.ExcInit
import HandS.Property
import HandS.WordsExc
import HandS.FStr
import HandS.Iter
import HandS.Zip
import KE.KExcInit
import HandS.MakeKw
import HandS.ClsMeth
import HandS.Head0
import HandS.Head1
import HandS.Head2
import HandS.HeadEnd
import HandS.HeadHook1
import HandS.HeadHook2
import HandS.HeadWalk
import HandS.EndTab
import HandS.MakeKwOnly
import PyProof.ExcBaseAll.LookupError
import PyProof.ExcBaseAll.IndexError
import HandS.Style
import HandS.More
import HandS.StrMore
import HandS.RaiseMore
import KE.DataMinMax
import HandS.OwnEq
import HandS.TryMany
import HandS.ExcField
import HandS.HotCalls
import KE.KTryMore
import HandS.NestedK
import PyProof.StrLawsFirst
import PyProof.ListStr
import PyProof.StrLawsTight
import PyProof.FitsReplace
import HandS.TryOnly
import KE.KDictDisplayH
import HandS.Replace
import HandS.Finally
import HandS.Star
import PyProof.LongRange
import KE.KUnpackStar
import HandS.Conv
import KE.KDictPairs
import KE.IntTextLaws
import HandS.SuiteRaise
import HandS.RaiseFrom
import HandS.ExcInitHot
import PySem.Challenge.RW_turnmill_k60_texts_that_are_no_programs
set_option Elab.async false
set_option linter.all false
set_option maxRecDepth 100000
set_option maxHeartbeats 4000000
namespace Z
open PySem PySem.Spec PyProof.Rows L2

inductive D where
  | non | bl (b : Bool) | int (i : Int) | str (x : Str) | ty (n : String) | ref (a : Addr)
  | tup (l : List D) | lst (l : List D) | dic (l : List (D × D)) | obj (C : Addr) (fs : List (Str × D)) | lk (l : List D)
  | fn (Q : L2.Hp → Addr → Prop)
  | tpl (l : List D)
  | dlk (l : List (D × D))
inductive Cell where
  | lst (l : List D) | dic (l : List (D × D)) | ins (C : Addr) (fs : List (Str × D))
  | tab (q : Str)
  | dit (l : List (D × D))
abbrev Sto := Addr → Option Cell
abbrev En := List (Option D)

def keyD : D → Option Key
  | .int i => some (.inl i)
  | .str x => some (.inr x)
  | _ => none
def keysD : List D → Option (List Key)
  | [] => some []
  | d :: r => match keyD d, keysD r with
    | some k, some ks => some (k :: ks)
    | _, _ => none
def keyT : D → Option (List Key)
  | .tup l => keysD l
  | _ => none

def Sub (G G' : Hp) : Prop := ∀ a o, G a = some o → G' a = some o
theorem Sub.rfl' {G : Hp} : Sub G G := fun _ _ h => h
theorem Sub.tr {G G1 G2 : Hp} (a : Sub G G1) (b : Sub G1 G2) : Sub G G2 := fun c o h => b c o (a c o h)
theorem Sub.rd {G G' : Hp} {a : Addr} {u : HO} (s : Sub G G') (h : Rd G a u) : Rd G' a u := h.imp (s _ _) fun ⟨o, h⟩ => ⟨o, s _ _ h⟩
theorem Sub.sqL {K : PySem.W.Frag} {G G' : Hp} {a : Addr} {xs : List V} (s : Sub G G') (h : SqL K G a xs) : SqL K G' a xs := by
  rcases h with (h | ⟨o, h⟩) | h
  · exact .inl (.inl (s _ _ h))
  · exact .inl (.inr ⟨o, s _ _ h⟩)
  · exact .inr h
theorem Sub.sqT {K : PySem.W.Frag} {G G' : Hp} {a : Addr} {xs : List V} (s : Sub G G') (h : SqT K G a xs) : SqT K G' a xs := by
  rcases h with (h | ⟨o, h⟩) | h
  · exact .inl (.inl (s _ _ h))
  · exact .inl (.inr ⟨o, s _ _ h⟩)
  · exact .inr h

mutual
inductive Rep (K : PySem.W.Frag) (G : Hp) : D → V → Prop
  | non : Rep K G .non .non
  | bl {b : Bool} : Rep K G (.bl b) (.bl b)
  | int {i : Int} : Rep K G (.int i) (.int i)
  | str {x : Str} : Rep K G (.str x) (.str x)
  | ty {n : String} : Rep K G (.ty n) (.ty n)
  | ref {a : Addr} : Rep K G (.ref a) (.ref a)
  | tup {l : List D} {a : Addr} {vs : List V} : SqT K G a vs → RepL K G l vs → Rep K G (.tup l) (.ref a)
  | tpl {l : List D} {a : Addr} {vs : List V} : G a = some (.tup vs) → RepL K G l vs → Rep K G (.tpl l) (.ref a)
  | fn {Q : Hp → Addr → Prop} {a : Addr} {G0 : Hp} : Sub G0 G → Q G0 a → Rep K G (.fn Q) (.ref a)
  | lst {l : List D} {a : Addr} {vs : List V} : Rd G a (.lst vs) → RepL K G l vs → Rep K G (.lst l) (.ref a)
  | lk {l : List D} {a : Addr} {vs : List V} : SqL K G a vs → RepL K G l vs → Rep K G (.lk l) (.ref a)
  | dic {l : List (D × D)} {a : Addr} {kvs : List (Key × V)} : G a = some (.dK kvs) → RepD K G l kvs → Rep K G (.dic l) (.ref a)
  | dit {l : List (D × D)} {a : Addr} {kvs : List (List Key × V)} : G a = some (.dT kvs) → RepT K G l kvs → Rep K G (.dic l) (.ref a)
  | dlk {l : List (D × D)} {a : Addr} {o : Obj} {kvs : List (Key × V)} : G a = some (.frz o (.dK kvs)) → RepD K G l kvs → Rep K G (.dlk l) (.ref a)
  | obj {C : Addr} {fs : List (Str × D)} {a dx : Addr} {fvs : List (Str × V)} : G a = some (.ins C dx fvs) → RepF K G fs fvs → Rep K G (.obj C fs) (.ref a)
inductive RepL (K : PySem.W.Frag) (G : Hp) : List D → List V → Prop
  | nil : RepL K G [] []
  | cons {d : D} {ds : List D} {v : V} {vs : List V} : Rep K G d v → RepL K G ds vs → RepL K G (d :: ds) (v :: vs)
inductive RepF (K : PySem.W.Frag) (G : Hp) : List (Str × D) → List (Str × V) → Prop
  | nil : RepF K G [] []
  | cons {f : Str} {d : D} {ds : List (Str × D)} {v : V} {vs : List (Str × V)} : Rep K G d v → RepF K G ds vs → RepF K G ((f, d) :: ds) ((f, v) :: vs)
inductive RepD (K : PySem.W.Frag) (G : Hp) : List (D × D) → List (Key × V) → Prop
  | nil : RepD K G [] []
  | cons {c d : D} {k : Key} {ds : List (D × D)} {v : V} {vs : List (Key × V)} : keyD c = some k → Rep K G d v → RepD K G ds vs → RepD K G ((c, d) :: ds) ((k, v) :: vs)
inductive RepT (K : PySem.W.Frag) (G : Hp) : List (D × D) → List (List Key × V) → Prop
  | nil : RepT K G [] []
  | cons {c d : D} {k : List Key} {ds : List (D × D)} {v : V} {vs : List (List Key × V)} : keyT c = some k → Rep K G d v → RepT K G ds vs → RepT K G ((c, d) :: ds) ((k, v) :: vs)
end

section
variable {K : PySem.W.Frag} {G G' : Hp}
mutual
theorem Rep.mono (s : Sub G G') : ∀ {d : D} {v : V}, Rep K G d v → Rep K G' d v
  | _, _, .non => .non
  | _, _, .bl => .bl
  | _, _, .int => .int
  | _, _, .str => .str
  | _, _, .ty => .ty
  | _, _, .ref => .ref
  | _, _, .tup h r => .tup (s.sqT h) (r.mono s)
  | _, _, .tpl h r => .tpl (s _ _ h) (r.mono s)
  | _, _, .fn h q => .fn (h.tr s) q
  | _, _, .lst h r => .lst (s.rd h) (r.mono s)
  | _, _, .lk h r => .lk (s.sqL h) (r.mono s)
  | _, _, .dic h r => .dic (s _ _ h) (r.mono s)
  | _, _, .dlk h r => .dlk (s _ _ h) (r.mono s)
  | _, _, .dit h r => .dit (s _ _ h) (r.mono s)
  | _, _, .obj h r => .obj (s _ _ h) (r.mono s)
theorem RepL.mono (s : Sub G G') : ∀ {d : List D} {v : List V}, RepL K G d v → RepL K G' d v
  | _, _, .nil => .nil
  | _, _, .cons h r => .cons (h.mono s) (r.mono s)
theorem RepF.mono (s : Sub G G') : ∀ {d : List (Str × D)} {v : List (Str × V)}, RepF K G d v → RepF K G' d v
  | _, _, .nil => .nil
  | _, _, .cons h r => .cons (h.mono s) (r.mono s)
theorem RepD.mono (s : Sub G G') : ∀ {d : List (D × D)} {v : List (Key × V)}, RepD K G d v → RepD K G' d v
  | _, _, .nil => .nil
  | _, _, .cons e h r => .cons e (h.mono s) (r.mono s)
theorem RepT.mono (s : Sub G G') : ∀ {d : List (D × D)} {v : List (List Key × V)}, RepT K G d v → RepT K G' d v
  | _, _, .nil => .nil
  | _, _, .cons e h r => .cons e (h.mono s) (r.mono s)
end
theorem RepL.length : ∀ {ds : List D} {vs : List V}, RepL K G ds vs → ds.length = vs.length
  | _, _, .nil => rfl
  | _, _, .cons _ r => congrArg (· + 1) r.length
theorem RepL.get : ∀ {ds : List D} {vs : List V} {i : Nat} {d : D}, RepL K G ds vs → ds[i]? = some d → ∃ v, vs[i]? = some v ∧ Rep K G d v
  | _, _, _, _, .nil, e => by simp at e
  | _, _, 0, _, .cons r _, e => by simp at e; subst e; exact ⟨_, rfl, r⟩
  | _, _, i + 1, d, .cons _ t, e => by
    obtain ⟨u, h1, h2⟩ := t.get (i := i) (d := d) (by simpa using e)
    exact ⟨u, by simpa using h1, h2⟩
theorem RepL.app : ∀ {xs ys : List D} {us ws : List V}, RepL K G xs us → RepL K G ys ws → RepL K G (xs ++ ys) (us ++ ws)
  | _, _, _, _, .nil, s => s
  | _, _, _, _, .cons r t, s => .cons r (t.app s)
theorem RepL.set {x : D} {u : V} (r : Rep K G x u) : ∀ {xs : List D} {us : List V} (i : Nat), RepL K G xs us → RepL K G (xs.set i x) (us.set i u)
  | _, _, _, .nil => .nil
  | _, _, 0, .cons _ t => .cons r t
  | _, _, i + 1, .cons q t => .cons q (RepL.set r i t)
theorem RepL.take : ∀ {xs : List D} {us : List V} (n : Nat), RepL K G xs us → RepL K G (xs.take n) (us.take n)
  | _, _, 0, _ => .nil
  | _, _, _ + 1, .nil => .nil
  | _, _, n + 1, .cons r t => .cons r (t.take n)
theorem RepL.drop : ∀ {xs : List D} {us : List V} (n : Nat), RepL K G xs us → RepL K G (xs.drop n) (us.drop n)
  | _, _, 0, r => r
  | _, _, _ + 1, .nil => .nil
  | _, _, n + 1, .cons _ t => t.drop n
theorem RepF.length : ∀ {ds : List (Str × D)} {vs : List (Str × V)}, RepF K G ds vs → ds.length = vs.length
  | _, _, .nil => rfl
  | _, _, .cons _ r => congrArg (· + 1) r.length
theorem RepF.look {f : Str} : ∀ {ds : List (Str × D)} {vs : List (Str × V)} {d : D}, RepF K G ds vs → ds.lookup f = some d → ∃ v, vs.lookup f = some v ∧ Rep K G d v
  | _, _, _, .nil, e => by cases e
  | _, _, d, .cons (f := g) r t, e => by
    rw [List.lookup_cons] at e ⊢
    cases q : f == g with
    | true => rw [q] at e; cases e; exact ⟨_, rfl, r⟩
    | false => rw [q] at e; exact t.look e
theorem RepF.none {f : Str} : ∀ {ds : List (Str × D)} {vs : List (Str × V)}, RepF K G ds vs → ds.lookup f = none → vs.lookup f = none
  | _, _, .nil, _ => rfl
  | _, _, .cons (f := g) r t, e => by
    rw [List.lookup_cons] at e ⊢
    cases q : f == g with
    | true => rw [q] at e; cases e
    | false => rw [q] at e; exact t.none e
end

def putD (f : Str) (d : D) : List (Str × D) → List (Str × D)
  | [] => [(f, d)]
  | (g, x) :: r => if g = f then (g, d) :: r else (g, x) :: putD f d r
end Z
namespace Z
open PySem PySem.Spec PyProof.Rows L2

def CellAt (K : PySem.W.Frag) (G H : Hp) (a : Addr) : Cell → Prop
  | .lst l => ∃ vs, H a = some (.lst vs) ∧ RepL K G l vs
  | .dic l => ∃ kvs, H a = some (.dK kvs) ∧ RepD K G l kvs
  | .dit l => ∃ kvs, H a = some (.dT kvs) ∧ RepT K G l kvs
  | .ins C fs => ∃ dx fvs, H a = some (.ins C dx fvs) ∧ RepF K G fs fvs
  | .tab q => ∃ ps : Array Value, H a = some (.tbl ps) ∧ TriplesOk ps.toList ∧ ∀ (pos : Pos) (cv : Value), codeAmong pos ps.toList = some cv → ∃ c, cv = .ref c ∧ G c = some (LamX.CodeO c q)
theorem CellAt.there {K : PySem.W.Frag} {G H : Hp} {a : Addr} {c : Cell} (h : CellAt K G H a c) : H a ≠ none := by
  cases c with
  | lst l => obtain ⟨_, e, _⟩ := h; rw [e]; simp
  | dic l => obtain ⟨_, e, _⟩ := h; rw [e]; simp
  | dit l => obtain ⟨_, e, _⟩ := h; rw [e]; simp
  | ins C fs => obtain ⟨_, _, e, _⟩ := h; rw [e]; simp
  | tab q => obtain ⟨_, e, _⟩ := h; rw [e]; simp
theorem CellAt.move {K : PySem.W.Frag} {G G' H H' : Hp} {a : Addr} {c : Cell} (s : Sub G G') (e : ∀ o, H a = some o → H' a = some o) (h : CellAt K G H a c) : CellAt K G' H' a c := by
  cases c with
  | lst l => obtain ⟨_, h, r⟩ := h; exact ⟨_, e _ h, r.mono s⟩
  | dic l => obtain ⟨_, h, r⟩ := h; exact ⟨_, e _ h, r.mono s⟩
  | dit l => obtain ⟨_, h, r⟩ := h; exact ⟨_, e _ h, r.mono s⟩
  | ins C fs => obtain ⟨_, _, h, r⟩ := h; exact ⟨_, _, e _ h, r.mono s⟩
  | tab q => obtain ⟨_, h, t, r⟩ := h; exact ⟨_, e _ h, t, fun pos cv hc => let ⟨c, e1, e2⟩ := r pos cv hc; ⟨c, e1, s _ _ e2⟩⟩

structure Wd (K : PySem.W.Frag) (M : Sto) (H G : Hp) : Prop where
  sub : Sub G H
  cells : ∀ a c, M a = some c → G a = none ∧ CellAt K G H a c
structure Bs where
  H : Hp
  G : Hp
  M : Sto
structure Since (H0 G0 : Hp) (M0 : Sto) (M : Sto) (H G : Hp) : Prop where
  keep : ∀ a o, H0 a = some o → M0 a = none → H a = some o
  stay : ∀ a, H0 a ≠ none → H a ≠ none
  gsub : Sub G0 G
  gnew : ∀ a, G a ≠ none → G0 a = none → H0 a = none
  mnew : ∀ a, M a ≠ none → M0 a = none → H0 a = none
structure Rel (K : PySem.W.Frag) (B : Bs) (r : En) (M : Sto) (σ : L2.St) (H G : Hp) : Prop where
  wd : Wd K M H G
  len : r.length = σ.length
  slots : ∀ (i : Nat) d, r[i]? = some (some d) → ∃ v, σ[i]? = some (some v) ∧ Rep K G d v
  sin : Since B.H B.G B.M M H G

theorem Since.refl {H G : Hp} {M : Sto} : Since H G M M H G := ⟨fun _ _ h _ => h, fun _ h => h, Sub.rfl', fun _ h e => absurd e h, fun _ h e => absurd e h⟩
theorem Since.trans {K : PySem.W.Frag} {H0 G0 H1 G1 H2 G2 : Hp} {M0 M1 M2 : Sto} (w1 : Wd K M1 H1 G1) (a : Since H0 G0 M0 M1 H1 G1) (b : Since H1 G1 M1 M2 H2 G2) : Since H0 G0 M0 M2 H2 G2 where
  keep := fun c o h n => b.keep c o (a.keep c o h n) (by
    cases q : M1 c with
    | none => rfl
    | some x => have := a.mnew c (by rw [q]; simp) n; rw [this] at h; cases h)
  stay := fun c h => b.stay c (a.stay c h)
  gsub := a.gsub.tr b.gsub
  gnew := fun c h n => by
    cases q : G1 c with
    | some x => exact a.gnew c (by rw [q]; simp) n
    | none =>
      have h1 := b.gnew c h q
      cases z : H0 c with
      | none => rfl
      | some o => exact absurd h1 (a.stay c (by rw [z]; simp))
  mnew := fun c h n => by
    cases q : M1 c with
    | some x => exact a.mnew c (by rw [q]; simp) n
    | none =>
      have h1 := b.mnew c h q
      cases z : H0 c with
      | none => rfl
      | some o => exact absurd h1 (a.stay c (by rw [z]; simp))
theorem Rel.go {K : PySem.W.Frag} {B : Bs} {r : En} {M M' : Sto} {σ : L2.St} {H G H' G' : Hp} (R : Rel K B r M σ H G) (w : Wd K M' H' G') (s : Since H G M M' H' G') : Rel K B r M' σ H' G' :=
  ⟨w, R.len, fun i d e => let ⟨v, h1, h2⟩ := R.slots i d e; ⟨v, h1, h2.mono s.gsub⟩, Since.trans R.wd R.sin s⟩
structure Grow (H G H' G' : Hp) : Prop where
  same : ∀ a o, H a = some o → H' a = some o
  gsub : Sub G G'
  sub : Sub G' H'
  gnew : ∀ a, G' a ≠ none → G a = none → H a = none
theorem Grow.refl {H G : Hp} (s : Sub G H) : Grow H G H G := ⟨fun _ _ h => h, Sub.rfl', s, fun _ h e => absurd e h⟩
theorem Grow.since {K : PySem.W.Frag} {M : Sto} {H G H' G' : Hp} (w : Wd K M H G) (g : Grow H G H' G') : Since H G M M H' G' :=
  ⟨fun a o h _ => g.same a o h, fun a h => by
    cases q : H a with
    | none => exact absurd q h
    | some o => rw [g.same a o q]; simp, g.gsub, g.gnew, fun a h e => absurd e h⟩
theorem Grow.wd {K : PySem.W.Frag} {M : Sto} {H G H' G' : Hp} (w : Wd K M H G) (g : Grow H G H' G') : Wd K M H' G' :=
  ⟨g.sub, fun a c e => by
    obtain ⟨h1, h2⟩ := w.cells a c e
    refine ⟨?_, h2.move g.gsub (g.same a)⟩
    cases q : G' a with
    | none => rfl
    | some o => exact absurd (g.gnew a (by rw [q]; simp) h1) h2.there⟩
theorem Rel.grow {K : PySem.W.Frag} {B : Bs} {r : En} {M : Sto} {σ : L2.St} {H G H' G' : Hp} (R : Rel K B r M σ H G) (g : Grow H G H' G') : Rel K B r M σ H' G' := R.go (g.wd R.wd) (g.since R.wd)
theorem Grow.trans {H G H1 G1 H2 G2 : Hp} (a : Grow H G H1 G1) (b : Grow H1 G1 H2 G2) : Grow H G H2 G2 :=
  ⟨fun c o h => b.same c o (a.same c o h), a.gsub.tr b.gsub, b.sub, fun c h n => by
    cases q : G1 c with
    | some x => exact a.gnew c (by rw [q]; simp) n
    | none =>
      have h1 := b.gnew c h q
      cases z : H c with
      | none => rfl
      | some o => rw [a.same c o z] at h1; cases h1⟩
theorem grow_upd {H G : Hp} {p : Addr} {o : HO} (s : Sub G H) (hp : H p = none) : Grow H G (upd H p o) (upd G p o) where
  same := fun a u h => by rw [upd_ne (ne_of_none h hp)]; exact h
  gsub := fun a u h => by rw [upd_ne (ne_of_none (s _ _ h) hp)]; exact h
  sub := fun a u h => by
    by_cases e : a = p
    · subst e; rw [upd_same] at h ⊢; exact h
    · rw [upd_ne e] at h ⊢; exact s _ _ h
  gnew := fun a h n => by
    by_cases e : a = p
    · subst e; exact hp
    · rw [upd_ne e] at h; exact absurd n h

abbrev PD := D → Sto → Prop
abbrev DTE := En → Sto → PD → Prop
abbrev DTT := En → Sto → (Bool → Sto → Prop) → Prop
abbrev DTA := En → Sto → (List D → Sto → Prop) → Prop
structure Ek where
  nx : En → Sto → Prop
  rt : D → Sto → Prop
  bk : En → Sto → Prop := fun _ _ => False
  ct : En → Sto → Prop := fun _ _ => False
abbrev DTS := Ek → En → Sto → Prop
abbrev DTG := D → En → Sto → (En → Sto → Prop) → Prop

def lift (K : PySem.W.Frag) (B : Bs) (f : DTE) : TE := fun σ H Q => ∃ r M G Ψ, Rel K B r M σ H G ∧ f r M Ψ ∧ ∀ d M' v H' G', Ψ d M' → Rel K B r M' σ H' G' → Sub G G' → Rep K G' d v → Q v H'
def liftT (K : PySem.W.Frag) (B : Bs) (f : DTT) : TT := fun σ H Q => ∃ r M G Ψ, Rel K B r M σ H G ∧ f r M Ψ ∧ ∀ b M' H' G', Ψ b M' → Rel K B r M' σ H' G' → Sub G G' → Q b H'
def liftA (K : PySem.W.Frag) (B : Bs) (f : DTA) : TA := fun σ H Q => ∃ r M G Ψ, Rel K B r M σ H G ∧ f r M Ψ ∧ ∀ ds M' vs H' G', Ψ ds M' → Rel K B r M' σ H' G' → Sub G G' → RepL K G' ds vs → Q vs H'
structure EkOk (K : PySem.W.Frag) (B : Bs) (G : Hp) (E : Ek) (D' : Ends) : Prop where
  nx : ∀ r' M' σ' H' G', E.nx r' M' → Rel K B r' M' σ' H' G' → Sub G G' → D'.nx σ' H'
  rt : ∀ d r' M' v σ' H' G', E.rt d M' → Rel K B r' M' σ' H' G' → Rep K G' d v → D'.rt v H'
  bk : ∀ r' M' σ' H' G', E.bk r' M' → Rel K B r' M' σ' H' G' → Sub G G' → D'.bk σ' H'
  ct : ∀ r' M' σ' H' G', E.ct r' M' → Rel K B r' M' σ' H' G' → Sub G G' → D'.ct σ' H'
theorem EkOk.mono {K : PySem.W.Frag} {B : Bs} {G G1 : Hp} {E : Ek} {D' : Ends} (k : EkOk K B G E D') (s : Sub G G1) : EkOk K B G1 E D' :=
  ⟨fun r' M' σ' H' G' q R t => k.nx r' M' σ' H' G' q R (s.tr t), k.rt, fun r' M' σ' H' G' q R t => k.bk r' M' σ' H' G' q R (s.tr t), fun r' M' σ' H' G' q R t => k.ct r' M' σ' H' G' q R (s.tr t)⟩
def liftS (K : PySem.W.Frag) (B : Bs) (f : DTS) : TS := fun D σ H => ∃ r M G E, Rel K B r M σ H G ∧ f E r M ∧ EkOk K B G E D
def liftG (K : PySem.W.Frag) (B : Bs) (f : DTG) : TG := fun v σ H Q => ∃ d r M G Ψ, Rel K B r M σ H G ∧ Rep K G d v ∧ f d r M Ψ ∧ ∀ r' M' σ' H' G', Ψ r' M' → Rel K B r' M' σ' H' G' → Sub G G' → Q σ' H'

theorem PE_imp {X : Cx} {e : Expr} {t t' : TE} (h : PE X e t) (i : ∀ σ H Q, t' σ H Q → t σ H Q) : PE X e t' := ⟨fun pins s σ H Q I q => h.run pins s σ H Q I (i _ _ _ q)⟩
theorem PT_imp {X : Cx} {e : Expr} {t t' : TT} (h : PT X e t) (i : ∀ σ H Q, t' σ H Q → t σ H Q) : PT X e t' := ⟨fun pins s σ H Q I q => h.run pins s σ H Q I (i _ _ _ q)⟩
theorem PW_imp {X : Cx} {e : Expr} {t t' : TT} (h : PW X e t) (i : ∀ σ H Q, t' σ H Q → t σ H Q) : PW X e t' := ⟨fun wh pins s σ H Q I q => h.run wh pins s σ H Q I (i _ _ _ q)⟩
theorem PA_imp {X : Cx} {e : List Expr} {t t' : TA} (h : PA X e t) (i : ∀ σ H Q, t' σ H Q → t σ H Q) : PA X e t' := ⟨fun pos pins s σ H Q I q => h.run pos pins s σ H Q I (i _ _ _ q)⟩
theorem PS_imp {X : Cx} {e : Stmt} {t t' : TS} (h : PS X e t) (i : ∀ D σ H, t' D σ H → t D σ H) : PS X e t' := ⟨fun pins s σ H D I q => h.run pins s σ H D I (i _ _ _ q)⟩
theorem PSs_imp {X : Cx} {e : List Stmt} {t t' : TS} (h : PSs X e t) (i : ∀ D σ H, t' D σ H → t D σ H) : PSs X e t' := ⟨fun pins s σ H D I q => h.run pins s σ H D I (i _ _ _ q)⟩
theorem PG_imp {X : Cx} {e : Expr} {t t' : TG} (h : PG X e t) (i : ∀ v σ H Q, t' v σ H Q → t v σ H Q) : PG X e t' := ⟨fun pins s σ H x v Q I r q => h.run pins s σ H x v Q I r (i _ _ _ _ q)⟩
abbrev DE (X : Cx) (B : Bs) (e : Expr) (f : DTE) : Prop := PE X e (lift X.K B f)
abbrev DT (X : Cx) (B : Bs) (e : Expr) (f : DTT) : Prop := PT X e (liftT X.K B f)
abbrev DW (X : Cx) (B : Bs) (e : Expr) (f : DTT) : Prop := PW X e (liftT X.K B f)
abbrev DA (X : Cx) (B : Bs) (e : List Expr) (f : DTA) : Prop := PA X e (liftA X.K B f)
abbrev DS (X : Cx) (B : Bs) (e : Stmt) (f : DTS) : Prop := PS X e (liftS X.K B f)
abbrev DSs (X : Cx) (B : Bs) (e : List Stmt) (f : DTS) : Prop := PSs X e (liftS X.K B f)
abbrev DG (X : Cx) (B : Bs) (e : Expr) (f : DTG) : Prop := PG X e (liftG X.K B f)

section
variable {X : Cx} {B : Bs} {pos : Pos} {a b e : Expr} {es : List Expr} {fa fb : DTE} {ga : DTA}
def getS (r : En) (i : Nat) (k : D → Prop) : Prop := match r[i]? with
  | some (some d) => k d
  | _ => False
theorem getS_some {r : En} {i : Nat} {k : D → Prop} (h : getS r i k) : ∃ d, r[i]? = some (some d) ∧ k d := by
  unfold getS at h
  split at h
  · rename_i d e
    exact ⟨d, e, h⟩
  · exact h.elim
theorem de_var {i : Nat} {x : Str} (hN : X.N[i]? = some x := by rfl) (hv : Vis X.env.scope x := by first | exact Or.inl rfl | exact Or.inr (Or.inl rfl) | exact Or.inr (Or.inr rfl)) (hd : (x == ("__debug__" : Str)) = false := by decide)
    (hcd : (x == ("__classdict__" : Str)) = false := by decide) : DE X B (.Name x pos) (fun r M Ψ => getS r i fun d => Ψ d M) := by
  refine PE_imp (pe_var hN hv hd hcd) fun σ H Q ⟨r, M, G, Ψ, R, h, k⟩ => ?_
  obtain ⟨d, e, h⟩ := getS_some h
  obtain ⟨v, h1, h2⟩ := R.slots _ _ e
  exact ⟨v, h1, k d M v H G h R Sub.rfl' h2⟩
theorem de_c {v : V} (h : PE X e (tC v)) {d : D} (hr : ∀ G, Rep X.K G d v) : DE X B e (fun _ M Ψ => Ψ d M) :=
  PE_imp h fun σ H Q ⟨r, M, G, Ψ, R, h, k⟩ => k _ _ _ _ _ h R Sub.rfl' (hr G)
theorem de_int {i j} : DE X B (.Constant (.int i) j pos) (fun _ M Ψ => Ψ (.int i) M) := de_c pe_int fun _ => .int
theorem de_bl {b j} : DE X B (.Constant (.bool b) j pos) (fun _ M Ψ => Ψ (.bl b) M) := de_c pe_bl fun _ => .bl
theorem de_non {j} : DE X B (.Constant .none j pos) (fun _ M Ψ => Ψ .non M) := de_c pe_non fun _ => .non
theorem de_str {x j} : DE X B (.Constant (.str x) j pos) (fun _ M Ψ => Ψ (.str x) M) := de_c pe_str fun _ => .str
theorem de_glob {x : Str} {v : V} {u : Value} {d : D} (hm : X.mg x = some u) (r : RelV v u) (hr : ∀ G, Rep X.K G d v) (hg : Gl X x := by rfl) (hd : (x == ("__debug__" : Str)) = false := by decide) : DE X B (.Name x pos) (fun _ M Ψ => Ψ d M) := de_c (pe_glob hg hm r hd) hr

theorem da_nil : DA X B [] (fun _ M Ψ => Ψ [] M) := PA_imp pa_nil fun σ H Q ⟨r, M, G, Ψ, R, h, k⟩ => k [] M [] H G h R Sub.rfl' .nil
theorem da_cons {fs : DTA} (ha : DE X B e fa) (hr : DA X B es fs) (hs : starEach (e :: es) X.env = (false, eval e X.env) :: starEach es X.env := by rfl) :
    DA X B (e :: es) (fun r M Ψ => fa r M fun d M1 => fs r M1 fun ds M2 => Ψ (d :: ds) M2) := by
  refine PA_imp (pa_cons ha hr hs) fun σ H Q ⟨r, M, G, Ψ, R, h, k⟩ => ?_
  refine ⟨r, M, G, _, R, h, fun d M1 v H1 G1 q1 R1 s1 p1 => ?_⟩
  exact ⟨r, M1, G1, _, R1, q1, fun ds M2 vs H2 G2 q2 R2 s2 p2 => k _ _ _ _ _ q2 R2 (s1.tr s2) (.cons (p1.mono s2) p2)⟩
theorem de_tup {x1} (h : DA X B es ga) : DE X B (.Tuple es x1 pos) (fun r M Ψ => ga r M fun ds M1 => ds.length ≤ sizeLine ∧ Ψ (.tup ds) M1) := by
  refine PE_imp (pe_tup h) fun σ H Q ⟨r, M, G, Ψ, R, h, k⟩ => ?_
  refine ⟨r, M, G, _, R, h, fun ds M1 vs H1 G1 ⟨z, q⟩ R1 s1 p1 => ⟨by rw [← p1.length]; exact z, fun p hp => ?_⟩⟩
  have g : Grow H1 G1 (upd H1 p (.tup vs)) (upd G1 p (.tup vs)) := grow_upd R1.wd.sub hp
  exact k _ _ _ _ _ q (R1.grow g) (s1.tr g.gsub) (.tup (SqT.of upd_same) (p1.mono g.gsub))
theorem de_lst (h : DA X B es ga) : DE X B (.List es pos) (fun r M Ψ => ga r M fun ds M1 => ds.length ≤ sizeLine ∧ Ψ (.lst ds) M1) := by
  refine PE_imp (pe_lst h) fun σ H Q ⟨r, M, G, Ψ, R, h, k⟩ => ?_
  refine ⟨r, M, G, _, R, h, fun ds M1 vs H1 G1 ⟨z, q⟩ R1 s1 p1 => ⟨by rw [← p1.length]; exact z, fun p hp => ?_⟩⟩
  have g : Grow H1 G1 (upd H1 p (.lst vs)) (upd G1 p (.lst vs)) := grow_upd R1.wd.sub hp
  exact k _ _ _ _ _ q (R1.grow g) (s1.tr g.gsub) (.lst (.inl upd_same) (p1.mono g.gsub))
def updM (M : Sto) (p : Addr) (c : Cell) : Sto := fun a => if a = p then some c else M a
theorem updM_same {M : Sto} {p : Addr} {c : Cell} : updM M p c p = some c := if_pos rfl
theorem updM_ne {M : Sto} {p a : Addr} {c : Cell} (h : a ≠ p) : updM M p c a = M a := if_neg h
theorem updM_updM {M : Sto} {p : Addr} {c c' : Cell} : updM (updM M p c) p c' = updM M p c' := by
  funext a; unfold updM; split <;> rfl
theorem updM_comm {M : Sto} {p q : Addr} {c c' : Cell} (h : p ≠ q) : updM (updM M p c) q c' = updM (updM M q c') p c := by
  funext a; unfold updM; split <;> split <;> simp_all
theorem cell_new {K : PySem.W.Frag} {M : Sto} {H G : Hp} {p : Addr} {o : HO} {c : Cell} (w : Wd K M H G) (hp : H p = none) (hc : CellAt K G (upd H p o) p c) : Wd K (updM M p c) (upd H p o) G ∧ Since H G M (updM M p c) (upd H p o) G := by
  have gp : G p = none := by
    cases q : G p with
    | none => rfl
    | some u => rw [w.sub _ _ q] at hp; cases hp
  refine ⟨⟨fun a u h => ?_, fun a u h => ?_⟩, ⟨fun a u h n => ?_, fun a h => ?_, Sub.rfl', fun a h n => absurd n h, fun a h n => ?_⟩⟩
  · rw [upd_ne (ne_of_none (w.sub _ _ h) hp)]; exact w.sub _ _ h
  · by_cases e : a = p
    · subst e; rw [updM_same] at h; cases h; exact ⟨gp, hc⟩
    · rw [updM_ne e] at h
      obtain ⟨h1, h2⟩ := w.cells a u h
      exact ⟨h1, h2.move Sub.rfl' fun o z => by rw [upd_ne e]; exact z⟩
  · rw [upd_ne (ne_of_none h hp)]; exact h
  · by_cases e : a = p
    · subst e; rw [upd_same]; simp
    · rw [upd_ne e]; exact h
  · by_cases e : a = p
    · subst e; exact hp
    · rw [updM_ne e] at h; exact absurd n h
theorem cell_put {K : PySem.W.Frag} {M : Sto} {H G : Hp} {p : Addr} {o : HO} {c c0 : Cell} (w : Wd K M H G) (hp : M p = some c0) (hc : CellAt K G (upd H p o) p c) : Wd K (updM M p c) (upd H p o) G ∧ Since H G M (updM M p c) (upd H p o) G := by
  obtain ⟨gp, hat⟩ := w.cells p c0 hp
  refine ⟨⟨fun a u h => ?_, fun a u h => ?_⟩, ⟨fun a u h n => ?_, fun a h => ?_, Sub.rfl', fun a h n => absurd n h, fun a h n => ?_⟩⟩
  · rw [upd_ne (ne_of_none h gp)]; exact w.sub _ _ h
  · by_cases e : a = p
    · subst e; rw [updM_same] at h; cases h; exact ⟨gp, hc⟩
    · rw [updM_ne e] at h
      obtain ⟨h1, h2⟩ := w.cells a u h
      exact ⟨h1, h2.move Sub.rfl' fun o z => by rw [upd_ne e]; exact z⟩
  · have e : a ≠ p := fun z => by subst z; rw [hp] at n; cases n
    rw [upd_ne e]; exact h
  · by_cases e : a = p
    · subst e; rw [upd_same]; simp
    · rw [upd_ne e]; exact h
  · by_cases e : a = p
    · subst e; rw [hp] at n; cases n
    · rw [updM_ne e] at h; exact absurd n h
theorem Wd.nomem {K : PySem.W.Frag} {M : Sto} {H G : Hp} {p : Addr} (w : Wd K M H G) (hp : H p = none) : M p = none := by
  cases q : M p with
  | none => rfl
  | some c => exact absurd hp (w.cells p c q).2.there
theorem de_lstM (h : DA X B es ga) : DE X B (.List es pos) (fun r M Ψ => ga r M fun ds M1 => ds.length ≤ sizeLine ∧ ∀ p, M1 p = none → Ψ (.ref p) (updM M1 p (.lst ds))) := by
  refine PE_imp (pe_lst h) fun σ H Q ⟨r, M, G, Ψ, R, h, k⟩ => ?_
  refine ⟨r, M, G, _, R, h, fun ds M1 vs H1 G1 ⟨z, q⟩ R1 s1 p1 => ⟨by rw [← p1.length]; exact z, fun p hp => ?_⟩⟩
  obtain ⟨w, s⟩ := cell_new (c := .lst ds) (o := .lst vs) R1.wd hp ⟨vs, upd_same, p1⟩
  exact k _ _ _ _ _ (q p (R1.wd.nomem hp)) (R1.go w s) s1 .ref

def Ok2 (K : PySem.W.Frag) (r : R2) (g : Sto → D → D → (D → Prop) → Prop) : Prop := ∀ (M : Sto) (H G : Hp) (x y : D) (v u : V) (φ : D → Prop) (Q : VK), Wd K M H G → Rep K G x v → Rep K G y u → g M x y φ →
  (∀ d w H' G', φ d → Grow H G H' G' → Rep K G' d w → Q w H') → r v u H Q
theorem tOp_ok {r : R2} {g : Sto → D → D → (D → Prop) → Prop} (ok : Ok2 X.K r g) {σ : L2.St} {H : Hp} {Q : VK} (h : lift X.K B (fun r M Ψ => fa r M fun x M1 => fb r M1 fun y M2 => g M2 x y fun z => Ψ z M2) σ H Q) : tOp r (lift X.K B fa) (lift X.K B fb) σ H Q := by
  obtain ⟨r, M, G, Ψ, R, h, k⟩ := h
  refine ⟨r, M, G, _, R, h, fun d M1 v H1 G1 q1 R1 s1 p1 => ?_⟩
  refine ⟨r, M1, G1, _, R1, q1, fun y M2 u H2 G2 q2 R2 s2 p2 => ?_⟩
  exact ok M2 H2 G2 _ _ _ _ _ _ R2.wd (p1.mono s2) p2 q2 fun d w H' G' f g p => k _ _ _ _ _ f (R2.grow g) ((s1.tr s2).tr g.gsub) p
theorem de_op {op : Operator} {r : R2} {g : Sto → D → D → (D → Prop) → Prop} (ho : OpR X (binaryOp op) r) (ok : Ok2 X.K r g) (ha : DE X B a fa) (hb : DE X B b fb) :
    DE X B (.BinOp a op b pos) (fun r M Ψ => fa r M fun x M1 => fb r M1 fun y M2 => g M2 x y fun z => Ψ z M2) := PE_imp (pe_op ho ha hb) fun σ H Q h => tOp_ok ok h
theorem de_cmp {op : CmpOp} {r : R2} {g : Sto → D → D → (D → Prop) → Prop} (ho : OpR X (compareOp op) r) (ok : Ok2 X.K r g) (hm : behindInMarks op b = false) (ha : DE X B a fa) (hb : DE X B b fb) :
    DE X B (.Compare a [op] [b] pos) (fun r M Ψ => fa r M fun x M1 => fb r M1 fun y M2 => g M2 x y fun z => Ψ z M2) := PE_imp (pe_cmpR ho ha hb hm) fun σ H Q h => tOp_ok ok h
end
end Z
namespace Z
open PySem PySem.Spec PyProof.Rows L2

def lstOf (M : Sto) : D → Option (List D)
  | .lst l => some l
  | .ref p => match M p with
    | some (.lst l) => some l
    | _ => none
  | _ => none
def tupOf : D → Option (List D)
  | .tup l => some l
  | .tpl l => some l
  | _ => none
section
variable {K : PySem.W.Frag} {M : Sto} {H G : Hp} {d : D} {v : V} {l : List D}
theorem lstOf_ref {a : Addr} (e : lstOf M (.ref a) = some l) : M a = some (.lst l) := by
  have e' : (match M a with | some (.lst l) => some l | _ => none) = some l := e
  split at e'
  · rename_i l' q
    rw [q, Option.some.inj e']
  · cases e'
theorem lst_rep (w : Wd K M H G) (r : Rep K G d v) (e : lstOf M d = some l) : ∃ a vs, v = .ref a ∧ Rd H a (.lst vs) ∧ RepL K G l vs := by
  cases r with
  | lst h r => cases e; exact ⟨_, _, rfl, w.sub.rd h, r⟩
  | ref =>
    obtain ⟨_, vs, h, r⟩ := w.cells _ _ (lstOf_ref e)
    exact ⟨_, vs, rfl, .inl h, r⟩
  | _ => cases e
theorem lst_rep' (w : Wd K M H G) (r : Rep K G d v) (e : lstOf M d = some l) : ∃ a vs, v = .ref a ∧ SqL K H a vs ∧ RepL K G l vs :=
  let ⟨a, vs, h1, h2, h3⟩ := lst_rep w r e
  ⟨a, vs, h1, .inl h2, h3⟩
theorem tup_rep (w : Wd K M H G) (r : Rep K G d v) (e : tupOf d = some l) : ∃ a vs, v = .ref a ∧ SqT K H a vs ∧ RepL K G l vs := by
  cases r with
  | tup h r => cases e; exact ⟨_, _, rfl, w.sub.sqT h, r⟩
  | tpl h r => cases e; exact ⟨_, _, rfl, w.sub.sqT (SqT.of h), r⟩
  | _ => cases e
theorem repL_ints {ns : List Int} : ∀ {vs : List V}, RepL K G (ns.map D.int) vs → vs = ns.map V.int := by
  induction ns with
  | nil => intro vs r; cases r; rfl
  | cons n ns ih => intro vs r; cases r with | cons r1 r2 => cases r1; rw [ih r2]; rfl
theorem repL_bls {ns : List Bool} : ∀ {vs : List V}, RepL K G (ns.map D.bl) vs → vs = ns.map V.bl := by
  induction ns with
  | nil => intro vs r; cases r; rfl
  | cons n ns ih => intro vs r; cases r with | cons r1 r2 => cases r1; rw [ih r2]; rfl
end

def Dok (j : Int) : Prop := j ≠ 0 ∧ j.natAbs.log2 < 9000
theorem dok_of {j : Int} {n : Nat} (h0 : j ≠ 0) (h : j.natAbs < 2 ^ n) (hn : n ≤ 9000 := by decide) : Dok j := by
  refine ⟨h0, Nat.lt_of_lt_of_le ((Nat.log2_lt (by omega)).mpr h) hn⟩
theorem mok_of {i j : Int} {a b : Nat} (ha : i.natAbs < 2 ^ a) (hb : j.natAbs < 2 ^ b) (h0 : 0 < a := by decide) (h1 : 0 < b := by decide) (h : a + b ≤ 1000000 := by decide) : IntMulOk i j := CMulW.ok (wide_mul ha hb h0 h1 h)
def addD (M : Sto) (x y : D) (φ : D → Prop) : Prop := match x, y with
  | .int i, .int j => φ (.int (i + j))
  | .str a, .str b => a.length + b.length ≤ sizeLine ∧ φ (.str (a ++ b))
  | .tup a, .tup b => a.length + b.length ≤ sizeLine ∧ φ (.tup (a ++ b))
  | .int i, .bl b => φ (.int (i + b2i b))
  | x, y => ∃ a b, lstOf M x = some a ∧ lstOf M y = some b ∧ a.length + b.length ≤ sizeLine ∧ φ (.lst (a ++ b))
def subD (_ : Sto) (x y : D) (φ : D → Prop) : Prop := match x, y with
  | .int i, .int j => φ (.int (i - j))
  | _, _ => False
def mulD (_ : Sto) (x y : D) (φ : D → Prop) : Prop := match x, y with
  | .int i, .int j => IntMulOk i j ∧ φ (.int (i * j))
  | _, _ => False
def fdivD (_ : Sto) (x y : D) (φ : D → Prop) : Prop := match x, y with
  | .int i, .int j => Dok j ∧ φ (.int (i.fdiv j))
  | _, _ => False
def fmodD (_ : Sto) (x y : D) (φ : D → Prop) : Prop := match x, y with
  | .int i, .int j => j ≠ 0 ∧ φ (.int (i.fmod j))
  | _, _ => False
def powD (_ : Sto) (x y : D) (φ : D → Prop) : Prop := match x, y with
  | .int i, .int j => CPow i j ∧ φ (.int (i ^ j.toNat))
  | _, _ => False
section
variable {X : Cx}
theorem rd_lst {pins : List (Addr × Obj)} {σ : L2.St} {H : Hp} {s : Shared} {l : Addr} {xs : List V} (I : Inv X pins σ H s) (h : Rd H l (.lst xs)) : xs.length ≤ sizeLine ∧ ∃ (its : List Value) (n : Nat), Vals xs its ∧ xs.length = its.length ∧ s.heap.get? l = some { cls := .type "list", data := .seq its.toArray n } := by
  obtain ⟨z, its, n, r, e⟩ := h.ok I.hok
  exact ⟨z, its, n, r, r.length, e⟩
def rCatL : R2 := fun x y H Q => ∃ l b xs zs, x = .ref l ∧ y = .ref b ∧ Rd H l (.lst xs) ∧ Rd H b (.lst zs) ∧ xs.length + zs.length ≤ sizeLine ∧ ∀ p, H p = none → Q (.ref p) (upd H p (.lst (xs ++ zs)))
theorem op_catL : OpR X (binaryOp .Add) rCatL := by
  intro pins s σ H x y v u Q I rx ry h
  obtain ⟨l, b, xs, zs, rfl, rfl, hH, hB, hz, q⟩ := h
  cases rx
  cases ry
  obtain ⟨z, its, n, r, hl, e⟩ := rd_lst I hH
  obtain ⟨z2, its2, n2, r2, hl2, e2⟩ := rd_lst I hB
  refine PySem.P.add_list e e2 ?_ (by rw [List.size_toArray, List.size_toArray]; omega)
  have ea : its.toArray ++ its2.toArray = (its ++ its2).toArray := by simp
  rw [ea]
  exact ⟨.ref _, _, I.lnew (t' := s.toks) (r.append r2) (by rw [List.length_append]; omega), rfl, q _ I.fresh⟩
theorem op_fdivZ : OpR X (binaryOp .FloorDiv) (rI (fun _ j => Dok j) fun i j => .int (i.fdiv j)) := opI fun _ _ _ _ _ _ _ hc q => floordiv_int hc.1 q (.inl (PyProof.noPylong_of_log2 hc.2))
theorem op_mulZ : OpR X (binaryOp .Mult) (rI IntMulOk fun i j => .int (i * j)) := opI fun _ _ _ _ _ _ _ hc q => mul_int q hc

theorem ok_int (C : Int → Int → Prop) (g : Int → Int → V) (gd : Int → Int → D) (hg : ∀ K G i j, Rep K G (gd i j) (g i j)) (f : Sto → D → D → (D → Prop) → Prop) (hf : ∀ M x y φ, f M x y φ → ∃ i j, x = .int i ∧ y = .int j ∧ C i j ∧ φ (gd i j)) {K : PySem.W.Frag} : Ok2 K (rI C g) f := fun M H G x y v u φ Q w rx ry h k => by
  obtain ⟨i, j, rfl, rfl, c, q⟩ := hf _ _ _ _ h
  cases rx
  cases ry
  exact ⟨i, j, rfl, rfl, c, k _ _ _ _ q (Grow.refl w.sub) (hg _ _ _ _)⟩
theorem ok_sub {K : PySem.W.Frag} : Ok2 K (rI0 fun i j => .int (i - j)) subD := fun M H G x y v u φ Q w rx ry h k => by
  unfold subD at h
  split at h
  · cases rx; cases ry; exact ⟨_, _, rfl, rfl, k _ _ _ _ h (Grow.refl w.sub) .int⟩
  · exact h.elim
theorem ok_mul {K : PySem.W.Frag} : Ok2 K (rI IntMulOk fun i j => .int (i * j)) mulD := ok_int _ _ (fun i j => .int (i * j)) (fun _ _ _ _ => .int) _ fun M x y φ h => by
  unfold mulD at h
  split at h
  · exact ⟨_, _, rfl, rfl, h⟩
  · exact h.elim
theorem ok_fdiv {K : PySem.W.Frag} : Ok2 K (rI (fun _ j => Dok j) fun i j => .int (i.fdiv j)) fdivD := ok_int _ _ (fun i j => .int (i.fdiv j)) (fun _ _ _ _ => .int) _ fun M x y φ h => by
  unfold fdivD at h
  split at h
  · exact ⟨_, _, rfl, rfl, h⟩
  · exact h.elim
theorem ok_fmod {K : PySem.W.Frag} : Ok2 K (rI (fun _ j => j ≠ 0) fun i j => .int (i.fmod j)) fmodD := ok_int _ _ (fun i j => .int (i.fmod j)) (fun _ _ _ _ => .int) _ fun M x y φ h => by
  unfold fmodD at h
  split at h
  · exact ⟨_, _, rfl, rfl, h⟩
  · exact h.elim
theorem ok_pow {K : PySem.W.Frag} : Ok2 K (rI CPow fun i j => .int (i ^ j.toNat)) powD := ok_int _ _ (fun i j => .int (i ^ j.toNat)) (fun _ _ _ _ => .int) _ fun M x y φ h => by
  unfold powD at h
  split at h
  · exact ⟨_, _, rfl, rfl, h⟩
  · exact h.elim
def rAddA (K : PySem.W.Frag) : R2 := fun x y H Q => rI0 (fun i j => .int (i + j)) x y H Q ∨ (∃ i j, x = .str i ∧ y = .str j ∧ i.length + j.length ≤ sizeLine ∧ Q (.str (i ++ j)) H) ∨ rCatA K x y H Q ∨
  (∃ i k, x = .int i ∧ y = .bl k ∧ Q (.int (i + b2i k)) H) ∨ rCatL x y H Q
theorem op_addA : OpR X (binaryOp .Add) (rAddA X.K) := op_add.or (op_add_str.or (op_catA.or (op_add_ib.or op_catL)))
theorem ok_add {K : PySem.W.Frag} : Ok2 K (rAddA K) addD := fun M H G x y v u φ Q w rx ry h k => by
  unfold addD at h
  split at h
  · cases rx; cases ry; exact .inl ⟨_, _, rfl, rfl, k _ _ _ _ h (Grow.refl w.sub) .int⟩
  · cases rx; cases ry; exact .inr (.inl ⟨_, _, rfl, rfl, h.1, k _ _ _ _ h.2 (Grow.refl w.sub) .str⟩)
  · rename_i a b
    obtain ⟨p, vs, rfl, h1, r1⟩ := tup_rep w rx (l := a) rfl
    obtain ⟨q, us, rfl, h2, r2⟩ := tup_rep w ry (l := b) rfl
    refine .inr (.inr (.inl ⟨p, q, vs, us, rfl, rfl, h1, h2, by rw [← r1.length, ← r2.length]; exact h.1, fun e => ?_, fun _ e => ?_, fun _ _ p hp => ?_⟩))
    · subst e; cases r1
      exact k _ _ _ _ h.2 (Grow.refl w.sub) ry
    · subst e; cases r2
      rw [List.append_nil] at h
      exact k _ _ _ _ h.2 (Grow.refl w.sub) rx
    · have g : Grow H G (upd H p (.tup (vs ++ us))) (upd G p (.tup (vs ++ us))) := grow_upd w.sub hp
      exact k _ _ _ _ h.2 g (.tup (SqT.of upd_same) ((r1.app r2).mono g.gsub))
  · cases rx; cases ry; exact .inr (.inr (.inr (.inl ⟨_, _, rfl, rfl, k _ _ _ _ h (Grow.refl w.sub) .int⟩)))
  · obtain ⟨a, b, e1, e2, z, q⟩ := h
    obtain ⟨p, vs, rfl, h1, r1⟩ := lst_rep w rx e1
    obtain ⟨q', us, rfl, h2, r2⟩ := lst_rep w ry e2
    refine .inr (.inr (.inr (.inr ⟨p, q', vs, us, rfl, rfl, h1, h2, by rw [← r1.length, ← r2.length]; exact z, fun p hp => ?_⟩)))
    have g : Grow H G (upd H p (.lst (vs ++ us))) (upd G p (.lst (vs ++ us))) := grow_upd w.sub hp
    exact k _ _ _ _ q g (.lst (.inl upd_same) ((r1.app r2).mono g.gsub))
end
section
variable {X : Cx} {B : Bs} {pos : Pos} {a b e : Expr} {es : List Expr} {fa fb : DTE} {ga : DTA}
theorem de_add (ha : DE X B a fa) (hb : DE X B b fb) : DE X B (.BinOp a .Add b pos) (fun r M Ψ => fa r M fun x M1 => fb r M1 fun y M2 => addD M2 x y fun z => Ψ z M2) := de_op op_addA ok_add ha hb
theorem de_sub (ha : DE X B a fa) (hb : DE X B b fb) : DE X B (.BinOp a .Sub b pos) (fun r M Ψ => fa r M fun x M1 => fb r M1 fun y M2 => subD M2 x y fun z => Ψ z M2) := de_op op_sub ok_sub ha hb
theorem de_mul (ha : DE X B a fa) (hb : DE X B b fb) : DE X B (.BinOp a .Mult b pos) (fun r M Ψ => fa r M fun x M1 => fb r M1 fun y M2 => mulD M2 x y fun z => Ψ z M2) := de_op op_mulZ ok_mul ha hb
theorem de_fdiv (ha : DE X B a fa) (hb : DE X B b fb) : DE X B (.BinOp a .FloorDiv b pos) (fun r M Ψ => fa r M fun x M1 => fb r M1 fun y M2 => fdivD M2 x y fun z => Ψ z M2) := de_op op_fdivZ ok_fdiv ha hb
theorem de_fmod (ha : DE X B a fa) (hb : DE X B b fb) : DE X B (.BinOp a .Mod b pos) (fun r M Ψ => fa r M fun x M1 => fb r M1 fun y M2 => fmodD M2 x y fun z => Ψ z M2) := de_op op_modN ok_fmod ha hb
theorem de_pow (ha : DE X B a fa) (hb : DE X B b fb) : DE X B (.BinOp a .Pow b pos) (fun r M Ψ => fa r M fun x M1 => fb r M1 fun y M2 => powD M2 x y fun z => Ψ z M2) := de_op op_pow ok_pow ha hb
theorem de_neg (ha : DE X B a fa) : DE X B (.UnaryOp .USub a pos) (fun r M Ψ => fa r M fun x M1 => match x with | .int i => Ψ (.int (-i)) M1 | _ => False) :=
  PE_imp (pe_un un_neg ha) fun σ H Q ⟨r, M, G, Ψ, R, h, k⟩ => by
    refine ⟨r, M, G, _, R, h, fun d M1 v H1 G1 q1 R1 s1 p1 => ?_⟩
    cases p1 with
    | int => exact ⟨_, rfl, k _ _ _ _ _ q1 R1 s1 .int⟩
    | _ => exact q1.elim
end
end Z
namespace Z
open PySem PySem.Spec PyProof.Rows L2

mutual
def pd : D → Option PyData
  | .non => some .none
  | .bl b => some (.bool b)
  | .int i => some (.int i)
  | .str x => some (.str x)
  | .tup l => (pdL l).map .tuple
  | .lst l => (pdL l).map .list
  | .tpl l => (pdL l).map .tuple
  | _ => none
def pdL : List D → Option (List PyData)
  | [] => some []
  | d :: r => match pd d, pdL r with
    | some x, some xs => some (x :: xs)
    | _, _ => none
end
def toPd (M : Sto) (d : D) : Option PyData := match lstOf M d with
  | some l => (pdL l).map .list
  | none => pd d
section
variable {K : PySem.W.Frag} {G H : Hp}
mutual
theorem dp_of (s : Sub G H) : ∀ (d : D) (v : V) (p : PyData), Rep K G d v → pd d = some p → Dp K H v p
  | .non, _, _, r, e => by cases r; cases e; exact .non
  | .bl b, _, _, r, e => by cases r; cases e; exact .bl b
  | .int i, _, _, r, e => by cases r; cases e; exact .int i
  | .str x, _, _, r, e => by cases r; cases e; exact .str x
  | .tup l, _, _, r, e => by
    cases r with
    | tup h r =>
      obtain ⟨q, e1, e2⟩ := Option.map_eq_some_iff.mp (show (pdL l).map PyData.tuple = some _ from e)
      subst e2
      exact .tup (s.sqT h) (dp_all s l _ _ r e1)
  | .lst l, _, _, r, e => by
    cases r with
    | lst h r =>
      obtain ⟨q, e1, e2⟩ := Option.map_eq_some_iff.mp (show (pdL l).map PyData.list = some _ from e)
      subst e2
      exact .lst (.inl (s.rd h)) (dp_all s l _ _ r e1)
  | .tpl l, _, _, r, e => by
    cases r with
    | tpl h r =>
      obtain ⟨q, e1, e2⟩ := Option.map_eq_some_iff.mp (show (pdL l).map PyData.tuple = some _ from e)
      subst e2
      exact .tup (s.sqT (SqT.of h)) (dp_all s l _ _ r e1)
  | .ty _, _, _, _, e => by cases e
  | .ref _, _, _, _, e => by cases e
  | .dic _, _, _, _, e => by cases e
  | .dlk _, _, _, _, e => by cases e
  | .fn _, _, _, _, e => by cases e
  | .obj _ _, _, _, _, e => by cases e
theorem dp_all (s : Sub G H) : ∀ (l : List D) (vs : List V) (ps : List PyData), RepL K G l vs → pdL l = some ps → DpAll K H vs ps
  | [], _, _, r, e => by cases r; cases e; exact .nil
  | d :: l, _, _, r, e => by
    cases r with
    | cons r1 r2 =>
      unfold pdL at e
      split at e
      · rename_i x xs e1 e2
        cases e
        exact .cons (dp_of s d _ _ r1 e1) (dp_all s l _ _ r2 e2)
      · cases e
end
theorem toPd_dp {M : Sto} {d : D} {v : V} {p : PyData} (w : Wd K M H G) (r : Rep K G d v) (e : toPd M d = some p) : Dp K H v p := by
  unfold toPd at e
  split at e
  · rename_i l q
    obtain ⟨a, vs, rfl, h, r2⟩ := lst_rep' w r q
    obtain ⟨ps, e1, e2⟩ := Option.map_eq_some_iff.mp e
    subst e2
    exact .lst h (dp_all w.sub l _ _ r2 e1)
  · exact dp_of w.sub d v p r e
end
def eqvD (M : Sto) (x y : D) (φ : Bool → Prop) : Prop := match x, y with
  | .int i, .int j => φ (decide (i = j))
  | .str a, .str b => φ (decide (a = b))
  | .bl a, .bl b => φ (decide (a = b))
  | x, y => ∃ p q, toPd M x = some p ∧ toPd M y = some q ∧ SeqAt.shaped p = true ∧ SeqAt.shaped q = true ∧ φ (PyData.eqv p q)
@[irreducible] def eqD (M : Sto) (x y : D) (φ : D → Prop) : Prop := eqvD M x y fun b => φ (.bl b)
@[irreducible] def neD (M : Sto) (x y : D) (φ : D → Prop) : Prop := eqvD M x y fun b => φ (.bl (!b))
def cmpD (p : Int → Int → Bool) (_ : Sto) (x y : D) (φ : D → Prop) : Prop := match x, y with
  | .int i, .int j => φ (.bl (p i j))
  | _, _ => False
abbrev ltD := cmpD fun i j => decide (i < j)
abbrev leD := cmpD fun i j => decide (i ≤ j)
abbrev gtD := cmpD fun i j => decide (j < i)
abbrev geD := cmpD fun i j => decide (j ≤ i)
def isN (d : D) : Bool := match d with
  | .non => true
  | _ => false
def isD (_ : Sto) (x y : D) (φ : D → Prop) : Prop := match y with
  | .non => φ (.bl (isN x))
  | _ => False
def isntD (_ : Sto) (x y : D) (φ : D → Prop) : Prop := match y with
  | .non => φ (.bl (!isN x))
  | _ => False
def flatD (d : D) : Bool := match d with
  | .non => true
  | .bl _ => true
  | .int _ => true
  | .str _ => true
  | _ => false
def inQ (M : Sto) (x y : D) (φ : Bool → Prop) : Prop := match y with
  | .str z => ∃ c, x = .str ⟨#[c]⟩ ∧ φ (decide (c ∈ z.cps.toList))
  | .tup l => ∃ p ps, pd x = some p ∧ pdL l = some ps ∧ l.all flatD = true ∧
      flatD x = true ∧ φ (ps.any fun z => PyData.eqv z p)
  | y => ∃ l p ps, lstOf M y = some l ∧ toPd M x = some p ∧ pdL l = some ps ∧ SeqAt.shaped p = true ∧ SeqAt.shaped (.list ps) = true ∧ φ (ps.any fun z => PyData.eqv z p)
def inD (M : Sto) (x y : D) (φ : D → Prop) : Prop := inQ M x y fun b => φ (.bl b)
section
variable {K : PySem.W.Frag} {M : Sto} {H G : Hp}
theorem repN {d : D} {v : V} (r : Rep K G d v) : decide (v = .non) = isN d := by
  cases r <;> simp [isN]
def rEqA (K : PySem.W.Frag) : R2 := fun x y H Q => rEq x y H Q ∨ rEqD K x y H Q
def rNeA (K : PySem.W.Frag) : R2 := fun x y H Q => rNe x y H Q ∨ rNeD K x y H Q
theorem ok_eq : Ok2 K (rEqA K) eqD := fun M H G x y v u φ Q w rx ry h k => by
  unfold eqD eqvD at h
  split at h
  · cases rx; cases ry
    exact .inl ⟨rfl, k _ _ _ _ h (Grow.refl w.sub) (by rw [show decide (V.int _ = V.int _) = _ from dec_int, Bool.beq_eq_decide_eq]; exact .bl)⟩
  · cases rx; cases ry
    exact .inl ⟨rfl, k _ _ _ _ h (Grow.refl w.sub) (by rw [show decide (V.str _ = V.str _) = _ from dec_str, Bool.beq_eq_decide_eq]; exact .bl)⟩
  · cases rx; cases ry
    exact .inl ⟨rfl, k _ _ _ _ h (Grow.refl w.sub) (by rw [show decide (V.bl _ = V.bl _) = _ from dec_bl, Bool.beq_eq_decide_eq]; exact .bl)⟩
  · obtain ⟨p, q, e1, e2, s1, s2, h⟩ := h
    exact .inr ⟨p, q, toPd_dp w rx e1, toPd_dp w ry e2, s1, s2, k _ _ _ _ h (Grow.refl w.sub) .bl⟩
theorem ok_ne : Ok2 K (rNeA K) neD := fun M H G x y v u φ Q w rx ry h k => by
  unfold neD eqvD at h
  split at h
  · cases rx; cases ry
    exact .inl ⟨rfl, k _ _ _ _ h (Grow.refl w.sub) (by rw [show decide (V.int _ = V.int _) = _ from dec_int, Bool.beq_eq_decide_eq]; exact .bl)⟩
  · cases rx; cases ry
    exact .inl ⟨rfl, k _ _ _ _ h (Grow.refl w.sub) (by rw [show decide (V.str _ = V.str _) = _ from dec_str, Bool.beq_eq_decide_eq]; exact .bl)⟩
  · cases rx; cases ry
    exact .inl ⟨rfl, k _ _ _ _ h (Grow.refl w.sub) (by rw [show decide (V.bl _ = V.bl _) = _ from dec_bl, Bool.beq_eq_decide_eq]; exact .bl)⟩
  · obtain ⟨p, q, e1, e2, s1, s2, h⟩ := h
    exact .inr ⟨p, q, toPd_dp w rx e1, toPd_dp w ry e2, s1, s2, k _ _ _ _ h (Grow.refl w.sub) .bl⟩
theorem ok_cmp (p : Int → Int → Bool) : Ok2 K (rI0 fun i j => .bl (p i j)) (cmpD p) := fun M H G x y v u φ Q w rx ry h k => by
  unfold cmpD at h
  split at h
  · cases rx; cases ry; exact ⟨_, _, rfl, rfl, k _ _ _ _ h (Grow.refl w.sub) .bl⟩
  · exact h.elim
theorem ok_is : Ok2 K (fun x y H Q => y = .non ∧ Q (.bl (decide (x = .non))) H) isD := fun M H G x y v u φ Q w rx ry h k => by
  unfold isD at h
  split at h
  · cases ry
    exact ⟨rfl, by rw [repN rx]; exact k _ _ _ _ h (Grow.refl w.sub) .bl⟩
  · exact h.elim
theorem ok_isnt : Ok2 K (fun x y H Q => y = .non ∧ Q (.bl (!decide (x = .non))) H) isntD := fun M H G x y v u φ Q w rx ry h k => by
  unfold isntD at h
  split at h
  · cases ry
    exact ⟨rfl, by rw [repN rx]; exact k _ _ _ _ h (Grow.refl w.sub) .bl⟩
  · exact h.elim
end
theorem pd_flat {K : PySem.W.Frag} {G : Hp} {d : D} {v : V} {p : PyData} (r : Rep K G d v) (e : pd d = some p) (f : flatD d = true) : flatV v = true := by
  cases r <;> first | rfl | exact absurd f Bool.false_ne_true
theorem eqv_flat {K : PySem.W.Frag} {G : Hp} {d c : D} {v u : V} {p q : PyData} (r : Rep K G d v) (r' : Rep K G c u) (e : pd d = some p) (e' : pd c = some q) (f : flatD d = true)
    (f' : flatD c = true) : eqV v u = PyData.eqv p q := by
  cases r <;> first | exact absurd f Bool.false_ne_true | (cases r' <;> first | exact absurd f' Bool.false_ne_true | (cases e; cases e'; simp [eqV, PyData.eqv]))
theorem any_flat {K : PySem.W.Frag} {G : Hp} {c : D} {u : V} {q : PyData} (r' : Rep K G c u) (e' : pd c = some q) (f' : flatD c = true) :
    ∀ {l : List D} {vs : List V} {ps : List PyData}, RepL K G l vs → pdL l = some ps → l.all flatD = true →
      vs.all flatV = true ∧ inV u vs = ps.any fun z => PyData.eqv z q
  | _, _, _, .nil, e, f => by cases e; exact ⟨rfl, rfl⟩
  | d :: l, v :: vs, ps, .cons r1 r2, e, f => by
    unfold pdL at e
    split at e
    · rename_i x xs e1 e2
      cases e
      rw [List.all_cons, Bool.and_eq_true] at f
      obtain ⟨h1, h2⟩ := any_flat r' e' f' r2 e2 f.2
      refine ⟨by rw [List.all_cons, Bool.and_eq_true]; exact ⟨pd_flat r1 e1 f.1, h1⟩, ?_⟩
      unfold inV at h2 ⊢
      rw [List.any_cons, List.any_cons, h2, eqv_flat r1 r' e1 e' f.1 f']
    · cases e
section
variable {X : Cx}
def rInA (K : PySem.W.Frag) : R2 := fun x y H Q => (∃ (c : Nat) (z : Str), x = .str ⟨#[c]⟩ ∧ y = .str z ∧ Q (.bl (decide (c ∈ z.cps.toList))) H) ∨ rIn K false x y H Q ∨ rInD K x y H Q
theorem ok_in {K : PySem.W.Frag} : Ok2 K (rInA K) inD := fun M H G x y v u φ Q w rx ry h k => by
  unfold inD inQ at h
  split at h
  · obtain ⟨c, rfl, h⟩ := h
    cases rx; cases ry
    exact .inl ⟨c, _, rfl, rfl, k _ _ _ _ h (Grow.refl w.sub) .bl⟩
  · rename_i l
    obtain ⟨p, ps, e1, e2, f, f', h⟩ := h
    obtain ⟨a, vs, rfl, h1, r1⟩ := tup_rep w ry (l := l) rfl
    obtain ⟨z1, z2⟩ := any_flat rx e1 f' r1 e2 f
    refine .inr (.inl ⟨a, vs, rfl, .inr h1, pd_flat rx e1 f', z1, ?_⟩)
    show Q (.bl (inV v vs)) H
    rw [z2]
    exact k _ _ _ _ h (Grow.refl w.sub) .bl
  · obtain ⟨l, p, ps, e0, e1, e2, s1, s2, h⟩ := h
    obtain ⟨a, vs, rfl, h1, r1⟩ := lst_rep' w ry e0
    exact .inr (.inr ⟨p, ps, toPd_dp w rx e1, .lst h1 (dp_all w.sub l _ _ r1 e2), s1, s2, k _ _ _ _ h (Grow.refl w.sub) .bl⟩)
theorem room65 {k : Nat} {A : Around} (r : Room k A) : A.units + 65 < cLine := by have := r.un; omega
end

section
variable {X : Cx} {B : Bs} {pos : Pos} {a b c e : Expr} {es : List Expr} {fa fb fc : DTE} {ga : DTA} {ta tb : DTT} {k : Nat}
abbrev bin2 (g : Sto → D → D → (D → Prop) → Prop) (fa fb : DTE) : DTE := fun r M Ψ => fa r M fun x M1 => fb r M1 fun y M2 => g M2 x y fun z => Ψ z M2
theorem de_eq (hr : Room k X.A) (ha : DE X B a fa) (hb : DE X B b fb) : DE X B (.Compare a [.Eq] [b] pos) (bin2 eqD fa fb) := de_cmp (op_eq.or (op_eqD hr.units)) ok_eq (nomark _) ha hb
theorem de_ne (hr : Room k X.A) (ha : DE X B a fa) (hb : DE X B b fb) : DE X B (.Compare a [.NotEq] [b] pos) (bin2 neD fa fb) := de_cmp (op_ne.or (op_neD hr.units)) ok_ne (nomark _) ha hb
theorem de_is (ha : DE X B a fa) (hb : DE X B b fb) : DE X B (.Compare a [.Is] [b] pos) (bin2 isD fa fb) := de_cmp op_isN ok_is (nomark _) ha hb
theorem de_in (hr : Room k X.A) (ha : DE X B a fa) (hb : DE X B b fb) (hm : behindInMarks .In b = false := by rfl) : DE X B (.Compare a [.In] [b] pos) (bin2 inD fa fb) := de_cmp (op_in_sign.or (op_in_seq.or (op_inD (room65 hr)))) ok_in hm ha hb
@[irreducible] def blD (k : Bool → Prop) (d : D) : Prop := match d with
  | .bl b => k b
  | _ => False
theorem tTest_ok (σ : L2.St) (H : Hp) (Q : Bool → Hp → Prop) (h : liftT X.K B (fun r M Ψ => fa r M fun x M1 => blD (fun b => Ψ b M1) x) σ H Q) : tTest (lift X.K B fa) σ H Q := by
  obtain ⟨r, M, G, Ψ, R, h, k⟩ := h
  refine ⟨r, M, G, _, R, h, fun d M1 v H1 G1 q1 R1 s1 p1 => ?_⟩
  unfold blD at q1
  cases p1 with
  | bl => exact ⟨_, rfl, k _ _ _ _ q1 R1 s1⟩
  | _ => exact q1.elim
theorem PE_test {t : TE} (h : PE X e t) (he : ∀ whole, isTrue e X.env whole = (do let v ← whole; standAt e.pos; holding [v] (truthy v)) := by intro _; rfl) : PT X e (tTest t) := by
  refine ⟨fun pins s σ H Q I hw => ?_⟩
  refine isTrue_plain (thn (h.run pins s σ H _ I hw) fun v s1 ⟨x, H1, I1, r1, q1⟩ => ?_) (he _)
  obtain ⟨d, rfl, q⟩ := q1
  cases r1
  exact wpAny_truthy_bool ⟨H1, I1, q⟩
theorem dt_val (h : DE X B e fa) (he : ∀ whole, isTrue e X.env whole = (do let v ← whole; standAt e.pos; holding [v] (truthy v)) := by intro _; rfl) : DT X B e (fun r M Ψ => fa r M fun x M1 => blD (fun b => Ψ b M1) x) :=
  PT_imp (PE_test h he) tTest_ok
theorem tOp_okT {r : R2} {g : Sto → D → D → (D → Prop) → Prop} (ok : Ok2 X.K r g) (σ : L2.St) (H : Hp) (Q : Bool → Hp → Prop) (h : liftT X.K B (fun r M Ψ => fa r M fun x M1 => fb r M1 fun y M2 => g M2 x y fun z => blD (fun b => Ψ b M2) z) σ H Q) :
    tTest (tOp r (lift X.K B fa) (lift X.K B fb)) σ H Q := by
  obtain ⟨r, M, G, Ψ, R, h, k⟩ := h
  refine ⟨r, M, G, _, R, h, fun d M1 v H1 G1 q1 R1 s1 p1 => ?_⟩
  refine ⟨r, M1, G1, _, R1, q1, fun y M2 u H2 G2 q2 R2 s2 p2 => ?_⟩
  refine ok M2 H2 G2 _ _ _ _ _ _ R2.wd (p1.mono s2) p2 q2 fun d w H' G' f g p => ?_
  unfold blD at f
  cases p with
  | bl => exact ⟨_, rfl, k _ _ _ _ f (R2.grow g) ((s1.tr s2).tr g.gsub)⟩
  | _ => exact f.elim
abbrev bin2T (g : Sto → D → D → (D → Prop) → Prop) (fa fb : DTE) : DTT := fun r M Ψ => fa r M fun x M1 => fb r M1 fun y M2 => g M2 x y fun z => blD (fun b => Ψ b M2) z
theorem dt_cmp {op : CmpOp} {r : R2} {g : Sto → D → D → (D → Prop) → Prop} (ho : OpR X (compareOp op) r) (ok : Ok2 X.K r g) (hm : behindInMarks op b = false) (ha : DE X B a fa) (hb : DE X B b fb) :
    DT X B (.Compare a [op] [b] pos) (bin2T g fa fb) := PT_imp (pt_cmpR ho ha hb hm) (tOp_okT ok)
theorem dt_eq (hr : Room k X.A) (ha : DE X B a fa) (hb : DE X B b fb) : DT X B (.Compare a [.Eq] [b] pos) (bin2T eqD fa fb) := dt_cmp (op_eq.or (op_eqD hr.units)) ok_eq (nomark _) ha hb
theorem dt_ne (hr : Room k X.A) (ha : DE X B a fa) (hb : DE X B b fb) : DT X B (.Compare a [.NotEq] [b] pos) (bin2T neD fa fb) := dt_cmp (op_ne.or (op_neD hr.units)) ok_ne (nomark _) ha hb
theorem dt_lt (ha : DE X B a fa) (hb : DE X B b fb) : DT X B (.Compare a [.Lt] [b] pos) (bin2T ltD fa fb) := dt_cmp op_lt (ok_cmp _) (nomark _) ha hb
theorem dt_le (ha : DE X B a fa) (hb : DE X B b fb) : DT X B (.Compare a [.LtE] [b] pos) (bin2T leD fa fb) := dt_cmp op_le (ok_cmp _) (nomark _) ha hb
theorem dt_gt (ha : DE X B a fa) (hb : DE X B b fb) : DT X B (.Compare a [.Gt] [b] pos) (bin2T gtD fa fb) := dt_cmp op_gt (ok_cmp _) (nomark _) ha hb
theorem dt_ge (ha : DE X B a fa) (hb : DE X B b fb) : DT X B (.Compare a [.GtE] [b] pos) (bin2T geD fa fb) := dt_cmp op_ge (ok_cmp _) (nomark _) ha hb
theorem dt_is (ha : DE X B a fa) (hb : DE X B b fb) : DT X B (.Compare a [.Is] [b] pos) (bin2T isD fa fb) := dt_cmp op_isN ok_is (nomark _) ha hb
theorem dt_isnt (ha : DE X B a fa) (hb : DE X B b fb) : DT X B (.Compare a [.IsNot] [b] pos) (bin2T isntD fa fb) := dt_cmp op_notN ok_isnt (nomark _) ha hb
theorem dt_in (hr : Room k X.A) (ha : DE X B a fa) (hb : DE X B b fb) (hm : behindInMarks .In b = false := by rfl) : DT X B (.Compare a [.In] [b] pos) (bin2T inD fa fb) := dt_cmp (op_in_sign.or (op_in_seq.or (op_inD (room65 hr)))) ok_in hm ha hb
def chainD (g g' : Sto → D → D → (D → Prop) → Prop) (fa fb fc : DTE) (r : En) (M : Sto) (Ψ : Bool → Sto → Prop) : Prop :=
  fa r M fun x M1 => fb r M1 fun y M2 => g M2 x y fun z => blD (fun b => if b = true then fc r M2 fun u M3 => g' M3 y u fun z' => blD (fun b => Ψ b M3) z' else Ψ false M2) z
theorem tChain_ok {r r' : R2} {g g' : Sto → D → D → (D → Prop) → Prop} (ok : Ok2 X.K r g) (ok' : Ok2 X.K r' g') (σ : L2.St) (H : Hp) (Q : VK) (h : lift X.K B (fun r M Ψ => chainD g g' fa fb fc r M fun b M1 => Ψ (.bl b) M1) σ H Q) :
    tChain r r' (lift X.K B fa) (lift X.K B fb) (lift X.K B fc) σ H Q := by
  obtain ⟨r, M, G, Ψ, R, h, k⟩ := h
  refine ⟨r, M, G, _, R, h, fun d M1 v H1 G1 q1 R1 s1 p1 => ?_⟩
  refine ⟨r, M1, G1, _, R1, q1, fun y M2 u H2 G2 q2 R2 s2 p2 => ?_⟩
  refine ok M2 H2 G2 _ _ _ _ _ _ R2.wd (p1.mono s2) p2 q2 fun d w H' G' f g p => ?_
  have s3 : Sub G G' := (s1.tr s2).tr g.gsub
  unfold blD at f
  cases p with
  | @bl c =>
    refine ⟨c, rfl, ?_⟩
    cases c with
    | false => exact k _ _ _ _ _ f (R2.grow g) s3 .bl
    | true =>
      refine ⟨r, M2, G', _, R2.grow g, f, fun z M4 w H4 G4 q4 R4 s4 p4 => ?_⟩
      refine ok' M4 H4 G4 _ _ _ _ _ _ R4.wd (p2.mono (g.gsub.tr s4)) p4 q4 fun d w H5 G5 f g p => ?_
      cases p with
      | bl => exact k _ _ _ _ _ f (R4.grow g) ((s3.tr s4).tr g.gsub) .bl
      | _ => exact f.elim
  | _ => exact f.elim
theorem tChain_okT {r r' : R2} {g g' : Sto → D → D → (D → Prop) → Prop} (ok : Ok2 X.K r g) (ok' : Ok2 X.K r' g') (σ : L2.St) (H : Hp) (Q : Bool → Hp → Prop) (h : liftT X.K B (fun r M Ψ => chainD g g' fa fb fc r M Ψ) σ H Q) :
    tTest (tChain r r' (lift X.K B fa) (lift X.K B fb) (lift X.K B fc)) σ H Q := by
  obtain ⟨r, M, G, Ψ, R, h, k⟩ := h
  exact tChain_ok ok ok' σ H _ ⟨r, M, G, fun d M => (match d with | .bl b => Ψ b M | _ => False : Prop), R, h, fun d M' v H' G' q R' s p => by
    cases p with
    | bl => exact ⟨_, rfl, k _ _ _ _ q R' s⟩
    | _ => exact q.elim⟩
theorem de_chain {op op' : CmpOp} {r r' : R2} {g g' : Sto → D → D → (D → Prop) → Prop} (o : OpR X (compareOp op) r ∧ Ok2 X.K r g) (o' : OpR X (compareOp op') r' ∧ Ok2 X.K r' g') (ha : DE X B a fa) (hb : DE X B b fb) (hc : DE X B c fc) (hm : lastMarks [op, op'] [b, c] = false := by rfl) :
    DE X B (.Compare a [op, op'] [b, c] pos) (fun r M Ψ => chainD g g' fa fb fc r M fun b M1 => Ψ (.bl b) M1) := PE_imp (pe_chain o.1 o'.1 ha hb hc hm) (tChain_ok o.2 o'.2)
theorem dt_chain {op op' : CmpOp} {r r' : R2} {g g' : Sto → D → D → (D → Prop) → Prop} (o : OpR X (compareOp op) r ∧ Ok2 X.K r g) (o' : OpR X (compareOp op') r' ∧ Ok2 X.K r' g') (ha : DE X B a fa) (hb : DE X B b fb) (hc : DE X B c fc) (hm : lastMarks [op, op'] [b, c] = false := by rfl) :
    DT X B (.Compare a [op, op'] [b, c] pos) (fun r M Ψ => chainD g g' fa fb fc r M Ψ) := PT_imp (pt_chain o.1 o'.1 ha hb hc hm) (tChain_okT o.2 o'.2)
theorem oc_lt : OpR X (compareOp .Lt) (rI0 fun i j => .bl (decide (i < j))) ∧ Ok2 X.K (rI0 fun i j => .bl (decide (i < j))) ltD := ⟨op_lt, ok_cmp _⟩
theorem oc_le : OpR X (compareOp .LtE) (rI0 fun i j => .bl (decide (i ≤ j))) ∧ Ok2 X.K (rI0 fun i j => .bl (decide (i ≤ j))) leD := ⟨op_le, ok_cmp _⟩
theorem dt_not (ha : DT X B a ta) : DT X B (.UnaryOp .Not a pos) (fun r M Ψ => ta r M fun b M1 => Ψ (!b) M1) :=
  PT_imp (pt_not ha) fun σ H Q ⟨r, M, G, Ψ, R, h, k⟩ => ⟨r, M, G, _, R, h, fun b M' H' G' q R' s => k _ _ _ _ q R' s⟩
theorem dw_and1 (ha : DT X B a ta) : DW X B (.BoolOp .And [a] pos) ta := pw_and1 ha
theorem dw_or1 (ha : DT X B a ta) : DW X B (.BoolOp .Or [a] pos) ta := pw_or1 ha
theorem dw_and (ha : DT X B a ta) (hb : DW X B (.BoolOp .And (b :: es) pos) tb) : DW X B (.BoolOp .And (a :: b :: es) pos) (fun r M Ψ => ta r M fun c M1 => if c = true then tb r M1 Ψ else Ψ false M1) :=
  PW_imp (pw_and ha hb) fun σ H Q ⟨r, M, G, Ψ, R, h, k⟩ => by
    refine ⟨r, M, G, _, R, h, fun c M1 H1 G1 q R1 s1 => ?_⟩
    cases c with
    | true => exact ⟨r, M1, G1, Ψ, R1, q, fun b M' H' G' q R' s => k _ _ _ _ q R' (s1.tr s)⟩
    | false => exact k _ _ _ _ q R1 s1
theorem dw_or (ha : DT X B a ta) (hb : DW X B (.BoolOp .Or (b :: es) pos) tb) : DW X B (.BoolOp .Or (a :: b :: es) pos) (fun r M Ψ => ta r M fun c M1 => if c = true then Ψ true M1 else tb r M1 Ψ) :=
  PW_imp (pw_or ha hb) fun σ H Q ⟨r, M, G, Ψ, R, h, k⟩ => by
    refine ⟨r, M, G, _, R, h, fun c M1 H1 G1 q R1 s1 => ?_⟩
    cases c with
    | false => exact ⟨r, M1, G1, Ψ, R1, q, fun b M' H' G' q R' s => k _ _ _ _ q R' (s1.tr s)⟩
    | true => exact k _ _ _ _ q R1 s1
theorem de_and1 {op} (ha : DE X B a fa) : DE X B (.BoolOp op [a] pos) fa := pe_one ha
theorem de_and (ha : DE X B a fa) (hb : DE X B (.BoolOp .And (b :: es) pos) fb) : DE X B (.BoolOp .And (a :: b :: es) pos) (fun r M Ψ => fa r M fun x M1 => blD (fun c => if c = true then fb r M1 Ψ else Ψ (.bl false) M1) x) :=
  PE_imp (pe_and ha hb) fun σ H Q ⟨r, M, G, Ψ, R, h, k⟩ => by
    refine ⟨r, M, G, _, R, h, fun d M1 v H1 G1 q R1 s1 p1 => ?_⟩
    unfold blD at q
    cases p1 with
    | @bl c =>
      refine ⟨c, rfl, ?_⟩
      cases c with
      | true => exact ⟨r, M1, G1, Ψ, R1, q, fun d M' v H' G' q R' s p => k _ _ _ _ _ q R' (s1.tr s) p⟩
      | false => exact k _ _ _ _ _ q R1 s1 .bl
    | _ => exact q.elim
theorem de_not (ha : DE X B a fa) : DE X B (.UnaryOp .Not a pos) (fun r M Ψ => fa r M fun x M1 => blD (fun c => Ψ (.bl (!c)) M1) x) :=
  PE_imp (pe_not ha) fun σ H Q ⟨r, M, G, Ψ, R, h, k⟩ => by
    refine ⟨r, M, G, _, R, h, fun d M1 v H1 G1 q R1 s1 p1 => ?_⟩
    unfold blD at q
    cases p1 with
    | bl => exact ⟨_, rfl, k _ _ _ _ _ q R1 s1 .bl⟩
    | _ => exact q.elim
theorem de_if (hc : DT X B c ta) (ha : DE X B a fa) (hb : DE X B b fb) : DE X B (.IfExp c a b pos) (fun r M Ψ => ta r M fun t M1 => if t = true then fa r M1 Ψ else fb r M1 Ψ) :=
  PE_imp (pe_ifExp hc ha hb) fun σ H Q ⟨r, M, G, Ψ, R, h, k⟩ => by
    refine ⟨r, M, G, _, R, h, fun t M1 H1 G1 q R1 s1 => ?_⟩
    cases t with
    | true => exact ⟨r, M1, G1, Ψ, R1, q, fun d M' v H' G' q R' s p => k _ _ _ _ _ q R' (s1.tr s) p⟩
    | false => exact ⟨r, M1, G1, Ψ, R1, q, fun d M' v H' G' q R' s p => k _ _ _ _ _ q R' (s1.tr s) p⟩
end
end Z
namespace Z
open PySem PySem.Spec PyProof.Rows L2

theorem Rel.set {K : PySem.W.Frag} {B : Bs} {r : En} {M : Sto} {σ : L2.St} {H G : Hp} {d : D} {v : V} (R : Rel K B r M σ H G) (p : Rep K G d v) (i : Nat) : Rel K B (r.set i (some d)) M (σ.set i (some v)) H G where
  wd := R.wd
  len := by rw [List.length_set, List.length_set]; exact R.len
  slots := fun j e h => by
    by_cases hj : i = j
    · subst hj
      by_cases hi : i < r.length
      · rw [List.getElem?_set_self hi] at h
        cases h
        exact ⟨v, by rw [List.getElem?_set_self (by rw [← R.len]; exact hi)], p⟩
      · rw [List.getElem?_eq_none (by simpa using hi)] at h; cases h
    · rw [List.getElem?_set_ne hj] at h ⊢
      exact R.slots j e h
  sin := R.sin
theorem Rel.unset {K : PySem.W.Frag} {B : Bs} {r : En} {M : Sto} {σ : L2.St} {H G : Hp} (R : Rel K B r M σ H G) (i : Nat) (o : Option V) : Rel K B (r.set i none) M (σ.set i o) H G where
  wd := R.wd
  len := by rw [List.length_set, List.length_set]; exact R.len
  slots := fun j e h => by
    by_cases hj : i = j
    · subst hj
      by_cases hi : i < r.length
      · rw [List.getElem?_set_self hi] at h; cases h
      · rw [List.getElem?_eq_none (by simpa using hi)] at h; cases h
    · rw [List.getElem?_set_ne hj] at h ⊢
      exact R.slots j e h
  sin := R.sin

def Wk (M0 : Sto) (r : En) (M : Sto) (r' : En) (M' : Sto) : Prop := ∀ (K : PySem.W.Frag) (B : Bs) (σ : L2.St) (H G : Hp), B.M = M0 → Rel K B r M σ H G → ∃ G', Rel K B r' M' σ H G' ∧ Sub G G'
theorem Wk.refl {M0 : Sto} {r : En} {M : Sto} : Wk M0 r M r M := fun _ _ _ _ G _ R => ⟨G, R, Sub.rfl'⟩
theorem Wk.trans {M0 : Sto} {r r1 r2 : En} {M M1 M2 : Sto} (a : Wk M0 r M r1 M1) (b : Wk M0 r1 M1 r2 M2) : Wk M0 r M r2 M2 := fun K B σ H G e R => by
  obtain ⟨G1, R1, s1⟩ := a K B σ H G e R
  obtain ⟨G2, R2, s2⟩ := b K B σ H G1 e R1
  exact ⟨G2, R2, s1.tr s2⟩
theorem Wk.slots {M0 : Sto} {r r' : En} {M : Sto} (hl : r'.length = r.length) (h : ∀ (i : Nat) d, r'[i]? = some (some d) → r[i]? = some (some d)) : Wk M0 r M r' M := fun K B σ H G _ R =>
  ⟨G, ⟨R.wd, hl.trans R.len, fun i d e => R.slots i d (h i d e), R.sin⟩, Sub.rfl'⟩
def Cl (M0 : Sto) (P : En → Sto → Prop) (r : En) (M : Sto) : Prop := ∃ r' M', Wk M0 r M r' M' ∧ P r' M'
theorem Cl.of {M0 : Sto} {P : En → Sto → Prop} {r : En} {M : Sto} (h : P r M) : Cl M0 P r M := ⟨r, M, Wk.refl, h⟩

mutual
def sb (g : Addr → D) : D → D
  | .non => .non
  | .bl b => .bl b
  | .int i => .int i
  | .str x => .str x
  | .ty n => .ty n
  | .ref a => g a
  | .tup l => .tup (sbL g l)
  | .lst l => .lst (sbL g l)
  | .lk l => .lk (sbL g l)
  | .dic l => .dic (sbD g l)
  | .dlk l => .dlk (sbD g l)
  | .obj C fs => .obj C (sbF g fs)
  | .fn Q => .fn Q
  | .tpl l => .tpl (sbL g l)
def sbL (g : Addr → D) : List D → List D
  | [] => []
  | d :: r => sb g d :: sbL g r
def sbD (g : Addr → D) : List (D × D) → List (D × D)
  | [] => []
  | (c, d) :: r => (c, sb g d) :: sbD g r
def sbF (g : Addr → D) : List (Str × D) → List (Str × D)
  | [] => []
  | (c, d) :: r => (c, sb g d) :: sbF g r
end
section
variable {K : PySem.W.Frag} {G : Hp} {g : Addr → D}
mutual
theorem Rep.sb (hg : ∀ a, Rep K G (g a) (.ref a)) : ∀ {d : D} {v : V}, Rep K G d v → Rep K G (sb g d) v
  | _, _, .non => .non
  | _, _, .bl => .bl
  | _, _, .int => .int
  | _, _, .str => .str
  | _, _, .ty => .ty
  | _, _, .ref => hg _
  | _, _, .fn h q => .fn h q
  | _, _, .tpl h r => .tpl h (r.sb hg)
  | _, _, .tup h r => .tup h (r.sb hg)
  | _, _, .lst h r => .lst h (r.sb hg)
  | _, _, .lk h r => .lk h (r.sb hg)
  | _, _, .dic h r => .dic h (r.sb hg)
  | _, _, .dlk h r => .dlk h (r.sb hg)
  | _, _, .dit h r => .dit h (r.sb hg)
  | _, _, .obj h r => .obj h (r.sb hg)
theorem RepL.sb (hg : ∀ a, Rep K G (g a) (.ref a)) : ∀ {d : List D} {v : List V}, RepL K G d v → RepL K G (sbL g d) v
  | _, _, .nil => .nil
  | _, _, .cons h r => .cons (h.sb hg) (r.sb hg)
theorem RepF.sb (hg : ∀ a, Rep K G (g a) (.ref a)) : ∀ {d : List (Str × D)} {v : List (Str × V)}, RepF K G d v → RepF K G (sbF g d) v
  | _, _, .nil => .nil
  | _, _, .cons h r => .cons (h.sb hg) (r.sb hg)
theorem RepD.sb (hg : ∀ a, Rep K G (g a) (.ref a)) : ∀ {d : List (D × D)} {v : List (Key × V)}, RepD K G d v → RepD K G (sbD g d) v
  | _, _, .nil => .nil
  | _, _, .cons e h r => .cons e (h.sb hg) (r.sb hg)
theorem RepT.sb (hg : ∀ a, Rep K G (g a) (.ref a)) : ∀ {d : List (D × D)} {v : List (List Key × V)}, RepT K G d v → RepT K G (sbD g d) v
  | _, _, .nil => .nil
  | _, _, .cons e h r => .cons e (h.sb hg) (r.sb hg)
end
end
def sbC (g : Addr → D) (a : Addr) : Option Cell → D
  | some (.lst l) => .lst (sbL g l)
  | some (.dic l) => .dic (sbD g l)
  | some (.dit l) => .dic (sbD g l)
  | some (.ins C fs) => .obj C (sbF g fs)
  | some (.tab _) => .ref a
  | none => .ref a
def fzA (M0 M : Sto) : Nat → Addr → D
  | 0, a => .ref a
  | n + 1, a => match M0 a with
    | some _ => .ref a
    | none => sbC (fzA M0 M n) a (M a)
def fz (M0 M : Sto) (n : Nat) (d : D) : D := sb (fzA M0 M n) d
def rs (M0 M : Sto) : Sto := fun a => match M0 a with
  | some _ => M a
  | none => none
def frzG (M0 M : Sto) (H G : Hp) : Hp := fun a => match G a with
  | some o => some o
  | none => match M0 a, M a with
    | none, some _ => H a
    | _, _ => none
section
variable {K : PySem.W.Frag} {M0 M : Sto} {H G : Hp}
theorem frzG_sub : Sub G (frzG M0 M H G) := fun a o h => by unfold frzG; rw [h]
theorem frzG_at {a : Addr} (w : Wd K M H G) (h0 : M0 a = none) {c : Cell} (h : M a = some c) : frzG M0 M H G a = H a := by
  unfold frzG
  rw [(w.cells a c h).1, h0, h]
theorem rep_frz (w : Wd K M H G) : ∀ (n : Nat) (a : Addr), Rep K (frzG M0 M H G) (fzA M0 M n a) (.ref a)
  | 0, a => .ref
  | n + 1, a => by
    have ih := rep_frz w n
    unfold fzA
    split
    · exact .ref
    · rename_i h0
      cases q : M a with
      | none => exact .ref
      | some c =>
        have hat := (w.cells a c q).2
        have e := frzG_at w h0 q
        cases c with
        | lst l =>
          obtain ⟨vs, h, r⟩ := hat
          exact .lst (.inl (e.trans h)) ((r.mono frzG_sub).sb ih)
        | dic l => obtain ⟨vs, h, r⟩ := hat; exact .dic (e.trans h) ((r.mono frzG_sub).sb ih)
        | dit l => obtain ⟨vs, h, r⟩ := hat; exact .dit (e.trans h) ((r.mono frzG_sub).sb ih)
        | ins C fs =>
          obtain ⟨dx, vs, h, r⟩ := hat
          exact .obj (e.trans h) ((r.mono frzG_sub).sb ih)
        | tab q => exact .ref
theorem frz_end {H0 G0 : Hp} (w : Wd K M H G) (s : Since H0 G0 M0 M H G) : Wd K (rs M0 M) H (frzG M0 M H G) ∧ Since H0 G0 M0 (rs M0 M) H (frzG M0 M H G) := by
  refine ⟨⟨fun a o h => ?_, fun a c h => ?_⟩, ⟨s.keep, s.stay, s.gsub.tr frzG_sub, fun a h n => ?_, fun a h n => ?_⟩⟩
  · unfold frzG at h
    split at h
    · rename_i o' q; cases h; exact w.sub _ _ q
    · split at h
      · exact h
      · cases h
  · unfold rs at h
    split at h
    · rename_i x q
      obtain ⟨h1, h2⟩ := w.cells a c h
      refine ⟨?_, h2.move frzG_sub fun _ z => z⟩
      unfold frzG
      rw [h1, q]
    · cases h
  · unfold frzG at h
    split at h
    · rename_i o q; exact s.gnew a (by rw [q]; simp) n
    · split at h
      · rename_i q1 q2; exact s.mnew a (by rw [q2]; simp) q1
      · exact absurd rfl h
  · unfold rs at h
    rw [n] at h
    exact absurd rfl h
end

theorem EkOk.of {K : PySem.W.Frag} {B : Bs} {f : DTS} {D' : Ends} {σ : L2.St} {H : Hp} (h : liftS K B f D' σ H) : ∃ r M G E, Rel K B r M σ H G ∧ f E r M ∧ EkOk K B G E D' := h
theorem EkOk.to {K : PySem.W.Frag} {B : Bs} {f : DTS} {D' : Ends} {σ : L2.St} {H : Hp} {r : En} {M : Sto} {G : Hp} {E : Ek} (R : Rel K B r M σ H G) (h : f E r M) (k : EkOk K B G E D') : liftS K B f D' σ H := ⟨r, M, G, E, R, h, k⟩
section
variable {X : Cx} {B : Bs} {pos : Pos} {e c : Expr} {es : List Expr} {fa : DTE} {ta : DTT} {st : Stmt} {ss body els : List Stmt} {f g : DTS}
theorem dss_nil : DSs X B [] (fun E r M => E.nx r M) := PSs_imp pss_nil fun D' σ H h => let ⟨r, M, G, E, R, q, k⟩ := EkOk.of h; k.nx _ _ _ _ _ q R Sub.rfl'
theorem dss_cons (h1 : DS X B st f) (h2 : DSs X B ss g) : DSs X B (st :: ss) (fun E r M => f { E with nx := g E } r M) := PSs_imp (pss_cons h1 h2) fun D' σ H h => by
  obtain ⟨r, M, G, E, R, q, k⟩ := EkOk.of h
  exact EkOk.to R q ⟨fun r' M' σ' H' G' q' R' s => EkOk.to R' q' (k.mono s), k.rt, k.bk, k.ct⟩
theorem dss_one (h1 : DS X B st f) : DSs X B [st] f := pss_one h1
theorem ds_expr (he : DE X B e fa) (hs : swapsWith e none pos.line X.env = pure false := by rfl) : DS X B (.Expr e pos) (fun E r M => fa r M fun _ M1 => E.nx r M1) := PS_imp (ps_expr he hs) fun D' σ H h => by
  obtain ⟨r, M, G, E, R, q, k⟩ := EkOk.of h
  exact ⟨r, M, G, _, R, q, fun d M' v H' G' q' R' s p => k.nx _ _ _ _ _ q' R' s⟩
theorem ds_ret (he : DE X B e fa) : DS X B (.Return (some e) pos) (fun E r M => fa r M fun d M1 => E.rt d M1) := PS_imp (ps_ret he) fun D' σ H h => by
  obtain ⟨r, M, G, E, R, q, k⟩ := EkOk.of h
  exact ⟨r, M, G, _, R, q, fun d M' v H' G' q' R' s p => k.rt _ _ _ _ _ _ _ q' R' p⟩
theorem ds_if (hc : DT X B c ta) (ha : DSs X B body f) (hb : DSs X B els g) : DS X B (.If c body els pos) (fun E r M => ta r M fun b M1 => if b = true then f E r M1 else g E r M1) := PS_imp (ps_if hc ha hb) fun D' σ H h => by
  obtain ⟨r, M, G, E, R, q, k⟩ := EkOk.of h
  refine ⟨r, M, G, _, R, q, fun b M' H' G' q' R' s => ?_⟩
  cases b with
  | true => exact EkOk.to R' q' (k.mono s)
  | false => exact EkOk.to R' q' (k.mono s)
abbrev DTGs := List D → En → Sto → (En → Sto → Prop) → Prop
def liftGs (K : PySem.W.Frag) (B : Bs) (f : DTGs) : TGs := fun vs σ H Q => ∃ ds r M G Ψ, Rel K B r M σ H G ∧ RepL K G ds vs ∧ f ds r M Ψ ∧ ∀ r' M' σ' H' G', Ψ r' M' → Rel K B r' M' σ' H' G' → Sub G G' → Q σ' H'
abbrev DGs (X : Cx) (B : Bs) (es : List Expr) (f : DTGs) : Prop := PGs X es (liftGs X.K B f)
theorem PGs_imp {X : Cx} {e : List Expr} {t t' : TGs} (h : PGs X e t) (i : ∀ v σ H Q, t' v σ H Q → t v σ H Q) : PGs X e t' := ⟨fun pins s σ H vs us Q I r q => h.run pins s σ H vs us Q I r (i _ _ _ _ q)⟩
theorem dg_name {i : Nat} {x : Str} (hN : X.N.Nodup) (hi : X.N[i]? = some x := by rfl) (hx : Loc X.env.scope x := by first | exact Or.inl rfl | exact Or.inr rfl)
    (hf : X.fn x = true ∨ X.env.scope.names.lookup x = some .local := by first | exact .inl rfl | exact .inr rfl | assumption) : DG X B (.Name x pos) (fun d r M Ψ => Ψ (r.set i (some d)) M) :=
  PG_imp (pg_name hN hi hx hf) fun v σ H Q ⟨d, r, M, G, Ψ, R, p, h, k⟩ => k _ _ _ _ _ h (R.set p i) Sub.rfl'
theorem dgs_nil : DGs X B [] (fun ds r M Ψ => ds = [] ∧ Ψ r M) := PGs_imp pgs_nil fun vs σ H Q ⟨ds, r, M, G, Ψ, R, p, ⟨e, h⟩, k⟩ => by
  subst e; cases p
  exact ⟨rfl, k _ _ _ _ _ h R Sub.rfl'⟩
theorem dgs_cons {f : DTG} {fs : DTGs} (h1 : DG X B e f) (h2 : DGs X B es fs) (hs : (assignEach (e :: es) X.env).map (·.2) = assign e X.env :: (assignEach es X.env).map (·.2) := by rfl) :
    DGs X B (e :: es) (fun ds r M Ψ => match ds with | d :: l => f d r M fun r1 M1 => fs l r1 M1 Ψ | [] => False) := PGs_imp (pgs_cons h1 h2 hs) fun vs σ H Q ⟨ds, r, M, G, Ψ, R, p, h, k⟩ => by
  cases p with
  | nil => exact h.elim
  | cons p1 p2 => exact ⟨_, _, rfl, _, r, M, G, _, R, p1, h, fun r' M' σ' H' G' q R' s => ⟨_, r', M', G', Ψ, R', p2.mono s, q, fun _ _ _ _ _ q R s' => k _ _ _ _ _ q R (s.tr s')⟩⟩
def tupN (n : Nat) (f : DTGs) : DTG := fun d r M Ψ => match d with
  | .tup l => l.length = n ∧ f l r M Ψ
  | .tpl l => l.length = n ∧ f l r M Ψ
  | _ => False
theorem dg_tup {k n : Nat} {f : DTGs} (hc : X.calm = true) (h : DGs X B es f) (hn : (assignEach es X.env).length = n := by rfl) (hf : List.findIdx? (fun x => x.fst) (assignEach es X.env) = none := by rfl) : DG X B (.Tuple es k pos) (tupN n f) :=
  PG_imp (pg_tup hc h hn hf) fun v σ H Q ⟨d, r, M, G, Ψ, R, p, h, k⟩ => by
    cases p with
    | tup h1 r1 => exact ⟨_, _, rfl, R.wd.sub.sqT h1, by rw [← r1.length]; exact h.1, _, r, M, G, Ψ, R, r1, h.2, k⟩
    | tpl h1 r1 => exact ⟨_, _, rfl, R.wd.sub.sqT (SqT.of h1), by rw [← r1.length]; exact h.1, _, r, M, G, Ψ, R, r1, h.2, k⟩
    | _ => exact h.elim
theorem ds_asg {tg : Expr} {g : DTG} (he : DE X B e fa) (hg : DG X B tg g) (hs : swapsWithSole [tg] e pos.line X.env = pure false := by rfl) (hw : swappedStores [tg] e X.env = pure none := by rfl)
    (h1 : (assignEach [tg] X.env).map (·.2) = [assign tg X.env] := by rfl) : DS X B (.Assign [tg] e pos) (fun E r M => fa r M fun d M1 => g d r M1 E.nx) := PS_imp (ps_asg he hg hs hw h1) fun D' σ H h => by
  obtain ⟨r, M, G, E, R, q, k⟩ := EkOk.of h
  exact ⟨r, M, G, _, R, q, fun d M' v H' G' q' R' s p => ⟨d, r, M', G', _, R', p, q', fun _ _ _ _ _ q R t => k.nx _ _ _ _ _ q R (s.tr t)⟩⟩
theorem ds_set {i : Nat} {x : Str} {pos' : Pos} (hN : X.N.Nodup) (he : DE X B e fa) (hi : X.N[i]? = some x := by rfl) (hx : Loc X.env.scope x := by first | exact Or.inl rfl | exact Or.inr rfl)
    (hs : swapsWith e (some (.Name x pos')) pos.line X.env = pure false := by rfl) (hf : X.fn x = true ∨ X.env.scope.names.lookup x = some .local := by first | exact .inl rfl | exact .inr rfl | assumption) :
    DS X B (.Assign [.Name x pos'] e pos) (fun E r M => fa r M fun d M1 => E.nx (r.set i (some d)) M1) := PS_imp (ps_set hN hi hx he hs hf) fun D' σ H h => by
  obtain ⟨r, M, G, E, R, q, k⟩ := EkOk.of h
  exact ⟨r, M, G, _, R, q, fun d M' v H' G' q' R' s p => k.nx _ _ _ _ _ q' (R'.set p i) s⟩
theorem ds_par {i j : Nat} {x y : Str} {a b : Expr} {ga : DTA} {px py pt : Pos} {kt k2 : Nat} {pt2 : Pos} (hc : X.calm = true) (hN : X.N.Nodup) (ha : DA X B [a, b] ga) (hi : X.N[i]? = some x := by rfl) (hj : X.N[j]? = some y := by rfl) (hij : i ≠ j := by decide)
    (hx : X.env.scope.names.lookup x = some .local := by rfl) (hy : X.env.scope.names.lookup y = some .local := by rfl)
    (hw : swappedStores [.Tuple [.Name x px, .Name y py] kt pt] (.Tuple [a, b] k2 pt2) X.env = pure (some [x, y]) := by rfl) (hs : swapsWithSole [.Tuple [.Name x px, .Name y py] kt pt] (.Tuple [a, b] k2 pt2) pos.line X.env = pure false := by rfl) :
    DS X B (.Assign [.Tuple [.Name x px, .Name y py] kt pt] (.Tuple [a, b] k2 pt2) pos) (fun E r M => ga r M fun ds M1 => match ds with | [d, d'] => E.nx ((r.set i (some d)).set j (some d')) M1 | _ => False) :=
  PS_imp (ps_par hc hN hi hj hij hx hy ha hw hs) fun D' σ H h => by
    obtain ⟨r, M, G, E, R, q, k⟩ := EkOk.of h
    refine ⟨r, M, G, _, R, q, fun ds M' vs H' G' q' R' s p => ?_⟩
    split at q'
    · cases p with
      | cons p1 p2 => cases p2 with
        | cons p2 p3 => cases p3; exact ⟨_, _, rfl, k.nx _ _ _ _ _ q' ((R'.set p1 i).set p2 j) s⟩
    · exact q'.elim
theorem ds_while (hp : PassesOwn (model X.prog X.w) X.A X.env X.xe) (hc : DT X B c ta) (hb : DSs X B body f) : DS X B (.While c body [] pos) (fun E r M => ∃ (Iv : En → Sto → Prop) (μ : En → Sto → Nat), Cl B.M Iv r M ∧ ∀ r M, Iv r M →
    ta r M fun b M1 => if b = true then f { E with nx := Cl B.M fun r' M' => Iv r' M' ∧ μ r' M' < μ r M, ct := Cl B.M fun r' M' => Iv r' M' ∧ μ r' M' < μ r M, bk := E.nx } r M1 else E.nx r M1) := PS_imp (ps_while hp hc hb) fun D' σ H h => by
  obtain ⟨r, M, G, E, R, ⟨Iv, μ, ⟨r0, M0, w0, i0⟩, turn⟩, k⟩ := EkOk.of h
  obtain ⟨G0, R0, s0⟩ := w0 _ _ _ _ _ rfl R
  refine ⟨fun n σ H => ∃ r M G1, Rel X.K B r M σ H G1 ∧ Sub G G1 ∧ Iv r M ∧ n = μ r M, ⟨_, r0, M0, G0, R0, s0, i0, rfl⟩, ?_⟩
  rintro n σ1 H1 ⟨r1, M1, G1, R1, s1, i1, rfl⟩
  refine ⟨r1, M1, G1, _, R1, turn r1 M1 i1, fun b M' H' G' q' R' s => ?_⟩
  cases b with
  | false => exact k.nx _ _ _ _ _ q' R' (s1.tr s)
  | true =>
    refine ⟨fun σ2 H2 => ∃ r2 M2 G2, Rel X.K B r2 M2 σ2 H2 G2 ∧ Sub G G2 ∧ Iv r2 M2 ∧ μ r2 M2 < μ r1 M1, fun σ2 H2 ⟨r2, M2, G2, R2, s2, i2, l2⟩ => ⟨_, l2, r2, M2, G2, R2, s2, i2, rfl⟩, EkOk.to R' q' ?_⟩
    have cl : ∀ r' M' σ' H' G2, Cl B.M (fun r' M' => Iv r' M' ∧ μ r' M' < μ r1 M1) r' M' → Rel X.K B r' M' σ' H' G2 → Sub G' G2 → ∃ r2 M2 G2, Rel X.K B r2 M2 σ' H' G2 ∧ Sub G G2 ∧ Iv r2 M2 ∧ μ r2 M2 < μ r1 M1 := fun r' M' σ' H' G2 ⟨r3, M3, w3, i3, l3⟩ R3 t => by
      obtain ⟨G3, R3, t3⟩ := w3 _ _ _ _ _ rfl R3
      exact ⟨r3, M3, G3, R3, ((s1.tr s).tr t).tr t3, i3, l3⟩
    exact ⟨cl, k.rt, fun _ _ _ _ _ q R t => k.nx _ _ _ _ _ q R ((s1.tr s).tr t), cl⟩
def Yld (K : PySem.W.Frag) (B : Bs) (J : It) (G0 : Hp) (xs : List D) (S : Sto → Prop) : Prop := ∀ i r M σ H G, Rel K B r M σ H G → Sub G0 G → S M →
  (i < xs.length → J.go i H ∧ ∀ x H', J.yld i H x H' → ∃ G' d, Grow H G H' G' ∧ xs[i]? = some d ∧ Rep K G' d x) ∧ (xs.length ≤ i → J.stop i H)
abbrev DTI := En → Sto → (List D → (Sto → Prop) → Sto → Prop) → Prop
def liftI (K : PySem.W.Frag) (B : Bs) (f : DTI) : TI := fun σ H Q => ∃ r M G Ψ, Rel K B r M σ H G ∧ f r M Ψ ∧ ∀ xs S M' J H' G', Ψ xs S M' → Rel K B r M' σ H' G' → Sub G G' → Yld K B J G' xs S → Q J H'
abbrev DI (X : Cx) (B : Bs) (tg iter : Expr) (f : DTI) : Prop := PI X tg iter (liftI X.K B f)
theorem PI_imp {X : Cx} {tg iter : Expr} {t t' : TI} (h : PI X tg iter t) (i : ∀ σ H Q, t' σ H Q → t σ H Q) : PI X tg iter t' := ⟨fun pins s σ H Q I q => h.run pins s σ H Q I (i _ _ _ q)⟩
@[irreducible] def forD (M0 : Sto) (wi : DTI) (g : DTG) (f : DTS) : DTS := fun E r M => wi r M fun xs S M1 => ∃ Iv : Nat → En → Sto → Prop, Cl M0 (Iv 0) r M1 ∧ (∀ i r M, Iv i r M → S M) ∧
  (∀ i d r M, xs[i]? = some d → Iv i r M → g d r M fun r' M' => f { E with nx := Cl M0 (Iv (i + 1)), ct := Cl M0 (Iv (i + 1)), bk := E.nx } r' M') ∧ ∀ r M, Iv xs.length r M → E.nx r M
theorem ds_for {tg iter : Expr} {wi : DTI} {g : DTG} (hp : PassesOwn (model X.prog X.w) X.A X.env X.xe) (hc : X.calm = true) (hi : DI X B tg iter wi) (hg : DG X B tg g) (hb : DSs X B body f) (h1 : ∀ x, foldedSetIterable iter X.env x = pure x := by intro _; rfl) :
    DS X B (.For tg iter body [] pos) (forD B.M wi g f) := PS_imp (ps_for hp hc hi hg hb h1) fun D' σ H h => by
  obtain ⟨r, M, G, E, R, q, k⟩ := EkOk.of h
  unfold forD at q
  refine ⟨r, M, G, _, R, q, fun xs S M' J H' G' ⟨Iv, ⟨r0, M0, w0, i0⟩, hS, turn, fin⟩ R' s y => ?_⟩
  obtain ⟨G0, R0, s0⟩ := w0 _ _ _ _ _ rfl R'
  refine ⟨fun i m σ H => ∃ r M G, Rel X.K B r M σ H G ∧ Sub G' G ∧ Iv i r M ∧ i ≤ xs.length ∧ m = xs.length - i, ⟨_, r0, M0, G0, R0, s0, i0, Nat.zero_le _, rfl⟩, ?_⟩
  rintro i m σ1 H1 ⟨r1, M1, G1, R1, s1, i1, hi, rfl⟩
  obtain ⟨y1, y2⟩ := y i r1 M1 σ1 H1 G1 R1 s1 (hS _ _ _ i1)
  by_cases hl : i < xs.length
  · obtain ⟨y3, y4⟩ := y1 hl
    refine .inr ⟨y3, fun σ2 H2 => ∃ r2 M2 G2, Rel X.K B r2 M2 σ2 H2 G2 ∧ Sub G' G2 ∧ Iv (i + 1) r2 M2, fun σ2 H2 ⟨r2, M2, G2, R2, s2, i2⟩ => ⟨_, by omega, r2, M2, G2, R2, s2, i2, hl, rfl⟩, fun x H2 hy => ?_⟩
    obtain ⟨G2, d, g2, hd, p⟩ := y4 x H2 hy
    have R2 := R1.grow g2
    have s2 := g2.gsub
    refine ⟨d, r1, M1, G2, _, R2, p, turn i d r1 M1 hd i1, fun r3 M3 σ3 H3 G3 q3 R3 s3 => EkOk.to R3 q3 ?_⟩
    have t3 : Sub G' G3 := (s1.tr s2).tr s3
    have cl : ∀ r' M' σ' H' G2, Cl B.M (Iv (i + 1)) r' M' → Rel X.K B r' M' σ' H' G2 → Sub G3 G2 → ∃ r2 M2 G2, Rel X.K B r2 M2 σ' H' G2 ∧ Sub G' G2 ∧ Iv (i + 1) r2 M2 := fun r' M' σ' H' G2 ⟨r4, M4, w4, i4⟩ R4 t => by
      obtain ⟨G4, R4, t4⟩ := w4 _ _ _ _ _ rfl R4
      exact ⟨r4, M4, G4, R4, (t3.tr t).tr t4, i4⟩
    exact ⟨cl, k.rt, fun _ _ _ _ _ q R t => k.nx _ _ _ _ _ q R ((s.tr t3).tr t), cl⟩
  · have e : i = xs.length := by omega
    subst e
    exact .inl ⟨y2 (Nat.le_refl _), k.nx _ _ _ _ _ (fin _ _ i1) R1 (s.tr s1)⟩
theorem di_list {l : Expr} {tg : Expr} (hl : DE X B l fa) : DI X B tg l (fun r M Ψ => fa r M fun d M1 => ∃ xs, lstOf M1 d = some xs ∧ Ψ xs (fun M => lstOf M d = some xs) M1) := PI_imp (pi_list hl) fun σ H Q ⟨r, M, G, Ψ, R, h, k⟩ => by
  refine ⟨r, M, G, _, R, h, fun d M1 v H1 G1 ⟨xs, e, q⟩ R1 s1 p => ?_⟩
  obtain ⟨a, vs, rfl, h1, r1⟩ := lst_rep' R1.wd p e
  refine ⟨a, rfl, ⟨vs, h1⟩, k xs _ M1 _ H1 G1 q R1 s1 fun i r2 M2 σ2 H2 G2 R2 t2 e2 => ?_⟩
  obtain ⟨a', vs', ea, h2, r2⟩ := lst_rep' R2.wd (p.mono t2) e2
  cases ea
  have hl := r2.length
  refine ⟨fun hi => ?_, fun hi => ⟨vs', h2, by omega⟩⟩
  obtain ⟨d', hd⟩ : ∃ d', xs[i]? = some d' := ⟨xs[i], by simp [hi]⟩
  obtain ⟨x, hx, px⟩ := r2.get hd
  refine ⟨⟨vs', x, h2, hx⟩, fun y H' hy => ?_⟩
  obtain ⟨e3, hy⟩ := hy
  subst e3
  have q3 := hy vs' h2
  rw [hx] at q3
  cases q3
  exact ⟨G2, d', Grow.refl R2.wd.sub, hd, px⟩
theorem di_tup {l : Expr} {tg : Expr} (hl : DE X B l fa) : DI X B tg l (fun r M Ψ => fa r M fun d M1 => ∃ xs, tupOf d = some xs ∧ Ψ xs (fun _ => True) M1) := PI_imp (pi_tup hl) fun σ H Q ⟨r, M, G, Ψ, R, h, k⟩ => by
  refine ⟨r, M, G, _, R, h, fun d M1 v H1 G1 ⟨xs, e, q⟩ R1 s1 p => ?_⟩
  obtain ⟨a, vs, rfl, h1, r1⟩ := tup_rep R1.wd p e
  refine ⟨a, rfl, ⟨vs, h1⟩, k xs _ M1 _ H1 G1 q R1 s1 fun i r2 M2 σ2 H2 G2 R2 t2 _ => ?_⟩
  obtain ⟨a', vs', ea, h2, r2⟩ := tup_rep R2.wd (p.mono t2) e
  cases ea
  have hl := r2.length
  refine ⟨fun hi => ?_, fun hi => ⟨vs', h2, by omega⟩⟩
  obtain ⟨d', hd⟩ : ∃ d', xs[i]? = some d' := ⟨xs[i], by simp [hi]⟩
  obtain ⟨x, hx, px⟩ := r2.get hd
  refine ⟨⟨vs', x, h2, hx⟩, fun y H' hy => ?_⟩
  obtain ⟨e3, hy⟩ := hy
  subst e3
  have q3 := hy vs' h2
  rw [hx] at q3
  cases q3
  exact ⟨G2, d', Grow.refl R2.wd.sub, hd, px⟩
def rngD (lo : Int) (n : Nat) : List D := (List.range n).map fun i => .int (lo + (i : Nat))
theorem rng_get {lo : Int} {n i : Nat} (h : i < n) : (rngD lo n)[i]? = some (.int (lo + i)) := by
  unfold rngD
  rw [List.getElem?_map, List.getElem?_range h]; rfl
theorem rng_len {lo : Int} {n : Nat} : (rngD lo n).length = n := by unfold rngD; rw [List.length_map, List.length_range]
theorem yld_rng {K : PySem.W.Frag} {G : Hp} {lo : Int} {n : Nat} : Yld K B (Itr lo n) G (rngD lo n) (fun _ => True) := fun i r M σ H G R s _ => by
  rw [rng_len]
  exact ⟨fun hi => ⟨hi, fun x H' ⟨e, ex⟩ => by subst e ex; exact ⟨G, _, Grow.refl R.wd.sub, rng_get hi, .int⟩⟩, fun hi => hi⟩
def fitR (i : Int) : Prop := -(2 ^ 62) ≤ i ∧ i < 2 ^ 62
theorem di_range1 {a : Expr} {tg : Expr} {ga : DTA} {p : Pos} (hm : X.mg "range" = none) (ha : DA X B [a] ga) (hg : Gl X "range" := by rfl) (hs : starEach [a] X.env = [(false, eval a X.env)] := by rfl) :
    DI X B tg (.Call (.Name "range" p) [a] [] pos) (fun r M Ψ => ga r M fun ds M1 => match ds with | [.int j] => fitR j ∧ Ψ (rngD 0 j.toNat) (fun _ => True) M1 | _ => False) := PI_imp (pi_range1 hg hm ha hs) fun σ H Q ⟨r, M, G, Ψ, R, h, k⟩ => by
  refine ⟨r, M, G, _, R, h, fun ds M1 vs H1 G1 q R1 s1 p => ?_⟩
  split at q
  · cases p with
    | cons p1 p2 => cases p1; cases p2; exact ⟨_, rfl, q.1.1, q.1.2, k _ _ _ _ _ _ q.2 R1 s1 yld_rng⟩
  · exact q.elim
theorem di_range2 {a b : Expr} {tg : Expr} {ga : DTA} {p : Pos} (hm : X.mg "range" = none) (ha : DA X B [a, b] ga) (hg : Gl X "range" := by rfl) (hs : starEach [a, b] X.env = [(false, eval a X.env), (false, eval b X.env)] := by rfl) (hs2 : starEach [b] X.env = [(false, eval b X.env)] := by rfl) :
    DI X B tg (.Call (.Name "range" p) [a, b] [] pos) (fun r M Ψ => ga r M fun ds M1 => match ds with | [.int i, .int j] => (fitR i ∧ fitR j) ∧ Ψ (rngD i (j - i).toNat) (fun _ => True) M1 | _ => False) := PI_imp (pi_range2 hg hm ha hs hs2) fun σ H Q ⟨r, M, G, Ψ, R, h, k⟩ => by
  refine ⟨r, M, G, _, R, h, fun ds M1 vs H1 G1 q R1 s1 p => ?_⟩
  split at q
  · cases p with
    | cons p1 p2 => cases p2 with
      | cons p2 p3 => cases p1; cases p2; cases p3; exact ⟨_, _, rfl, ⟨q.1.1.1, q.1.1.2, q.1.2.1, q.1.2.2⟩, k _ _ _ _ _ _ q.2 R1 s1 yld_rng⟩
  · exact q.elim
end
end Z
namespace Z
open PySem PySem.Spec PyProof.Rows L2

abbrev XD := Addr × List (Str × D)
structure RepX (K : PySem.W.Frag) (G H : Hp) (x : XD) (cls : Value) (d : Option Addr) : Prop where
  cls : cls = .ref x.1
  own : ∃ dd fvs, d = some dd ∧ H dd = some (.xd fvs) ∧ RepF K G x.2 fvs
def wOf (K : PySem.W.Frag) (B : Bs) (Ξ : XD → En → Sto → Prop) : WX := fun cls d σ H => ∃ x r M G, Ξ x r M ∧ Rel K B r M σ H G ∧ RepX K G H x cls d
structure Zx (X : Cx) (B : Bs) (Ξ : XD → En → Sto → Prop) : Prop where
  tk : Takes X (wOf X.K B Ξ)
  po : PassesOwn (model X.prog X.w) X.A X.env X.xe

abbrev Ct := List D → Sto → (D → Sto → Prop) → (XD → Sto → Prop) → Prop
def spC (K : PySem.W.Frag) (n : Nat) (c : Ct) : Sp := fun vs H Q E => vs.length = n ∧ ∃ ds G M Ψ Ξ, Wd K M H G ∧ RepL K G ds vs ∧ c ds M Ψ Ξ ∧
  (∀ d M' v H' G', Ψ d M' → Wd K M' H' G' → Since H G M M' H' G' → Rep K G' d v → Q v H') ∧ ∀ x M' H' G' cls dd, Ξ x M' → Wd K M' H' G' → Since H G M M' H' G' → RepX K G' H' x cls dd → E cls dd H'

inductive FzR (M0 M' : Sto) : D → D → Sto → Prop where
  | same {d : D} : FzR M0 M' d d M'
  | drop {d : D} : FzR M0 M' d d (rs M0 M')
  | frz (n : Nat) {d : D} : FzR M0 M' d (fz M0 M' n d) (rs M0 M')
def rtF (M0 : Sto) (Ψ : D → Sto → Prop) : D → Sto → Prop := fun d M' => ∃ d' M'', FzR M0 M' d d' M'' ∧ Ψ d' M''
inductive FzX (M0 M' : Sto) : Sto → Prop where
  | same : FzX M0 M' M'
  | drop : FzX M0 M' (rs M0 M')
def exF (M0 : Sto) (Ξ : XD → Sto → Prop) : XD → En → Sto → Prop := fun x _ M' => ∃ M'', FzX M0 M' M'' ∧ Ξ x M''

theorem exF_take {K : PySem.W.Frag} {B : Bs} {Ξ : XD → Sto → Prop} {E : XK} (hE : ∀ x M' H' G' cls dd, Ξ x M' → Wd K M' H' G' → Since B.H B.G B.M M' H' G' → RepX K G' H' x cls dd → E cls dd H') :
    ∀ cls d σ H, wOf K B (exF B.M Ξ) cls d σ H → E cls d H := fun cls d σ H ⟨x, r, M, G, ⟨M', f, q⟩, R, rx⟩ => by
  cases f with
  | same => exact hE x M H G cls d q R.wd R.sin rx
  | drop =>
    obtain ⟨w1, s1⟩ := frz_end R.wd R.sin
    obtain ⟨e, dd, fvs, e1, e2, r2⟩ := rx
    exact hE x _ H _ cls d q w1 s1 ⟨e, dd, fvs, e1, e2, r2.mono frzG_sub⟩

section
variable {P : Program} {w : World} {K : PySem.W.Frag} {mg : Str → Option Value} {base : Heap}
def ent (N : Nat) (ds : List D) : En := ds.map some ++ List.replicate (N - ds.length) none
theorem rel_start {ds : List D} {vs : List V} {N : List Str} {H G : Hp} {M : Sto} (w : Wd K M H G) (r : RepL K G ds vs) : Rel K ⟨H, G, M⟩ (ent N.length ds) M (L2.start N vs) H G where
  wd := w
  len := by
    unfold ent L2.start
    rw [List.length_append, List.length_append, List.length_map, List.length_map, List.length_replicate, List.length_replicate, r.length]
  slots := fun i d h => by
    unfold ent at h
    unfold L2.start
    by_cases hi : i < ds.length
    · rw [List.getElem?_append_left (by simpa using hi), List.getElem?_map] at h
      cases e : ds[i]? with
      | none => rw [e] at h; cases h
      | some a =>
        rw [e] at h; cases h
        obtain ⟨v, h1, h2⟩ := r.get e
        exact ⟨v, by rw [List.getElem?_append_left (by rw [List.length_map, ← r.length]; exact hi), List.getElem?_map, h1]; rfl, h2⟩
    · rw [List.getElem?_append_right (by simpa using hi), List.getElem?_replicate] at h
      split at h <;> cases h
  sin := Since.refl
end

def BindD (K : PySem.W.Frag) (fd : FuncData) (ps : List Str) (b : Nat × List Str × (List D → List D → List D)) : Prop :=
  (∀ ds zs, ds.length = b.1 → zs.length = b.2.1.length → (b.2.2 ds zs).length = ps.length) ∧ ∃ gl gV, KBn K fd ps b.1 b.2.1 gl gV ∧ ∀ (G : Hp) ds vs zs us, RepL K G ds vs → RepL K G zs us → RepL K G (b.2.2 ds zs) (gV vs us)
structure Gf (P : Program) (w : World) (K : PySem.W.Frag) (mg : Str → Option Value) (base : Heap) (x : Str) (k : Nat) (c : Ct) (bs : List (Nat × List Str × (List D → List D → List D))) : Prop where
  ex : ∃ f fd ps, mg x = some (.ref f) ∧ PySem.W.keepIn K (.ref f) = true ∧ FnOk P w K mg base (L2.CX P w) k f fd ps (spC K ps.length c) ∧ ∀ b ∈ bs, BindD K fd ps b
def pos (n : Nat) : Nat × List Str × (List D → List D → List D) := (n, [], fun ds _ => ds)
section
variable {X : Cx} {B : Bs} {Ξ : XD → En → Sto → Prop} {k : Nat} {f : Addr} {fd : FuncData} {ps ks : List Str} {c : Ct} {pos apos : Pos} {e : Expr} {es : List Expr} {kws : List Keyword} {ga gk : DTA} {fa : DTE}
theorem run_c {pins : List (Addr × Obj)} {r : En} {M : Sto} {σ : L2.St} {H G : Hp} {s : Shared} {Q : VK} {vs zs : List V} {us ws : List Value} {ds dz : List D} {b : Nat × List Str × (List D → List D → List D)} {Ψ : D → Sto → Prop}
    (F : FnOk X.prog X.w X.K X.mg X.base (L2.CX X.prog X.w) k f fd ps (spC X.K ps.length c)) (hr : Room k X.A) (hb : BindD X.K fd ps b) (tk : Takes X (wOf X.K B Ξ)) (I : L2.Inv X pins σ H s) (R : Rel X.K B r M σ H G)
    (hv : Vals vs us) (hz : Vals zs ws) (rv : RepL X.K G ds vs) (rz : RepL X.K G dz zs) (l1 : ds.length = b.1) (l2 : dz.length = b.2.1.length) (hc : c (b.2.2 ds dz) M Ψ (fun x M' => Ξ x r M'))
    (hQ : ∀ d M' v H' G', Ψ d M' → Rel X.K B r M' σ H' G' → Sub G G' → Rep X.K G' d v → Q v H') : wpAny (model X.prog X.w) X.A (call (.ref f) us (b.2.1.zip ws)) (EP X pins σ Q) X.xe s := by
  obtain ⟨hl, gl, gV, kb, rel⟩ := hb
  have l3 := hl ds dz l1 l2
  have u1 : us.length = b.1 := by rw [← hv.length, ← rv.length]; exact l1
  have u2 : ws.length = b.2.1.length := by rw [← hz.length, ← rz.length]; exact l2
  have rr := rel G ds vs dz zs rv rz
  have hsp : spC X.K ps.length c (gV vs zs) H Q (fun cls d H' => wOf X.K B Ξ cls d σ H') := by
    refine ⟨by rw [← rr.length]; exact l3, _, G, M, Ψ, _, R.wd, rr, hc, fun d M' v H' G' q w s p => hQ d M' v H' G' q (R.go w s) s.gsub p, fun x M' H' G' cls dd q w s rx => ?_⟩
    exact ⟨x, r, M', G', q, R.go w s, rx⟩
  refine wpAny_call (codeAny_mono (F.run X.A X.stack s H ⟨us, b.2.1.zip ws⟩ (gl us ws) (gV vs zs) Q _ hr I.env0 (kb.to s us ws I.kIn u1 u2) (kb.rel hv hz) hsp) fun fr s' hq => ?_)
  cases fr with
  | error e => exact tk e s' (XE.of_call I (fun cls d H' h => h) hq)
  | ok fl =>
    cases fl with
    | ret u => exact I.after hq
    | next => exact False.elim hq
    | brk => exact False.elim hq
    | cont => exact False.elim hq
variable {P : Program} {w : World} {K : PySem.W.Frag} {mg : Str → Option Value} {base : Heap} {x : Str} {bs : List (Nat × List Str × (List D → List D → List D))} {n j : Nat} {g : List D → List D → List D} {p : Pos}
def callD (n m : Nat) (g : List D → List D → List D) (c : Ct) (Ξ : XD → En → Sto → Prop) (ds dz : List D) (r : En) (M : Sto) (Ψ : PD) : Prop := ds.length = n ∧ dz.length = m ∧ c (g ds dz) M Ψ (fun x M' => Ξ x r M')
theorem de_call (F : Gf X.prog X.w X.K X.mg X.base x j c bs) (hr : Room k X.A) (z : Zx X B Ξ) (hb : (n, [], g) ∈ bs) (ha : DA X B (e :: es) ga) (hj : j ≤ k := by decide) (hg : Gl X x := by rfl) (hdb : (x == ("__debug__" : Str)) = false := by decide)
    (he : starEach (e :: es) X.env = (false, eval e X.env) :: starEach es X.env := by rfl) (hpl : (backTo pos (starEach es X.env)).any (·.1) = false := by rfl) :
    DE X B (.Call (.Name x p) (e :: es) [] pos) (fun r M Ψ => ga r M fun ds M1 => callD n 0 g c Ξ ds [] r M1 Ψ) := by
  obtain ⟨f, fd, ps, hm, hk, FO, hbs⟩ := F.ex
  refine ⟨fun pins s σ H Q I ⟨r, M, G, Ψ, R, h, kk⟩ => ?_⟩
  refine wpAny_Call_Name_kw (ld_glob I hg hm ?_ hdb)
  refine PySem.W.callWith_K (h₀ := X.base) I.ok.mod.kin hk (thn (ha.run pos pins s σ H _ I ⟨r, M, G, _, R, h, fun ds M1 vs H1 G1 q R1 s1 p1 => (⟨ds, M1, G1, q, R1, s1, p1⟩ : ∃ ds M1 G1, callD n 0 g c Ξ ds [] r M1 Ψ ∧ Rel X.K B r M1 σ H1 G1 ∧ Sub G G1 ∧ RepL X.K G1 ds vs)⟩) fun us s1 ⟨vs, H1, I1, rv, ds, M1, G1, ⟨l1, _, q⟩, R1, t1, p1⟩ => ⟨I1.kIn, ?_⟩) he hpl
  exact run_c (zs := []) (ws := []) (dz := []) FO (hr.mono hj) (hbs _ hb) z.tk I1 R1 rv .nil p1 .nil l1 rfl q fun d M' v H' G' q R' s' p' => kk _ _ _ _ _ q R' (t1.tr s') p'
end
end Z
namespace Z
open PySem PySem.Spec PyProof.Rows L2

abbrev Post (K : PySem.W.Frag) (H G : Hp) (M : Sto) (φ : D → Sto → Prop) (Q : VK) : Prop := ∀ d M' w H' G', φ d M' → Wd K M' H' G' → Since H G M M' H' G' → Rep K G' d w → Q w H'
theorem Post.id {K : PySem.W.Frag} {H G : Hp} {M : Sto} {φ : D → Sto → Prop} {Q : VK} (k : Post K H G M φ Q) (w : Wd K M H G) {d : D} {v : V} (h : φ d M) (p : Rep K G d v) : Q v H := k _ _ _ _ _ h w Since.refl p
theorem Post.grow {K : PySem.W.Frag} {H G H' G' : Hp} {M : Sto} {φ : D → Sto → Prop} {Q : VK} (k : Post K H G M φ Q) (w : Wd K M H G) (g : Grow H G H' G') {d : D} {v : V} (h : φ d M) (p : Rep K G' d v) : Q v H' := k _ _ _ _ _ h (g.wd w) (g.since w) p
theorem CallR_or {X : Cx} {f : Value} {r r' : List V → Hp → VK → Prop} (h : CallR X f r) (h' : CallR X f r') : CallR X f (fun xs H Q => r xs H Q ∨ r' xs H Q) := by
  intro pins s σ H xs us Q I rx q
  rcases q with q | q
  · exact h pins s σ H xs us Q I rx q
  · exact h' pins s σ H xs us Q I rx q
def OkC (K : PySem.W.Frag) (r : List V → Hp → VK → Prop) (g : Sto → List D → PD → Prop) : Prop := ∀ (M : Sto) (H G : Hp) (ds : List D) (vs : List V) (φ : PD) (Q : VK), Wd K M H G → RepL K G ds vs → g M ds φ → Post K H G M φ Q → r vs H Q
section
variable {X : Cx} {B : Bs} {pos apos : Pos} {a b e o : Expr} {es : List Expr} {fa fb fo : DTE} {ga : DTA} {k : Nat}
theorem de_callB {r : List V → Hp → VK → Prop} {g : Sto → List D → PD → Prop} {x : Str} {id : String} {p : Pos} (hc : CallR X (.builtin id) r) (ok : OkC X.K r g) (hm : X.mg x = none) (hv : bootBuiltins x = some (.builtin id)) (ha : DA X B (e :: es) ga)
    (hg : Gl X x := by rfl) (hn : x ≠ "__name__" := by decide) (hdb : (x == ("__debug__" : Str)) = false := by decide)
    (he : starEach (e :: es) X.env = (false, eval e X.env) :: starEach es X.env := by rfl) (hpl : (backTo pos (starEach es X.env)).any (·.1) = false := by rfl) :
    DE X B (.Call (.Name x p) (e :: es) [] pos) (fun r M Ψ => ga r M fun ds M1 => g M1 ds Ψ) := PE_imp (pe_callB hc hg hm hv ha hn hdb he hpl) fun σ H Q ⟨r, M, G, Ψ, R, h, k⟩ =>
  ⟨r, M, G, _, R, h, fun ds M1 vs H1 G1 q R1 s1 p1 => ok M1 H1 G1 ds vs Ψ Q R1.wd p1 q fun d M' w H' G' f w' s' p' => k _ _ _ _ _ f (R1.go w' s') (s1.tr s'.gsub) p'⟩
theorem de_callT {r : List V → Hp → VK → Prop} {g : Sto → List D → PD → Prop} {x : Str} {id : String} {p : Pos} (hc : CallR X (.type id) r) (ok : OkC X.K r g) (hm : X.mg x = none) (hv : bootBuiltins x = some (.type id)) (ha : DA X B (e :: es) ga)
    (hg : Gl X x := by rfl) (hn : x ≠ "__name__" := by decide) (hdb : (x == ("__debug__" : Str)) = false := by decide)
    (he : starEach (e :: es) X.env = (false, eval e X.env) :: starEach es X.env := by rfl) (hpl : (backTo pos (starEach es X.env)).any (·.1) = false := by rfl) :
    DE X B (.Call (.Name x p) (e :: es) [] pos) (fun r M Ψ => ga r M fun ds M1 => g M1 ds Ψ) := PE_imp (pe_callTy hc hg hm hv ha hn hdb he hpl) fun σ H Q ⟨r, M, G, Ψ, R, h, k⟩ =>
  ⟨r, M, G, _, R, h, fun ds M1 vs H1 G1 q R1 s1 p1 => ok M1 H1 G1 ds vs Ψ Q R1.wd p1 q fun d M' w H' G' f w' s' p' => k _ _ _ _ _ f (R1.go w' s') (s1.tr s'.gsub) p'⟩
theorem de_ty {x : Str} {n : String} (hm : X.mg x = none) (hv : bootBuiltins x = some (.type n)) (hg : Gl X x := by rfl) (hn : x ≠ "__name__" := by decide) (hd : (x == ("__debug__" : Str)) = false := by decide) : DE X B (.Name x pos) (fun _ M Ψ => Ψ (.ty n) M) :=
  de_c (v := .ty n) (pe_bltn hg hm hv rfl hn hd) fun _ => .ty

theorem RepD.length {K : PySem.W.Frag} {G : Hp} : ∀ {l : List (D × D)} {kvs : List (Key × V)}, RepD K G l kvs → l.length = kvs.length
  | _, _, .nil => rfl
  | _, _, .cons _ _ r => congrArg (· + 1) r.length
theorem RepT.length {K : PySem.W.Frag} {G : Hp} : ∀ {l : List (D × D)} {kvs : List (List Key × V)}, RepT K G l kvs → l.length = kvs.length
  | _, _, .nil => rfl
  | _, _, .cons _ _ r => congrArg (· + 1) r.length
def lenD (M : Sto) (ds : List D) (φ : PD) : Prop := match ds with
  | [.str x] => x.length ≤ sizeLine ∧ φ (.int x.length) M
  | [.tup l] => φ (.int l.length) M
  | [.lst l] => φ (.int l.length) M
  | [d] => ∃ l, lstOf M d = some l ∧ φ (.int l.length) M
  | _ => False
theorem ok_len {K : PySem.W.Frag} : OkC K (fun xs H Q => ∃ x n, xs = [x] ∧ LenV K x H n ∧ Q (.int n) H) lenD := fun M H G ds vs φ Q w r h k => by
  unfold lenD at h
  split at h
  · cases r with
    | cons r1 r2 => cases r2; cases r1; exact ⟨_, _, rfl, ⟨h.1, rfl⟩, k.id w h.2 .int⟩
  · cases r with
    | cons r1 r2 =>
      cases r2
      obtain ⟨p, us, rfl, h1, r3⟩ := tup_rep w r1 rfl
      exact ⟨_, _, rfl, .inr ⟨_, h1, rfl⟩, by rw [← r3.length]; exact k.id w h .int⟩
  · cases r with
    | cons r1 r2 =>
      cases r2
      obtain ⟨p, us, rfl, h1, r3⟩ := lst_rep' w r1 rfl
      exact ⟨_, _, rfl, .inl ⟨_, h1, rfl⟩, by rw [← r3.length]; exact k.id w h .int⟩
  · cases r with
    | cons r1 r2 =>
      cases r2
      obtain ⟨l, e, h⟩ := h
      obtain ⟨p, us, rfl, h1, r3⟩ := lst_rep' w r1 e
      exact ⟨_, _, rfl, .inl ⟨_, h1, rfl⟩, by rw [← r3.length]; exact k.id w h .int⟩
  · exact h.elim
theorem de_len {p : Pos} (hm : X.mg "len" = none) (ha : DA X B [a] ga) (hg : Gl X "len" := by rfl) (he : starEach [a] X.env = (false, eval a X.env) :: starEach [] X.env := by rfl) : DE X B (.Call (.Name "len" p) [a] [] pos) (fun r M Ψ => ga r M fun ds M1 => lenD M1 ds Ψ) :=
  de_callB call_len ok_len hm PySem.boot_len ha hg (by decide) (by decide) he rfl
def max2D (M : Sto) (ds : List D) (φ : PD) : Prop := match ds with
  | [.int i, .int j] => φ (.int (if j > i then j else i)) M
  | _ => False
def min2D (M : Sto) (ds : List D) (φ : PD) : Prop := match ds with
  | [.int i, .int j] => φ (.int (if j < i then j else i)) M
  | _ => False
def intD (M : Sto) (ds : List D) (φ : PD) : Prop := match ds with
  | [.int i] => φ (.int i) M
  | [.bl b] => φ (.int (if b then 1 else 0)) M
  | _ => False
def strD (M : Sto) (ds : List D) (φ : PD) : Prop := match ds with
  | [.int i] => i.natAbs.log2 < 1920 ∧ φ (.str (toString i)) M
  | _ => False
def allD (M : Sto) (ds : List D) (φ : PD) : Prop := match ds with
  | [d] => ∃ bs : List Bool, lstOf M d = some (bs.map .bl) ∧ φ (.bl (bs.all id)) M
  | _ => False
def listD (M : Sto) (ds : List D) (φ : PD) : Prop := match ds with
  | [.tup l] => φ (.lst l) M
  | [d] => ∃ l, lstOf M d = some l ∧ φ (.lst l) M
  | _ => False
def tupleD (M : Sto) (ds : List D) (φ : PD) : Prop := match ds with
  | [.tup l] => φ (.tup l) M
  | [d] => ∃ l, lstOf M d = some l ∧ φ (.tup l) M
  | _ => False
section
variable {K : PySem.W.Frag}
theorem ok_int1 : OkC K (fun xs H Q => (∃ i, xs = [.int i] ∧ Q (.int i) H) ∨ ∃ k, xs = [.bl k] ∧ Q (.int (if k then 1 else 0)) H) intD := fun M H G ds vs φ Q w r h k => by
  unfold intD at h
  split at h
  · cases r with | cons r1 r2 => cases r2; cases r1; exact .inl ⟨_, rfl, k.id w h .int⟩
  · cases r with | cons r1 r2 => cases r2; cases r1; exact .inr ⟨_, rfl, k.id w h .int⟩
  · exact h.elim
theorem ok_str1 : OkC K (fun xs H Q => ∃ i : Int, xs = [.int i] ∧ i.natAbs.log2 < 1920 ∧ Q (.str (toString i)) H) strD := fun M H G ds vs φ Q w r h k => by
  unfold strD at h
  split at h
  · cases r with | cons r1 r2 => cases r2; cases r1; exact ⟨_, rfl, h.1, k.id w h.2 .str⟩
  · exact h.elim
theorem one_lst {M : Sto} {H G : Hp} {d : D} {vs : List V} {l : List D} (w : Wd K M H G) (r : RepL K G [d] vs) (e : lstOf M d = some l) : ∃ a us, vs = [.ref a] ∧ SqL K H a us ∧ RepL K G l us := by
  cases r with
  | cons r1 r2 =>
    cases r2
    obtain ⟨a, us, rfl, h1, h2⟩ := lst_rep' w r1 e
    exact ⟨a, us, rfl, h1, h2⟩
theorem ok_all : OkC K (rAll K) allD := fun M H G ds vs φ Q w r h k => by
  unfold allD at h
  split at h
  · obtain ⟨ns, e, h⟩ := h
    obtain ⟨a, us, rfl, h1, h2⟩ := one_lst w r e
    have := repL_bls h2; subst this
    exact ⟨a, ns, rfl, h1, k.id w h .bl⟩
  · exact h.elim
theorem ok_list1 : OkC K (fun xs H Q => ∃ p ys, xs = [.ref p] ∧ (SqL K H p ys ∨ SqT K H p ys) ∧ ∀ l, H l = none → Q (.ref l) (upd H l (.lst ys))) listD := fun M H G ds vs φ Q w r h k => by
  unfold listD at h
  split at h
  · cases r with
    | cons r1 r2 =>
      cases r2
      obtain ⟨p, us, rfl, h1, r3⟩ := tup_rep w r1 rfl
      refine ⟨p, us, rfl, .inr h1, fun l hl => ?_⟩
      have g := grow_upd (o := .lst us) w.sub hl
      exact k.grow w g h (.lst (.inl upd_same) (r3.mono g.gsub))
  · obtain ⟨l, e, h⟩ := h
    obtain ⟨a, us, rfl, h1, r3⟩ := one_lst w r e
    refine ⟨a, us, rfl, .inl h1, fun l hl => ?_⟩
    have g := grow_upd (o := .lst us) w.sub hl
    exact k.grow w g h (.lst (.inl upd_same) (r3.mono g.gsub))
  · exact h.elim
theorem ok_tuple1 : OkC K (fun xs H Q => ∃ p ys, xs = [.ref p] ∧ ((SqL K H p ys ∧ ∀ l, H l = none → Q (.ref l) (upd H l (.tup ys))) ∨ (SqT K H p ys ∧ Q (.ref p) H))) tupleD := fun M H G ds vs φ Q w r h k => by
  unfold tupleD at h
  split at h
  · cases r with
    | cons r1 r2 =>
      cases r2
      obtain ⟨p, us, rfl, h1, r3⟩ := tup_rep w r1 rfl
      exact ⟨p, us, rfl, .inr ⟨h1, k.id w h r1⟩⟩
  · obtain ⟨l, e, h⟩ := h
    obtain ⟨a, us, rfl, h1, r3⟩ := one_lst w r e
    refine ⟨a, us, rfl, .inl ⟨h1, fun l hl => ?_⟩⟩
    have g := grow_upd (o := .tup us) w.sub hl
    exact k.grow w g h (.tup (SqT.of upd_same) (r3.mono g.gsub))
  · exact h.elim
end
def tyN (M : Sto) : D → Option String
  | .non => some "NoneType"
  | .bl _ => some "bool"
  | .int _ => some "int"
  | .str _ => some "str"
  | .tup _ => some "tuple"
  | .tpl _ => some "tuple"
  | .lst _ => some "list"
  | .dic _ => some "dict"
  | .ref p => match M p with
    | some (.lst _) => some "list"
    | some (.dic _) => some "dict"
    | some (.dit _) => some "dict"
    | _ => none
  | _ => none
def isB (t c : String) : Bool := t == c || (t == "bool" && c == "int")
def okTy : List String := ["NoneType", "bool", "int", "str", "tuple", "list", "dict"]
def okCl : List String := ["bool", "int", "str", "tuple", "list"]
theorem kit_isB {K : PySem.W.Frag} : ∀ t ∈ okTy, ∀ c ∈ okCl, PySem.W.kitOne K (.type t) (.type c) = some (isB t c) := by
  have h : ∀ t ∈ okTy, ∀ c ∈ okCl, kitB t c = some (isB t c) := by decide +kernel
  exact fun t ht c hc => kit_ty (h t ht c hc)
theorem tyN_ok {M : Sto} {d : D} {t : String} (e : tyN M d = some t) : t ∈ okTy := by
  unfold tyN at e
  split at e <;> first | (cases e; decide) | (split at e <;> first | (cases e; decide) | cases e) | cases e
theorem tyN_x {K : PySem.W.Frag} {M : Sto} {H G : Hp} {d : D} {v : V} {t : String} (w : Wd K M H G) (r : Rep K G d v) (e : tyN M d = some t) : TyX K H v (.type t) := by
  cases r with
  | non => cases e; exact .base .non
  | bl => cases e; exact .base (.bl _)
  | int => cases e; exact .base (.int _)
  | str => cases e; exact .base (.str _)
  | ty => cases e
  | tup h r =>
    cases e
    rcases w.sub.sqT h with (h | ⟨o, h⟩) | ⟨o, its, n, h1, h2, _⟩
    · exact .base (.tup h)
    · exact .fTuple h
    · exact .kTuple h1 h2
  | tpl h r => cases e; exact .base (.tup (w.sub _ _ h))
  | lst h r =>
    cases e
    rcases w.sub.rd h with h | ⟨o, h⟩
    · exact .base (.lst h)
    · exact .base (.frz h)
  | dic h r => cases e; exact .base (.dK (w.sub _ _ h))
  | dit h r => cases e; exact .base (.dT (w.sub _ _ h))
  | obj h r => cases e
  | lk h r => cases e
  | fn h q => cases e
  | dlk h r => cases e
  | @ref a =>
    have e' : (match M a with | some (.lst _) => some "list" | some (.dic _) => some "dict" | some (.dit _) => some "dict" | _ => none) = some t := e
    split at e'
    · rename_i l q
      cases e'
      obtain ⟨_, vs, h, _⟩ := w.cells _ _ q
      exact .base (.lst h)
    · rename_i l q
      cases e'
      obtain ⟨vs, h, _⟩ := (w.cells _ _ q).2
      exact .base (.dK h)
    · rename_i l q
      cases e'
      obtain ⟨vs, h, _⟩ := (w.cells _ _ q).2
      exact .base (.dT h)
    · cases e'
def isiD (M : Sto) (ds : List D) (φ : PD) : Prop := match ds with
  | [d, .ty c] => c ∈ okCl ∧ ∃ t, tyN M d = some t ∧ φ (.bl (isB t c)) M
  | [d, .tup cs] => ∃ ns : List String, cs = ns.map .ty ∧ (∀ c ∈ ns, c ∈ okCl) ∧ ∃ t, tyN M d = some t ∧ φ (.bl (ns.any fun c => isB t c)) M
  | _ => False
def rIsiS (K : PySem.W.Frag) : List V → Hp → VK → Prop := fun xs H Q => ∃ (x : V) (tp : Addr) (cs : List V) (t : Value) (us : List Value) (b : Bool), xs = [x, .ref tp] ∧ SqT K H tp cs ∧ Paired ClsV cs us ∧ TyX K H x t ∧ PySem.W.kitAny K t us = some b ∧ Q (.bl b) H
theorem call_isiS : CallR X (.builtin "isinstance") (rIsiS X.K) := by
  intro pins s σ H xs us Q I r h
  obtain ⟨x, tp, cs, t, ws, b, rfl, hT, k, ty, e, q⟩ := h
  obtain ⟨u1, u2, rfl, r1, r2⟩ := vals2 r
  cases (show u2 = Value.ref tp from r2)
  obtain ⟨P, Z, p, hx⟩ := kit_of I r1 ty
  obtain ⟨its, rv, ⟨o, h1, h2, n, h3⟩, _⟩ := I.tuple hT
  have e3 := ClsV.all k rv
  subst e3
  obtain ⟨oc, od, dt, sl⟩ := o
  simp only at h2 h3
  subst h2 h3
  exact PySem.W.kia_tup Z I.kIn p h1 e hx fun tk => ⟨.bl b, H, I.tok tk, rfl, q⟩
theorem kit_any {K : PySem.W.Frag} {t : String} (ht : t ∈ okTy) : ∀ {ns : List String}, (∀ c ∈ ns, c ∈ okCl) → PySem.W.kitAny K (.type t) (ns.map Value.type) = some (ns.any fun c => isB t c)
  | [], _ => rfl
  | c :: ns, h => by
    have h1 := kit_isB (K := K) t ht c (h c List.mem_cons_self)
    have ih := kit_any (K := K) ht (ns := ns) fun d hd => h d (List.mem_cons_of_mem _ hd)
    rw [List.map_cons, List.any_cons]
    unfold PySem.W.kitAny
    rw [h1]
    cases isB t c with
    | true => rfl
    | false => exact ih
theorem repL_tys {K : PySem.W.Frag} {G : Hp} : ∀ {ns : List String} {vs : List V}, RepL K G (ns.map D.ty) vs → vs = ns.map V.ty
  | [], _, r => by cases r; rfl
  | n :: ns, _, r => by cases r with | cons r1 r2 => cases r1; rw [repL_tys r2]; rfl
theorem cls_tys : ∀ ns : List String, Paired ClsV (ns.map V.ty) (ns.map Value.type)
  | [] => .nil
  | n :: ns => .cons (.ty n) (cls_tys ns)
theorem ok_isi {K : PySem.W.Frag} : OkC K (fun xs H Q => rIsi K xs H Q ∨ rIsiS K xs H Q) isiD := fun M H G ds vs φ Q w r h k => by
  unfold isiD at h
  split at h
  · obtain ⟨hc, t, e, h⟩ := h
    cases r with
    | cons r1 r2 => cases r2 with
      | cons r2 r3 =>
        cases r3; cases r2
        exact .inl ⟨_, _, _, _, _, rfl, .ty _, tyN_x w r1 e, kit_isB t (tyN_ok e) _ hc, k.id w h .bl⟩
  · obtain ⟨ns, rfl, hc, t, e, h⟩ := h
    cases r with
    | cons r1 r2 => cases r2 with
      | cons r2 r3 =>
        cases r3
        obtain ⟨p, us, rfl, h1, r4⟩ := tup_rep w r2 rfl
        have := repL_tys r4; subst this
        exact .inr ⟨_, p, _, _, _, _, rfl, h1, cls_tys ns, tyN_x w r1 e, kit_any (tyN_ok e) hc, k.id w h .bl⟩
  · exact h.elim
theorem boot_isinstance : bootBuiltins "isinstance" = some (.builtin "isinstance") := by decide +kernel
theorem de_isi {p : Pos} (hm : X.mg "isinstance" = none) (ha : DA X B [a, b] ga) (hg : Gl X "isinstance" := by rfl) (he : starEach [a, b] X.env = (false, eval a X.env) :: starEach [b] X.env := by rfl) (hpl : (backTo pos (starEach [b] X.env)).any (·.1) = false := by rfl) :
    DE X B (.Call (.Name "isinstance" p) [a, b] [] pos) (fun r M Ψ => ga r M fun ds M1 => isiD M1 ds Ψ) :=
  de_callB (CallR_or call_isi call_isiS) ok_isi hm boot_isinstance ha hg (by decide) (by decide) he hpl
end
end Z
namespace Z
open PySem PySem.Spec PyProof.Rows L2

def optK {α : Type} (o : Option α) (φ : α → Prop) : Prop := match o with
  | some d => φ d
  | none => False
theorem optK_some {α : Type} {o : Option α} {φ : α → Prop} (h : optK o φ) : ∃ d, o = some d ∧ φ d := by
  unfold optK at h
  split at h
  · exact ⟨_, rfl, h⟩
  · exact h.elim
theorem optK_of {α : Type} {o : Option α} {φ : α → Prop} {d : α} (e : o = some d) (h : φ d) : optK o φ := by rw [e]; exact h
def ixD (M : Sto) (x y : D) (φ : D → Prop) : Prop := match x, y with
  | .tup l, .int i => optK (atI l i) φ
  | .str z, .int i => z.length ≤ sizeLine ∧ optK (atI z.cps.toList i) fun c => φ (.str ⟨#[c]⟩)
  | x, .int i => optK (lstOf M x) fun l => optK (atI l i) φ
  | _, _ => False
theorem RepL.atI {K : PySem.W.Frag} {G : Hp} {l : List D} {vs : List V} {i : Int} {d : D} (r : RepL K G l vs) (e : L2.atI l i = some d) : ∃ v, L2.atI vs i = some v ∧ Rep K G d v := by
  unfold L2.atI at e ⊢
  rw [← r.length]
  cases q : ixN l.length i with
  | none => rw [q] at e; cases e
  | some j => rw [q] at e; exact r.get e
theorem ok_ix {K : PySem.W.Frag} : Ok2 K (rIx K) ixD := fun M H G x y v u φ Q w rx ry h k => by
  unfold ixD at h
  split at h
  · rename_i l i
    obtain ⟨d, e, h⟩ := optK_some h
    obtain ⟨a, vs, rfl, h1, r1⟩ := tup_rep w rx (l := l) rfl
    cases ry
    obtain ⟨v, e2, p⟩ := r1.atI e
    exact .inr (.inl ⟨a, vs, _, v, rfl, rfl, h1, e2, k _ _ _ _ h (Grow.refl w.sub) p⟩)
  · obtain ⟨z, h⟩ := h
    obtain ⟨c, e, h⟩ := optK_some h
    cases rx; cases ry
    exact .inr (.inr ⟨_, _, c, rfl, rfl, z, e, k _ _ _ _ h (Grow.refl w.sub) .str⟩)
  · obtain ⟨l, e0, h⟩ := optK_some h
    obtain ⟨d, e, h⟩ := optK_some h
    obtain ⟨a, vs, rfl, h1, r1⟩ := lst_rep' w rx e0
    cases ry
    obtain ⟨v, e2, p⟩ := r1.atI e
    exact .inl ⟨a, vs, _, v, rfl, rfl, h1, e2, k _ _ _ _ h (Grow.refl w.sub) p⟩
  · exact h.elim
section
variable {X : Cx} {B : Bs} {pos apos p2 : Pos} {a b e o : Expr} {es : List Expr} {fa fb fo fc : DTE} {ga : DTA} {k : Nat}
theorem de_ix (ha : DE X B a fa) (hb : DE X B b fb) (hs : PlainIx b := by exact fun _ _ => rfl) : DE X B (.Subscript a b pos) (bin2 ixD fa fb) := PE_imp (pe_ix ix_seq ha hb hs) fun σ H Q h => tOp_ok ok_ix h
def liftO (K : PySem.W.Frag) (B : Bs) (f : En → Sto → (Option Int → Sto → Prop) → Prop) : TO := fun σ H Q => ∃ r M G Ψ, Rel K B r M σ H G ∧ f r M Ψ ∧ ∀ b M' H' G', Ψ b M' → Rel K B r M' σ H' G' → Sub G G' → Q b H'
theorem PO_imp {X : Cx} {e : Option Expr} {t t' : TO} (h : PO X e t) (i : ∀ σ H Q, t' σ H Q → t σ H Q) : PO X e t' := ⟨fun pins s σ H Q I q => h.run pins s σ H Q I (i _ _ _ q)⟩
abbrev DO (X : Cx) (B : Bs) (e : Option Expr) (f : En → Sto → (Option Int → Sto → Prop) → Prop) : Prop := PO X e (liftO X.K B f)
theorem do_none : DO X B none (fun _ M Ψ => Ψ none M) := PO_imp po_none fun σ H Q ⟨r, M, G, Ψ, R, h, k⟩ => k _ _ _ _ h R Sub.rfl'
def inK (d : D) (φ : Int → Prop) : Prop := match d with
  | .int i => φ i
  | _ => False
theorem do_some (h : DE X B e fa) : DO X B (some e) (fun r M Ψ => fa r M fun d M1 => inK d fun i => Ψ (some i) M1) := PO_imp (po_some h) fun σ H Q ⟨r, M, G, Ψ, R, h, k⟩ => by
  refine ⟨r, M, G, _, R, h, fun d M1 v H1 G1 q R1 s1 p1 => ?_⟩
  cases p1 with
  | int => exact ⟨_, rfl, k _ _ _ _ q R1 s1⟩
  | _ => exact q.elim
def cutD {α : Type} (xs : List α) (lo hi : Option Int) : List α := (xs.drop (HT.sIx xs.length 0 lo)).take (HT.sIx xs.length xs.length hi - HT.sIx xs.length 0 lo)
def slD (M : Sto) (x : D) (lo hi : Option Int) (φ : D → Prop) : Prop := match x with
  | .str z => z.length ≤ sizeLine ∧ φ (.str (cutS z lo hi))
  | .tup l => φ (.tup (cutD l lo hi))
  | .lk l => φ (.lst (cutD l lo hi))
  | x => optK (lstOf M x) fun l => φ (.lst (cutD l lo hi))
theorem RepL.cut {K : PySem.W.Frag} {G : Hp} {l : List D} {vs : List V} (r : RepL K G l vs) (lo hi : Option Int) : RepL K G (cutD l lo hi) (cutV vs lo hi) := by
  unfold cutD cutV
  rw [← r.length]
  exact (r.drop _).take _
def rSlAll (K : PySem.W.Frag) : V → Option Int → Option Int → Hp → VK → Prop := fun x lo hi H Q => rSlL K x lo hi H Q ∨ rSlA K x lo hi H Q ∨ rSlS x lo hi H Q
theorem cut_whole {α : Type} (l : List α) (lo hi : Option Int) (h : HT.sIx l.length 0 lo = 0 ∧ HT.sIx l.length l.length hi = l.length) : cutD l lo hi = l := by
  unfold cutD
  rw [h.1, h.2]
  simp
theorem sl_ok {K : PySem.W.Frag} {M : Sto} {H G : Hp} {x : D} {v : V} {lo hi : Option Int} {φ : D → Prop} {Q : VK} (w : Wd K M H G) (rx : Rep K G x v) (h : slD M x lo hi φ) (k : ∀ d w H' G', φ d → Grow H G H' G' → Rep K G' d w → Q w H') : rSlAll K v lo hi H Q := by
  unfold slD at h
  split at h
  · cases rx
    exact .inr (.inr ⟨_, rfl, h.1, k _ _ _ _ h.2 (Grow.refl w.sub) .str⟩)
  · rename_i l
    obtain ⟨a, vs, rfl, h1, r1⟩ := tup_rep w rx (l := l) rfl
    have hl := r1.length
    refine .inr (.inl ⟨a, vs, rfl, h1, fun e => ?_, fun e p hp => ?_⟩)
    · rw [← hl] at e
      rw [cut_whole l lo hi e] at h
      exact k _ _ _ _ h (Grow.refl w.sub) rx
    · have g := grow_upd (o := .tup (cutV vs lo hi)) w.sub hp
      exact k _ _ _ _ h g (.tup (SqT.of upd_same) ((r1.cut lo hi).mono g.gsub))
  · rename_i l
    cases rx with
    | @lk _ _ vs h1 r1 =>
      refine .inl ⟨_, vs, rfl, w.sub.sqL h1, fun p hp => ?_⟩
      have g := grow_upd (o := .lst (cutV vs lo hi)) w.sub hp
      exact k _ _ _ _ h g (.lst (.inl upd_same) ((r1.cut lo hi).mono g.gsub))
  · obtain ⟨l, e, h⟩ := optK_some h
    obtain ⟨a, vs, rfl, h1, r1⟩ := lst_rep' w rx e
    refine .inl ⟨a, vs, rfl, h1, fun p hp => ?_⟩
    have g := grow_upd (o := .lst (cutV vs lo hi)) w.sub hp
    exact k _ _ _ _ h g (.lst (.inl upd_same) ((r1.cut lo hi).mono g.gsub))
theorem de_slice {lo hi : Option Expr} {fl fh : En → Sto → (Option Int → Sto → Prop) → Prop} (he : DE X B e fa) (hl : DO X B lo fl) (hu : DO X B hi fh) :
    DE X B (.Subscript e (.Slice lo hi none p2) pos) (fun r M Ψ => fa r M fun x M1 => fl r M1 fun l M2 => fh r M2 fun u M3 => slD M3 x l u fun d => Ψ d M3) :=
  PE_imp (pe_slice (r := rSlAll X.K) (sl_list.or (sl_tupA.or sl_str)) he hl hu) fun σ H Q ⟨r, M, G, Ψ, R, h, k⟩ => by
    refine ⟨r, M, G, _, R, h, fun x M1 v H1 G1 q1 R1 s1 p1 => ?_⟩
    refine ⟨r, M1, G1, _, R1, q1, fun l M2 H2 G2 q2 R2 s2 => ?_⟩
    refine ⟨r, M2, G2, _, R2, q2, fun u M3 H3 G3 q3 R3 s3 => ?_⟩
    exact sl_ok R3.wd (p1.mono (s2.tr s3)) q3 fun d w H' G' f g p => k _ _ _ _ _ f (R3.grow g) (((s1.tr s2).tr s3).tr g.gsub) p
def setD (d : D) (i : Int) (v : D) (M : Sto) (φ : Sto → Prop) : Prop := match d with
  | .ref p => match M p with
    | some (.lst l) => optK (ixN l.length i) fun j => φ (updM M p (.lst (l.set j v)))
    | _ => False
  | _ => False
theorem ds_setix {value : Expr} {p3 : Pos} (hv : DE X B value fc) (ho : DE X B a fa) (hi : DE X B b fb) (hs : swapsWithSole [.Subscript a b p3] value pos.line X.env = pure false := by rfl) (hw : swappedStores [.Subscript a b p3] value X.env = pure none := by rfl)
    (h1 : (assignEach [.Subscript a b p3] X.env).map (·.2) = [assign (.Subscript a b p3) X.env] := by rfl)
    (h2 : ∀ v, assign (.Subscript a b p3) X.env v = (do let ov ← holding [v] (eval a X.env); let iv ← holding [v, ov] (eval b X.env); standAt p3; holding [v, ov, iv] (setItem ov iv v); release [v, ov, iv] []) := by intro _; rfl) :
    DS X B (.Assign [.Subscript a b p3] value pos) (fun E r M => fc r M fun d M1 => fa r M1 fun x M2 => fb r M2 fun y M3 => inK y fun i => setD x i d M3 fun M4 => E.nx r M4) :=
  PS_imp (ps_asg hv (pg_sub ho hi set_list h2) hs hw h1) fun D' σ H h => by
    obtain ⟨r, M, G, E, R, q, k⟩ := EkOk.of h
    refine ⟨r, M, G, _, R, q, fun d M1 v H1 G1 q1 R1 s1 p1 => ?_⟩
    refine ⟨r, M1, G1, _, R1, q1, fun x M2 u H2 G2 q2 R2 s2 p2 => ?_⟩
    refine ⟨r, M2, G2, _, R2, q2, fun y M3 t H3 G3 q3 R3 s3 p3 => ?_⟩
    cases p3 with
    | int =>
      have q4 : setD x _ d M3 _ := q3
      unfold setD at q4
      split at q4
      · split at q4
        · rename_i p l e
          obtain ⟨j, ej, q5⟩ := optK_some q4
          cases p2
          obtain ⟨gp, vs, hp, rl⟩ := R3.wd.cells _ _ e
          obtain ⟨w, s⟩ := cell_put (c := .lst (l.set j d)) (o := .lst (vs.set j v)) R3.wd e ⟨_, upd_same, rl.set ((p1.mono s2).mono s3) j⟩
          exact ⟨_, vs, _, j, rfl, rfl, hp, by rw [← rl.length]; exact ej, k.nx _ _ _ _ _ q5 (R3.go w s) ((s1.tr s2).tr s3)⟩
        · exact q4.elim
      · exact q4.elim
    | _ => exact q3.elim

def signs (x : Str) : List D := x.cps.toList.map fun c => .str ⟨#[c]⟩
theorem di_str {tg : Expr} (he : DE X B e fa) : DI X B tg e (fun r M Ψ => fa r M fun d M1 => match d with | .str x => Ψ (signs x) (fun _ => True) M1 | _ => False) := PI_imp (pi_str he) fun σ H Q ⟨r, M, G, Ψ, R, h, k⟩ => by
  refine ⟨r, M, G, _, R, h, fun d M1 v H1 G1 q R1 s1 p => ?_⟩
  cases p with
  | @str x =>
    refine ⟨x, rfl, k _ _ _ _ _ _ q R1 s1 fun i r2 M2 σ2 H2 G2 R2 t2 _ => ?_⟩
    have hl : (signs x).length = x.cps.size := by unfold signs; rw [List.length_map, Array.length_toList]
    rw [hl]
    refine ⟨fun hi => ⟨hi, fun y H' ⟨e1, c, e2, e3⟩ => ?_⟩, fun hi => hi⟩
    subst e1 e3
    refine ⟨G2, _, Grow.refl R2.wd.sub, ?_, .str⟩
    unfold signs
    rw [List.getElem?_map, Array.getElem?_toList, e2]; rfl
  | _ => exact q.elim
def zipD (xs ys : List D) : List D := (xs.zip ys).map fun p => .tup [p.1, p.2]
theorem yld_pair {K : PySem.W.Frag} {r : En} {M : Sto} {σ : L2.St} {H G : Hp} {T : Addr} {x y : V} {c d : D} (R : Rel K B r M σ H G) (hT : H T = none) (p1 : Rep K G c x) (p2 : Rep K G d y) :
    Grow H G (upd H T (.tup [x, y])) (upd G T (.tup [x, y])) ∧ Rep K (upd G T (.tup [x, y])) (.tup [c, d]) (.ref T) := by
  have g := grow_upd (o := .tup [x, y]) R.wd.sub hT
  exact ⟨g, .tup (SqT.of upd_same) (.cons (p1.mono g.gsub) (.cons (p2.mono g.gsub) .nil))⟩
theorem zip_get {xs ys : List D} {i : Nat} {x y : D} (h1 : xs[i]? = some x) (h2 : ys[i]? = some y) : (zipD xs ys)[i]? = some (.tup [x, y]) := by
  unfold zipD
  rw [List.getElem?_map, List.getElem?_zip_eq_some (z := (x, y)) |>.mpr ⟨h1, h2⟩]; rfl
theorem di_zip {e2 : Expr} {p tpos : Pos} {elts : List Expr} {kk : Nat} (hm : X.mg "zip" = none) (ha : DA X B [e, e2] ga) (hg : Gl X "zip" := by rfl) (hs : starEach [e, e2] X.env = (false, eval e X.env) :: starEach [e2] X.env := by rfl) (hpl : (backTo pos (starEach [e2] X.env)).any (·.1) = false := by rfl) :
    DI X B (.Tuple elts kk tpos) (.Call (.Name "zip" p) [e, e2] [] pos) (fun r M Ψ => ga r M fun ds M1 => match ds with
      | [.tup xs, .tup ys] => Ψ (zipD xs ys) (fun _ => True) M1
      | [x, y] => ∃ xs ys, lstOf M1 x = some xs ∧ lstOf M1 y = some ys ∧ Ψ (zipD xs ys) (fun M => lstOf M x = some xs ∧ lstOf M y = some ys) M1
      | _ => False) := PI_imp (RZ.pi_zipA hg hm ha hs hpl) fun σ H Q ⟨r, M, G, Ψ, R, h, k⟩ => by
  refine ⟨r, M, G, _, R, h, fun ds M1 vs H1 G1 q R1 s1 p => ?_⟩
  split at q
  · rename_i xs ys
    cases p with
    | cons p1 p => cases p with
      | cons p2 p =>
        cases p
        obtain ⟨a, us, rfl, h1, r1⟩ := tup_rep R1.wd p1 (l := xs) rfl
        obtain ⟨b, ws, rfl, h2, r2⟩ := tup_rep R1.wd p2 (l := ys) rfl
        refine ⟨a, b, us, ws, rfl, .inr ⟨h1, h2, k _ _ _ _ _ _ q R1 s1 fun i r3 M3 σ3 H3 G3 R3 t3 _ => ?_⟩⟩
        obtain ⟨a', us', ea, h1', r1'⟩ := tup_rep R3.wd (p1.mono t3) (l := xs) rfl
        obtain ⟨b', ws', eb, h2', r2'⟩ := tup_rep R3.wd (p2.mono t3) (l := ys) rfl
        cases ea; cases eb
        have l1 := r1'.length
        have l2 := r2'.length
        have hz : (zipD xs ys).length = min xs.length ys.length := by unfold zipD; rw [List.length_map, List.length_zip]
        rw [hz]
        refine ⟨fun hi => ?_, fun hi => ⟨us', ws', h1', h2', by omega⟩⟩
        have i1 : i < xs.length := by omega
        have i2 : i < ys.length := by omega
        obtain ⟨x, hx, px⟩ := r1'.get (i := i) (d := xs[i]) (by simp [i1])
        obtain ⟨y, hy, py⟩ := r2'.get (i := i) (d := ys[i]) (by simp [i2])
        refine ⟨⟨us', ws', x, y, h1', h2', hx, hy⟩, fun v H' ⟨T, x', y', e1, hT, e2, f1, f2⟩ => ?_⟩
        subst e1 e2
        have z1 := f1 us' h1'
        have z2 := f2 ws' h2'
        rw [hx] at z1; rw [hy] at z2
        cases z1; cases z2
        obtain ⟨w1, w3⟩ := yld_pair R3 hT px py
        exact ⟨_, _, w1, zip_get (by simp [i1]) (by simp [i2]), w3⟩
  · rename_i x0 y0 _
    obtain ⟨xs, ys, e1, e2, q⟩ := q
    cases p with
    | cons p1 p => cases p with
      | cons p2 p =>
        cases p
        obtain ⟨a, us, rfl, h1, r1⟩ := lst_rep' R1.wd p1 e1
        obtain ⟨b, ws, rfl, h2, r2⟩ := lst_rep' R1.wd p2 e2
        refine ⟨a, b, us, ws, rfl, .inl ⟨h1, h2, k _ _ _ _ _ _ q R1 s1 fun i r3 M3 σ3 H3 G3 R3 t3 hS => ?_⟩⟩
        obtain ⟨a', us', ea, h1', r1'⟩ := lst_rep' R3.wd (p1.mono t3) hS.1
        obtain ⟨b', ws', eb, h2', r2'⟩ := lst_rep' R3.wd (p2.mono t3) hS.2
        cases ea; cases eb
        have l1 := r1'.length
        have l2 := r2'.length
        have hz : (zipD xs ys).length = min xs.length ys.length := by unfold zipD; rw [List.length_map, List.length_zip]
        rw [hz]
        refine ⟨fun hi => ?_, fun hi => ⟨us', ws', h1', h2', by omega⟩⟩
        have i1 : i < xs.length := by omega
        have i2 : i < ys.length := by omega
        obtain ⟨x, hx, px⟩ := r1'.get (i := i) (d := xs[i]) (by simp [i1])
        obtain ⟨y, hy, py⟩ := r2'.get (i := i) (d := ys[i]) (by simp [i2])
        refine ⟨⟨us', ws', x, y, h1', h2', hx, hy⟩, fun v H' ⟨T, x', y', e1, hT, e2, f1, f2⟩ => ?_⟩
        subst e1 e2
        have z1 := f1 us' h1'
        have z2 := f2 ws' h2'
        rw [hx] at z1; rw [hy] at z2
        cases z1; cases z2
        obtain ⟨w1, w3⟩ := yld_pair R3 hT px py
        exact ⟨_, _, w1, zip_get (by simp [i1]) (by simp [i2]), w3⟩
  · exact q.elim
def enumD (xs : List D) : List D := zipD (rngD 0 xs.length) xs
theorem di_enum {p tpos : Pos} {elts : List Expr} {kk : Nat} (hm : X.mg "enumerate" = none) (ha : DA X B [e] ga) (hg : Gl X "enumerate" := by rfl) (hs : starEach [e] X.env = [(false, eval e X.env)] := by rfl) :
    DI X B (.Tuple elts kk tpos) (.Call (.Name "enumerate" p) [e] [] pos) (fun r M Ψ => ga r M fun ds M1 => match ds with
      | [x] => ∃ xs, lstOf M1 x = some xs ∧ Ψ (enumD xs) (fun M => lstOf M x = some xs) M1
      | _ => False) := PI_imp (pi_enum hg hm ha hs) fun σ H Q ⟨r, M, G, Ψ, R, h, k⟩ => by
  refine ⟨r, M, G, _, R, h, fun ds M1 vs H1 G1 q R1 s1 p => ?_⟩
  split at q
  · rename_i x0
    obtain ⟨xs, e1, q⟩ := q
    cases p with
    | cons p1 p =>
      cases p
      obtain ⟨a, us, rfl, h1, r1⟩ := lst_rep' R1.wd p1 e1
      refine ⟨a, us, rfl, h1, k _ _ _ _ _ _ q R1 s1 fun i r3 M3 σ3 H3 G3 R3 t3 hS => ?_⟩
      obtain ⟨a', us', ea, h1', r1'⟩ := lst_rep' R3.wd (p1.mono t3) hS
      cases ea
      have l1 := r1'.length
      have hz : (enumD xs).length = xs.length := by unfold enumD zipD; rw [List.length_map, List.length_zip, rng_len]; omega
      rw [hz]
      refine ⟨fun hi => ?_, fun hi => ⟨us', h1', by omega⟩⟩
      obtain ⟨x, hx, px⟩ := r1'.get (i := i) (d := xs[i]) (by simp [hi])
      refine ⟨⟨us', x, h1', hx⟩, fun v H' ⟨T, x', e1, hT, e2, f1⟩ => ?_⟩
      subst e1 e2
      have z1 := f1 us' h1'
      rw [hx] at z1
      cases z1
      obtain ⟨w1, w3⟩ := yld_pair (c := .int (i : Nat)) R3 hT .int px
      exact ⟨_, _, w1, zip_get (by rw [rng_get hi, Int.zero_add]) (by simp [hi]), w3⟩
  · exact q.elim
end
end Z
namespace Z
open PySem PySem.Spec PyProof.Rows L2

theorem wipe_get {σ : L2.St} {j : Nat} : ∀ {vs : List Nat}, (wipe σ vs)[j]? = if j ∈ vs then (σ[j]?).map (fun _ => none) else σ[j]?
  | [] => by simp [wipe]
  | v :: vs => by
    unfold wipe
    have ih := @wipe_get σ j vs
    by_cases hv : v = j
    · subst hv
      rw [if_pos List.mem_cons_self]
      by_cases hl : v < (wipe σ vs).length
      · rw [List.getElem?_set_self hl]
        rw [wipe_length] at hl
        rw [List.getElem?_eq_getElem hl]; rfl
      · rw [List.getElem?_eq_none (by simpa using hl)]
        rw [wipe_length] at hl
        rw [List.getElem?_eq_none (by omega)]; rfl
    · rw [List.getElem?_set_ne hv, ih]
      have e : (j ∈ v :: vs) ↔ j ∈ vs := by
        rw [List.mem_cons]
        exact ⟨fun z => z.resolve_left fun q => hv q.symm, .inr⟩
      by_cases hm : j ∈ vs
      · rw [if_pos hm, if_pos (e.mpr hm)]
      · rw [if_neg hm, if_neg fun z => hm (e.mp z)]
theorem wipe_set {σ : L2.St} {i : Nat} {o : Option V} {vs : List Nat} (h : i ∈ vs) : wipe (σ.set i o) vs = wipe σ vs := by
  apply List.ext_getElem?
  intro j
  rw [wipe_get, wipe_get]
  by_cases hj : j ∈ vs
  · rw [if_pos hj, if_pos hj]
    by_cases hij : i = j
    · subst hij
      by_cases hl : i < σ.length
      · rw [List.getElem?_set_self hl, List.getElem?_eq_getElem hl]; rfl
      · rw [List.getElem?_eq_none (by simpa using hl), List.getElem?_eq_none (by omega)]
    · rw [List.getElem?_set_ne hij]
  · rw [if_neg hj, if_neg hj]
    exact List.getElem?_set_ne fun e => hj (by rw [← e]; exact h)
theorem wipe_wipe {σ : L2.St} {vs : List Nat} : wipe (wipe σ vs) vs = wipe σ vs := by
  apply List.ext_getElem?
  intro j
  rw [wipe_get]
  by_cases hj : j ∈ vs
  · rw [if_pos hj, wipe_get, if_pos hj]
    cases σ[j]? <;> rfl
  · rw [if_neg hj]
def wipeD (r : En) : List Nat → En
  | [] => r
  | v :: vs => (wipeD r vs).set v none
theorem Rel.wipe {K : PySem.W.Frag} {B : Bs} {r : En} {M : Sto} {σ : L2.St} {H G : Hp} (R : Rel K B r M σ H G) : ∀ vs : List Nat, Rel K B (wipeD r vs) M (L2.wipe σ vs) H G
  | [] => R
  | v :: vs => (R.wipe vs).unset v none
def TgOk (K : PySem.W.Frag) (vs : List Nat) (g : TG) (as : D → En → (En → Prop) → Prop) : Prop := ∀ (B : Bs) (d : D) (v : V) (r : En) (M : Sto) (σ : L2.St) (H G : Hp) (Ψ : En → Prop) (Q : L2.St → Hp → Prop), Rel K B r M σ H G → Rep K G d v → as d r Ψ →
  (∀ r' σ', Ψ r' → Rel K B r' M σ' H G → L2.wipe σ' vs = L2.wipe σ vs → Q σ' H) → g v σ H Q
def asN (i : Nat) : D → En → (En → Prop) → Prop := fun d r Ψ => Ψ (r.set i (some d))
theorem tg_name {K : PySem.W.Frag} {vs : List Nat} {i : Nat} (h : i ∈ vs) : TgOk K vs (gName i) (asN i) := fun B d v r M σ H G Ψ Q R p a k => k _ _ a (R.set p i) (wipe_set h)
def asT2 (i j : Nat) : D → En → (En → Prop) → Prop := fun d r Ψ => match d with
  | .tup [a, b] => Ψ ((r.set i (some a)).set j (some b))
  | _ => False
theorem tg_tup2 {K : PySem.W.Frag} {vs : List Nat} {i j : Nat} (h : i ∈ vs) (h' : j ∈ vs) : TgOk K vs (gTup K 2 (gCons (gName i) (gCons (gName j) gNil))) (asT2 i j) := fun B d v r M σ H G Ψ Q R p a k => by
  unfold asT2 at a
  split at a
  · rename_i x y
    obtain ⟨t, us, rfl, h1, r1⟩ := tup_rep R.wd p rfl
    cases r1 with
    | cons r1 r2 => cases r2 with
      | cons r2 r3 =>
        cases r3
        exact ⟨t, _, rfl, h1, rfl, _, _, rfl, _, _, rfl, rfl, k _ _ a ((R.set r1 i).set r2 j) (by rw [wipe_set h', wipe_set h])⟩
  · exact a.elim
def liftAny (K : PySem.W.Frag) (f : DTE) : TE := fun σ H Q => ∃ B, lift K B f σ H Q
def liftTAny (K : PySem.W.Frag) (f : DTT) : TT := fun σ H Q => ∃ B, liftT K B f σ H Q
theorem Rel.poke {K : PySem.W.Frag} {B : Bs} {r : En} {M : Sto} {σ : L2.St} {H G : Hp} {p : Addr} {xs ys : List V} (R : Rel K B r M σ H G) (hp : H p = some (.lst xs)) (h0 : B.H p = none) (hM : M p = none) (hG : G p = none) : Rel K B r M σ (upd H p (.lst ys)) G where
  wd := ⟨fun a o e => by rw [upd_ne (by intro z; rw [z, hG] at e; cases e)]; exact R.wd.sub _ _ e, fun a c e => by
    obtain ⟨h1, h2⟩ := R.wd.cells a c e
    exact ⟨h1, h2.move Sub.rfl' fun o z => by rw [upd_ne (by intro q; rw [q, hM] at e; cases e)]; exact z⟩⟩
  len := R.len
  slots := R.slots
  sin := ⟨fun a o h n => by rw [upd_ne (by intro z; rw [z, h0] at h; cases h)]; exact R.sin.keep a o h n, fun a h => by rw [upd_ne (by intro z; rw [z, h0] at h; exact h rfl)]; exact R.sin.stay a h, R.sin.gsub, R.sin.gnew, R.sin.mnew⟩
@[irreducible] def compD (vs : List Nat) (wi : DTI) (as : D → En → (En → Prop) → Prop) (tt : DTT) (fe : DTE) (r : En) (M : Sto) (Φ : List D → Sto → Prop) : Prop := wi r M fun xs S M1 => ∃ Iv : Nat → List D → Sto → Prop, Iv 0 [] M1 ∧ (∀ i acc M, Iv i acc M → S M) ∧
  (∀ i d acc M, xs[i]? = some d → Iv i acc M → as d (wipeD r vs) fun r2 => tt r2 M fun b M3 => if b = true then fe r2 M3 fun y M4 => acc.length < sizeLine ∧ Iv (i + 1) (acc ++ [y]) M4 else Iv (i + 1) acc M3) ∧ ∀ acc M, Iv xs.length acc M → Φ acc M
section
variable {X : Cx} {B : Bs} {pos apos p2 : Pos} {e o : Expr} {es : List Expr} {fa fe : DTE} {tt : DTT} {ga : DTA} {k : Nat}
theorem comp_core {vs : List Nat} {wi : DTI} {g : TG} {as : D → En → (En → Prop) → Prop} (tg : TgOk X.K vs g as) {σ : L2.St} {H : Hp} {Q : VK} {r : En} {M : Sto} {G : Hp} {Φ : List D → Sto → Prop} (R : Rel X.K B r M σ H G) (h : compD vs wi as tt fe r M Φ)
    (hQ : ∀ acc M' H' G' D us, Φ acc M' → Rel X.K B r M' σ H' G' → Sub G G' → H' D = some (.lst us) → RepL X.K G' acc us → B.H D = none → M' D = none → G' D = none → Q (.ref D) H') : tLc (liftI X.K B wi) g (liftTAny X.K tt) (liftAny X.K fe) vs σ H Q := by
  unfold compD at h
  refine ⟨r, M, G, _, R, h, fun xs S M1 J H1 G1 ⟨Iv, i0, hS, turn, fin⟩ R1 s1 y => fun D hD => ?_⟩
  have bD : B.H D = none := by
    cases q : B.H D with
    | none => rfl
    | some o => exact absurd hD (R1.sin.stay D (by rw [q]; simp))
  have gD : G1 D = none := by
    cases q : G1 D with
    | none => rfl
    | some u => rw [R1.wd.sub _ _ q] at hD; cases hD
  have mD := R1.wd.nomem hD
  have R1' : Rel X.K B r M1 σ (upd H1 D (.lst [])) G1 := by
    refine R1.go ⟨fun a o e => by rw [upd_ne (ne_of_none (R1.wd.sub _ _ e) hD)]; exact R1.wd.sub _ _ e, fun a c e => ?_⟩ ⟨fun a o h _ => by rw [upd_ne (ne_of_none h hD)]; exact h, fun a h => ?_, Sub.rfl', fun a h n => absurd n h, fun a h n => absurd n h⟩
    · obtain ⟨h1, h2⟩ := R1.wd.cells a c e
      exact ⟨h1, h2.move Sub.rfl' fun o z => by rw [upd_ne (ne_of_none z hD)]; exact z⟩
    · by_cases z : a = D
      · rw [z, upd_same]; simp
      · rw [upd_ne z]; exact h
  refine ⟨fun i m H => ∃ acc us M G2, Rel X.K B r M σ H G2 ∧ Sub G1 G2 ∧ H D = some (.lst us) ∧ RepL X.K G2 acc us ∧ M D = none ∧ G2 D = none ∧ Iv i acc M ∧ i ≤ xs.length ∧ m = xs.length - i, ⟨_, [], [], M1, G1, R1', Sub.rfl', upd_same, .nil, mD, gD, i0, Nat.zero_le _, rfl⟩, ?_⟩
  rintro i m H2 ⟨acc, us, M2, G2, R2, s2, hL, rl, mD2, gD2, i2, hi, rfl⟩
  obtain ⟨y1, y2⟩ := y i r M2 σ H2 G2 R2 s2 (hS _ _ _ i2)
  by_cases hl : i < xs.length
  · obtain ⟨y3, y4⟩ := y1 hl
    refine .inr ⟨y3, fun H => ∃ acc us M G2, Rel X.K B r M σ H G2 ∧ Sub G1 G2 ∧ H D = some (.lst us) ∧ RepL X.K G2 acc us ∧ M D = none ∧ G2 D = none ∧ Iv (i + 1) acc M, fun H ⟨acc, us, M, G2, a1, a2, a3, a4, a5, a6, a7⟩ => ⟨_, by omega, acc, us, M, G2, a1, a2, a3, a4, a5, a6, a7, hl, rfl⟩, fun x H3 hy => ?_⟩
    -- the item has come: the list is what it was
    obtain ⟨G3, d, g3, hd, p⟩ := y4 x H3 hy
    have R3 := R2.grow g3
    have hL3 := g3.same _ _ hL
    have mem_free : ∀ {H' G' : Hp}, Grow H2 G2 H' G' → G' D = none := fun {H' G'} g => by
      cases q : G' D with
      | none => rfl
      | some u => have z := g.gnew D (by rw [q]; simp) gD2; rw [hL] at z; cases z
    have gD3 := mem_free g3
    -- the base of this turn
    have Rw := R3.wipe vs
    have Ri : Rel X.K ⟨H3, G3, M2⟩ (wipeD r vs) M2 (L2.wipe σ vs) H3 G3 := ⟨Rw.wd, Rw.len, Rw.slots, Since.refl⟩
    have back : ∀ {r' : En} {M' : Sto} {σ' : L2.St} {H' G' : Hp}, Rel X.K ⟨H3, G3, M2⟩ r' M' σ' H' G' → Rel X.K B r M' σ H' G' ∧ Sub G3 G' ∧ H' D = some (.lst us) ∧ M' D = none ∧ G' D = none := fun {r' M' σ' H' G'} R' => by
      refine ⟨R3.go R'.wd R'.sin, R'.sin.gsub, R'.sin.keep D _ hL3 mD2, ?_, ?_⟩
      · cases q : M' D with
        | none => rfl
        | some c => have z := R'.sin.mnew D (by rw [q]; simp) mD2; rw [show (⟨H3, G3, M2⟩ : Bs).H D = H3 D from rfl, hL3] at z; cases z
      · cases q : G' D with
        | none => rfl
        | some c => have z := R'.sin.gnew D (by rw [q]; simp) gD3; rw [show (⟨H3, G3, M2⟩ : Bs).H D = H3 D from rfl, hL3] at z; cases z
    refine tg ⟨H3, G3, M2⟩ d x (wipeD r vs) M2 (L2.wipe σ vs) H3 G3 _ _ Ri p (turn i d acc M2 hd i2) fun r' σ' q' R' hw => ⟨by rw [hw, wipe_wipe], ⟨H3, G3, M2⟩, r', M2, G3, _, R', q', fun b M4 H4 G4 q4 R4 s4 => ?_⟩
    cases b with
    | false =>
      obtain ⟨b1, b2, b3, b4, b5⟩ := back R4
      exact ⟨acc, us, M4, G4, b1, (s2.tr g3.gsub).tr b2, b3, (rl.mono g3.gsub).mono b2, b4, b5, q4⟩
    | true =>
      refine ⟨⟨H3, G3, M2⟩, r', M4, G4, _, R4, q4, fun y M5 v H5 G5 ⟨z5, q5⟩ R5 s5 p5 => ?_⟩
      obtain ⟨b1, b2, b3, b4, b5⟩ := back R5
      have rl5 := (rl.mono g3.gsub).mono b2
      exact ⟨us, b3, by rw [← rl.length]; exact z5, acc ++ [y], us ++ [v], M5, G5, b1.poke b3 bD b4 b5, (s2.tr g3.gsub).tr b2, upd_same, rl5.app (.cons p5 .nil), b4, b5, q5⟩
  · have e : i = xs.length := by omega
    subst e
    exact .inl ⟨y2 (Nat.le_refl _), hQ _ _ _ _ _ _ (fin _ _ i2) R2 (s1.tr s2) hL rl bD mD2 gD2⟩
theorem frz_list {K : PySem.W.Frag} {r : En} {M : Sto} {σ : L2.St} {H G : Hp} {p : Addr} {us : List V} {acc : List D} (R : Rel K B r M σ H G) (hp : H p = some (.lst us)) (rl : RepL K G acc us) (h0 : B.H p = none) (hM : M p = none) (hG : G p = none) :
    Rel K B r M σ H (upd G p (.lst us)) ∧ Sub G (upd G p (.lst us)) ∧ Rep K (upd G p (.lst us)) (.lst acc) (.ref p) := by
  have s : Sub G (upd G p (.lst us)) := fun a o e => by rw [upd_ne (by intro z; rw [z, hG] at e; cases e)]; exact e
  refine ⟨⟨⟨fun a o e => ?_, fun a c e => ?_⟩, R.len, fun i d e => let ⟨v, h1, h2⟩ := R.slots i d e; ⟨v, h1, h2.mono s⟩, ⟨R.sin.keep, R.sin.stay, R.sin.gsub.tr s, fun a h n => ?_, R.sin.mnew⟩⟩, s, .lst (.inl upd_same) (rl.mono s)⟩
  · by_cases z : a = p
    · rw [z, upd_same] at e; cases e; rw [z]; exact hp
    · rw [upd_ne z] at e; exact R.wd.sub _ _ e
  · obtain ⟨h1, h2⟩ := R.wd.cells a c e
    refine ⟨?_, h2.move s fun _ z => z⟩
    rw [upd_ne (by intro z; rw [z, hM] at e; cases e)]; exact h1
  · by_cases z : a = p
    · rw [z]; exact h0
    · rw [upd_ne z] at h; exact R.sin.gnew a h n
theorem de_lc {elt tg iter : Expr} {ifs : List Expr} {scope : Scope} {own : List (Str × Nat)} {wi : DTI} {g : TG} {as : D → En → (En → Prop) → Prop} (hc : X.calm = true) (hN : X.N.Nodup) (hi : DI X B tg iter wi) (ok : BlkOk X.N X.env.scope scope own) (tgk : TgOk X.K (own.map (·.2)) g as)
    (hg : ∀ (s : Shared) (H : Hp) (C : Addr) (cl : List (Str × Addr)) (fp : List Addr), PG (X.blk s H scope (compEnvC scope cl C X.env) fp) tg g)
    (ht : ∀ (B : Bs) (s : Shared) (H : Hp) (C : Addr) (cl : List (Str × Addr)) (fp : List Addr), PTs (X.blk s H scope (compEnvC scope cl C X.env) fp) ifs (liftT X.K B tt))
    (he : ∀ (B : Bs) (s : Shared) (H : Hp) (C : Addr) (cl : List (Str × Addr)) (fp : List Addr), PE (X.blk s H scope (compEnvC scope cl C X.env) fp) elt (lift X.K B fe)) (hs : ∀ x, foldedSetIterable iter X.env x = pure x := by intro _; rfl) :
    DE X B (.ListComp elt [⟨tg, iter, ifs, 0⟩] scope pos) (fun r M Ψ => compD (own.map (·.2)) wi as tt fe r M fun acc M' => Ψ (.lst acc) M') :=
  PE_imp (pe_lc hc hN hi ok hg (fun s H C cl fp => ⟨fun pins s1 σ H1 Q I ⟨B', q⟩ => (ht B' s H C cl fp).run pins s1 σ H1 Q I q⟩) (fun s H C cl fp => ⟨fun pins s1 σ H1 Q I ⟨B', q⟩ => (he B' s H C cl fp).run pins s1 σ H1 Q I q⟩) hs) fun σ H Q ⟨r, M, G, Ψ, R, h, k⟩ =>
    comp_core tgk R h fun acc M' H' G' D us q R' s hL rl h0 hM hG => by
      obtain ⟨a1, a2, a3⟩ := frz_list R' hL rl h0 hM hG
      exact k _ _ _ _ _ q a1 (s.tr a2) a3
theorem ds_setLc {i : Nat} {y : Str} {py spos : Pos} {elt tg iter : Expr} {ifs : List Expr} {scope : Scope} {own : List (Str × Nat)} {wi : DTI} {g : TG} {as : D → En → (En → Prop) → Prop} (hc : X.calm = true) (hN : X.N.Nodup) (hsw : swapsWith (.ListComp elt [⟨tg, iter, ifs, 0⟩] scope pos) (some (.Name y py)) spos.line X.env = pure true) (hi : DI X B tg iter wi) (ok : BlkOk X.N X.env.scope scope own) (tgk : TgOk X.K (own.map (·.2)) g as)
    (hg : ∀ (s : Shared) (H : Hp) (C : Addr) (cl : List (Str × Addr)) (fp : List Addr), PG (X.blk s H scope (compEnvC scope cl C X.env) fp) tg g)
    (ht : ∀ (B : Bs) (s : Shared) (H : Hp) (C : Addr) (cl : List (Str × Addr)) (fp : List Addr), PTs (X.blk s H scope (compEnvC scope cl C X.env) fp) ifs (liftT X.K B tt))
    (he : ∀ (B : Bs) (s : Shared) (H : Hp) (C : Addr) (cl : List (Str × Addr)) (fp : List Addr), PE (X.blk s H scope (compEnvC scope cl C X.env) fp) elt (lift X.K B fe)) (hs : ∀ x, foldedSetIterable iter X.env x = pure x := by intro _; rfl) (hy : X.N[i]? = some y := by rfl) (hyl : X.env.scope.names.lookup y = some .local := by rfl) :
    DS X B (.Assign [.Name y py] (.ListComp elt [⟨tg, iter, ifs, 0⟩] scope pos) spos) (fun E r M => compD (own.map (·.2)) wi as tt fe r M fun acc M' => E.nx (r.set i (some (.lst acc))) M') :=
  PS_imp (ps_setLc (tt := liftTAny X.K tt) (te := liftAny X.K fe) hc hN hy hyl hsw hi ok hg (fun s H C cl fp => ⟨fun pins s1 σ H1 Q I ⟨B', q⟩ => (ht B' s H C cl fp).run pins s1 σ H1 Q I q⟩) (fun s H C cl fp => ⟨fun pins s1 σ H1 Q I ⟨B', q⟩ => (he B' s H C cl fp).run pins s1 σ H1 Q I q⟩) hs) fun D' σ H h => by
    obtain ⟨r, M, G, E, R, h, k⟩ := EkOk.of h
    refine comp_core tgk R h fun acc M' H' G' D us q R' s hL rl h0 hM hG => ?_
    obtain ⟨a1, a2, a3⟩ := frz_list R' hL rl h0 hM hG
    exact k.nx _ _ _ _ _ q (a1.set a3 i) (s.tr a2)
theorem dts_nil : PTs X [] (liftT X.K B fun _ M Ψ => Ψ true M) := ⟨fun pins s σ H Q I ⟨r, M, G, Ψ, R, h, k⟩ => pts_nil.run pins s σ H Q I (k _ _ _ _ h R Sub.rfl')⟩
theorem dts_one {c : Expr} {ta : DTT} (h : DT X B c ta) : PTs X [c] (liftT X.K B ta) := pts_one h
end
end Z
namespace Z
open PySem PySem.Spec PyProof.Rows L2

structure OexG (K : PySem.W.Frag) (C : Addr) : Prop where
  base : ∃ (B newId initId : String) (bmB : List Value), ExcBaseFacts B newId initId bmB ∧ PySem.StoreFacts B bmB "object.__setattr__" "object" ∧ PySem.W.excOver K C bmB = true ∧
    ∃ nm q N bs bm sn sub ab col dd k0 k1 k2 k3 k5, K.lookup C = some (excClassObj nm q C N bs bm true sn sub ab col dd k0 k1 k2 k3 k5 newId) ∧ ∀ Y : String, bm.contains (.type Y) = bmB.contains (.type Y)
  sa : PySem.W.findIn K (.ref C) "__setattr__" = some (some (.builtin "object.__setattr__"))
  exC : PySem.W.subIn K (.ref C) (.type "BaseException") = some true
  tyC : PySem.W.typeIn K (.ref C) = some (.type "type")
  kC : PySem.W.keepIn K (.ref C) = true
section
variable {X : Cx} {pins : List (Addr × Obj)} {σ : L2.St} {H : Hp} {s : Shared} {a C dx : Addr} {f : Str} {y : V} {u : Value} {fs : List (Str × V)} {Q : Unit → Shared → Prop} {E : Value → Shared → Prop} {A : Around}
theorem taker_none {K : PySem.W.Frag} (h : PySem.W.findIn K (.ref C) f = some none) : PySem.W.takerIn K C f = some none := by
  unfold PySem.W.takerIn
  rw [h]
  rfl
open PySem.Builtin PySem.Builtin.ObjectAttr in
theorem ostG_new (T : OexG X.K C) (I : L2.Inv X pins σ H s) (e : H a = some (exo a C none)) (hno : PySem.W.findIn X.K (.ref C) f = some none) (ry : RelV y u)
    (h : ∀ dx s', H dx = none → dx ≠ a → L2.Inv X pins σ (upd (upd H dx (exd dx [(f, y)])) a (exo a C (some dx))) s' → Q () s') : wpAny (model X.prog X.w) A (setAttr (.ref a) f u) Q E s := by
  obtain ⟨B0, nw, ini, bmB, FB, SF, ov, nm, q, N, bs, bm, sn, sub, ab, col, dd, k0, k1, k2, k3, k5, hC, hbm⟩ := T.base
  obtain ⟨t1, ho⟩ := exo_at I.hok e
  have cl0 : PySem.W.clsIn X.K C = some { name := nm, bases := bs, mro := .ref C :: bm, ns := N, qualname := q, hasDict := true, slotNames := sn, subclasses := sub, abstract := ab, collection := col, hasDel := false } := by
    unfold PySem.W.clsIn
    rw [hC] <;> rfl
  have lk := PySem.W.looks_clsIn (M := model X.prog X.w) I.kIn cl0
  obtain ⟨hp, gn, dr, tk, os⟩ := s
  have J := (⟨ho, rfl, rfl, trivial⟩ : PySem.W.InstAt hp a { cls := .ref C, dict := none, data := .fields #[.ref t1, .none, .none, .none, .bool false, .none] } C none)
  have as_ : a ≠ hp.objs.size := Nat.ne_of_lt (Heap.lt_size ho)
  refine PySem.W.set_plain I.kIn J T.sa (PySem.W.osa_openX SF I.kIn J ov (taker_none hno) fun b => ?_)
  dsimp only
  unfold storeInOwnDict ownDictForStores
  repeat (first | with_reducible refine PySem.HandSPX.store_in_new ?_ ?_ | with_reducible refine wpAny_loadPart_at ho ?_ | with_reducible refine lk.at ?_ | wp_step)
  · exact ⟨_, #[], _, (Heap.get?_update_ne _ _ _ _ as_.symm).trans (Heap.get?_push_at rfl rfl), rfl, fun en he => absurd he (by simp), fun _ => rfl⟩
  intro h' tk' hn sb
  have gd : ∀ b o, b ≠ a → hp.get? b = some o → h'.get? b = some o := fun b o hb eo => (sb.2 b (Nat.ne_of_lt (Heap.lt_size eo))).trans ((Heap.get?_update_ne _ _ _ _ hb).trans (Heap.get?_push_of_some _ eo))
  have ga : h'.get? a = some { cls := .ref C, dict := some hp.objs.size, data := .fields #[.ref t1, .none, .none, .none, .bool false, .none] } := (sb.2 a as_).trans (Heap.get?_update_self _ (Heap.get?_push_of_some _ ho) rfl)
  -- between: the dict is there, the exception does not know of it
  obtain ⟨hm, em⟩ : ∃ hm : Heap, hm = h'.update a fun _ => { cls := .ref C, dict := none, data := .fields #[.ref t1, .none, .none, .none, .bool false, .none] } := ⟨_, rfl⟩
  have ma : hm.get? a = some { cls := .ref C, dict := none, data := .fields #[.ref t1, .none, .none, .none, .bool false, .none] } := by
    rw [em]
    exact Heap.get?_update_self _ ga rfl
  have mb : ∀ b, b ≠ a → hm.get? b = h'.get? b := fun b hb => by
    rw [em]
    exact Heap.get?_update_ne _ _ _ _ hb
  have nm1 : hm.Ns1 hp.objs.size (fun z => if z = f then some u else none) := hn.at fun o eo => (mb _ as_.symm).trans eo
  have I1 : L2.Inv X pins σ (upd H hp.objs.size (exd hp.objs.size [(f, y)])) ⟨hm, gn, dr, tk', os⟩ := I.laid (t' := tk') (fun b o eo => by
    by_cases hb : b = a
    · subst hb
      rw [ma, ← ho]
      exact eo
    · exact (mb b hb).trans (gd b o hb eo)) (Nat.le_refl _) (exd_ok nm1 (relO_put (fs := []) ry fun _ => True.intro))
  have e1 : upd H hp.objs.size (exd hp.objs.size [(f, y)]) a = some (exo a C none) := by rw [upd_ne as_, e]
  have I2 := I1.write (t' := tk') (h' := h') (x := a) (e := a) (o := exo a C (some hp.objs.size)) (by rw [e1]; exact True.intro) (.inl rfl) (fun b o hb eo => (mb b hb).symm.trans eo) ⟨_, ga⟩ (exo_ok ga)
  exact h _ _ (I.hok.fresh (Nat.le_refl _)) as_.symm I2
open PySem.Builtin PySem.Builtin.ObjectAttr in
theorem ostG_old (T : OexG X.K C) (I : L2.Inv X pins σ H s) (e : H a = some (exo a C (some dx))) (ed : H dx = some (exd dx fs)) (hl : fs.length ≤ 900) (hno : PySem.W.findIn X.K (.ref C) f = some none) (ry : RelV y u)
    (h : ∀ s', L2.Inv X pins σ (upd H dx (exd dx ((f, y) :: fs))) s' → Q () s') : wpAny (model X.prog X.w) A (setAttr (.ref a) f u) Q E s := by
  obtain ⟨B0, nw, ini, bmB, FB, SF, ov, nm, q, N, bs, bm, sn, sub, ab, col, dd, k0, k1, k2, k3, k5, hC, hbm⟩ := T.base
  obtain ⟨t1, ho⟩ := exo_at I.hok e
  obtain ⟨mA, hns, rel⟩ := exd_at I.hok ed
  have hw := within_of rel
  have cl0 : PySem.W.clsIn X.K C = some { name := nm, bases := bs, mro := .ref C :: bm, ns := N, qualname := q, hasDict := true, slotNames := sn, subclasses := sub, abstract := ab, collection := col, hasDel := false } := by
    unfold PySem.W.clsIn
    rw [hC] <;> rfl
  have lk := PySem.W.looks_clsIn (M := model X.prog X.w) I.kIn cl0
  obtain ⟨hp, gn, dr, tk, os⟩ := s
  obtain ⟨oD, _, _, hoD, _, _⟩ := hns.count hw
  have J := (⟨ho, rfl, rfl, hoD⟩ : PySem.W.InstAt hp a { cls := .ref C, dict := some dx, data := .fields #[.ref t1, .none, .none, .none, .bool false, .none] } C (some oD))
  refine PySem.W.set_plain I.kIn J T.sa (PySem.W.osa_openX SF I.kIn J ov (taker_none hno) fun b => ?_)
  dsimp only
  unfold storeInOwnDict ownDictForStores
  repeat (first | with_reducible refine PySem.OEX.store_in_old hns hw (by rw [List.length_map]; omega) ?_ | with_reducible refine wpAny_loadPart_at ho ?_ | with_reducible refine lk.at ?_ | wp_step)
  intro h' tk' hn sb
  obtain ⟨o2, e2⟩ : ∃ o, h'.get? dx = some o := by
    obtain ⟨o, _, _, z, _⟩ := hn
    exact ⟨o, z⟩
  exact h _ (I.write (t' := tk') (x := dx) (e := dx) (o := exd dx ((f, y) :: fs)) (by rw [ed]; exact True.intro) (.inl rfl) (fun b o hb eo => (sb.2 b hb).trans eo) ⟨o2, e2⟩ (exd_ok hn (relO_put ry rel)))
end
def tOstG (K : PySem.W.Frag) (f : Str) (to te : TE) : TS := fun D σ H => te σ H fun y H1 => to σ H1 fun x H2 => ∃ a C : Addr, x = .ref a ∧ OexG K C ∧ PySem.W.findIn K (.ref C) f = some none ∧ ((H2 a = some (exo a C none) ∧ ∀ dx, H2 dx = none → dx ≠ a → D.nx σ (upd (upd H2 dx (exd dx [(f, y)])) a (exo a C (some dx)))) ∨
    ∃ (dx : Addr) (fs : List (Str × V)), H2 a = some (exo a C (some dx)) ∧ H2 dx = some (exd dx fs) ∧ fs.length ≤ 900 ∧ D.nx σ (upd H2 dx (exd dx ((f, y) :: fs))))
theorem ps_ostG {X : Cx} {o e : Expr} {to te : TE} {f : Str} {p' pos : Pos} (ho : PE X o to) (he : PE X e te) (hs : swapsWith e (some (.Attribute o f p')) pos.line X.env = pure false := by rfl) : PS X (.Assign [.Attribute o f p'] e pos) (tOstG X.K f to te) :=
  ⟨fun pins s σ H D I h => plainObj_wpAny_Assign_Attribute (thn (he.run pins s σ H _ I h) fun u1 s1 ⟨y, H1, I1, ry, q1⟩ => thn (ho.run pins s1 σ H1 _ I1 q1) fun u2 s2 ⟨x, H2, I2, rx, a, C, ex, T, hno, q⟩ => by
    subst ex
    obtain rfl : u2 = Value.ref a := rx
    exact q.elim (fun ⟨ea, z⟩ => ostG_new T I2 ea hno ry fun dx s' n ne J => ⟨σ, _, J, z dx n ne⟩) fun ⟨dx, fs, ea, ed, hl, z⟩ => ostG_old T I2 ea ed hl hno ry fun s' J => ⟨σ, _, J, z⟩) hs⟩
def spX (C : Addr) (n : Nat) (g : List V → List (Str × V)) : Sp := fun vs H Q _ => vs.length = n + 1 ∧ ∃ a ws, vs = .ref a :: ws ∧ H a = some (exo a C none) ∧
  ∀ dx H', H dx = none → dx ≠ a → H' a = some (exo a C (some dx)) → H' dx = some (exd dx (g ws)) → (∀ b, b ≠ a → b ≠ dx → H' b = H b) → Q .non H'
section
variable {P : Program} {w : World} {K : PySem.W.Frag} {mg : Str → Option Value} {base : Heap}
def tag2 (t fl : Str) : List V → List (Str × V) := fun ws => match ws with
  | [v] => [(fl, v), ("tag", .str t)]
  | _ => []
theorem x1_ok {x qual : Str} {st : Stmt} {f C : Addr} {fd : FuncData} {t fl : Str} {j : Nat} {p1 p2 p3 p4 p5 p6 p7 p8 : Pos} {sc : Scope} (F : Fun K x qual st f fd) (T : OexG K C) (n1 : PySem.W.findIn K (.ref C) "tag" = some none) (n2 : PySem.W.findIn K (.ref C) fl = some none)
    (hb : defBody st = [.Assign [.Attribute (.Name "self" p1) "tag" p2] (.Constant (.str t) j p3) p4, .Assign [.Attribute (.Name "self" p5) fl p6] (.Name fl p7) p8]) (hs : defScope st = sc) (S : FnScope ["self", fl] ["self", fl] sc) (hv : sc.names.lookup ("self" : Str) = some .local) (hv2 : sc.names.lookup fl = some .local) (hd : (fl == ("__debug__" : Str)) = false)
    (hc : (fl == ("__classdict__" : Str)) = false) : FnOk P w K mg base (L2.CX P w) 1 f fd ["self", fl] (spX C 1 (tag2 t fl)) := by
  subst hs
  refine F.okX S (fun vs H Q E h => h.1) fun cdv A outer s H vs Q E hr h => ?_
  obtain ⟨hl, a, ws, rfl, ha, k⟩ := h
  obtain ⟨v, rfl⟩ : ∃ v, ws = [v] := by
    match ws, hl with
    | [v], _ => exact ⟨v, rfl⟩
  rw [hb]
  refine ⟨_, pss_cons (ps_ostG (pe_var (i := 0) rfl (.inl hv)) pe_str) (pss_one (ps_ostG (pe_var (i := 0) rfl (.inl hv)) (pe_var (i := 1) rfl (.inl hv2) hd hc))), ?_⟩
  refine ⟨_, rfl, a, C, rfl, T, n1, .inl ⟨ha, fun dx hdx hne => ?_⟩⟩
  refine ⟨_, rfl, _, rfl, a, C, rfl, T, n2, .inr ⟨dx, _, upd_same, by rw [upd_ne hne, upd_same], Nat.le_of_ble_eq_true rfl, ?_⟩⟩
  refine k dx _ hdx hne (by rw [upd_ne hne.symm, upd_same]) upd_same fun b h1 h2 => ?_
  rw [upd_ne h2, upd_ne h1, upd_ne h2]
structure Xf (P : Program) (w : World) (K : PySem.W.Frag) (mg : Str → Option Value) (base : Heap) (x : Str) (C : Addr) (n : Nat) (g : List V → List (Str × V)) : Prop where
  cls : OexG K C
  mgC : mg x = some (.ref C)
  ex : ∃ fI fd ps, PySem.W.findIn K (.ref C) "__init__" = some (some (.ref fI)) ∧ PySem.W.typeIn K (.ref fI) = some (.type "function") ∧ FnOk P w K mg base (L2.CX P w) 1 fI fd ps (spX C n g) ∧ Binds K fd ps [] ∧ ps.length = n + 1
end
section
variable {X : Cx} {B : Bs} {Ξ : XD → En → Sto → Prop} {pos p : Pos} {e : Expr} {es : List Expr} {ga : DTA} {k n : Nat} {x : Str} {C : Addr} {g : List V → List (Str × V)}
theorem mk_x (XF : Xf X.prog X.w X.K X.mg X.base x C n g) (hr : Room k X.A) (hk : 2 ≤ k) {pins : List (Addr × Obj)} {s : Shared} {σ : L2.St} {H : Hp} {Q : XK} {us : List Value} {vs : List V} (I : L2.Inv X pins σ H s) (rv : Vals vs us) (hl : vs.length = n) (hn : n ≤ 1000)
    (q : ∀ d H', H d = none → H' d = some (.xd (g vs)) → (∀ b, b ≠ d → H' b = H b) → Q (.ref C) (some d) H') : wpAny (model X.prog X.w) X.A (call (.ref C) us) (MkP X pins σ Q) X.xe s := by
  obtain ⟨fI, fd, ps, iC, tI, FO, hb, lp⟩ := XF.ex
  have T := XF.cls
  obtain ⟨B0, nw, ini, bmB, FB, SF, ov, nm, qq, N, bs, bm, sn, sub, ab, col, dd, k0, k1, k2, k3, k5, hC, hbm⟩ := T.base
  obtain ⟨hp, gn, dr, tk, os⟩ := s
  generalize ea : hp.objs.size + 1 = a
  have hsz : hp.objs.size ≤ a := by omega
  have na : H a = none := I.hok.fresh hsz
  have kk : ∀ b o, hp.get? b = some o → ((hp.push (PySem.W.kdv_tup us)).push (PySem.HandSPX.excO C hp.objs.size)).get? b = some o := fun b o z => Heap.get?_push_of_some _ (Heap.get?_push_of_some _ z)
  have hget : ((hp.push (PySem.W.kdv_tup us)).push (PySem.HandSPX.excO C hp.objs.size)).get? a = some (PySem.HandSPX.excO C hp.objs.size) := by rw [← ea]; heap_get
  have I2 : L2.Inv X pins σ (upd H a (exo a C none)) ⟨(hp.push (PySem.W.kdv_tup us)).push (PySem.HandSPX.excO C hp.objs.size), gn, dr, tk, os⟩ := I.laid (t' := tk) kk hsz (exo_ok hget)
  have r2 : Vals (V.ref a :: vs) (Value.ref a :: us) := .cons rfl rv
  have hul : (Value.ref a :: us ++ []).length = ps.length := by rw [List.append_nil, ← r2.length, lp, List.length_cons, hl]
  have hus : us.length ≤ sizeLine := by rw [← rv.length, hl, sizeLine_eq]; omega
  have hsp : spX C n g (V.ref a :: vs) (upd H a (exo a C none)) (fun v H2 => v = .non ∧ ∃ d, H d = none ∧ H2 a = some (exo a C (some d)) ∧ H2 d = some (exd d (g vs)) ∧ Q (.ref C) (some d) (upd (del H2 a) d (.xd (g vs)))) (fun _ _ _ => False) := by
    refine ⟨by rw [List.length_cons, hl], a, vs, rfl, upd_same, fun dx H' h1 h2 h3 h4 h5 => ⟨rfl, dx, ?_, h3, h4, q dx _ ?_ upd_same fun b hb => ?_⟩⟩
    · rw [upd_ne h2] at h1; exact h1
    · rw [upd_ne h2] at h1; exact h1
    · rw [upd_ne hb]
      by_cases z : b = a
      · rw [z, del_same, na]
      · rw [del_ne z, h5 b z hb, upd_ne z]
  refine wpAny_call (PySem.HandSPX.call_own FB hbm (I.kIn _ _ hC) (PySem.W.looks_findIn I.kIn iC) (fun self => PySem.W.bind_fn I.kIn self tI) hus ?_)
  rw [ea]
  refine codeAny_mono (FO.run _ X.stack _ _ ⟨Value.ref a :: us, []⟩ (Value.ref a :: us) _ _ (fun _ _ _ => False) ((hr.mono hk).make C us []) (I2.env0.make C us []) ?_ r2 hsp) fun r s' hq' => ?_
  · have z := hb ⟨(hp.push (PySem.W.kdv_tup us)).push (PySem.HandSPX.excO C hp.objs.size), gn, dr, tk, os⟩ (Value.ref a :: us) I2.kIn hul
    rw [List.append_nil] at z
    exact z
  · cases r with
    | error er =>
      obtain ⟨_, _, _, _, _, _, _, _, _, _, _, _, z⟩ := hq'
      exact z.elim
    | ok fl =>
      cases fl with
      | ret u =>
        obtain ⟨v, H2, os2, bare2, un2, hok2, rv2, ev, d, hd, e1, e2, q2⟩ := hq'
        subst ev
        obtain ⟨h2, g2, d2, t2, os'⟩ := s'
        exact ⟨rv2, mk_end (raises_own T.exC T.tyC) I hsz kk un2 hok2 os2 bare2 e1 e2 hd q2⟩
      | next => exact False.elim hq'
      | brk => exact False.elim hq'
      | cont => exact False.elim hq'
theorem ds_raise1 {t fl : Str} {p2 : Pos} (XF : Xf X.prog X.w X.K X.mg X.base x C 1 (tag2 t fl)) (hr : Room k X.A) (z : Zx X B Ξ) (hc : X.calm = true) (ha : DA X B [e] ga) (hk : 2 ≤ k := by decide) (hg : Gl X x := by rfl) (hdb : (x == ("__debug__" : Str)) = false := by decide)
    (he : starEach [e] X.env = (false, eval e X.env) :: starEach [] X.env := by rfl) : DS X B (.Raise (some (.Call (.Name x p) [e] [] p2)) none pos) (fun E r M => ga r M fun ds M1 => match ds with | [d] => Ξ (C, [(fl, d), ("tag", .str t)]) r M1 | _ => False) := by
  have mk : PMk X (.Call (.Name x p) [e] [] p2) (fun σ H Q => liftA X.K B ga σ H fun vs H1 => vs.length = 1 ∧ ∀ d H', H1 d = none → H' d = some (.xd (tag2 t fl vs)) → (∀ b, b ≠ d → H' b = H1 b) → Q (.ref C) (some d) H') := by
    intro pins s σ H Q I h
    refine wpAny_Call_Name_kw (ld_glob I hg XF.mgC ?_ hdb)
    exact PySem.W.callWith_K (h₀ := X.base) I.ok.mod.kin XF.cls.kC (thn (ha.run p2 pins s σ H _ I h) fun us s1 ⟨vs, H1, I1, rv, l1, q1⟩ => ⟨I1.kIn, mk_x XF hr hk I1 rv l1 (by omega) q1⟩) he rfl
  refine PS_imp (ps_raise hc z.tk mk) fun D' σ H h => ?_
  obtain ⟨r, M, G, E, R, q, _⟩ := EkOk.of h
  refine ⟨r, M, G, _, R, q, fun ds M1 vs H1 G1 q1 R1 s1 p1 => ?_⟩
  split at q1
  · rename_i d
    cases p1 with
    | @cons _ _ v _ p1 p2 =>
      cases p2
      refine ⟨rfl, fun dd H' hd h' hb => ⟨(C, [(fl, d), ("tag", .str t)]), r, M1, G1, q1, ?_, rfl, dd, _, rfl, h', .cons p1 (.cons .str .nil)⟩⟩
      have e : H' = upd H1 dd (.xd (tag2 t fl [v])) := by
        funext b
        by_cases z : b = dd
        · rw [z, upd_same]; exact h'
        · rw [upd_ne z]; exact hb b z
      rw [e]
      refine R1.go ⟨fun a o y => by rw [upd_ne (ne_of_none (R1.wd.sub _ _ y) hd)]; exact R1.wd.sub _ _ y, fun a c y => ?_⟩ ⟨fun a o y _ => by rw [upd_ne (ne_of_none y hd)]; exact y, fun a y => ?_, Sub.rfl', fun a y n => absurd n y, fun a y n => absurd n y⟩
      · obtain ⟨h1, h2⟩ := R1.wd.cells a c y
        exact ⟨h1, h2.move Sub.rfl' fun o z => by rw [upd_ne (ne_of_none z hd)]; exact z⟩
      · by_cases z : a = dd
        · rw [z, upd_same]; simp
        · rw [upd_ne z]; exact y
  · exact q1.elim
end
end Z
namespace Z
open PySem PySem.Spec PyProof.Rows L2

def objOf (M : Sto) : D → Option (Addr × List (Str × D))
  | .obj C fs => some (C, fs)
  | .ref p => match M p with
    | some (.ins C fs) => some (C, fs)
    | _ => none
  | _ => none
theorem objOf_ref {M : Sto} {a C : Addr} {fs : List (Str × D)} (e : objOf M (.ref a) = some (C, fs)) : M a = some (.ins C fs) := by
  have e' : (match M a with | some (.ins C fs) => some (C, fs) | _ => none) = some (C, fs) := e
  split at e'
  · rename_i l' q
    cases e'
    exact q
  · cases e'
theorem obj_rep {K : PySem.W.Frag} {M : Sto} {H G : Hp} {d : D} {v : V} {C : Addr} {fs : List (Str × D)} (w : Wd K M H G) (r : Rep K G d v) (e : objOf M d = some (C, fs)) : ∃ a dx fvs, v = .ref a ∧ H a = some (.ins C dx fvs) ∧ RepF K G fs fvs := by
  cases r with
  | obj h r => cases e; exact ⟨_, _, _, rfl, w.sub _ _ h, r⟩
  | ref =>
    obtain ⟨_, dx, fvs, h, r⟩ := w.cells _ _ (objOf_ref e)
    exact ⟨_, dx, fvs, rfl, h, r⟩
  | _ => cases e
def isO (C : Addr) (M : Sto) (x : D) (φ : List (Str × D) → Prop) : Prop := match objOf M x with
  | some (C', fs) => C' = C ∧ φ fs
  | none => False
theorem isO_some {C : Addr} {M : Sto} {x : D} {φ : List (Str × D) → Prop} (h : isO C M x φ) : ∃ fs, objOf M x = some (C, fs) ∧ φ fs := by
  unfold isO at h
  split at h
  · rename_i C' fs e
    obtain ⟨rfl, h⟩ := h
    exact ⟨fs, e, h⟩
  · exact h.elim
theorem RepF.put {K : PySem.W.Frag} {G : Hp} {f : Str} {d : D} {v : V} (p : Rep K G d v) : ∀ {fs : List (Str × D)} {gs : List (Str × V)}, RepF K G fs gs → RepF K G (putD f d fs) (putF f v gs)
  | _, _, .nil => .cons p .nil
  | _, _, .cons (f := g) q r => by
    unfold putD putF
    by_cases e : g = f
    · rw [if_pos e, if_pos e]; exact .cons p r
    · rw [if_neg e, if_neg e]; exact .cons q (r.put p)
section
variable {X : Cx} {B : Bs} {Ξ : XD → En → Sto → Prop} {k j n : Nat} {c : Ct} {pos apos p p' : Pos} {e o : Expr} {es : List Expr} {kws : List Keyword} {ga gk : DTA} {fa fo : DTE} {C f : Addr} {fn m x : Str} {ks : List Str} {g : List D → List D → List D} {bs : List (Nat × List Str × (List D → List D → List D))}
theorem de_fld (T : Cls X.K C) (nf : NoAttr X.K C fn) (ho : DE X B o fo) (hb : attributeBase o fn X.env (eval o X.env) = eval o X.env := by rfl) :
    DE X B (.Attribute o fn pos) (fun r M Ψ => fo r M fun x M1 => isO C M1 x fun fs => optK (fs.lookup fn) fun d => Ψ d M1) := PE_imp (pe_fld ho hb) fun σ H Q ⟨r, M, G, Ψ, R, h, k⟩ => by
  refine ⟨r, M, G, _, R, h, fun x M1 v H1 G1 q R1 s1 p1 => ?_⟩
  obtain ⟨fs, e1, q⟩ := isO_some q
  obtain ⟨d, e2, q⟩ := optK_some q
  obtain ⟨a, dx, fvs, rfl, h1, r1⟩ := obj_rep R1.wd p1 e1
  obtain ⟨u, e3, p3⟩ := r1.look e2
  exact ⟨a, C, dx, fvs, u, rfl, h1, T, nf, e3, k _ _ _ _ _ q R1 s1 p3⟩
theorem ds_fld {value : Expr} (T : Cls X.K C) (nf : NoAttr X.K C fn) (hv : DE X B value fa) (ho : DE X B o fo) (hs : swapsWith value (some (.Attribute o fn p')) pos.line X.env = pure false := by rfl) :
    DS X B (.Assign [.Attribute o fn p'] value pos) (fun E r M => fa r M fun d M1 => fo r M1 fun x M2 => match x with
      | .ref a => match M2 a with
        | some (.ins C' fs) => C' = C ∧ fs.length < 1000 ∧ E.nx r (updM M2 a (.ins C (putD fn d fs)))
        | _ => False
      | _ => False) := PS_imp (ps_fld ho hv hs) fun D' σ H h => by
  obtain ⟨r, M, G, E, R, q, k⟩ := EkOk.of h
  refine ⟨r, M, G, _, R, q, fun d M1 v H1 G1 q1 R1 s1 p1 => ?_⟩
  refine ⟨r, M1, G1, _, R1, q1, fun x M2 u H2 G2 q2 R2 s2 p2 => ?_⟩
  split at q2
  · split at q2
    · rename_i a _ C' fs em
      obtain ⟨rfl, hl, q2⟩ := q2
      cases p2
      obtain ⟨ga, dx, fvs, h1, r1⟩ := R2.wd.cells _ _ em
      obtain ⟨w, s⟩ := cell_put (c := .ins C' (putD fn d fs)) (o := .ins C' dx (putF fn v fvs)) R2.wd em ⟨dx, _, upd_same, r1.put (p1.mono s2)⟩
      exact ⟨a, C', dx, fvs, rfl, h1, T, nf, by rw [← r1.length]; exact hl, k.nx _ _ _ _ _ q2 (R2.go w s) (s1.tr s2)⟩
    · exact q2.elim
  · exact q2.elim
structure Mf (P : Program) (w : World) (K : PySem.W.Frag) (mg : Str → Option Value) (base : Heap) (C : Addr) (m : Str) (k : Nat) (c : Ct) (bs : List (Nat × List Str × (List D → List D → List D))) : Prop where
  ex : ∃ f fd ps, Meth K C m f ∧ FnOk P w K mg base (L2.CX P w) k f fd ps (spC K ps.length c) ∧ ∀ b ∈ bs, BindD K fd ps b
theorem de_meth {pl : Sem Bool} (F : Mf X.prog X.w X.K X.mg X.base C m j c bs) (T : Cls X.K C) (hr : Room k X.A) (z : Zx X B Ξ) (hb : (n + 1, [], g) ∈ bs) (ho : DE X B o fo) (ha : DA X B (e :: es) ga) (hj : j ≤ k := by decide)
    (hst : starEach (e :: es) X.env = (false, eval e X.env) :: starEach es X.env := by rfl) (hpl : (backTo pos (starEach es X.env)).any (·.1) = false := by rfl)
    (ht : eval (.Call (.Attribute o m apos) (e :: es) [] pos) X.env = (do let ov ← eval o X.env; standAt apos.atName; let (f, first) ← holding [ov] (getMethod ov m pl); callWith pos f first (backTo pos (starEach (e :: es) X.env)) (backToKw pos (keywordEach [] X.env))) := by rfl) :
    DE X B (.Call (.Attribute o m apos) (e :: es) [] pos) (fun r M Ψ => fo r M fun x M1 => isO C M1 x fun fs => fs.lookup m = none ∧ ga r M1 fun ds M2 => callD (n + 1) 0 g c Ξ (x :: ds) [] r M2 Ψ) := by
  obtain ⟨f, fd, ps, mt, FO, hbs⟩ := F.ex
  refine ⟨fun pins s σ H Q I ⟨r, M, G, Ψ, R, h, kk⟩ => ?_⟩
  refine PySem.W.methodCall_KW (pl := pl) (thn (ho.run pins s σ H _ I ⟨r, M, G, _, R, h, fun x M1 v H1 G1 q R1 s1 p1 => (⟨x, M1, G1, q, R1, s1, p1⟩ : ∃ x M1 G1, (isO C M1 x fun fs => fs.lookup m = none ∧ ga r M1 fun ds M2 => callD (n + 1) 0 g c Ξ (x :: ds) [] r M2 Ψ) ∧ Rel X.K B r M1 σ H1 G1 ∧ Sub G G1 ∧ Rep X.K G1 x v)⟩) fun u s1 ⟨v, H1, I1, rx, x, M1, G1, q, R1, t1, p1⟩ => ?_) ht
  obtain ⟨fs, e1, l, q⟩ := isO_some q
  obtain ⟨a, dx, fvs, rfl, h1, r1⟩ := obj_rep R1.wd p1 e1
  obtain rfl : u = Value.ref a := rx
  refine getmeth_ok I1 h1 T mt (r1.none l) ?_
  refine PySem.W.callWith_K (first := [.ref a]) (h₀ := X.base) I.ok.mod.kin mt.kp (thn (ha.run pos pins s1 σ H1 _ I1 ⟨r, M1, G1, _, R1, q, fun ds M2 vs H2 G2 q R2 s2 p2 => (⟨ds, M2, G2, q, R2, s2, p2⟩ : ∃ ds M2 G2, callD (n + 1) 0 g c Ξ (x :: ds) [] r M2 Ψ ∧ Rel X.K B r M2 σ H2 G2 ∧ Sub G1 G2 ∧ RepL X.K G2 ds vs)⟩) fun us s2 ⟨vs, H2, I2, rv, ds, M2, G2, ⟨l1, _, q⟩, R2, t2, p2⟩ => ⟨I2.kIn, ?_⟩) hst hpl
  exact run_c (us := .ref a :: us) (vs := .ref a :: vs) (zs := []) (ws := []) (dz := []) FO (hr.mono hj) (hbs _ hb) z.tk I2 R2 (.cons rfl rv) .nil (.cons (p1.mono t2) p2) .nil l1 rfl q fun d M' v H' G' q R' s' p' => kk _ _ _ _ _ q R' ((t1.tr t2).tr s') p'
theorem de_meth0 {pl : Sem Bool} (F : Mf X.prog X.w X.K X.mg X.base C m j c bs) (T : Cls X.K C) (hr : Room k X.A) (z : Zx X B Ξ) (hb : (1, [], g) ∈ bs) (ho : DE X B o fo) (hj : j ≤ k := by decide)
    (ht : eval (.Call (.Attribute o m apos) [] [] pos) X.env = (do let ov ← eval o X.env; standAt apos.atName; let (f, first) ← holding [ov] (getMethod ov m pl); callWith pos f first (backTo pos (starEach [] X.env)) (backToKw pos (keywordEach [] X.env))) := by rfl) :
    DE X B (.Call (.Attribute o m apos) [] [] pos) (fun r M Ψ => fo r M fun x M1 => isO C M1 x fun fs => fs.lookup m = none ∧ callD 1 0 g c Ξ [x] [] r M1 Ψ) := by
  obtain ⟨f, fd, ps, mt, FO, hbs⟩ := F.ex
  refine ⟨fun pins s σ H Q I ⟨r, M, G, Ψ, R, h, kk⟩ => ?_⟩
  refine PySem.W.methodCall_KW (pl := pl) (thn (ho.run pins s σ H _ I ⟨r, M, G, _, R, h, fun x M1 v H1 G1 q R1 s1 p1 => (⟨x, M1, G1, q, R1, s1, p1⟩ : ∃ x M1 G1, (isO C M1 x fun fs => fs.lookup m = none ∧ callD 1 0 g c Ξ [x] [] r M1 Ψ) ∧ Rel X.K B r M1 σ H1 G1 ∧ Sub G G1 ∧ Rep X.K G1 x v)⟩) fun u s1 ⟨v, H1, I1, rx, x, M1, G1, q, R1, t1, p1⟩ => ?_) ht
  obtain ⟨fs, e1, l, l1, _, q⟩ := isO_some q
  obtain ⟨a, dx, fvs, rfl, h1, r1⟩ := obj_rep R1.wd p1 e1
  obtain rfl : u = Value.ref a := rx
  refine getmeth_ok I1 h1 T mt (r1.none l) ?_
  refine PySem.W.callWith_K0 (first := [.ref a]) I1.kIn mt.kp ?_
  exact run_c (us := [.ref a]) (vs := [.ref a]) (zs := []) (ws := []) (dz := []) FO (hr.mono hj) (hbs _ hb) z.tk I1 R1 (.cons rfl .nil) .nil (.cons p1 .nil) .nil l1 rfl q fun d M' v H' G' q R' s' p' => kk _ _ _ _ _ q R' (t1.tr s') p'
end
end Z
namespace Z
open PySem PySem.Spec PyProof.Rows L2

abbrev noX : XD → Sto → Prop := fun _ _ => False
section
variable {X : Cx} {B : Bs} {Ξ : XD → En → Sto → Prop} {k j n : Nat} {c : Ct} {pos apos p p' p1 p2 : Pos} {a b e o : Expr} {es : List Expr} {kws : List Keyword} {ga gk : DTA} {fa fb fo : DTE} {C : Addr} {fn m x : Str} {ks : List Str} {g : List D → List D → List D} {bs : List (Nat × List Str × (List D → List D → List D))}
def OkP2 (K : PySem.W.Frag) (r : R2) (g : Sto → D → D → PD → Prop) : Prop := ∀ (M : Sto) (H G : Hp) (x y : D) (v u : V) (φ : PD) (Q : VK), Wd K M H G → Rep K G x v → Rep K G y u → g M x y φ → Post K H G M φ Q → r v u H Q
theorem tOp_okP {r : R2} {g : Sto → D → D → PD → Prop} (ok : OkP2 X.K r g) {σ : L2.St} {H : Hp} {Q : VK} (h : lift X.K B (fun r M Ψ => fa r M fun x M1 => fb r M1 fun y M2 => g M2 x y Ψ) σ H Q) : tOp r (lift X.K B fa) (lift X.K B fb) σ H Q := by
  obtain ⟨r, M, G, Ψ, R, h, k⟩ := h
  refine ⟨r, M, G, _, R, h, fun d M1 v H1 G1 q1 R1 s1 p1 => ?_⟩
  refine ⟨r, M1, G1, _, R1, q1, fun y M2 u H2 G2 q2 R2 s2 p2 => ?_⟩
  exact ok M2 H2 G2 _ _ _ _ _ _ R2.wd (p1.mono s2) p2 q2 fun d M' w H' G' f w' s' p => k _ _ _ _ _ f (R2.go w' s') ((s1.tr s2).tr s'.gsub) p
end
section
variable {prog : Program} {w : World} {A : Around} {E : Value → Shared → Prop} {s : Shared} {K : PySem.W.Frag} {x C L f : Addr} {h₀ : Heap} {m : Str → Option Value} {ox : Obj} {od : Option Obj} {b tb : Value}
end
section
variable {X : Cx} {B : Bs} {Ξ : XD → En → Sto → Prop} {k j n : Nat} {c : Ct} {pos apos p p' p1 p2 : Pos} {a b e o : Expr} {es : List Expr} {kws : List Keyword} {ga gk : DTA} {fa fb fo : DTE} {C : Addr} {fn m x : Str} {ks : List Str} {g : List D → List D → List D} {bs : List (Nat × List Str × (List D → List D → List D))}
end
end Z
namespace Z
open PySem PySem.Spec PyProof.Rows L2

structure Cf (P : Program) (w : World) (K : PySem.W.Frag) (mg : Str → Option Value) (base : Heap) (x : Str) (C : Addr) (k : Nat) (c : Ct) (bs : List (Nat × List Str × (List D → List D → List D))) : Prop where
  gl : mg x = some (.ref C)
  ex : ∃ f fd ps, Mk K C f ∧ FnOk P w K mg base (L2.CX P w) k f fd ps (spC K ps.length c) ∧ ∀ b ∈ bs, BindD K fd ps b
theorem own_new {K : PySem.W.Frag} {M : Sto} {H G : Hp} {p : Addr} {o : HO} (w : Wd K M H G) (hp : H p = none) : Wd K M (upd H p o) G ∧ Since H G M M (upd H p o) G := by
  refine ⟨⟨fun a u h => ?_, fun a u h => ?_⟩, ⟨fun a u h n => ?_, fun a h => ?_, Sub.rfl', fun a h n => absurd n h, fun a h n => absurd n h⟩⟩
  · rw [upd_ne (ne_of_none (w.sub _ _ h) hp)]; exact w.sub _ _ h
  · obtain ⟨h1, h2⟩ := w.cells a u h
    exact ⟨h1, h2.move Sub.rfl' fun o z => by rw [upd_ne (ne_of_none z hp)]; exact z⟩
  · rw [upd_ne (ne_of_none h hp)]; exact h
  · by_cases e : a = p
    · subst e; rw [upd_same]; simp
    · rw [upd_ne e]; exact h
section
variable {X : Cx} {B : Bs} {Ξ : XD → En → Sto → Prop} {k j n : Nat} {c : Ct} {pos apos p p' : Pos} {e o : Expr} {es : List Expr} {kws : List Keyword} {ga gk : DTA} {fa fo : DTE} {C : Addr} {fn m x : Str} {ks : List Str} {g : List D → List D → List D} {bs : List (Nat × List Str × (List D → List D → List D))}
theorem run_mk {pins : List (Addr × Obj)} {r : En} {M : Sto} {σ : L2.St} {H G : Hp} {s : Shared} {Q : VK} {vs zs : List V} {us ws : List Value} {ds dz : List D} {b : Nat × List Str × (List D → List D → List D)} {f : Addr} {fd : FuncData} {ps : List Str} {Ψ : Addr → D → Sto → Prop} {Ξ' : Addr → XD → Sto → Prop}
    (mk : Mk X.K C f) (F : FnOk X.prog X.w X.K X.mg X.base (L2.CX X.prog X.w) k f fd ps (spC X.K ps.length c)) (hr : Room (k + 1) X.A) (hb : BindD X.K fd ps b) (tk : Takes X (wOf X.K B Ξ)) (I : L2.Inv X pins σ H s) (R : Rel X.K B r M σ H G)
    (hv : Vals vs us) (hz : Vals zs ws) (rv : RepL X.K G ds vs) (rz : RepL X.K G dz zs) (l1 : ds.length + 1 = b.1) (l2 : dz.length = b.2.1.length)
    (hc : ∀ p, M p = none → c (b.2.2 (.ref p :: ds) dz) (updM M p (.ins C [])) (Ψ p) (Ξ' p))
    (hQ : ∀ p d M' v H' G', H p = none → Ψ p d M' → Wd X.K M' H' G' → Since H G M M' H' G' → Rep X.K G' d v → v = .non ∧ Q (.ref p) H')
    (hE : ∀ p x M' H' G', H p = none → Ξ' p x M' → Wd X.K M' H' G' → Since H G M M' H' G' → ∃ M2 G2, Sub G' G2 ∧ Ξ x r M2 ∧ Wd X.K M2 H' G2 ∧ Since H G M M2 H' G2) :
    wpAny (model X.prog X.w) X.A (call (.ref C) us (b.2.1.zip ws)) (EP X pins σ Q) X.xe s := by
  obtain ⟨hl, gl, gV, kb, rel⟩ := hb
  have hx : H (s.heap.objs.size + 1) = none := I.hok.fresh (Nat.le_succ _)
  have hd : H s.heap.objs.size = none := I.hok.fresh (Nat.le_refl _)
  have hne : s.heap.objs.size + 1 ≠ s.heap.objs.size := (Nat.ne_of_lt (Nat.lt_succ_self _)).symm
  obtain ⟨w1, s1⟩ := own_new (o := .own (s.heap.objs.size + 1)) R.wd hd
  obtain ⟨w2, s2⟩ := cell_new (p := s.heap.objs.size + 1) (c := .ins C []) (o := .ins C s.heap.objs.size []) w1 (by rw [upd_ne hne]; exact hx) ⟨_, _, upd_same, .nil⟩
  have t2 := Since.trans w1 s1 s2
  have I2 := Inv.made (C := C) I
  have rr := rel G (.ref (s.heap.objs.size + 1) :: ds) (.ref (s.heap.objs.size + 1) :: vs) dz zs (.cons .ref rv) rz
  have l3 := hl (.ref (s.heap.objs.size + 1) :: ds) dz (by simpa using l1) l2
  have r1 : Vals (V.ref (s.heap.objs.size + 1) :: vs) (Value.ref (s.heap.objs.size + 1) :: us) := .cons rfl hv
  have u1 : (Value.ref (s.heap.objs.size + 1) :: us).length = b.1 := by rw [← r1.length, List.length_cons, ← rv.length]; exact l1
  have u2 : ws.length = b.2.1.length := by rw [← hz.length, ← rz.length]; exact l2
  have hsp : spC X.K ps.length c (gV (.ref (s.heap.objs.size + 1) :: vs) zs) (upd (upd H s.heap.objs.size (.own (s.heap.objs.size + 1))) (s.heap.objs.size + 1) (.ins C s.heap.objs.size [])) (fun v H2 => v = .non ∧ Q (.ref (s.heap.objs.size + 1)) H2) (fun cls d H' => wOf X.K B Ξ cls d σ H') := by
    refine ⟨by rw [← rr.length]; exact l3, _, G, _, _, _, w2, rr, hc _ (R.wd.nomem hx), fun d M' v H' G' q w s p => hQ _ d M' v H' G' hx q w (Since.trans w2 t2 s) p, fun x M' H' G' cls dd q w s rx => ?_⟩
    obtain ⟨M2, G2, g2, q2, w3, s3⟩ := hE _ x M' H' G' hx q w (Since.trans w2 t2 s)
    obtain ⟨e, dd', fvs, e1, e2, r2⟩ := rx
    exact ⟨x, r, M2, G2, q2, R.go w3 s3, e, dd', fvs, e1, e2, r2.mono g2⟩
  refine wpAny_call (make_map (f := f) I.kIn mk.makes mk.init (beq_iff_eq.mp mk.fn) (codeAny_mono (F.run _ X.stack _ _ ⟨Value.ref (s.heap.objs.size + 1) :: us, b.2.1.zip ws⟩ (gl (Value.ref (s.heap.objs.size + 1) :: us) ws) _ _ _ (hr.make C us (b.2.1.zip ws))
    (I2.env0.make C us (b.2.1.zip ws)) (kb.to _ (Value.ref (s.heap.objs.size + 1) :: us) ws I2.kIn u1 u2) (kb.rel r1 hz) hsp) fun r s' hq' => ?_))
  cases r with
  | error e => exact tk e s' (XE.of_call I2 (fun cls d H' h => h) hq')
  | ok fl =>
    cases fl with
    | ret u =>
      obtain ⟨v, H', I3, rv, ev, q3⟩ := I2.after hq'
      subst ev
      exact ⟨rv, ⟨V.ref (s.heap.objs.size + 1), H', I3, rfl, q3⟩⟩
    | next => exact False.elim hq'
    | brk => exact False.elim hq'
    | cont => exact False.elim hq'
def mkM (n m : Nat) (g : List D → List D → List D) (C : Addr) (c : Ct) (Ξ : XD → En → Sto → Prop) (ds dz : List D) (r : En) (M : Sto) (Ψ : PD) : Prop := ds.length = n ∧ dz.length = m ∧ ∀ p, M p = none → c (g (.ref p :: ds) dz) (updM M p (.ins C []))
  (fun d M' => d = .non ∧ Ψ (.ref p) M') (fun x M' => Ξ x r M')
theorem run_mkM {pins : List (Addr × Obj)} {r : En} {M : Sto} {σ : L2.St} {H G : Hp} {s : Shared} {Q : VK} {vs zs : List V} {us ws : List Value} {ds dz : List D} {b : Nat × List Str × (List D → List D → List D)} {f : Addr} {fd : FuncData} {ps : List Str} {Ψ : PD}
    (mk : Mk X.K C f) (F : FnOk X.prog X.w X.K X.mg X.base (L2.CX X.prog X.w) k f fd ps (spC X.K ps.length c)) (hr : Room (k + 1) X.A) (hb : BindD X.K fd ps b) (tk : Takes X (wOf X.K B Ξ)) (I : L2.Inv X pins σ H s) (R : Rel X.K B r M σ H G)
    (hv : Vals vs us) (hz : Vals zs ws) (rv : RepL X.K G ds vs) (rz : RepL X.K G dz zs) (l1 : ds.length + 1 = b.1) (l2 : dz.length = b.2.1.length) (hc : mkM ds.length dz.length b.2.2 C c Ξ ds dz r M Ψ)
    (hQ : ∀ d M' v H' G', Ψ d M' → Rel X.K B r M' σ H' G' → Sub G G' → Rep X.K G' d v → Q v H') : wpAny (model X.prog X.w) X.A (call (.ref C) us (b.2.1.zip ws)) (EP X pins σ Q) X.xe s := by
  refine run_mk mk F hr hb tk I R hv hz rv rz l1 l2 hc.2.2 (fun p d M' v H' G' hp q w s rp => ?_) fun p x M' H' G' hp q w s => ⟨M', G', Sub.rfl', q, w, s⟩
  obtain ⟨rfl, q⟩ := q
  cases rp
  exact ⟨rfl, hQ _ _ _ _ _ q (R.go w s) s.gsub .ref⟩
theorem de_makeM (F : Cf X.prog X.w X.K X.mg X.base x C j c bs) (hr : Room k X.A) (z : Zx X B Ξ) (hb : (n + 1, [], g) ∈ bs) (ha : DA X B (e :: es) ga) (hj : j + 1 ≤ k := by decide) (hg : Gl X x := by rfl) (hdb : (x == ("__debug__" : Str)) = false := by decide)
    (he : starEach (e :: es) X.env = (false, eval e X.env) :: starEach es X.env := by rfl) (hpl : (backTo pos (starEach es X.env)).any (·.1) = false := by rfl) :
    DE X B (.Call (.Name x p) (e :: es) [] pos) (fun r M Ψ => ga r M fun ds M1 => mkM n 0 g C c Ξ ds [] r M1 Ψ) := by
  obtain ⟨f, fd, ps, mk, FO, hbs⟩ := F.ex
  refine ⟨fun pins s σ H Q I ⟨r, M, G, Ψ, R, h, kk⟩ => ?_⟩
  refine wpAny_Call_Name_kw (ld_glob I hg F.gl ?_ hdb)
  refine PySem.W.callWith_K (h₀ := X.base) I.ok.mod.kin mk.kp (thn (ha.run pos pins s σ H _ I ⟨r, M, G, _, R, h, fun ds M1 vs H1 G1 q R1 s1 p1 => (⟨ds, M1, G1, q, R1, s1, p1⟩ : ∃ ds M1 G1, mkM n 0 g C c Ξ ds [] r M1 Ψ ∧ Rel X.K B r M1 σ H1 G1 ∧ Sub G G1 ∧ RepL X.K G1 ds vs)⟩) fun us s1 ⟨vs, H1, I1, rv, ds, M1, G1, q, R1, t1, p1⟩ => ⟨I1.kIn, ?_⟩) he hpl
  obtain ⟨l1, l2, q⟩ := q
  exact run_mkM (zs := []) (ws := []) (dz := []) (b := (n + 1, [], g)) mk FO (hr.mono hj) (hbs _ hb) z.tk I1 R1 rv .nil p1 .nil (congrArg Nat.succ l1) rfl ⟨rfl, rfl, q⟩ fun d M' v H' G' q R' s' p' => kk _ _ _ _ _ q R' (t1.tr s') p'
end
end Z
namespace Z
open PySem PySem.Spec PyProof.Rows L2

section
variable {X : Cx} {B : Bs} {Ξ : XD → En → Sto → Prop} {k j n : Nat} {c : Ct} {pos apos p p' : Pos} {e o : Expr} {es : List Expr} {kws : List Keyword} {ga gk : DTA} {fa fo : DTE} {C : Addr} {fn m x : Str} {ks : List Str} {g : List D → List D → List D} {bs : List (Nat × List Str × (List D → List D → List D))}
def OkM (K : PySem.W.Frag) (r : V → List V → Hp → VK → Prop) (g : Sto → D → List D → PD → Prop) : Prop := ∀ (M : Sto) (H G : Hp) (x : D) (v : V) (ds : List D) (vs : List V) (φ : PD) (Q : VK), Wd K M H G → Rep K G x v → RepL K G ds vs → g M x ds φ → Post K H G M φ Q → r v vs H Q
def isS : D → Prop
  | .str _ => True
  | _ => False
theorem de_sm1 {id : String} {name : Str} {r : V → List V → Hp → VK → Prop} {g : Sto → D → List D → PD → Prop} (slot : Slot "str" name id) (ty : typeOf (.builtin id) = pure (.type "method_descriptor")) (rule : MtR X id r) (ok : OkM X.K r g) (ho : DE X B o fo) (he : DE X B e fa)
    (hs : starEach [e] X.env = [(false, eval e X.env)] := by rfl) (hbase : attributeBase o name X.env (eval o X.env) = eval o X.env := by rfl) (hline : (apos.endLine == pos.line) = true := by rfl) :
    DE X B (.Call (.Attribute o name apos) [e] [] pos) (fun r M Ψ => fo r M fun x M1 => isS x ∧ fa r M1 fun y M2 => g M2 x [y] Ψ) := PE_imp (pe_m1 slot ty rule ho he hs hbase hline) fun σ H Q ⟨r, M, G, Ψ, R, h, k⟩ => by
  refine ⟨r, M, G, _, R, h, fun x M1 v H1 G1 ⟨q1, q⟩ R1 s1 p1 => ⟨?_, r, M1, G1, _, R1, q, fun y M2 u H2 G2 q2 R2 s2 p2 => ?_⟩⟩
  · cases p1 <;> first | exact ⟨_, rfl⟩ | exact q1.elim
  · exact ok M2 H2 G2 _ _ _ _ _ _ R2.wd (p1.mono s2) (.cons p2 .nil) q2 fun d M' w H' G' f w' s' p => k _ _ _ _ _ f (R2.go w' s') ((s1.tr s2).tr s'.gsub) p
def strsD : List D → Option (List Str)
  | [] => some []
  | .str a :: l => (strsD l).map (a :: ·)
  | _ => none
theorem strsD_rep {K : PySem.W.Frag} {G : Hp} : ∀ {l : List D} {vs : List V} {ys : List Str}, RepL K G l vs → strsD l = some ys → vs = ys.map V.str
  | _, _, ys, .nil, h => by cases h; rfl
  | _, _, ys, .cons (d := d) p r, h => by
    cases p with
    | str =>
      unfold strsD at h
      obtain ⟨zs, e, rfl⟩ := Option.map_eq_some_iff.mp h
      rw [strsD_rep r e]; rfl
    | _ => cases h
theorem strsD_map : ∀ ys : List Str, strsD (ys.map D.str) = some ys
  | [] => rfl
  | y :: r => by show (strsD (r.map D.str)).map (y :: ·) = _; rw [strsD_map r]; rfl
def joinD (M : Sto) (x : D) (ds : List D) (φ : PD) : Prop := match x, ds with
  | .str a, [d] => ∃ l ys, (lstOf M d = some l ∨ tupOf d = some l) ∧ strsD l = some ys ∧ (ys.map (·.length)).sum + ys.length * a.length ≤ 16777216 ∧ φ (.str (Txt.join a ys)) M
  | _, _ => False
theorem ok_join {K : PySem.W.Frag} : OkM K (fun x xs H Q => ∃ a p, ∃ ys : List Str, x = .str a ∧ xs = [.ref p] ∧ (SqL K H p (ys.map V.str) ∨ SqT K H p (ys.map V.str)) ∧ (ys.map (·.length)).sum + ys.length * a.length ≤ 16777216 ∧ Q (.str (Txt.join a ys)) H) joinD := fun M H G x v ds vs φ Q w r rs h k => by
  unfold joinD at h
  split at h
  · cases r
    cases rs with
    | cons r1 rs =>
      cases rs
      obtain ⟨l, ys, h1, h2, h3, h4⟩ := h
      rcases h1 with h1 | h1
      · obtain ⟨a, us, e0, e, r2⟩ := one_lst w (.cons r1 .nil) h1
        cases e0
        rw [strsD_rep r2 h2] at e
        exact ⟨_, a, ys, rfl, rfl, .inl e, h3, Post.id k w h4 .str⟩
      · obtain ⟨a, us, rfl, e, r2⟩ := tup_rep w r1 h1
        rw [strsD_rep r2 h2] at e
        exact ⟨_, a, ys, rfl, rfl, .inr e, h3, Post.id k w h4 .str⟩
  · exact h.elim
theorem de_join (ho : DE X B o fo) (he : DE X B e fa) (hs : starEach [e] X.env = [(false, eval e X.env)] := by rfl) (hbase : attributeBase o "join" X.env (eval o X.env) = eval o X.env := by rfl) (hline : (apos.endLine == pos.line) = true := by rfl) :
    DE X B (.Call (.Attribute o "join" apos) [e] [] pos) (fun r M Ψ => fo r M fun x M1 => isS x ∧ fa r M1 fun y M2 => joinD M2 x [y] Ψ) := de_sm1 PySem.F.slot_str_join PySem.F.type_str_join mt_join ok_join ho he hs hbase hline

def fmtD (d : D) (φ : Str → Prop) : Prop := match d with
  | .str y => y.length ≤ sizeLine ∧ φ y
  | .int i => i.natAbs.log2 < 1920 ∧ φ (toString i)
  | _ => False
theorem de_fmt (he : DE X B e fa) : DE X B (.FormattedValue e (-1) none pos) (fun r M Ψ => fa r M fun d M1 => fmtD d fun y => Ψ (.str y) M1) := PE_imp (pe_fmt he) fun σ H Q ⟨r, M, G, Ψ, R, h, k⟩ => by
  refine ⟨r, M, G, _, R, h, fun d M1 v H1 G1 q R1 s1 p1 => ?_⟩
  unfold fmtD at q
  split at q
  · cases p1; exact .inl ⟨_, rfl, q.1, k _ _ _ _ _ q.2 R1 s1 .str⟩
  · cases p1; exact .inr ⟨_, rfl, q.1, k _ _ _ _ _ q.2 R1 s1 .str⟩
  · exact q.elim
inductive DJ (X : Cx) (B : Bs) : List Expr → List DTE → Prop where
  | nil : DJ X B [] []
  | cons {e : Expr} {t : DTE} {es : List Expr} {ts : List DTE} (h : DE X B e t) (r : DJ X B es ts) : DJ X B (e :: es) (t :: ts)
theorem DJ.pj : ∀ {es : List Expr} {ts : List DTE}, DJ X B es ts → PJ X es (ts.map (lift X.K B))
  | _, _, .nil => .nil
  | _, _, .cons h r => .cons h r.pj
def jsD : List DTE → Str → En → Sto → (Str → Sto → Prop) → Prop
  | [], acc, _, M, φ => φ acc M
  | t :: ts, acc, r, M, φ => t r M fun d M1 => match d with
    | .str y => (acc ++ y).length ≤ sizeLine ∧ jsD ts (acc ++ y) r M1 φ
    | _ => False
theorem js_ok {σ : L2.St} {Q : Str → Hp → Prop} {φ : Str → Sto → Prop} {r : En} : ∀ {ts : List DTE} {acc : Str} {M : Sto} {H G : Hp}, Rel X.K B r M σ H G → jsD ts acc r M φ →
    (∀ y M' H' G', φ y M' → Rel X.K B r M' σ H' G' → Sub G G' → Q y H') → tJs (ts.map (lift X.K B)) acc σ H Q
  | [], acc, M, H, G, R, h, k => k _ _ _ _ h R Sub.rfl'
  | t :: ts, acc, M, H, G, R, h, k => ⟨r, M, G, _, R, h, fun d M1 v H1 G1 q R1 s1 p1 => by
    split at q
    · cases p1
      exact ⟨_, rfl, q.1, js_ok R1 q.2 fun y M' H' G' q R' s => k y M' H' G' q R' (s1.tr s)⟩
    · exact q.elim⟩
theorem de_joined {v1 v2 : Expr} {rest : List Expr} {ts : List DTE} (h : DJ X B (v1 :: v2 :: rest) ts) : DE X B (.JoinedStr (v1 :: v2 :: rest) pos) (fun r M Ψ => jsD ts Str.empty r M fun y M1 => Ψ (.str y) M1) := PE_imp (pe_joined h.pj) fun σ H Q ⟨r, M, G, Ψ, R, h, k⟩ =>
  js_ok R h fun y M' H' G' q R' s => k _ _ _ _ _ q R' s .str
end
end Z
namespace Z
open PySem PySem.Spec PyProof.Rows L2

section
variable {P : Program} {w : World} {K : PySem.W.Frag} {mg : Str → Option Value} {base : Heap} {x qual : Str} {st : Stmt} {f : Addr} {fd : FuncData} {N ps : List Str} {k : Nat} {dvs : List V} {kws : List (Str × V)}
abbrev FnZ (K : PySem.W.Frag) (x qual : Str) (st : Stmt) (dvs : List V) (kws : List (Str × V)) (f : Addr) (fd : FuncData) : Prop := FunD K x qual (defArgs st) (defBody st) (defScope st) dvs kws f fd
theorem fnD (F : FnZ K x qual st dvs kws f fd) (S : FnScope N ps (defScope st)) (c : Ct)
    (hb : ∀ (cdv : Value) (A : Around) (outer : List Env) (s : Shared) (H : Hp) (E : XK) (B : Bs) (Ξ : XD → Sto → Prop), Room k (A.deeper (envOfC qual (defScope st) s.heap.objs.size f cdv)) →
      Zx (cxOf (L2.CX P w) P w K mg base N qual (defScope st) f cdv A outer s H E) B (exF B.M Ξ) →
      ∃ t, DSs (cxOf (L2.CX P w) P w K mg base N qual (defScope st) f cdv A outer s H E) B (defBody st) t ∧
        ∀ (ds : List D) (Ψ : D → Sto → Prop), ds.length = ps.length → c ds B.M Ψ Ξ → t { nx := fun _ M' => rtF B.M Ψ .non M', rt := rtF B.M Ψ } (ent N.length ds) B.M) :
    FnOk P w K mg base (L2.CX P w) (k + 1) f fd ps (spC K ps.length c) := by
  refine F.ok S (fun vs H Q E h => h.1) fun cdv A outer s H vs Q E hr h => ?_
  obtain ⟨hl, ds, G, M, Ψ, Ξ, wd, r, hc, hQ, hE⟩ := h
  have tk0 : Takes (cxOf (L2.CX P w) P w K mg base N qual (defScope st) f cdv A outer s H E) (fun cls d _ H => E cls d H) := takes_of rfl rfl rfl rfl
  obtain ⟨t, ht, q⟩ := hb cdv A outer s H E ⟨H, G, M⟩ Ξ hr ⟨tk0.imp (exF_take (B := ⟨H, G, M⟩) hE), passes_of rfl⟩
  have end_ : ∀ (d : D) (r' : En) (M' : Sto) (v : V) (σ' : L2.St) (H' G' : Hp), rtF M Ψ d M' → Rel K ⟨H, G, M⟩ r' M' σ' H' G' → Rep K G' d v → Q v H' := fun d r' M' v σ' H' G' ⟨d', M'', fr, q⟩ R' p => by
    cases fr with
    | same => exact hQ _ _ _ _ _ q R'.wd R'.sin p
    | drop =>
      obtain ⟨w1, s1⟩ := frz_end R'.wd R'.sin
      exact hQ _ _ _ _ _ q w1 s1 (p.mono frzG_sub)
    | frz n =>
      obtain ⟨w1, s1⟩ := frz_end R'.wd R'.sin
      exact hQ _ _ _ _ _ q w1 s1 ((p.mono frzG_sub).sb (rep_frz R'.wd n))
  refine ⟨_, ht, ent N.length ds, M, G, _, rel_start wd r, q ds Ψ (r.length.trans hl) hc, ⟨fun r' M' σ' H' G' q' R' s' => ?_, fun d r' M' v σ' H' G' q' R' p => end_ d r' M' v σ' H' G' q' R' p, fun _ _ _ _ _ q' _ _ => q'.elim, fun _ _ _ _ _ q' _ _ => q'.elim⟩⟩
  exact end_ .non r' M' .non σ' H' G' q' R' .non
theorem fun_of (F : FnZ K x qual st [] kws f fd) : Fun K x qual st f fd := by
  obtain ⟨oc, od, dV, kV, doc, pm, an, cdv, ct, osl, rfl, lk, hcd, hD, _⟩ := F.ex
  rcases hD with ⟨_, rfl⟩ | ⟨e, _⟩
  · exact ⟨⟨oc, od, kV, doc, pm, an, cdv, ct, osl, rfl, lk, hcd⟩, F.kp⟩
  · exact absurd rfl e
theorem bind0 (F : FnZ K x qual st [] kws f fd) (n : Nat) (hn : ps.length = n)
    (h : ∀ (kV doc pm : Value) (an : Option Addr) (cdv ct : Value) (us : List Value), us.length = n → bindArgs (PySem.W.fnOf x qual (defArgs st) (defBody st) (defScope st) .none kV doc pm an cdv ct) ⟨us, []⟩ = pure (ps.zip us)) : BindD K fd ps (Z.pos n) := by
  obtain ⟨oc, od, dV, kV, doc, pm, an, cdv, ct, osl, rfl, lk, hcd, hD, _⟩ := F.ex
  rcases hD with ⟨_, rfl⟩ | ⟨e, _⟩
  · exact ⟨fun ds zs h _ => h.trans hn.symm, fun us _ => us, fun vs _ => vs, ⟨fun s us ws _ h1 h2 => .of_eq (by
      have e : ws = [] := List.length_eq_zero_iff.mp h2
      rw [e]; exact h kV doc pm an cdv ct us h1), fun r _ => r⟩, fun G ds vs zs us r _ => r⟩
  · exact absurd rfl e
theorem all_nil {α : Type} {p : α → Prop} : ∀ b ∈ ([] : List α), p b := fun _ h => by cases h
theorem all_cons {α : Type} {p : α → Prop} {a : α} {l : List α} (h : p a) (r : ∀ b ∈ l, p b) : ∀ b ∈ a :: l, p b := fun b hb => by
  rcases List.mem_cons.mp hb with e | e
  · rw [e]; exact h
  · exact r b e
end

abbrev FF := PySem.W.Frag → Bool
def gaM (x m : Str) (K : PySem.W.Frag) : Addr := He.ma K (He.ga K x) m
def recA (T : String) (p : Addr) (K : PySem.W.Frag) : Addr := match PySem.W.recIn K p T with
  | some (.ref g :: _) => g
  | _ => 0
inductive At where
  | g (x : Str)
  | mt (x m : Str)
  | pr (x m : Str)
  | sm (x m : Str)
  | cm (x m : Str)
def At.ad (K : PySem.W.Frag) : At → Addr
  | .g x => He.ga K x
  | .mt x m => gaM x m K
  | .pr x m => recA "property" (gaM x m K) K
  | .sm x m => recA "staticmethod" (gaM x m K) K
  | .cm x m => recA "classmethod" (gaM x m K) K
def fnA (K : PySem.W.Frag) (a : Addr) : He.FnW := match K.lookup a with
  | some ⟨_, _, .func fd, _⟩ => some (fd.name, fd.qualname, fd.params, fd.body, fd.scope, fd.globals, fd.closure, fd.builtins)
  | _ => none
structure DefZ where
  at_ : At
  name : Str
  qual : Str
  st : Stmt
  dfl : List He.Dv := []
  kdf : List (Str × He.Dv) := []
def DefZ.val (d : DefZ) : He.FnW := some (d.name, d.qual, defArgs d.st, .stmts (defBody d.st), defScope d.st, mainGlobals, [], builtinsNs)
def DefZ.dvs (K : PySem.W.Frag) (d : DefZ) : List V := d.dfl.map (He.Dv.v K)
def DefZ.kws (K : PySem.W.Frag) (d : DefZ) : List (Str × V) := d.kdf.map fun q => (q.1, q.2.v K)
def DefZ.ok (K : PySem.W.Frag) (d : DefZ) : Bool := PySem.W.keepIn K (.ref (d.at_.ad K)) && (match K.lookup (d.at_.ad K) with
  | some ⟨_, _, .func fd, _⟩ => PySem.W.codeIn K fd.code d.qual && (He.dflB K fd.defaults (d.dvs K) && He.kwdB K fd.kwdefaults (d.kws K))
  | _ => false)
theorem DefZ.funD {K : PySem.W.Frag} {d : DefZ} (e : fnA K (d.at_.ad K) = d.val) (c : d.ok K = true) : ∃ fd, FnZ K d.name d.qual d.st (d.dvs K) (d.kws K) (d.at_.ad K) fd := by
  obtain ⟨kp, c2⟩ := He.ba c
  unfold fnA at e
  cases q : K.lookup (d.at_.ad K) with
  | none =>
    rw [q] at c2
    cases c2
  | some o =>
    obtain ⟨oc, od, dt, osl⟩ := o
    rw [q] at c2 e
    cases dt with
    | func fd =>
      obtain ⟨n1, n2, n3, n4, n5, n6, n7, n8, n9, n10, n11, n12, n13, n14, n15⟩ := fd
      have e2 : (some (n1, n2, n3, n4, n5, n6, n7, n15) : He.FnW) = some (d.name, d.qual, defArgs d.st, .stmts (defBody d.st), defScope d.st, mainGlobals, [], builtinsNs) := e
      simp only [Option.some.injEq, Prod.mk.injEq] at e2
      obtain ⟨h1, h2, h3, h4, h5, h6, h7, h8⟩ := e2
      subst h1 h2 h3 h4 h5 h6 h7 h8
      have c3 : (PySem.W.codeIn K n13 d.qual && (He.dflB K n8 (d.dvs K) && He.kwdB K n9 (d.kws K))) = true := c2
      obtain ⟨k1, k2⟩ := He.ba c3
      obtain ⟨k2, k3⟩ := He.ba k2
      exact ⟨_, ⟨oc, od, n8, n9, n10, n11, n12, n13, n14, osl, rfl, q, k1, He.dflB_ok k2, He.kwdB_ok k3⟩, kp⟩
    | _ => cases c2
def obsZ (fa : List FF) (fn : List DefZ) (K : PySem.W.Frag) : He.AlD := ((fa.all fun f => f K) && fn.all fun d => d.ok K, fn.map fun d => fnA K (d.at_.ad K))
def valZ (fn : List DefZ) : He.AlD := (true, fn.map DefZ.val)
def SaysZ (fa : List FF) (fn : List DefZ) (K : PySem.W.Frag) : Prop := obsZ fa fn K = valZ fn
section
variable {fa : List FF} {fn : List DefZ} {K : PySem.W.Frag}
theorem SaysZ.fact (c : SaysZ fa fn K) (i : Nat) {f : FF} (h : fa[i]? = some f := by rfl) : f K = true := by
  have c1 := (He.ba (show ((fa.all fun f => f K) && fn.all fun d => d.ok K) = true from congrArg (fun z : He.AlD => z.1) c)).1
  exact List.all_eq_true.mp c1 f (List.mem_of_getElem? h)
theorem SaysZ.def_ (c : SaysZ fa fn K) (i : Nat) {d : DefZ} (h : fn[i]? = some d := by rfl) : ∃ fd, FnZ K d.name d.qual d.st (d.dvs K) (d.kws K) (d.at_.ad K) fd := by
  have c2 := (He.ba (show ((fa.all fun f => f K) && fn.all fun d => d.ok K) = true from congrArg (fun z : He.AlD => z.1) c)).2
  have e : fn.map (fun d => fnA K (d.at_.ad K)) = fn.map DefZ.val := congrArg (fun z : He.AlD => z.2) c
  have e2 : (fn.map fun d => fnA K (d.at_.ad K))[i]? = (fn.map DefZ.val)[i]? := by rw [e]
  rw [List.getElem?_map, List.getElem?_map, h] at e2
  exact DefZ.funD (Option.some.inj e2) (List.all_eq_true.mp c2 d (List.mem_of_getElem? h))
end
def isF (f : He.Fa) : FF := fun K => f.ok K
end Z
namespace Z
open PySem PySem.Spec PyProof.Rows L2
def excBx (x : Str) (bmB : List Value) (newId : String) : FF := fun K => (match K.lookup (He.ga K x) with
  | some ⟨.type t, _, .cls cd, sl⟩ => decide (t = "type") && ((match cd.mro, sl.toList with
    | .ref C :: bm, [_, _, _, _, some (.builtin n), _] => decide (C = He.ga K x) && (decide (n = newId) && (PySem.W.excTail bmB bm && (cd.hasDict && !cd.hasDel)))
    | _, _ => false))
  | _ => false) && PySem.W.excOver K (He.ga K x) bmB
theorem excBx_ok {x : Str} {K : PySem.W.Frag} {bmB : List Value} {newId : String} (c : excBx x bmB newId K = true) : PySem.W.excOver K (He.ga K x) bmB = true ∧
    ∃ nm q N bs bm sn sub ab col dd k0 k1 k2 k3 k5, K.lookup (He.ga K x) = some (excClassObj nm q (He.ga K x) N bs bm true sn sub ab col dd k0 k1 k2 k3 k5 newId) ∧ ∀ Y : String, bm.contains (.type Y) = bmB.contains (.type Y) := by
  obtain ⟨c0, c1⟩ := He.ba c
  refine ⟨c1, ?_⟩
  split at c0
  · rename_i t dd cd sl e
    obtain ⟨h1, h2⟩ := He.ba c0
    split at h2
    · rename_i C bm k0 k1 k2 k3 n k5 em es
      obtain ⟨h3, h4⟩ := He.ba h2
      obtain ⟨h5, h6⟩ := He.ba h4
      obtain ⟨h7, h8⟩ := He.ba h6
      obtain ⟨h9, h10⟩ := He.ba h8
      obtain ⟨nm, bs, mro, N, q, hd, sn, sub, ab, col, del⟩ := cd
      have e1 := of_decide_eq_true h1
      have e3 := of_decide_eq_true h3
      have e5 := of_decide_eq_true h5
      obtain ⟨sl⟩ := sl
      simp only at em es h9 h10
      subst em es e1 e5 h9
      have e10 : del = false := by cases del <;> simp_all
      subst e10
      refine ⟨nm, q, N, bs, bm, sn, sub, ab, col, dd, k0, k1, k2, k3, k5, ?_, fun Y => PySem.W.excTail_contains Y _ h7⟩
      rw [e, e3]
    · cases h2
  · cases c0
def veT : List Value := [.type "ValueError", .type "Exception", .type "BaseException", .type "object"]
def leT : List Value := [.type "LookupError", .type "Exception", .type "BaseException", .type "object"]
def ieT : List Value := [.type "IndexError", .type "LookupError", .type "Exception", .type "BaseException", .type "object"]
def excF (x : Str) : FF := fun K => (excBx x veT "ValueError.__new__" K || (excBx x leT "LookupError.__new__" K || excBx x ieT "IndexError.__new__" K)) && (He.eqO (PySem.W.findIn K (.ref (He.ga K x)) "__setattr__") (some (some (.builtin "object.__setattr__"))) && (decide (PySem.W.subIn K (.ref (He.ga K x)) (.type "BaseException") = some true) &&
    (decide (PySem.W.typeIn K (.ref (He.ga K x)) = some (.type "type")) && PySem.W.keepIn K (.ref (He.ga K x)))))
theorem excF_ok {x : Str} {K : PySem.W.Frag} (c : excF x K = true) : OexG K (He.ga K x) := by
  obtain ⟨c0, c⟩ := He.ba c
  obtain ⟨c1, c⟩ := He.ba c
  obtain ⟨c2, c⟩ := He.ba c
  obtain ⟨c3, c4⟩ := He.ba c
  refine ⟨?_, He.eqO_ok c1, of_decide_eq_true c2, of_decide_eq_true c3, c4⟩
  rcases Bool.or_eq_true_iff.mp c0 with h | h
  · obtain ⟨a, b⟩ := excBx_ok h
    exact ⟨_, _, _, _, PySem.F.excBase_ValueError, PySem.F.store_ValueError, a, b⟩
  rcases Bool.or_eq_true_iff.mp h with h | h
  · obtain ⟨a, b⟩ := excBx_ok h
    exact ⟨_, _, _, _, PySem.F.excBase_LookupError, PySem.F.store_LookupError, a, b⟩
  · obtain ⟨a, b⟩ := excBx_ok h
    exact ⟨_, _, _, _, PySem.F.excBase_IndexError, PySem.F.store_IndexError, a, b⟩
theorem methF_ok {x m : Str} {K : PySem.W.Frag} (c : isF (.meth x m) K = true) : Meth K (He.ga K x) m ((At.mt x m).ad K) := He.meth_ok c
theorem mkrF_ok {x : Str} {K : PySem.W.Frag} (c : isF (.mkr x) K = true) : Mk K (He.ga K x) ((At.mt x "__init__").ad K) := He.mkr_ok c
def tupF (x : Str) (vs : List He.Dv) : FF := fun K => (He.Fa.glo x).ok K && He.tupB K x vs
inductive Fl : D → He.Dv → Prop
  | non : Fl .non .non
  | bl {b} : Fl (.bl b) (.bl b)
  | int {i} : Fl (.int i) (.int i)
  | str {x} : Fl (.str x) (.str x)
theorem Fl.rep {K : PySem.W.Frag} {G : Hp} {d : D} {v : He.Dv} (h : Fl d v) : Rep K G d (v.v K) := by
  cases h with
  | non => exact .non
  | bl => exact .bl
  | int => exact .int
  | str => exact .str
inductive FlL : List D → List He.Dv → Prop
  | nil : FlL [] []
  | cons {d v ds vs} : Fl d v → FlL ds vs → FlL (d :: ds) (v :: vs)
theorem FlL.rep {K : PySem.W.Frag} {G : Hp} : ∀ {ds : List D} {vs : List He.Dv}, FlL ds vs → RepL K G ds (vs.map (He.Dv.v K))
  | _, _, .nil => .nil
  | _, _, .cons h r => .cons h.rep r.rep
section
variable {K : PySem.W.Frag} {h : Heap} {mg : Str → Option Value}
structure TupG (K : PySem.W.Frag) (mg : Str → Option Value) (x : Str) (ds : List D) : Prop where
  ex : ∃ a, mg x = some (.ref a) ∧ ∀ G, Rep K G (.tup ds) (.ref a)
theorem tupF_ok (X : K.In h) (G : h.Ns mainGlobals mg) {x : Str} {vs : List He.Dv} {ds : List D} (c : tupF x vs K = true) (f : FlL ds vs) : TupG K mg x ds :=
  ⟨_, He.glo_ok X G (He.ba c).1, fun H => .tup (He.tupB_ok (He.ba c).2 H) f.rep⟩
end
section
variable {X : Cx} {B : Bs} {pos : Pos}
theorem de_gtup {x : Str} {ds : List D} (T : TupG X.K X.mg x ds) (hg : Gl X x := by rfl) (hd : (x == ("__debug__" : Str)) = false := by decide) : DE X B (.Name x pos) (fun _ M Ψ => Ψ (.tup ds) M) := by
  obtain ⟨a, h1, h2⟩ := T.ex
  exact de_glob h1 (v := .ref a) rfl h2 hg hd
theorem de_gstr {x z : Str} (h : ∃ t, X.mg x = some (.str z t)) (hg : Gl X x := by rfl) (hd : (x == ("__debug__" : Str)) = false := by decide) : DE X B (.Name x pos) (fun _ M Ψ => Ψ (.str z) M) := by
  obtain ⟨t, h⟩ := h
  exact de_glob h (v := .str z) ⟨t, rfl⟩ (fun _ => .str) hg hd
theorem de_gint {x : Str} {i : Int} (h : ∃ t, X.mg x = some (.int i t)) (hg : Gl X x := by rfl) (hd : (x == ("__debug__" : Str)) = false := by decide) : DE X B (.Name x pos) (fun _ M Ψ => Ψ (.int i) M) := by
  obtain ⟨t, h⟩ := h
  exact de_glob h (v := .int i) ⟨t, rfl⟩ (fun _ => .int) hg hd
end
def scr (ns : List Int) : D := .lk (ns.map .int)
theorem repL_scr {K : PySem.W.Frag} {G : Hp} : ∀ ns : List Int, RepL K G (ns.map D.int) (ns.map V.int)
  | [] => .nil
  | _ :: r => .cons .int (repL_scr r)
end Z
namespace Z
open PySem PySem.Spec PyProof.Rows L2
theorem bt_all : bootBuiltins "all" = some (.builtin "all") := by decide +kernel
theorem bt_int : bootBuiltins "int" = some (.type "int") := by decide +kernel
theorem bt_list : bootBuiltins "list" = some (.type "list") := by decide +kernel
theorem bt_max : bootBuiltins "max" = some (.builtin "max") := by decide +kernel
theorem bt_str : bootBuiltins "str" = some (.type "str") := by decide +kernel
theorem bt_tuple : bootBuiltins "tuple" = some (.type "tuple") := by decide +kernel
section
variable {X : Cx} {B : Bs} {pos p : Pos} {a b : Expr} {ga : DTA}
theorem de_int1 (hm : X.mg "int" = none) (ha : DA X B [a] ga) (hg : Gl X "int" := by rfl) (he : starEach [a] X.env = (false, eval a X.env) :: starEach [] X.env := by rfl) : DE X B (.Call (.Name "int" p) [a] [] pos) (fun r M Ψ => ga r M fun ds M1 => intD M1 ds Ψ) :=
  de_callT call_int1 ok_int1 hm bt_int ha hg (by decide) (by decide) he rfl
theorem de_str1 (hm : X.mg "str" = none) (ha : DA X B [a] ga) (hg : Gl X "str" := by rfl) (he : starEach [a] X.env = (false, eval a X.env) :: starEach [] X.env := by rfl) : DE X B (.Call (.Name "str" p) [a] [] pos) (fun r M Ψ => ga r M fun ds M1 => strD M1 ds Ψ) :=
  de_callT call_str_int ok_str1 hm bt_str ha hg (by decide) (by decide) he rfl
theorem de_all1 (hc : X.calm = true) (hm : X.mg "all" = none) (ha : DA X B [a] ga) (hg : Gl X "all" := by rfl) (he : starEach [a] X.env = (false, eval a X.env) :: starEach [] X.env := by rfl) : DE X B (.Call (.Name "all" p) [a] [] pos) (fun r M Ψ => ga r M fun ds M1 => allD M1 ds Ψ) :=
  de_callB (cr_all hc) ok_all hm bt_all ha hg (by decide) (by decide) he rfl
theorem de_list1 (hm : X.mg "list" = none) (ha : DA X B [a] ga) (hg : Gl X "list" := by rfl) (he : starEach [a] X.env = (false, eval a X.env) :: starEach [] X.env := by rfl) : DE X B (.Call (.Name "list" p) [a] [] pos) (fun r M Ψ => ga r M fun ds M1 => listD M1 ds Ψ) :=
  de_callT call_list_of ok_list1 hm bt_list ha hg (by decide) (by decide) he rfl
theorem de_tuple1 (hm : X.mg "tuple" = none) (ha : DA X B [a] ga) (hg : Gl X "tuple" := by rfl) (he : starEach [a] X.env = (false, eval a X.env) :: starEach [] X.env := by rfl) : DE X B (.Call (.Name "tuple" p) [a] [] pos) (fun r M Ψ => ga r M fun ds M1 => tupleD M1 ds Ψ) :=
  de_callT call_tuple_of ok_tuple1 hm bt_tuple ha hg (by decide) (by decide) he rfl
end
theorem zx_blk {X : Cx} {B : Bs} {s : Shared} {H : Hp} {scope : Scope} {ce : Env} {fp : List Addr} : Zx (X.blk s H scope ce fp) B (fun _ _ _ => False) := ⟨takes0.imp fun _ _ _ _ ⟨_, _, _, _, z, _⟩ => z.elim, PassesOwn.never⟩
theorem getS_at {r : En} {i : Nat} {k : D → Prop} {d : D} (h : r[i]? = some (some d)) (q : k d) : getS r i k := by
  unfold getS
  rw [h]
  exact q
end Z
namespace Z
open PySem PySem.Spec PyProof.Rows L2
section
variable {X : Cx} {B : Bs} {pos p : Pos} {a b : Expr} {ga : DTA} {C : Addr}
end
section
variable {P : Program} {w : World} {K : PySem.W.Frag} {mg : Str → Option Value} {base : Heap} {h : Heap} {x m : Str} {k : Nat} {c : Ct} {ps : List Str} {fd : FuncData} {bs : List (Nat × List Str × (List D → List D → List D))} {qual nm : Str} {st : Stmt} {dvs : List V} {kws : List (Str × V)}
theorem gf_mk (hg : mg x = some (.ref ((At.g x).ad K))) (F : FnZ K nm qual st dvs kws ((At.g x).ad K) fd) (ok : FnOk P w K mg base (L2.CX P w) k ((At.g x).ad K) fd ps (spC K ps.length c)) (hb : ∀ b ∈ bs, BindD K fd ps b) : Gf P w K mg base x k c bs := ⟨_, fd, ps, hg, F.kp, ok, hb⟩
theorem mf_mk (hm : Meth K (He.ga K x) m ((At.mt x m).ad K)) (ok : FnOk P w K mg base (L2.CX P w) k ((At.mt x m).ad K) fd ps (spC K ps.length c)) (hb : ∀ b ∈ bs, BindD K fd ps b) : Mf P w K mg base (He.ga K x) m k c bs := ⟨_, fd, ps, hm, ok, hb⟩
theorem cf_mk (hg : mg x = some (.ref (He.ga K x))) (hm : Mk K (He.ga K x) ((At.mt x "__init__").ad K)) (ok : FnOk P w K mg base (L2.CX P w) k ((At.mt x "__init__").ad K) fd ps (spC K ps.length c)) (hb : ∀ b ∈ bs, BindD K fd ps b) : Cf P w K mg base x (He.ga K x) k c bs := ⟨hg, _, fd, ps, hm, ok, hb⟩
end
end Z
namespace Z
open PySem PySem.Spec PyProof.Rows L2
section
variable {X : Cx} {B : Bs} {Ξ : XD → En → Sto → Prop} {k j n : Nat} {c : Ct} {pos : Pos} {a b : Expr} {fa fb : DTE} {C : Addr} {bs : List (Nat × List Str × (List D → List D → List D))}
end
section
variable {vs : List Nat} {as : D → En → (En → Prop) → Prop} {tt : DTT} {fe : DTE} {r : En} {M : Sto} {Φ : List D → Sto → Prop} {xs : List D} {S : Sto → Prop}
abbrev CompB (vs : List Nat) (as : D → En → (En → Prop) → Prop) (tt : DTT) (fe : DTE) (r : En) (M : Sto) (xs : List D) (S : Sto → Prop) (Φ : List D → Sto → Prop) : Prop := ∃ Iv : Nat → List D → Sto → Prop, Iv 0 [] M ∧ (∀ i acc M, Iv i acc M → S M) ∧
  (∀ i d acc M, xs[i]? = some d → Iv i acc M → as d (wipeD r vs) fun r2 => tt r2 M fun b M3 => if b = true then fe r2 M3 fun y M4 => acc.length < sizeLine ∧ Iv (i + 1) (acc ++ [y]) M4 else Iv (i + 1) acc M3) ∧ ∀ acc M, Iv xs.length acc M → Φ acc M
theorem comp_fm (keep : D → Bool) (g : D → D) (hS : S M) (hl : xs.length ≤ sizeLine) (he : ∀ d ∈ xs, ∀ (Q : D → Sto → Prop) (R : Sto → Prop), (if keep d = true then Q (g d) M else R M) → as d (wipeD r vs) fun r2 => tt r2 M fun b M3 => if b = true then fe r2 M3 Q else R M3)
    (fin : Φ ((xs.filter keep).map g) M) : CompB vs as tt fe r M xs S Φ := by
  refine ⟨fun i acc M' => M' = M ∧ acc = ((xs.take i).filter keep).map g, ⟨rfl, rfl⟩, fun i acc M' h => h.1 ▸ hS, fun i d acc M' hd h => ?_, fun acc M' h => ?_⟩
  · obtain ⟨rfl, rfl⟩ := h
    have hi : i < xs.length := (List.getElem?_eq_some_iff.mp hd).1
    have ed : xs[i] = d := (List.getElem?_eq_some_iff.mp hd).2
    have et : xs.take (i + 1) = xs.take i ++ [d] := by rw [List.take_succ, hd]; rfl
    refine he d (ed ▸ List.getElem_mem hi) _ _ ?_
    cases q : keep d with
    | true =>
      rw [if_pos rfl]
      refine ⟨?_, rfl, ?_⟩
      · rw [List.length_map]
        have := List.length_filter_le keep (xs.take i)
        rw [List.length_take] at this
        omega
      · rw [et, List.filter_append, List.map_append, List.filter_cons, if_pos q]; rfl
    | false =>
      rw [if_neg (by simp)]
      refine ⟨rfl, ?_⟩
      rw [et, List.filter_append, List.map_append, List.filter_cons, if_neg (by rw [q]; simp)]
      simp
  · obtain ⟨rfl, rfl⟩ := h
    rw [List.take_length]
    exact fin
theorem comp_map (g : D → D) (hS : S M) (hl : xs.length ≤ sizeLine) (he : ∀ d ∈ xs, ∀ (Q : D → Sto → Prop), Q (g d) M → as d (wipeD r vs) fun r2 => fe r2 M Q) (fin : Φ (xs.map g) M) : CompB vs as (fun _ M Ψ => Ψ true M) fe r M xs S Φ := by
  refine comp_fm (fun _ => true) g hS hl (fun d hd Q R q => ?_) ?_
  · rw [if_pos rfl] at q
    have h := he d hd Q q
    have e : (fun r2 => fe r2 M Q) = (fun r2 => (fun _ M Ψ => Ψ true M : DTT) r2 M fun b M3 => if b = true then fe r2 M3 Q else R M3) := by
      funext r2
      show _ = (if true = true then fe r2 M Q else R M)
      rw [if_pos rfl]
    rw [e] at h
    exact h
  · rw [List.filter_eq_self.mpr (fun _ _ => rfl)]; exact fin
theorem comp_st (I : Sto → Prop) (Pg : D → D → Prop) (h0 : I M) (hS : ∀ M', I M' → S M') (hl : xs.length ≤ sizeLine) (he : ∀ d ∈ xs, ∀ M', I M' → ∀ (Q : D → Sto → Prop), (∀ y M4, I M4 → Pg d y → Q y M4) → as d (wipeD r vs) fun r2 => fe r2 M' Q)
    (fin : ∀ acc M', I M' → acc.length = xs.length → (∀ (i : Nat) d y, xs[i]? = some d → acc[i]? = some y → Pg d y) → Φ acc M') : CompB vs as (fun _ M Ψ => Ψ true M) fe r M xs S Φ := by
  refine ⟨fun i acc M' => I M' ∧ acc.length = i ∧ ∀ (j : Nat) d y, xs[j]? = some d → acc[j]? = some y → Pg d y, ⟨h0, rfl, fun j d y _ h => by simp at h⟩, fun i acc M' h => hS _ h.1, fun i d acc M' hd h => ?_, fun acc M' h => fin acc M' h.1 h.2.1 h.2.2⟩
  obtain ⟨h1, h2, h3⟩ := h
  have hi : i < xs.length := (List.getElem?_eq_some_iff.mp hd).1
  have ed : xs[i] = d := (List.getElem?_eq_some_iff.mp hd).2
  have h := he d (ed ▸ List.getElem_mem hi) M' h1 (fun y M4 => acc.length < sizeLine ∧ I M4 ∧ (acc ++ [y]).length = i + 1 ∧ ∀ (j : Nat) d y', xs[j]? = some d → (acc ++ [y])[j]? = some y' → Pg d y') (fun y M4 a b => ⟨by omega, a, by rw [List.length_append, h2]; rfl, fun j d' y' e1 e2 => by
    rcases Nat.lt_or_ge j acc.length with hj | hj
    · rw [List.getElem?_append_left hj] at e2; exact h3 j d' y' e1 e2
    · rw [List.getElem?_append_right hj] at e2
      have hj2 : j = i := by
        have := (List.getElem?_eq_some_iff.mp e2).1
        simp at this; omega
      subst hj2
      rw [h2, Nat.sub_self] at e2
      cases e2
      rw [hd] at e1; cases e1
      exact b⟩)
  have e : (fun r2 => fe r2 M' (fun y M4 => acc.length < sizeLine ∧ I M4 ∧ (acc ++ [y]).length = i + 1 ∧ ∀ (j : Nat) d y', xs[j]? = some d → (acc ++ [y])[j]? = some y' → Pg d y')) = (fun r2 => (fun _ M Ψ => Ψ true M : DTT) r2 M' fun b M3 => if b = true then fe r2 M3 (fun y M4 => acc.length < sizeLine ∧ I M4 ∧ (acc ++ [y]).length = i + 1 ∧ ∀ (j : Nat) d y', xs[j]? = some d → (acc ++ [y])[j]? = some y' → Pg d y') else (I M3 ∧ acc.length = i + 1 ∧ ∀ (j : Nat) d y, xs[j]? = some d → acc[j]? = some y → Pg d y)) := by
    funext r2
    show _ = (if true = true then _ else _)
    rw [if_pos rfl]
  rw [e] at h
  exact h
end
theorem for_n {M0 : Sto} {xs : List D} {S : Sto → Prop} {r : En} {M : Sto} {g : DTG} {f : DTS} {E : Ek} (Iv : Nat → En → Sto → Prop) (h0 : Iv 0 r M) (hS : ∀ i r M, Iv i r M → S M)
    (turn : ∀ i d r M, xs[i]? = some d → Iv i r M → g d r M fun r' M' => f { E with nx := Cl M0 (Iv (i + 1)), ct := Cl M0 (Iv (i + 1)), bk := E.nx } r' M') (fin : ∀ r M, Iv xs.length r M → E.nx r M) :
    ∃ Iv : Nat → En → Sto → Prop, Cl M0 (Iv 0) r M ∧ (∀ i r M, Iv i r M → S M) ∧ (∀ i d r M, xs[i]? = some d → Iv i r M → g d r M fun r' M' => f { E with nx := Cl M0 (Iv (i + 1)), ct := Cl M0 (Iv (i + 1)), bk := E.nx } r' M') ∧ ∀ r M, Iv xs.length r M → E.nx r M := ⟨Iv, .of h0, hS, turn, fin⟩
section
variable {vs : List Nat} {wi : DTI} {as : D → En → (En → Prop) → Prop} {tt : DTT} {fe : DTE} {r : En} {M : Sto} {Φ : List D → Sto → Prop}
theorem compD_of (Pw : List D → (Sto → Prop) → Sto → Prop) (hw : ∀ K : List D → (Sto → Prop) → Sto → Prop, (∀ xs S M1, Pw xs S M1 → K xs S M1) → wi r M K) (h : ∀ xs S M1, Pw xs S M1 → CompB vs as tt fe r M1 xs S Φ) : compD vs wi as tt fe r M Φ := by unfold compD; exact hw _ h
theorem compD_map {xs : List D} {S : Sto → Prop} (hw : ∀ K : List D → (Sto → Prop) → Sto → Prop, K xs S M → wi r M K) (g : D → D) (hS : S M) (hl : xs.length ≤ sizeLine) (he : ∀ d ∈ xs, ∀ (Q : D → Sto → Prop), Q (g d) M → as d (wipeD r vs) fun r2 => fe r2 M Q) (fin : Φ (xs.map g) M) :
    compD vs wi as (fun _ M Ψ => Ψ true M) fe r M Φ := by unfold compD; exact hw _ (comp_map g hS hl he fin)
theorem compD_fm {xs : List D} {S : Sto → Prop} (hw : ∀ K : List D → (Sto → Prop) → Sto → Prop, K xs S M → wi r M K) (keep : D → Bool) (g : D → D) (hS : S M) (hl : xs.length ≤ sizeLine)
    (he : ∀ d ∈ xs, ∀ (Q : D → Sto → Prop) (R : Sto → Prop), (if keep d = true then Q (g d) M else R M) → as d (wipeD r vs) fun r2 => tt r2 M fun b M3 => if b = true then fe r2 M3 Q else R M3)
    (fin : Φ ((xs.filter keep).map g) M) : compD vs wi as tt fe r M Φ := by unfold compD; exact hw _ (comp_fm keep g hS hl he fin)
end
section
variable {M0 : Sto} {wi : DTI} {g : DTG} {f : DTS} {E : Ek} {r : En} {M : Sto}
abbrev ForB (M0 : Sto) (g : DTG) (f : DTS) (E : Ek) (r : En) (M : Sto) (xs : List D) (S : Sto → Prop) : Prop := ∃ Iv : Nat → En → Sto → Prop, Cl M0 (Iv 0) r M ∧ (∀ i r M, Iv i r M → S M) ∧
  (∀ i d r M, xs[i]? = some d → Iv i r M → g d r M fun r' M' => f { E with nx := Cl M0 (Iv (i + 1)), ct := Cl M0 (Iv (i + 1)), bk := E.nx } r' M') ∧ ∀ r M, Iv xs.length r M → E.nx r M
theorem forD_of (Pw : List D → (Sto → Prop) → Sto → Prop) (hw : ∀ K : List D → (Sto → Prop) → Sto → Prop, (∀ xs S M1, Pw xs S M1 → K xs S M1) → wi r M K) (h : ∀ xs S M1, Pw xs S M1 → ForB M0 g f E r M1 xs S) : forD M0 wi g f E r M := by unfold forD; exact hw _ h
theorem forD_n {xs : List D} {S : Sto → Prop} (hw : ∀ K : List D → (Sto → Prop) → Sto → Prop, K xs S M → wi r M K) (Iv : Nat → En → Sto → Prop) (h0 : Iv 0 r M) (hS : ∀ i r M, Iv i r M → S M)
    (turn : ∀ i d r M, xs[i]? = some d → Iv i r M → g d r M fun r' M' => f { E with nx := Cl M0 (Iv (i + 1)), ct := Cl M0 (Iv (i + 1)), bk := E.nx } r' M') (fin : ∀ r M, Iv xs.length r M → E.nx r M) : forD M0 wi g f E r M := by unfold forD; exact hw _ (for_n Iv h0 hS turn fin)
end
structure Hand where
  cs : List Int
  i : Int
  r : Int
  m : Int
def hd (h : Hand) : Cell := .lst [.lst (h.cs.map .int), .int h.i, .int h.r, .int h.m]
def HandAt (M : Sto) (p : Addr) : Prop := ∃ h, M p = some (hd h) ∧ h.cs.length ≤ 63 ∧ 0 ≤ h.i
def Dr (p : Addr) (M M' : Sto) : Prop := HandAt M' p ∧ ∀ q, q ≠ p → M' q = M q
theorem Dr.refl {p : Addr} {M : Sto} (h : HandAt M p) : Dr p M M := ⟨h, fun _ _ => rfl⟩
theorem Dr.trans {p : Addr} {M M1 M2 : Sto} (a : Dr p M M1) (b : Dr p M1 M2) : Dr p M M2 := ⟨b.1, fun q h => (b.2 q h).trans (a.2 q h)⟩
end Z
namespace Z
open PySem PySem.Spec PyProof.Rows L2
theorem big_ok : (1000000 : Nat) ≤ sizeLine := by decide
theorem ite_t {c : Bool} {p q : Prop} (h : c = true) (x : p) : if c = true then p else q := by rw [if_pos h]; exact x
theorem ite_f {c : Bool} {p q : Prop} (h : c = false) (x : q) : if c = true then p else q := by rw [if_neg (by rw [h]; simp)]; exact x
theorem bl_t {f : Bool → Prop} {c : Bool} (h : c = true) (x : f true) : blD f (.bl c) := by rw [h]; unfold blD; exact x
theorem bl_f {f : Bool → Prop} {c : Bool} (h : c = false) (x : f false) : blD f (.bl c) := by rw [h]; unfold blD; exact x
theorem bl_c {f : Bool → Prop} {c : Bool} (h1 : c = true → f true) (h2 : c = false → f false) : blD f (.bl c) := by
  unfold blD
  cases c with
  | true => exact h1 rfl
  | false => exact h2 rfl
theorem ln {l : List D} {n : Nat} (h : l.length = n) (hn : n ≤ 1000000) : l.length ≤ sizeLine := h ▸ Nat.le_trans hn big_ok
theorem eqI {M : Sto} {i j : Int} {φ : D → Prop} (h : φ (.bl (decide (i = j)))) : eqD M (.int i) (.int j) φ := by unfold eqD; exact h
theorem ix_ref {M : Sto} {p : Addr} {i : Int} {l : List D} {φ : D → Prop} (e : M p = some (.lst l)) (h : optK (L2.atI l i) φ) : ixD M (.ref p) (.int i) φ := by
  unfold ixD
  simp only [lstOf, e]
  exact h
theorem set_ref {M : Sto} {p : Addr} {i : Int} {l : List D} {v : D} {j : Nat} {φ : Sto → Prop} (e : M p = some (.lst l)) (hj : L2.ixN l.length i = some j) (h : φ (updM M p (.lst (l.set j v)))) : setD (.ref p) i v M φ := by
  unfold setD
  simp only [e, hj, optK]
  exact h
theorem look_ne {f g : Str} {d : D} (h : (f == g) = false) : List.lookup f [(g, d)] = none := by
  rw [List.lookup_cons, h]; rfl
theorem lmem {α : Type} {xs : List α} {i : Nat} {d : α} (h : xs[i]? = some d) : d ∈ xs := by
  obtain ⟨h1, h2⟩ := List.getElem?_eq_some_iff.mp h
  exact h2 ▸ List.getElem_mem h1
theorem ty_int {M : Sto} {d : D} (h : tyN M d = some "int") : ∃ i, d = .int i := by
  unfold tyN at h
  split at h <;> first | exact ⟨_, rfl⟩ | (exfalso; revert h; decide) | (split at h <;> (exfalso; revert h; decide)) | cases h
theorem ty_str {M : Sto} {d : D} (h : tyN M d = some "str") : ∃ x, d = .str x := by
  unfold tyN at h
  split at h <;> first | exact ⟨_, rfl⟩ | (exfalso; revert h; decide) | (split at h <;> (exfalso; revert h; decide)) | cases h
theorem signs_mem {x : Str} {d : D} (h : d ∈ signs x) : ∃ c ∈ x.cps.toList, d = .str ⟨#[c]⟩ := by
  obtain ⟨c, hc, e⟩ := List.mem_map.mp h
  exact ⟨c, hc, e.symm⟩
theorem signs_get {x : Str} {i : Nat} {d : D} (h : (signs x)[i]? = some d) : ∃ c, x.cps.toList[i]? = some c ∧ d = .str ⟨#[c]⟩ := by
  unfold signs at h
  rw [List.getElem?_map] at h
  obtain ⟨c, hc, e⟩ := Option.map_eq_some_iff.mp h
  exact ⟨c, hc, e.symm⟩
theorem signs_len {x : Str} : (signs x).length = x.cps.size := by unfold signs; rw [List.length_map, Array.length_toList]
theorem mok_s {i j : Int} (h : j.natAbs < 2 ^ 40) : IntMulOk i j := IntMulOk.of_right (by
  have := PyProof.Rows.intBits_le h
  omega)
theorem mok_l {i j : Int} (h : i.natAbs < 2 ^ 40) : IntMulOk i j := IntMulOk.of_left (by
  have := PyProof.Rows.intBits_le h
  omega)
theorem rng_at {lo : Int} {n i : Nat} {d : D} (h : (rngD lo n)[i]? = some d) : i < n ∧ d = .int (lo + i) := by
  have hi : i < n := by
    have := (List.getElem?_eq_some_iff.mp h).1
    rw [rng_len] at this; exact this
  rw [rng_get hi] at h
  cases h
  exact ⟨hi, rfl⟩
theorem rng_mem {lo : Int} {n : Nat} {d : D} (h : d ∈ rngD lo n) : ∃ k : Nat, k < n ∧ d = .int (lo + k) := by
  obtain ⟨k, hk, e⟩ := List.mem_map.mp h
  exact ⟨k, List.mem_range.mp hk, e.symm⟩
abbrev T4 := Int × Int × Int × Int
def tL (t : T4) : List D := [.int t.1, .int t.2.1, .int t.2.2.1, .int t.2.2.2]
def tD (t : T4) : D := .tup (tL t)
def mul4 (s t : T4) : T4 := (s.1 * t.1 + s.2.1 * t.2.2.1, s.1 * t.2.1 + s.2.1 * t.2.2.2, s.2.2.1 * t.1 + s.2.2.2 * t.2.2.1, s.2.2.1 * t.2.1 + s.2.2.2 * t.2.2.2)
def det4 (t : T4) : Int := t.1 * t.2.2.2 - t.2.1 * t.2.2.1
def O4 : T4 := (1, 0, 0, 1)
def L4 : T4 := (1, 0, 1, 1)
def R4 : T4 := (1, 1, 0, 1)
theorem det_mul (s t : T4) : det4 (mul4 s t) = det4 s * det4 t := by unfold det4 mul4; simp only; grind
theorem mul_assoc4 (r s t : T4) : mul4 (mul4 r s) t = mul4 r (mul4 s t) := by
  unfold mul4
  simp only [Prod.mk.injEq]
  refine ⟨?_, ?_, ?_, ?_⟩ <;> grind
theorem one_mul4 (t : T4) : mul4 O4 t = t := by
  obtain ⟨a, b, c, d⟩ := t
  unfold mul4 O4
  simp
theorem mul_one4 (t : T4) : mul4 t O4 = t := by
  obtain ⟨a, b, c, d⟩ := t
  unfold mul4 O4
  simp
def Sm (n : Nat) (t : T4) : Prop := t.1.natAbs < 2 ^ n ∧ t.2.1.natAbs < 2 ^ n ∧ t.2.2.1.natAbs < 2 ^ n ∧ t.2.2.2.natAbs < 2 ^ n
theorem sm_add {i j : Int} {n : Nat} (h : i.natAbs < 2 ^ n) (h' : j.natAbs < 2 ^ n) : (i + j).natAbs < 2 ^ (n + 1) := by
  rw [Nat.pow_succ]; omega
theorem sm_mono {i : Int} {n m : Nat} (h : i.natAbs < 2 ^ n) (hm : n ≤ m) : i.natAbs < 2 ^ m := Nat.lt_of_lt_of_le h (Nat.pow_le_pow_right (by decide) hm)
theorem Sm.mono {n m : Nat} {t : T4} (h : Sm n t) (hm : n ≤ m) : Sm m t := ⟨sm_mono h.1 hm, sm_mono h.2.1 hm, sm_mono h.2.2.1 hm, sm_mono h.2.2.2 hm⟩
theorem Sm.mul {n m : Nat} {s t : T4} (h : Sm n s) (h' : Sm m t) : Sm (n + m + 1) (mul4 s t) := by
  obtain ⟨a1, a2, a3, a4⟩ := h
  obtain ⟨b1, b2, b3, b4⟩ := h'
  exact ⟨sm_add (wide_lt a1 b1) (wide_lt a2 b3), sm_add (wide_lt a1 b2) (wide_lt a2 b4), sm_add (wide_lt a3 b1) (wide_lt a4 b3), sm_add (wide_lt a3 b2) (wide_lt a4 b4)⟩
theorem sm_O : Sm 1 O4 := by unfold Sm O4; decide
theorem sm_L : Sm 1 L4 := by unfold Sm L4; decide
theorem sm_R : Sm 1 R4 := by unfold Sm R4; decide
def turnT (c : Nat) : T4 := if (⟨#[c]⟩ : Str) = ("R" : Str) then R4 else L4
theorem sm_turn (c : Nat) : Sm 1 (turnT c) := by unfold turnT; split; exact sm_R; exact sm_L
theorem det_turn (c : Nat) : det4 (turnT c) = 1 := by unfold turnT; split <;> decide
def wL (l : List Nat) : T4 := l.foldl (fun t c => mul4 t (turnT c)) O4
theorem wL_snoc (l : List Nat) (c : Nat) : wL (l ++ [c]) = mul4 (wL l) (turnT c) := by unfold wL; rw [List.foldl_append]; rfl
theorem wL_take {l : List Nat} {i : Nat} {c : Nat} (h : l[i]? = some c) : wL (l.take (i + 1)) = mul4 (wL (l.take i)) (turnT c) := by
  rw [List.take_succ, h]; exact wL_snoc _ _
theorem wL_from (l : List Nat) : ∀ t, l.foldl (fun t c => mul4 t (turnT c)) t = mul4 t (wL l) := by
  unfold wL
  induction l with
  | nil => intro t; exact (mul_one4 t).symm
  | cons c l ih =>
    intro t
    rw [List.foldl_cons, List.foldl_cons, ih, ih (mul4 O4 (turnT c)), one_mul4, mul_assoc4]
theorem wL_app (l l' : List Nat) : wL (l ++ l') = mul4 (wL l) (wL l') := by
  conv => lhs; unfold wL
  rw [List.foldl_append, wL_from]; rfl
theorem sm_fold (l : List Nat) : ∀ (t : T4) (n : Nat), Sm n t → Sm (n + 2 * l.length) (l.foldl (fun t c => mul4 t (turnT c)) t) := by
  induction l with
  | nil => intro t n h; exact h
  | cons c l ih =>
    intro t n h
    rw [List.foldl_cons]
    exact (ih _ _ (h.mul (sm_turn c))).mono (by rw [List.length_cons]; omega)
theorem sm_wL (l : List Nat) : Sm (2 * l.length + 1) (wL l) := (sm_fold l O4 1 sm_O).mono (by omega)
theorem det_fold (l : List Nat) : ∀ t : T4, det4 (l.foldl (fun t c => mul4 t (turnT c)) t) = det4 t := by
  induction l with
  | nil => intro t; rfl
  | cons c l ih => intro t; rw [List.foldl_cons, ih, det_mul, det_turn, Int.mul_one]
theorem det_wL (l : List Nat) : det4 (wL l) = 1 := (det_fold l O4).trans (by decide)
theorem eqS {M : Sto} {i j : Str} {φ : D → Prop} (h : φ (.bl (decide (i = j)))) : eqD M (.str i) (.str j) φ := by unfold eqD; exact h
theorem neS {M : Sto} {i j : Str} {φ : D → Prop} (h : φ (.bl (!decide (i = j)))) : neD M (.str i) (.str j) φ := by unfold neD; exact h
theorem neI {M : Sto} {i j : Int} {φ : D → Prop} (h : φ (.bl (!decide (i = j)))) : neD M (.int i) (.int j) φ := by unfold neD; exact h
end Z
namespace Z
open PySem PySem.Spec PyProof.Rows L2
theorem fm0 {x m : Int} (h : 0 < m) : 0 ≤ x.fmod m := by
  rw [Int.fmod_eq_emod_of_nonneg x (Int.le_of_lt h)]
  exact Int.emod_nonneg x (by omega)
theorem fm1 {x m : Int} (h : 0 < m) : x.fmod m < m := by
  rw [Int.fmod_eq_emod_of_nonneg x (Int.le_of_lt h)]
  exact Int.emod_lt_of_pos x h
theorem fm_small {x m : Int} (h : 0 < m) (hm : m ≤ 2 ^ 39) : (x.fmod m).natAbs < 2 ^ 40 := by
  have h0 := fm0 (x := x) h
  have h1 := fm1 (x := x) h
  omega
theorem at_nat {α : Type} {xs : List α} {i : Int} {j : Nat} {d : α} (hi : i = (j : Int)) (h : xs[j]? = some d) : L2.atI xs i = some d := by
  subst hi
  have hj : j < xs.length := (List.getElem?_eq_some_iff.mp h).1
  unfold L2.atI L2.ixN
  rw [if_pos (by omega), if_pos (by omega)]
  simpa using h
theorem at_some {α : Type} {xs : List α} {i : Int} (h0 : 0 ≤ i) (h1 : i < xs.length) : ∃ d, L2.atI xs i = some d ∧ d ∈ xs := by
  obtain ⟨j, rfl⟩ := Int.eq_ofNat_of_zero_le h0
  have hj : j < xs.length := by omega
  exact ⟨xs[j], at_nat rfl (List.getElem?_eq_getElem hj), List.getElem_mem hj⟩
theorem cut_map {α β : Type} (f : α → β) (xs : List α) (lo hi : Option Int) : cutD (xs.map f) lo hi = (cutD xs lo hi).map f := by
  unfold cutD
  rw [List.length_map, List.map_take, List.map_drop]
theorem cut_len {α : Type} (xs : List α) (lo hi : Option Int) : (cutD xs lo hi).length ≤ xs.length := by
  unfold cutD
  rw [List.length_take, List.length_drop]
  omega
theorem dok_s {j : Int} (h : 0 < j) (h' : j < 2 ^ 40) : Dok j := dok_of (n := 40) (by omega) (by omega) (by decide)
def LR (w : List Nat) : Prop := ∀ c ∈ w, c = 76 ∨ c = 82
theorem lr_mem {c : Nat} : c ∈ ("LR" : Str).cps.toList ↔ c = 76 ∨ c = 82 := by
  have e : ("LR" : Str).cps.toList = [76, 82] := by decide +kernel
  rw [e]
  simp
theorem joinL_one : ∀ w : List Nat, TL.joinL [] (w.map fun c => [c]) = w
  | [] => rfl
  | [c] => rfl
  | c :: d :: w => by
    have ih := joinL_one (d :: w)
    show [c] ++ ([] ++ TL.joinL [] ((d :: w).map fun c => [c])) = _
    rw [ih]
    rfl
theorem join_chars (w : List Nat) : Txt.join Str.empty (w.map fun c => (⟨#[c]⟩ : Str)) = ⟨w.toArray⟩ := by
  have h := SX.join_S [] (w.map fun c => [c])
  rw [joinL_one, List.map_map] at h
  exact h
theorem chars_of {acc : List D} (h : ∀ y ∈ acc, ∃ c : Nat, (c = 76 ∨ c = 82) ∧ y = .str ⟨#[c]⟩) : ∃ w : List Nat, LR w ∧ acc = w.map (fun c => D.str ⟨#[c]⟩) := by
  induction acc with
  | nil => exact ⟨[], (fun c h => nomatch h), rfl⟩
  | cons y l ih =>
    obtain ⟨w, h1, h2⟩ := ih fun z hz => h z (List.mem_cons_of_mem _ hz)
    obtain ⟨c, hc, rfl⟩ := h y List.mem_cons_self
    refine ⟨c :: w, fun d hd => ?_, by rw [h2]; rfl⟩
    rcases List.mem_cons.mp hd with rfl | hd
    · exact hc
    · exact h1 d hd
theorem strsD_chars (w : List Nat) : strsD (w.map fun c => D.str ⟨#[c]⟩) = some (w.map fun c => (⟨#[c]⟩ : Str)) := by
  have := strsD_map (w.map fun c => (⟨#[c]⟩ : Str))
  rw [List.map_map] at this
  exact this
theorem chars_sum (w : List Nat) : ((w.map fun c => (⟨#[c]⟩ : Str)).map (·.length)).sum = w.length := by
  induction w with
  | nil => rfl
  | cons c w ih =>
    rw [List.map_cons, List.map_cons, List.sum_cons, ih, List.length_cons]
    show 1 + _ = _
    omega
def Nn (t : T4) : Prop := 0 ≤ t.1 ∧ 0 ≤ t.2.1 ∧ 0 ≤ t.2.2.1 ∧ 0 ≤ t.2.2.2
theorem Nn.mul {s t : T4} (a : Nn s) (b : Nn t) : Nn (mul4 s t) := by
  obtain ⟨a1, a2, a3, a4⟩ := a
  obtain ⟨b1, b2, b3, b4⟩ := b
  exact ⟨Int.add_nonneg (Int.mul_nonneg a1 b1) (Int.mul_nonneg a2 b3), Int.add_nonneg (Int.mul_nonneg a1 b2) (Int.mul_nonneg a2 b4), Int.add_nonneg (Int.mul_nonneg a3 b1) (Int.mul_nonneg a4 b3), Int.add_nonneg (Int.mul_nonneg a3 b2) (Int.mul_nonneg a4 b4)⟩
theorem nn_R : Nn R4 := ⟨by decide, by decide, by decide, by decide⟩
theorem nn_L : Nn L4 := ⟨by decide, by decide, by decide, by decide⟩
theorem nn_turn (c : Nat) : Nn (turnT c) := by
  unfold turnT
  split
  · exact nn_R
  · exact nn_L
theorem nn_fold (l : List Nat) : ∀ t : T4, Nn t → Nn (l.foldl (fun t c => mul4 t (turnT c)) t) := by
  induction l with
  | nil => intro t h; exact h
  | cons c l ih => intro t h; rw [List.foldl_cons]; exact ih _ (h.mul (nn_turn c))
theorem nn_wL (l : List Nat) : Nn (wL l) := nn_fold l O4 ⟨by decide, by decide, by decide, by decide⟩
theorem handAt_of {M : Sto} {p : Addr} {cs : List Int} {i r m : Int} (e : M p = some (.lst [.lst (cs.map .int), .int i, .int r, .int m])) (hc : cs.length ≤ 63) (hi : 0 ≤ i) : HandAt M p := ⟨⟨cs, i, r, m⟩, e, hc, hi⟩
theorem set_gen {M : Sto} {p : Addr} {i : Int} {l : List D} {v : D} {j : Nat} {φ : Sto → Prop} (e : M p = some (.lst l)) (hj : L2.ixN l.length i = some j) (h : ∀ M', M' p = some (.lst (l.set j v)) → (∀ b, b ≠ p → M' b = M b) → φ M') : setD (.ref p) i v M φ :=
  set_ref e hj (h _ updM_same fun b hb => updM_ne hb)
def itm (d : D) : Option (List D) := match d with
  | .str x => some (signs x)
  | .tup l => some l
  | .lst l => some l
  | _ => none
end Z
namespace Z
open PySem PySem.Spec PyProof.Rows L2
theorem fn_no {P : Program} {w : World} {K : PySem.W.Frag} {mg : Str → Option Value} {base : Heap} {k n : Nat} {f : Addr} {fd : FuncData} {ps : List Str} {c : Ct} (h : ∀ ds M Ψ Ξ, ¬ c ds M Ψ Ξ) : FnOk P w K mg base (L2.CX P w) k f fd ps (spC K n c) :=
  ⟨fun _ _ _ _ ⟨_, _, _, _, _, _, _, _, z, _⟩ => (h _ _ _ _ z).elim, fun _ _ _ _ _ _ _ _ _ _ _ _ _ ⟨_, _, _, _, _, _, _, _, z, _⟩ => (h _ _ _ _ z).elim⟩
def Same (M : Sto) : Nat → D → D → Prop
  | 0, _, _ => False
  | n + 1, x, y => (x = .non ∧ y = .non) ∨ (∃ b, x = .bl b ∧ y = .bl b) ∨ (∃ i, x = .int i ∧ y = .int i) ∨ (∃ s, x = .str s ∧ y = .str s) ∨
    (∃ xs ys, ((lstOf M x = some xs ∧ lstOf M y = some ys) ∨ (x = .tup xs ∧ y = .tup ys)) ∧ xs.length = ys.length ∧ xs.length ≤ 1000000 ∧ ∀ (i : Nat) a b, xs[i]? = some a → ys[i]? = some b → Same M n a b)
end Z
namespace Z
open PySem PySem.Spec PyProof.Rows L2
def iL (t : T4) : List Int := [t.1, t.2.1, t.2.2.1, t.2.2.2]
def gF (g : Nat) (l : List Int) : Nat := l.foldl (fun g x => Nat.gcd g x.natAbs) g
def gN (l : List Int) : Nat := gF 0 l
theorem gF_dvd0 : ∀ (l : List Int) (g : Nat), gF g l ∣ g
  | [], g => Nat.dvd_refl _
  | x :: l, g => Nat.dvd_trans (gF_dvd0 l _) (Nat.gcd_dvd_left _ _)
theorem gF_dvd : ∀ (l : List Int) (g : Nat) (x : Int), x ∈ l → gF g l ∣ x.natAbs
  | y :: l, g, x, h => by
    rcases List.mem_cons.mp h with rfl | h
    · exact Nat.dvd_trans (gF_dvd0 l _) (Nat.gcd_dvd_right _ _)
    · exact gF_dvd l _ x h
theorem gF_mul (m : Int) : ∀ (l : List Int) (g : Nat), gF (m.natAbs * g) (l.map (m * ·)) = m.natAbs * gF g l
  | [], g => rfl
  | x :: l, g => by
    show gF (Nat.gcd (m.natAbs * g) (m * x).natAbs) (l.map (m * ·)) = m.natAbs * gF (Nat.gcd g x.natAbs) l
    rw [Int.natAbs_mul, Nat.gcd_mul_left]
    exact gF_mul m l _
theorem gN_mul (m : Int) (l : List Int) : gN (l.map (m * ·)) = m.natAbs * gN l := gF_mul m l 0
theorem gN_dvd {l : List Int} {x : Int} (h : x ∈ l) : gN l ∣ x.natAbs := gF_dvd l 0 x h
theorem gN_zero {l : List Int} (h : gN l = 0) : ∀ x ∈ l, x = 0 := fun x hx => by
  have := gN_dvd hx
  rw [h] at this
  have := Nat.eq_zero_of_zero_dvd this
  omega
theorem fdiv_ex {x : Int} {g : Nat} (hg : 0 < g) (h : g ∣ x.natAbs) : (g : Int) * x.fdiv g = x := by
  have h2 : (g : Int) ∣ x := Int.ofNat_dvd_left.mpr h
  obtain ⟨y, rfl⟩ := h2
  rw [Int.mul_fdiv_cancel_left _ (by omega)]
def lead (l : List Int) : Int := (l.filter fun x => decide (x ≠ 0)).headD 0
end Z
namespace Z
open PySem PySem.Spec PyProof.Rows L2
theorem eqB {M : Sto} {i j : Bool} {φ : D → Prop} (h : φ (.bl (decide (i = j)))) : eqD M (.bl i) (.bl j) φ := by unfold eqD; exact h
theorem neB {M : Sto} {i j : Bool} {φ : D → Prop} (h : φ (.bl (!decide (i = j)))) : neD M (.bl i) (.bl j) φ := by unfold neD; exact h
theorem lst_cs {M : Sto} {x : D} {l : List D} (h : lstOf M x = some l) : x = .lst l ∨ ∃ p, x = .ref p ∧ M p = some (.lst l) := by
  cases x with
  | lst l' => cases h; exact .inl rfl
  | ref p => exact .inr ⟨p, rfl, lstOf_ref h⟩
  | _ => cases h
theorem lst_ty {M : Sto} {x : D} {l : List D} (h : lstOf M x = some l) : tyN M x = some "list" := by
  rcases lst_cs h with rfl | ⟨p, rfl, e⟩
  · rfl
  · simp only [tyN, e]
theorem zip_mem {xs ys : List D} {d : D} (h : d ∈ zipD xs ys) : ∃ (i : Nat) (a b : D), xs[i]? = some a ∧ ys[i]? = some b ∧ d = .tup [a, b] := by
  unfold zipD at h
  obtain ⟨⟨a, b⟩, h1, rfl⟩ := List.mem_map.mp h
  obtain ⟨i, hi, e⟩ := List.getElem_of_mem h1
  have e2 := List.getElem?_eq_getElem hi
  rw [e] at e2
  have := List.getElem?_zip_eq_some.mp e2
  exact ⟨i, a, b, this.1, this.2, rfl⟩
theorem zip_len {xs ys : List D} : (zipD xs ys).length = min xs.length ys.length := by unfold zipD; rw [List.length_map, List.length_zip]
theorem all_bl {xs : List D} : (xs.map fun _ => D.bl true) = (xs.map fun _ => true).map D.bl := by rw [List.map_map]; rfl
theorem all_tt (xs : List D) : (xs.map fun _ => true).all id = true := by
  rw [List.all_map, List.all_eq_true]
  intro _ _; rfl
section
variable {M : Sto} {n : Nat}
theorem Same.i (i : Int) : Same M (n + 1) (.int i) (.int i) := .inr (.inr (.inl ⟨i, rfl, rfl⟩))
theorem Same.b (i : Bool) : Same M (n + 1) (.bl i) (.bl i) := .inr (.inl ⟨i, rfl, rfl⟩)
theorem Same.s (i : Str) : Same M (n + 1) (.str i) (.str i) := .inr (.inr (.inr (.inl ⟨i, rfl, rfl⟩)))
theorem Same.no : Same M (n + 1) .non .non := .inl ⟨rfl, rfl⟩
inductive SameL (M : Sto) (n : Nat) : List D → List D → Prop
  | nil : SameL M n [] []
  | cons {a b : D} {xs ys : List D} : Same M n a b → SameL M n xs ys → SameL M n (a :: xs) (b :: ys)
theorem SameL.len : ∀ {xs ys : List D}, SameL M n xs ys → xs.length = ys.length
  | _, _, .nil => rfl
  | _, _, .cons _ r => congrArg (· + 1) r.len
theorem SameL.get : ∀ {xs ys : List D}, SameL M n xs ys → ∀ (i : Nat) a b, xs[i]? = some a → ys[i]? = some b → Same M n a b
  | _, _, .nil, i, a, b, h, _ => by simp at h
  | _, _, .cons h r, 0, a, b, h1, h2 => by simp at h1 h2; subst h1 h2; exact h
  | _, _, .cons h r, i + 1, a, b, h1, h2 => r.get i a b (by simpa using h1) (by simpa using h2)
theorem Same.t {xs ys : List D} (h : SameL M n xs ys) (hl : xs.length ≤ 1000000) : Same M (n + 1) (.tup xs) (.tup ys) :=
  .inr (.inr (.inr (.inr ⟨xs, ys, .inr ⟨rfl, rfl⟩, h.len, hl, h.get⟩)))
theorem Same.l {xs ys : List D} (h : SameL M n xs ys) (hl : xs.length ≤ 1000000) : Same M (n + 1) (.lst xs) (.lst ys) :=
  .inr (.inr (.inr (.inr ⟨xs, ys, .inl ⟨rfl, rfl⟩, h.len, hl, h.get⟩)))
theorem SameL.ints : ∀ l : List Int, SameL M (n + 1) (l.map .int) (l.map .int)
  | [] => .nil
  | i :: l => .cons (.i i) (SameL.ints l)
theorem Same.T (t : T4) : Same M (n + 2) (tD t) (tD t) := Same.t (SameL.ints (iL t)) (show 4 ≤ 1000000 by decide)
end
theorem det_ne {t : T4} (h : det4 t ≠ 0) : ∃ x ∈ iL t, x ≠ 0 := by
  obtain ⟨a, b, c, d⟩ := t
  by_cases ha : a = 0
  · by_cases hb : b = 0
    · exfalso; apply h; unfold det4; simp [ha, hb]
    · exact ⟨b, by unfold iL; simp, hb⟩
  · exact ⟨a, by unfold iL; simp, ha⟩
def sc (m : Int) (t : T4) : T4 := (m * t.1, m * t.2.1, m * t.2.2.1, m * t.2.2.2)
theorem det_sc' (m : Int) (t : T4) : det4 (sc m t) = m * m * det4 t := by unfold det4 sc; simp only; grind
end Z
namespace Z
open PySem PySem.Spec PyProof.Rows L2
section
variable {X : Cx} {B : Bs} {pos apos : Pos} {e o : Expr} {es : List Expr} {fa fo : DTE} {ga : DTA}
theorem tyV_lst {K : PySem.W.Frag} {M : Sto} {H G : Hp} {d : D} {v : V} {l : List D} (w : Wd K M H G) (r : Rep K G d v) (e : lstOf M d = some l) : tyV K "list" v H := by
  obtain ⟨a, vs, rfl, h, _⟩ := lst_rep' w r e
  exact .inl ⟨rfl, vs, h⟩
theorem de_lm1 {id : String} {name : Str} {r : V → List V → Hp → VK → Prop} {g : Sto → D → List D → PD → Prop} (slot : Slot "list" name id) (ty : typeOf (.builtin id) = pure (.type "method_descriptor")) (rule : MtR X id r) (ok : OkM X.K r g) (ho : DE X B o fo) (ha : DA X B (e :: es) ga)
    (hbase : attributeBase o name X.env (eval o X.env) = eval o X.env := by rfl)
    (hfew : ((backTo pos (starEach (e :: es) X.env)).all (fun x => !x.1) && (backToKw pos (keywordEach [] X.env)).all (fun x => x.1.isSome)
      && decide ((e :: es).length + ([] : List Keyword).length + (if ([] : List Keyword).isEmpty then 0 else 1) < 30)) = true := by rfl)
    (hline : (apos.endLine == pos.line) = true := by rfl) (hs : starEach (e :: es) X.env = (false, eval e X.env) :: starEach es X.env := by rfl) (hplain : (backTo pos (starEach es X.env)).any (·.1) = false := by rfl) :
    DE X B (.Call (.Attribute o name apos) (e :: es) [] pos) (fun r M Ψ => fo r M fun x M1 => (∃ l, lstOf M1 x = some l) ∧ ga r M1 fun ds M2 => g M2 x ds Ψ) :=
  PE_imp (pe_bm PySem.F.plainAttrs_list slot ty rule ho ha hbase hfew hline hs hplain) fun σ H Q ⟨r, M, G, Ψ, R, h, k⟩ => by
    refine ⟨r, M, G, _, R, h, fun x M1 v H1 G1 ⟨⟨l, e1⟩, q⟩ R1 s1 p1 => ⟨tyV_lst R1.wd p1 e1, r, M1, G1, _, R1, q, fun ds M2 us H2 G2 q2 R2 s2 p2 => ?_⟩⟩
    exact ok M2 H2 G2 _ _ _ _ _ _ R2.wd (p1.mono s2) p2 q2 fun d M' w H' G' f w' s' p => k _ _ _ _ _ f (R2.go w' s') ((s1.tr s2).tr s'.gsub) p
theorem de_lm0 {id : String} {name : Str} {r : V → List V → Hp → VK → Prop} {g : Sto → D → List D → PD → Prop} (slot : Slot "list" name id) (ty : typeOf (.builtin id) = pure (.type "method_descriptor")) (rule : MtR X id r) (ok : OkM X.K r g) (ho : DE X B o fo)
    (hbase : attributeBase o name X.env (eval o X.env) = eval o X.env := by rfl) (hline : (apos.endLine == pos.line) = true := by rfl) :
    DE X B (.Call (.Attribute o name apos) [] [] pos) (fun r M Ψ => fo r M fun x M1 => (∃ l, lstOf M1 x = some l) ∧ g M1 x [] Ψ) :=
  PE_imp (pe_bm0 PySem.F.plainAttrs_list slot ty rule ho hbase hline) fun σ H Q ⟨r, M, G, Ψ, R, h, k⟩ => by
    refine ⟨r, M, G, _, R, h, fun x M1 v H1 G1 ⟨⟨l, e1⟩, q⟩ R1 s1 p1 => ⟨tyV_lst R1.wd p1 e1, ?_⟩⟩
    exact ok M1 H1 G1 _ _ _ _ _ _ R1.wd p1 .nil q fun d M' w H' G' f w' s' p => k _ _ _ _ _ f (R1.go w' s') (s1.tr s'.gsub) p
def lstAt (M : Sto) (x : D) (φ : Addr → List D → Prop) : Prop := match x with
  | .ref p => match M p with
    | some (.lst l) => φ p l
    | _ => False
  | _ => False
theorem lstAt_of {M : Sto} {p : Addr} {l : List D} {φ : Addr → List D → Prop} (e : M p = some (.lst l)) (h : φ p l) : lstAt M (.ref p) φ := by
  unfold lstAt
  simp only [e]
  exact h
theorem lstAt_some {M : Sto} {x : D} {φ : Addr → List D → Prop} (h : lstAt M x φ) : ∃ p l, x = .ref p ∧ M p = some (.lst l) ∧ φ p l := by
  unfold lstAt at h
  split at h
  · split at h
    · rename_i p _ l e
      exact ⟨p, l, rfl, e, h⟩
    · exact h.elim
  · exact h.elim
def appendD (M : Sto) (x : D) (ds : List D) (φ : PD) : Prop := match ds with
  | [d] => lstAt M x fun p l => l.length < sizeLine ∧ φ .non (updM M p (.lst (l ++ [d])))
  | _ => False
def popD (M : Sto) (x : D) (ds : List D) (φ : PD) : Prop := match ds with
  | [] => lstAt M x fun p l => ∃ d, l[l.length - 1]? = some d ∧ φ d (updM M p (.lst l.dropLast))
  | _ => False
section
variable {K : PySem.W.Frag}
theorem RepL.dropLast {G : Hp} : ∀ {xs : List D} {us : List V}, RepL K G xs us → RepL K G xs.dropLast us.dropLast := fun {xs us} r => by
  rw [List.dropLast_eq_take, List.dropLast_eq_take, r.length]
  exact r.take _
theorem ok_append : OkM K rAppend appendD := fun M H G x v ds vs φ Q w r rs h k => by
  unfold appendD at h
  split at h
  · obtain ⟨p, l, rfl, e, hl, h⟩ := lstAt_some h
    cases r
    cases rs with
    | cons r1 rs =>
      cases rs
      obtain ⟨gp, us, hp, rl⟩ := w.cells _ _ e
      obtain ⟨w1, s1⟩ := cell_put (c := .lst (l ++ [_])) (o := .lst (us ++ [_])) w e ⟨_, upd_same, rl.app (.cons r1 .nil)⟩
      exact ⟨p, us, _, rfl, rfl, hp, by rw [← rl.length]; exact hl, k _ _ _ _ _ h w1 s1 .non⟩
  · exact h.elim
theorem ok_pop : OkM K rPop popD := fun M H G x v ds vs φ Q w r rs h k => by
  unfold popD at h
  split at h
  · obtain ⟨p, l, rfl, e, d, hd, h⟩ := lstAt_some h
    cases r
    cases rs
    obtain ⟨gp, us, hp, rl⟩ := w.cells _ _ e
    obtain ⟨u, e2, p2⟩ := rl.get hd
    obtain ⟨w1, s1⟩ := cell_put (c := .lst l.dropLast) (o := .lst us.dropLast) w e ⟨_, upd_same, rl.dropLast⟩
    exact ⟨p, us, u, rfl, rfl, hp, by rw [← rl.length]; exact e2, k _ _ _ _ _ h w1 s1 p2⟩
  · exact h.elim
end
theorem de_append (ho : DE X B o fo) (ha : DA X B [e] ga) (hbase : attributeBase o "append" X.env (eval o X.env) = eval o X.env := by rfl) (hline : (apos.endLine == pos.line) = true := by rfl) (hs : starEach [e] X.env = (false, eval e X.env) :: starEach [] X.env := by rfl)
    (hfew : ((backTo pos (starEach [e] X.env)).all (fun x => !x.1) && (backToKw pos (keywordEach [] X.env)).all (fun x => x.1.isSome)
      && decide ([e].length + ([] : List Keyword).length + (if ([] : List Keyword).isEmpty then 0 else 1) < 30)) = true := by rfl) :
    DE X B (.Call (.Attribute o "append" apos) [e] [] pos) (fun r M Ψ => fo r M fun x M1 => (∃ l, lstOf M1 x = some l) ∧ ga r M1 fun ds M2 => appendD M2 x ds Ψ) := de_lm1 PySem.F.slot_list_append PySem.F.type_list_append mt_append ok_append ho ha hbase hfew hline hs rfl
theorem de_pop0 (ho : DE X B o fo) (hbase : attributeBase o "pop" X.env (eval o X.env) = eval o X.env := by rfl) (hline : (apos.endLine == pos.line) = true := by rfl) :
    DE X B (.Call (.Attribute o "pop" apos) [] [] pos) (fun r M Ψ => fo r M fun x M1 => (∃ l, lstOf M1 x = some l) ∧ popD M1 x [] Ψ) := de_lm0 PySem.F.slot_list_pop PySem.F.type_list_pop mt_pop ok_pop ho hbase hline
end
section
variable {X : Cx} {B : Bs} {k j : Nat} {c : Ct} {pos apos p : Pos} {a : Expr} {ga : DTA} {C : Addr} {bs : List (Nat × List Str × (List D → List D → List D))}
end
section
variable {X : Cx} {B : Bs} {pos : Pos} {e : Expr} {fa : DTE}
end
end Z
namespace Z
open PySem PySem.Spec PyProof.Rows L2
theorem foldl_max : ∀ (ns : List Int) (n : Int), ns.foldl max n ∈ n :: ns ∧ ∀ y ∈ n :: ns, y ≤ ns.foldl max n
  | [], n => ⟨by simp, fun y hy => by simp at hy; subst hy; exact Int.le_refl _⟩
  | m :: ns, n => by
    obtain ⟨h1, h2⟩ := foldl_max ns (max n m)
    refine ⟨?_, fun y hy => ?_⟩
    · rw [List.foldl_cons]
      rcases List.mem_cons.mp h1 with h | h
      · rw [h]
        rcases Int.le_total n m with c | c
        · rw [Int.max_eq_right c]; simp
        · rw [Int.max_eq_left c]; simp
      · exact List.mem_cons_of_mem _ (List.mem_cons_of_mem _ h)
    · rw [List.foldl_cons]
      have h3 := h2 (max n m) List.mem_cons_self
      rcases List.mem_cons.mp hy with rfl | hy
      · exact Int.le_trans (Int.le_max_left _ _) h3
      · rcases List.mem_cons.mp hy with rfl | hy
        · exact Int.le_trans (Int.le_max_right _ _) h3
        · exact h2 y (List.mem_cons_of_mem _ hy)
theorem reads_ints {h : Heap} : ∀ {ns : List Int} {vs : List Value}, Vals (ns.map V.int) vs → ∃ as, ReadsAll h vs (ns.map PyData.int) as
  | [], _, r => by cases r; exact ⟨[], .nil⟩
  | n :: ns, _, r => by
    cases r with
    | cons r1 r2 =>
      obtain ⟨t, rfl⟩ := r1
      obtain ⟨as, ra⟩ := reads_ints (h := h) r2
      exact ⟨_, .cons (.int n t) ra⟩
theorem alike_ints (ns : List Int) : PySem.W.AlikeAll (ns.map PyData.int) := by
  refine ⟨fun x hx y hy => ?_, fun x hx => ?_⟩
  · obtain ⟨i, _, rfl⟩ := List.mem_map.mp hx
    obtain ⟨j, _, rfl⟩ := List.mem_map.mp hy
    rfl
  · obtain ⟨i, _, rfl⟩ := List.mem_map.mp hx
    intro z; cases z
theorem depth_ints : ∀ ns : List Int, PyData.depthAll (ns.map PyData.int) ≤ 1
  | [] => by unfold PyData.depthAll; simp
  | n :: ns => by
    have ih := depth_ints ns
    rw [List.map_cons]
    unfold PyData.depthAll
    have : (PyData.int n).depth ≤ 1 := by unfold PyData.depth; simp
    omega
def rMaxT (K : PySem.W.Frag) : List V → Hp → VK → Prop := fun vs H Q => ∃ (a : Addr) (n : Int) (ns : List Int), vs = [V.ref a] ∧ SqT K H a ((n :: ns).map V.int) ∧ Q (.int (ns.foldl max n)) H
section
variable {X : Cx}
theorem cr_maxT (hc : X.calm = true) (hu : X.A.units + 65 < cLine) : CallR X (.builtin "max") (rMaxT X.K) := by
  intro pins s σ H vs us Q I r h
  obtain ⟨a, n, ns, rfl, hs, q⟩ := h
  obtain ⟨its, rv, ⟨o, h1, h2, m, h3⟩, _⟩ := I.tuple hs
  rw [Vals.ref1 r]
  obtain ⟨as, ra⟩ := reads_ints (h := s.heap) (ns := n :: ns) rv
  have dd := depth_ints (n :: ns)
  refine PySem.W.max_tuple_data (vs := its.toArray) (x := .int n) (xs := ns.map .int) (as := as) (I.ok.hd hc) ⟨o, h1, h2, m, h3⟩ (by simpa using ra) (alike_ints (n :: ns)) (by have : PyData.depthAll (PyData.int n :: List.map PyData.int ns) ≤ 1 := dd; omega) fun i v h' tk bs hv hr hk => ?_
  rw [PySem.W.maxD_ints] at hr
  cases hr
  exact ⟨.int _, H, I.kept hk, ⟨_, rfl⟩, q⟩
end
def intsOf (M : Sto) (d : D) (l : List Int) : Prop := lstOf M d = some (l.map .int) ∨ d = .tup (l.map .int)
def maxAD (M : Sto) (ds : List D) (φ : PD) : Prop := match ds with
  | [d] => ∃ (n : Int) (ns : List Int), intsOf M d (n :: ns) ∧ φ (.int (ns.foldl max n)) M
  | _ => False
theorem ok_maxA {K : PySem.W.Frag} : OkC K (fun xs H Q => rMax K xs H Q ∨ rMaxT K xs H Q) maxAD := fun M H G ds vs φ Q w r h k => by
  unfold maxAD at h
  split at h
  · obtain ⟨n, ns, e | rfl, h⟩ := h
    · obtain ⟨a, us, rfl, h1, h2⟩ := one_lst w r e
      have := repL_ints h2; subst this
      refine .inl ⟨a, n :: ns, rfl, h1, by simp, fun m hm hy => ?_⟩
      obtain ⟨f1, f2⟩ := foldl_max ns n
      have e2 : m = ns.foldl max n := Int.le_antisymm (f2 m hm) (hy _ f1)
      rw [e2]
      exact k.id w h .int
    · cases r with
      | cons r1 r2 =>
        cases r2
        obtain ⟨a, us, rfl, h1, h2⟩ := tup_rep w r1 rfl
        have := repL_ints h2; subst this
        exact .inr ⟨a, n, ns, rfl, h1, k.id w h .int⟩
  · exact h.elim
section
variable {X : Cx} {B : Bs} {k : Nat} {pos p : Pos} {a : Expr} {ga : DTA}
theorem de_maxA (hc : X.calm = true) (hr : Room k X.A) (hm : X.mg "max" = none) (ha : DA X B [a] ga) (hg : Gl X "max" := by rfl) (he : starEach [a] X.env = (false, eval a X.env) :: starEach [] X.env := by rfl) : DE X B (.Call (.Name "max" p) [a] [] pos) (fun r M Ψ => ga r M fun ds M1 => maxAD M1 ds Ψ) :=
  de_callB (CallR_or (cr_max hc) (cr_maxT hc (room65 hr))) ok_maxA hm bt_max ha hg (by decide) (by decide) he rfl
end
end Z
namespace Z
open PySem PySem.Spec PyProof.Rows L2
def bR (t : T4) : Bool := decide (t.2.2.1 ≤ t.1) && decide (t.2.2.2 ≤ t.2.1)
def bL (t : T4) : Bool := decide (t.1 ≤ t.2.2.1) && decide (t.2.1 ≤ t.2.2.2)
structure Bal (t : T4) : Prop where
  r : bR t = false
  l : bL t = false
structure Tk (t : T4) (w : List Nat) (u : T4) : Prop where
  lr : LR w
  eq : mul4 (wL w) u = t
  nn : Nn u
  bal : Bal u
theorem turn_R : turnT 82 = R4 := by unfold turnT; rw [if_pos (by decide +kernel)]
theorem turn_L : turnT 76 = L4 := by unfold turnT; rw [if_neg (by decide +kernel)]
theorem wL_nil : wL [] = O4 := rfl
theorem wL_one (c : Nat) : wL [c] = turnT c := one_mul4 _
theorem wL_cons (c : Nat) (l : List Nat) : wL (c :: l) = mul4 (turnT c) (wL l) := by
  rw [show c :: l = [c] ++ l from rfl, wL_app, wL_one]
theorem mul_R (t : T4) : mul4 R4 t = (t.1 + t.2.2.1, t.2.1 + t.2.2.2, t.2.2.1, t.2.2.2) := by unfold mul4 R4; simp
theorem mul_L (t : T4) : mul4 L4 t = (t.1, t.2.1, t.1 + t.2.2.1, t.2.1 + t.2.2.2) := by unfold mul4 L4; simp
theorem beg_R {t : T4} (h : Nn t) (hd : 0 < det4 t) : bR (mul4 R4 t) = true ∧ bL (mul4 R4 t) = false := by
  rw [mul_R]
  obtain ⟨a, b, c, d⟩ := t
  obtain ⟨h1, h2, h3, h4⟩ := h
  simp only at h1 h2 h3 h4
  unfold bR bL
  simp only
  refine ⟨by rw [decide_eq_true (by omega), decide_eq_true (by omega)]; rfl, ?_⟩
  rw [Bool.and_eq_false_iff]
  by_cases e : a = 0
  · right
    refine decide_eq_false fun z => ?_
    have : b = 0 := by omega
    subst this e
    unfold det4 at hd
    simp at hd
  · left; exact decide_eq_false (by omega)
theorem beg_L {t : T4} (h : Nn t) (hd : 0 < det4 t) : bL (mul4 L4 t) = true ∧ bR (mul4 L4 t) = false := by
  rw [mul_L]
  obtain ⟨a, b, c, d⟩ := t
  obtain ⟨h1, h2, h3, h4⟩ := h
  simp only at h1 h2 h3 h4
  unfold bR bL
  simp only
  refine ⟨by rw [decide_eq_true (by omega), decide_eq_true (by omega)]; rfl, ?_⟩
  rw [Bool.and_eq_false_iff]
  by_cases e : c = 0
  · right
    refine decide_eq_false fun z => ?_
    have : d = 0 := by omega
    subst this e
    unfold det4 at hd
    simp at hd
  · left; exact decide_eq_false (by omega)
theorem det_w {w : List Nat} {u t : T4} (e : mul4 (wL w) u = t) : det4 u = det4 t := by rw [← e, det_mul, det_wL, Int.one_mul]
theorem R4_inj {s t : T4} (h : mul4 R4 s = mul4 R4 t) : s = t := by
  rw [mul_R, mul_R] at h
  obtain ⟨a, b, c, d⟩ := s
  obtain ⟨e, f, g, k⟩ := t
  simp only [Prod.mk.injEq] at h ⊢
  omega
theorem L4_inj {s t : T4} (h : mul4 L4 s = mul4 L4 t) : s = t := by
  rw [mul_L, mul_L] at h
  obtain ⟨a, b, c, d⟩ := s
  obtain ⟨e, f, g, k⟩ := t
  simp only [Prod.mk.injEq] at h ⊢
  omega
theorem Tk.tail {t u : T4} {c : Nat} {w : List Nat} (h : Tk t (c :: w) u) : ∃ t1, Tk t1 w u ∧ Nn t1 ∧ det4 t1 = det4 t ∧ t = mul4 (turnT c) t1 := by
  have e := h.eq
  rw [wL_cons, mul_assoc4] at e
  have hn : Nn (mul4 (wL w) u) := (nn_wL w).mul h.nn
  exact ⟨_, ⟨fun d hd => h.lr d (List.mem_cons_of_mem _ hd), rfl, h.nn, h.bal⟩, hn, by rw [← e, det_mul (turnT c), det_turn, Int.one_mul], e.symm⟩
theorem Tk.first {t u : T4} {c : Nat} {w : List Nat} (hd : 0 < det4 t) (h : Tk t (c :: w) u) : (c = 82 ∧ bR t = true ∧ bL t = false) ∨ (c = 76 ∧ bL t = true ∧ bR t = false) := by
  obtain ⟨t1, h1, hn, e1, e2⟩ := h.tail
  rw [← e1] at hd
  rcases h.lr c List.mem_cons_self with rfl | rfl
  · rw [turn_L] at e2
    obtain ⟨z1, z2⟩ := beg_L hn hd
    rw [e2]
    exact .inr ⟨rfl, z1, z2⟩
  · rw [turn_R] at e2
    obtain ⟨z1, z2⟩ := beg_R hn hd
    rw [e2]
    exact .inl ⟨rfl, z1, z2⟩
theorem Tk.uniq : ∀ {w w' : List Nat} {t u u' : T4}, 0 < det4 t → Tk t w u → Tk t w' u' → w = w' ∧ u = u'
  | [], [], t, u, u', hd, h, h' => by
    have e := h.eq
    have e' := h'.eq
    rw [wL_nil, one_mul4] at e e'
    exact ⟨rfl, e.trans e'.symm⟩
  | [], c :: w', t, u, u', hd, h, h' => by
    exfalso
    have e := h.eq
    rw [wL_nil, one_mul4] at e
    rcases h'.first hd with ⟨_, z, _⟩ | ⟨_, z, _⟩
    · rw [← e, h.bal.r] at z; cases z
    · rw [← e, h.bal.l] at z; cases z
  | c :: w, [], t, u, u', hd, h, h' => by
    exfalso
    have e := h'.eq
    rw [wL_nil, one_mul4] at e
    rcases h.first hd with ⟨_, z, _⟩ | ⟨_, z, _⟩
    · rw [← e, h'.bal.r] at z; cases z
    · rw [← e, h'.bal.l] at z; cases z
  | c :: w, c' :: w', t, u, u', hd, h, h' => by
    have hc : c = c' := by
      rcases h.first hd with ⟨rfl, z, y⟩ | ⟨rfl, z, y⟩ <;> rcases h'.first hd with ⟨rfl, z', y'⟩ | ⟨rfl, z', y'⟩ <;> first | rfl | (rw [z] at y'; cases y') | (rw [z'] at y; cases y)
    subst hc
    obtain ⟨t1, h1, hn, e1, e2⟩ := h.tail
    obtain ⟨t2, h2, hn2, e3, e4⟩ := h'.tail
    have et : t1 = t2 := by
      rcases h.lr c List.mem_cons_self with rfl | rfl
      · rw [turn_L] at e2 e4; exact L4_inj (e2.symm.trans e4)
      · rw [turn_R] at e2 e4; exact R4_inj (e2.symm.trans e4)
    subst et
    obtain ⟨r1, r2⟩ := h1.uniq (by rw [e1]; exact hd) h2
    exact ⟨by rw [r1], r2⟩
theorem Tk.bal_self {t : T4} (hn : Nn t) (hb : Bal t) : Tk t [] t := ⟨fun c h => (nomatch h), by rw [wL_nil, one_mul4], hn, hb⟩
theorem wL_Rs : ∀ k : Nat, wL (List.replicate k 82) = (1, (k : Int), 0, 1)
  | 0 => rfl
  | k + 1 => by
    rw [List.replicate_succ, wL_cons, wL_Rs k, turn_R, mul_R, show ((k + 1 : Nat) : Int) = (k : Int) + 1 from by omega]
    rfl
theorem wL_Ls : ∀ k : Nat, wL (List.replicate k 76) = (1, 0, (k : Int), 1)
  | 0 => rfl
  | k + 1 => by
    rw [List.replicate_succ, wL_cons, wL_Ls k, turn_L, mul_L, show ((k + 1 : Nat) : Int) = (k : Int) + 1 from by omega, Int.add_comm (k : Int) 1]
    rfl
def subR (k : Int) (t : T4) : T4 := (t.1 - k * t.2.2.1, t.2.1 - k * t.2.2.2, t.2.2.1, t.2.2.2)
def subL (k : Int) (t : T4) : T4 := (t.1, t.2.1, t.2.2.1 - k * t.1, t.2.2.2 - k * t.2.1)
theorem mul_subR (k : Nat) (t : T4) : mul4 (wL (List.replicate k 82)) (subR k t) = t := by
  rw [wL_Rs]
  obtain ⟨a, b, c, d⟩ := t
  unfold mul4 subR
  simp only [Prod.mk.injEq]
  refine ⟨?_, ?_, ?_, ?_⟩ <;> grind
theorem mul_subL (k : Nat) (t : T4) : mul4 (wL (List.replicate k 76)) (subL k t) = t := by
  rw [wL_Ls]
  obtain ⟨a, b, c, d⟩ := t
  unfold mul4 subL
  simp only [Prod.mk.injEq]
  refine ⟨?_, ?_, ?_, ?_⟩ <;> grind
theorem LR.rep {w : List Nat} (h : LR w) {c k : Nat} (hc : c = 76 ∨ c = 82) : LR (w ++ List.replicate k c) := fun d hd => by
  rcases List.mem_append.mp hd with z | z
  · exact h d z
  · rw [List.eq_of_mem_replicate z]; exact hc
def ltm (a b c d : Int) : Int := if 0 < c then (if 0 < d then min (a.fdiv c) (b.fdiv d) else a.fdiv c) else b.fdiv d
theorem fdiv_mul_le {a c : Int} (h : 0 < c) : a.fdiv c * c ≤ a := by
  rw [Int.fdiv_eq_ediv_of_nonneg _ (Int.le_of_lt h)]
  exact Int.ediv_mul_le _ (by omega)
theorem le_fdiv {a c k : Int} (h : 0 < c) (hk : k * c ≤ a) : k ≤ a.fdiv c := by
  rw [Int.fdiv_eq_ediv_of_nonneg _ (Int.le_of_lt h)]
  exact (Int.le_ediv_iff_mul_le h).mpr hk
theorem ltm_ok {a b c d : Int} (hc : 0 ≤ c) (hd : 0 ≤ d) (h : 0 < c ∨ 0 < d) (h1 : c ≤ a) (h2 : d ≤ b) : 1 ≤ ltm a b c d ∧ ltm a b c d * c ≤ a ∧ ltm a b c d * d ≤ b := by
  have mono : ∀ {x y z : Int}, 0 ≤ z → x ≤ y → x * z ≤ y * z := fun hz h => Int.mul_le_mul_of_nonneg_right h hz
  unfold ltm
  by_cases e1 : 0 < c
  · rw [if_pos e1]
    have k1 := fdiv_mul_le (a := a) e1
    have g1 : 1 ≤ a.fdiv c := le_fdiv e1 (by omega)
    by_cases e2 : 0 < d
    · rw [if_pos e2]
      have k2 := fdiv_mul_le (a := b) e2
      have g2 : 1 ≤ b.fdiv d := le_fdiv e2 (by omega)
      refine ⟨by omega, ?_, ?_⟩
      · exact Int.le_trans (mono hc (Int.min_le_left _ _)) k1
      · exact Int.le_trans (mono hd (Int.min_le_right _ _)) k2
    · rw [if_neg e2]
      have : d = 0 := by omega
      subst this
      exact ⟨g1, k1, by rw [Int.mul_zero]; exact h2⟩
  · rw [if_neg e1]
    have e2 : 0 < d := h.resolve_left e1
    have k2 := fdiv_mul_le (a := b) e2
    have g2 : 1 ≤ b.fdiv d := le_fdiv e2 (by omega)
    have : c = 0 := by omega
    subst this
    exact ⟨g2, by rw [Int.mul_zero]; exact h1, k2⟩
theorem bR_of {t : T4} (h : bR t = true) : t.2.2.1 ≤ t.1 ∧ t.2.2.2 ≤ t.2.1 := by
  unfold bR at h
  simpa using h
theorem bL_of {t : T4} (h : bL t = true) : t.1 ≤ t.2.2.1 ∧ t.2.1 ≤ t.2.2.2 := by
  unfold bL at h
  simpa using h
theorem low_pos {t : T4} (hn : Nn t) (hd : 0 < det4 t) : (0 < t.2.2.1 ∨ 0 < t.2.2.2) ∧ (0 < t.1 ∨ 0 < t.2.1) := by
  obtain ⟨a, b, c, d⟩ := t
  obtain ⟨h1, h2, h3, h4⟩ := hn
  simp only at h1 h2 h3 h4 ⊢
  unfold det4 at hd
  simp only at hd
  refine ⟨?_, ?_⟩
  · rcases Int.lt_or_le 0 c with h | h
    · exact .inl h
    · have : c = 0 := by omega
      subst this
      rcases Int.lt_or_le 0 d with h | h
      · exact .inr h
      · have : d = 0 := by omega
        subst this
        simp at hd
  · rcases Int.lt_or_le 0 a with h | h
    · exact .inl h
    · have : a = 0 := by omega
      subst this
      rcases Int.lt_or_le 0 b with h | h
      · exact .inr h
      · have : b = 0 := by omega
        subst this
        simp at hd
def sum4 (t : T4) : Nat := t.1.natAbs + t.2.1.natAbs + t.2.2.1.natAbs + t.2.2.2.natAbs
theorem stepR_ok {t : T4} (hn : Nn t) (hd : 0 < det4 t) (hb : bR t = true) : ∃ k : Nat, ltm t.1 t.2.1 t.2.2.1 t.2.2.2 = (k : Int) ∧ 1 ≤ k ∧ Nn (subR k t) ∧ sum4 (subR k t) + k ≤ sum4 t := by
  obtain ⟨z1, z2⟩ := bR_of hb
  obtain ⟨l1, _⟩ := low_pos hn hd
  obtain ⟨a, b, c, d⟩ := t
  obtain ⟨h1, h2, h3, h4⟩ := hn
  simp only at h1 h2 h3 h4 z1 z2 l1 ⊢
  obtain ⟨q1, q2, q3⟩ := ltm_ok h3 h4 l1 z1 z2
  obtain ⟨k, hk⟩ := Int.eq_ofNat_of_zero_le (show 0 ≤ ltm a b c d by omega)
  rw [hk] at q1 q2 q3
  refine ⟨k, hk, by omega, ⟨by show 0 ≤ a - k * c; omega, by show 0 ≤ b - k * d; omega, h3, h4⟩, ?_⟩
  unfold sum4 subR
  simp only
  have g1 : 0 ≤ (k : Int) * c := Int.mul_nonneg (by omega) h3
  have g2 : 0 ≤ (k : Int) * d := Int.mul_nonneg (by omega) h4
  have g3 : (k : Int) ≤ k * c + k * d := by
    rw [← Int.mul_add]
    have := Int.mul_le_mul_of_nonneg_left (show (1 : Int) ≤ c + d by omega) (show (0 : Int) ≤ k by omega)
    omega
  omega
theorem stepL_ok {t : T4} (hn : Nn t) (hd : 0 < det4 t) (hb : bL t = true) : ∃ k : Nat, ltm t.2.2.1 t.2.2.2 t.1 t.2.1 = (k : Int) ∧ 1 ≤ k ∧ Nn (subL k t) ∧ sum4 (subL k t) + k ≤ sum4 t := by
  obtain ⟨z1, z2⟩ := bL_of hb
  obtain ⟨_, l1⟩ := low_pos hn hd
  obtain ⟨a, b, c, d⟩ := t
  obtain ⟨h1, h2, h3, h4⟩ := hn
  simp only at h1 h2 h3 h4 z1 z2 l1 ⊢
  obtain ⟨q1, q2, q3⟩ := ltm_ok h1 h2 l1 z1 z2
  obtain ⟨k, hk⟩ := Int.eq_ofNat_of_zero_le (show 0 ≤ ltm c d a b by omega)
  rw [hk] at q1 q2 q3
  refine ⟨k, hk, by omega, ⟨h1, h2, by show 0 ≤ c - k * a; omega, by show 0 ≤ d - k * b; omega⟩, ?_⟩
  unfold sum4 subL
  simp only
  have g1 : 0 ≤ (k : Int) * a := Int.mul_nonneg (by omega) h1
  have g2 : 0 ≤ (k : Int) * b := Int.mul_nonneg (by omega) h2
  have g3 : (k : Int) ≤ k * a + k * b := by
    rw [← Int.mul_add]
    have := Int.mul_le_mul_of_nonneg_left (show (1 : Int) ≤ a + b by omega) (show (0 : Int) ≤ k by omega)
    omega
  omega
theorem len_sum {t : T4} : ∀ {w : List Nat} {u : T4}, LR w → Nn u → 0 < det4 t → mul4 (wL w) u = t → w.length + sum4 u ≤ sum4 t
  | [], u, _, _, _, e => by rw [wL_nil, one_mul4] at e; rw [e]; simp
  | c :: w, u, hl, hn, hd, e => by
    rw [wL_cons, mul_assoc4] at e
    have hn1 : Nn (mul4 (wL w) u) := (nn_wL w).mul hn
    have hd1 : 0 < det4 (mul4 (wL w) u) := by rw [← e, det_mul, det_turn, Int.one_mul] at hd; exact hd
    have ih := len_sum (t := mul4 (wL w) u) (fun d h => hl d (List.mem_cons_of_mem _ h)) hn hd1 rfl
    generalize mul4 (wL w) u = t1 at e hn1 hd1 ih
    obtain ⟨l1, l2⟩ := low_pos hn1 hd1
    obtain ⟨h1, h2, h3, h4⟩ := hn1
    rw [← e, List.length_cons]
    rcases hl c List.mem_cons_self with rfl | rfl
    · rw [turn_L, mul_L]; unfold sum4 at ih ⊢; simp only at ih ⊢; omega
    · rw [turn_R, mul_R]; unfold sum4 at ih ⊢; simp only at ih ⊢; omega
theorem fold_rep (x : Array Nat) : ∀ (n : Nat) (acc : Array Nat), ((List.replicate n x).foldl (· ++ ·) acc).toList = acc.toList ++ (List.replicate n x.toList).flatten
  | 0, acc => by simp
  | n + 1, acc => by
    rw [List.replicate_succ, List.foldl_cons, fold_rep x n, List.replicate_succ, List.flatten_cons]
    simp
def rMulS : R2 := fun x y H Q => ∃ a n, x = .str a ∧ y = .int n ∧ MulOk a n ∧ Q (.str (Txt.mul a n)) H
theorem op_mulS {X : Cx} : OpR X (binaryOp .Mult) rMulS := by
  intro pins s σ H x y v u Q I rx ry h
  obtain ⟨i, j, rfl, rfl, hz, q⟩ := h
  obtain ⟨t, rfl⟩ := rx
  obtain ⟨t', rfl⟩ := ry
  exact SB.mul hz fun t'' k => ⟨.str _, H, I.tok _, ⟨_, rfl⟩, q⟩
def mulSD (_ : Sto) (x y : D) (φ : D → Prop) : Prop := match x, y with
  | .str a, .int n => MulOk a n ∧ φ (.str (Txt.mul a n))
  | _, _ => False
theorem ok_mulS {K : PySem.W.Frag} : Ok2 K rMulS mulSD := fun M H G x y v u φ Q w rx ry h k => by
  unfold mulSD at h
  split at h
  · cases rx; cases ry; exact ⟨_, _, rfl, rfl, h.1, k _ _ _ _ h.2 (Grow.refl w.sub) .str⟩
  · exact h.elim
theorem de_mulS {X : Cx} {B : Bs} {a b : Expr} {fa fb : DTE} {pos : Pos} (ha : DE X B a fa) (hb : DE X B b fb) : DE X B (.BinOp a .Mult b pos) (fun r M Ψ => fa r M fun x M1 => fb r M1 fun y M2 => mulSD M2 x y fun z => Ψ z M2) := de_op op_mulS ok_mulS ha hb
theorem rs_upd {M : Sto} {p : Addr} {c : Cell} (h : M p = none) : rs M (updM M p c) = M := by
  funext a
  unfold rs
  by_cases e : a = p
  · subst e; rw [h]
  · rw [updM_ne e]
    cases M a <;> rfl
end Z
namespace Z
section
open PySem PySem.SeqAt GQ
open AutoSeq1 (wpAny_loadPart')
open MeetsSeq MeetsSeq2 MeetsSeq3 SeqRoads2
variable {prog : Program} {w : World} {A : Around} {R : Result → Shared → Prop}
end
section
open PySem PySem.SeqAt GQ
variable {prog : Program} {w : World} {A : Around} {E : Value → Shared → Prop} {s : Shared}
end
open PySem PySem.Spec PyProof.Rows L2
section
variable {X : Cx} {j : Nat} {own : D → D → Sto → Prop}
end
section
variable {X : Cx} {B : Bs} {k j : Nat} {c : Ct} {pos : Pos} {a b : Expr} {fa fb : DTE} {C : Addr} {bs : List (Nat × List Str × (List D → List D → List D))}
end
end Z
namespace Z
open PySem PySem.Spec PyProof.Rows L2
theorem getS_z {d : D} {r : En} {k : D → Prop} : getS (some d :: r) 0 k = k d := rfl
theorem getS_s {o : Option D} {r : En} {i : Nat} {k : D → Prop} : getS (o :: r) (i + 1) k = getS r i k := rfl
theorem cmp_i {p : Int → Int → Bool} {M : Sto} {i j : Int} {φ : D → Prop} : cmpD p M (.int i) (.int j) φ = φ (.bl (p i j)) := rfl
theorem add_i {M : Sto} {i j : Int} {φ : D → Prop} : addD M (.int i) (.int j) φ = φ (.int (i + j)) := rfl
theorem min2_i {M : Sto} {i j : Int} {φ : PD} : min2D M [.int i, .int j] φ = φ (.int (if j < i then j else i)) M := rfl
theorem max2_i {M : Sto} {i j : Int} {φ : PD} : max2D M [.int i, .int j] φ = φ (.int (if j > i then j else i)) M := rfl
theorem sub_i {M : Sto} {i j : Int} {φ : D → Prop} : subD M (.int i) (.int j) φ = φ (.int (i - j)) := rfl
theorem bl_v {φ : Bool → Prop} {p : Bool} (h : φ p) : blD φ (.bl p) := bl_c (fun e => by rw [e] at h; exact h) fun e => by rw [e] at h; exact h
theorem abs_sum {t : T4} : t.1.natAbs ≤ sum4 t ∧ t.2.1.natAbs ≤ sum4 t ∧ t.2.2.1.natAbs ≤ sum4 t ∧ t.2.2.2.natAbs ≤ sum4 t := by unfold sum4; omega
theorem append_of {M : Sto} {p : Addr} {l : List D} {d : D} {φ : PD} (e : M p = some (.lst l)) (hl : l.length < sizeLine) (h : φ .non (updM M p (.lst (l ++ [d])))) : appendD M (.ref p) [d] φ := by
  unfold appendD
  exact lstAt_of e ⟨hl, h⟩
end Z
namespace Z
open PySem PySem.Spec PyProof.Rows L2
section
variable {X : Cx} {B : Bs} {pos : Pos} {a b c : Expr} {es : List Expr} {fa fb : DTE} {ta tb : DTT}
abbrev isV (v : D) (M : Sto) : PD := fun y M' => y = v ∧ M' = M
theorem de_andV (ha : DE X B a fa) (hb : DE X B (.BoolOp .And (b :: es) pos) fb) : DE X B (.BoolOp .And (a :: b :: es) pos) (fun r M Ψ => fa r M fun x M1 => blD (fun p => ∃ q : Bool, (p = true → fb r M1 (isV (.bl q) M1)) ∧ Ψ (.bl (p && q)) M1) x) :=
  PE_imp (pe_and ha hb) fun σ H Q ⟨r, M, G, Ψ, R, h, k⟩ => by
    refine ⟨r, M, G, _, R, h, fun d M1 v H1 G1 q R1 s1 p1 => ?_⟩
    unfold blD at q
    cases p1 with
    | @bl c =>
      refine ⟨c, rfl, ?_⟩
      obtain ⟨z, hz, q⟩ := q
      cases c with
      | true => exact ⟨r, M1, G1, _, R1, hz rfl, fun d M' v H' G' q' R' s p => by
          obtain ⟨rfl, rfl⟩ := q'
          exact k _ _ _ _ _ q R' (s1.tr s) p⟩
      | false => exact k _ _ _ _ _ q R1 s1 .bl
    | _ => exact q.elim
theorem de_ifV (hc : DT X B c ta) (ha : DE X B a fa) (hb : DE X B b fb) : DE X B (.IfExp c a b pos) (fun r M Ψ => ta r M fun t M1 => ∃ v : D, (t = true → fa r M1 (isV v M1)) ∧ (t = false → fb r M1 (isV v M1)) ∧ Ψ v M1) :=
  PE_imp (pe_ifExp hc ha hb) fun σ H Q ⟨r, M, G, Ψ, R, h, k⟩ => by
    refine ⟨r, M, G, _, R, h, fun t M1 H1 G1 q R1 s1 => ?_⟩
    obtain ⟨v, h1, h2, q⟩ := q
    cases t with
    | true => exact ⟨r, M1, G1, _, R1, h1 rfl, fun d M' v H' G' q' R' s p => by
        obtain ⟨rfl, rfl⟩ := q'
        exact k _ _ _ _ _ q R' (s1.tr s) p⟩
    | false => exact ⟨r, M1, G1, _, R1, h2 rfl, fun d M' v H' G' q' R' s p => by
        obtain ⟨rfl, rfl⟩ := q'
        exact k _ _ _ _ _ q R' (s1.tr s) p⟩
theorem dw_andV (ha : DT X B a ta) (hb : DW X B (.BoolOp .And (b :: es) pos) tb) : DW X B (.BoolOp .And (a :: b :: es) pos) (fun r M Ψ => ta r M fun p M1 => ∃ q : Bool, (p = true → tb r M1 fun z M2 => z = q ∧ M2 = M1) ∧ Ψ (p && q) M1) :=
  PW_imp (pw_and ha hb) fun σ H Q ⟨r, M, G, Ψ, R, h, k⟩ => by
    refine ⟨r, M, G, _, R, h, fun c M1 H1 G1 q R1 s1 => ?_⟩
    obtain ⟨z, hz, q⟩ := q
    cases c with
    | true => exact ⟨r, M1, G1, _, R1, hz rfl, fun b M' H' G' q' R' s => by
        obtain ⟨rfl, rfl⟩ := q'
        exact k _ _ _ _ q R' (s1.tr s)⟩
    | false => exact k _ _ _ _ q R1 s1
theorem dw_orV (ha : DT X B a ta) (hb : DW X B (.BoolOp .Or (b :: es) pos) tb) : DW X B (.BoolOp .Or (a :: b :: es) pos) (fun r M Ψ => ta r M fun p M1 => ∃ q : Bool, (p = false → tb r M1 fun z M2 => z = q ∧ M2 = M1) ∧ Ψ (p || q) M1) :=
  PW_imp (pw_or ha hb) fun σ H Q ⟨r, M, G, Ψ, R, h, k⟩ => by
    refine ⟨r, M, G, _, R, h, fun c M1 H1 G1 q R1 s1 => ?_⟩
    obtain ⟨z, hz, q⟩ := q
    cases c with
    | false => exact ⟨r, M1, G1, _, R1, hz rfl, fun b M' H' G' q' R' s => by
        obtain ⟨rfl, rfl⟩ := q'
        exact k _ _ _ _ q R' (s1.tr s)⟩
    | true => exact k _ _ _ _ q R1 s1
end
end Z
namespace Z
open PySem PySem.Spec PyProof.Rows L2
theorem sz_le {x : Str} {n : Nat} (h : x.length ≤ n) (hn : n ≤ 1000000) : x.length ≤ sizeLine := Nat.le_trans h (Nat.le_trans hn big_ok)
theorem ix_t {M : Sto} {l : List D} {i : Int} {d : D} {φ : D → Prop} (e : L2.atI l i = some d) (h : φ d) : ixD M (.tup l) (.int i) φ := optK_of e h
theorem ix_l {M : Sto} {l : List D} {i : Int} {d : D} {φ : D → Prop} (e : L2.atI l i = some d) (h : φ d) : ixD M (.lst l) (.int i) φ := optK_of e h
def wds : Nat → List (List Nat)
  | 0 => [[]]
  | n + 1 => [] :: ((wds n).map (76 :: ·) ++ (wds n).map (82 :: ·))
theorem mem_wds : ∀ {n : Nat} {w : List Nat}, LR w → w.length ≤ n → w ∈ wds n
  | 0, [], _, _ => by simp [wds]
  | 0, c :: w, _, h => by simp at h
  | n + 1, [], _, _ => List.mem_cons_self
  | n + 1, c :: w, hl, h => by
    have ih := mem_wds (n := n) (w := w) (fun d hd => hl d (List.mem_cons_of_mem _ hd)) (by simpa using h)
    refine List.mem_cons_of_mem _ (List.mem_append.mpr ?_)
    rcases hl c List.mem_cons_self with rfl | rfl
    · exact .inl (List.mem_map.mpr ⟨w, ih, rfl⟩)
    · exact .inr (List.mem_map.mpr ⟨w, ih, rfl⟩)
theorem wds3 : ∀ w ∈ wds 3, (wL w).1 ≤ 3 ∧ (wL w).2.1 ≤ 3 ∧ (wL w).2.2.1 ≤ 3 ∧ (wL w).2.2.2 ≤ 3 := by decide +kernel
theorem w3_le {w : List Nat} (h : LR w) (hl : w.length ≤ 3) : (wL w).1 ≤ 3 ∧ (wL w).2.1 ≤ 3 ∧ (wL w).2.2.1 ≤ 3 ∧ (wL w).2.2.2 ≤ 3 := wds3 w (mem_wds h hl)
structure Le4 (n : Int) (t : T4) : Prop where
  a : t.1 ≤ n
  b : t.2.1 ≤ n
  c : t.2.2.1 ≤ n
  d : t.2.2.2 ≤ n
theorem le_two {x y z w m n : Int} (hx : 0 ≤ x) (hy : 0 ≤ y) (h1 : x ≤ m) (h2 : y ≤ m) (h3 : z ≤ n) (h4 : w ≤ n) (hn : 0 ≤ n) : x * z + y * w ≤ 2 * m * n := by
  have k1 : x * z ≤ x * n := Int.mul_le_mul_of_nonneg_left h3 hx
  have k2 : x * n ≤ m * n := Int.mul_le_mul_of_nonneg_right h1 hn
  have k3 : y * w ≤ y * n := Int.mul_le_mul_of_nonneg_left h4 hy
  have k4 : y * n ≤ m * n := Int.mul_le_mul_of_nonneg_right h2 hn
  have : 2 * m * n = m * n + m * n := by rw [Int.mul_assoc, Int.two_mul]
  omega
theorem Le4.mul {s t : T4} {m n : Int} (hs : Nn s) (h1 : Le4 m s) (h2 : Le4 n t) (hn : 0 ≤ n) : Le4 (2 * m * n) (mul4 s t) :=
  ⟨le_two hs.1 hs.2.1 h1.a h1.b h2.a h2.c hn, le_two hs.1 hs.2.1 h1.a h1.b h2.b h2.d hn, le_two hs.2.2.1 hs.2.2.2 h1.c h1.d h2.a h2.c hn, le_two hs.2.2.1 hs.2.2.2 h1.c h1.d h2.b h2.d hn⟩
theorem Le4.sum {t : T4} {n : Nat} (hn : Nn t) (h : Le4 n t) : sum4 t ≤ 4 * n := by
  obtain ⟨h1, h2, h3, h4⟩ := hn
  obtain ⟨k1, k2, k3, k4⟩ := h
  unfold sum4
  omega
def sw4' (t : T4) : T4 := (t.2.1, t.1, t.2.2.2, t.2.2.1)
theorem det_sw' (t : T4) : det4 (sw4' t) = - det4 t := by unfold det4 sw4'; simp only; grind
theorem nn_sc' {m : Int} {t : T4} (hm : 0 ≤ m) (h : Nn t) : Nn (sc m t) := ⟨Int.mul_nonneg hm h.1, Int.mul_nonneg hm h.2.1, Int.mul_nonneg hm h.2.2.1, Int.mul_nonneg hm h.2.2.2⟩
theorem det_sc_pos {m : Int} {t : T4} (hm : 1 ≤ m) (h : 0 < det4 t) : 0 < det4 (sc m t) := by
  rw [det_sc']
  exact Int.mul_pos (Int.mul_pos (by omega) (by omega)) h
theorem sum_sc {m : Int} {t : T4} : sum4 (sc m t) = m.natAbs * sum4 t := by
  unfold sum4 sc
  simp only [Int.natAbs_mul, Nat.mul_add]
theorem sum_sw (t : T4) : sum4 (sw4' t) = sum4 t := by unfold sum4 sw4'; simp only; omega
theorem sm_of_sum {t : T4} {n : Nat} (h : sum4 t < 2 ^ n) : Sm n t := by
  obtain ⟨h1, h2, h3, h4⟩ := abs_sum (t := t)
  exact ⟨by omega, by omega, by omega, by omega⟩
theorem mul_sc4 (m : Int) (s t : T4) : mul4 s (sc m t) = sc m (mul4 s t) := by
  unfold mul4 sc
  simp only [Prod.mk.injEq]
  refine ⟨?_, ?_, ?_, ?_⟩ <;> grind
theorem Tk.app {t u : T4} {v w : List Nat} (hv : LR v) (h : Tk t w u) : Tk (mul4 (wL v) t) (v ++ w) u :=
  ⟨fun c hc => (List.mem_append.mp hc).elim (hv c) (h.lr c), by rw [wL_app, mul_assoc4, h.eq], h.nn, h.bal⟩
end Z
namespace Z
open PySem PySem.Spec PyProof.Rows L2
def rtN : Nat → Nat
  | 0 => 0
  | n + 1 => if (rtN n + 1) * (rtN n + 1) ≤ n + 1 then rtN n + 1 else rtN n
def rtI (u : Int) : Int := rtN u.toNat
def Sq (u : Int) : Prop := rtI u * rtI u = u
instance (u : Int) : Decidable (Sq u) := inferInstanceAs (Decidable (rtI u * rtI u = u))
abbrev T3 := Int × Int × Int
def sgI (b : Int) : Int := if 0 < b then 1 else -1
def gF2 (t b u : Int) : Int := (gN [t + rtI u, b] : Int) * sgI b
def gI3 (t b u : Int) : Int := (gN [b * b, 2 * t * b, t * t - u] : Int) * sgI b
def nf (t b u : Int) : T3 :=
  if Sq u then ((t + rtI u).fdiv (gF2 t b u), b.fdiv (gF2 t b u), 0)
  else (-((-2 * t * b).fdiv (gI3 t b u)), 2 * (b * b).fdiv (gI3 t b u), (-2 * t * b).fdiv (gI3 t b u) * (-2 * t * b).fdiv (gI3 t b u) - 4 * (b * b).fdiv (gI3 t b u) * (t * t - u).fdiv (gI3 t b u))
theorem sz2 {x y : Str} {n m : Nat} (h : x.length ≤ n) (h' : y.length ≤ m) (hn : n + m ≤ 1000000) : x.length + y.length ≤ sizeLine := Nat.le_trans (Nat.add_le_add h h') (Nat.le_trans hn big_ok)
end Z
namespace Z
open PySem PySem.Spec PyProof.Rows L2
def s3 (x : Int) : Int := if 0 < x then 1 else if x < 0 then -1 else 0
def Gp (a p : Int) : Prop := 0 < a ∨ a * a < p
def Gm (a p : Int) : Prop := 0 < a ∧ p < a * a
def Gt (a b u : Int) : Prop := (0 ≤ b ∧ Gp a (b * b * u)) ∨ (b < 0 ∧ Gm a (b * b * u))
def Lt (a b u : Int) : Prop := Gt (-a) (-b) u
end Z
namespace Z
open PySem PySem.Spec PyProof.Rows L2
end Z
namespace Z
open PySem PySem.Spec PyProof.Rows L2
end Z
namespace Z
open PySem PySem.Spec PyProof.Rows L2
end Z
namespace Z
open PySem PySem.Spec PyProof.Rows L2
end Z
namespace Z
open PySem PySem.Spec PyProof.Rows L2

def TestOk (X : Cx) (t : Expr) (m : Value → Option Bool) : Prop :=
  ∀ (a : Addr) (oe : Obj) (pn pins : List (Addr × Obj)) (σ : L2.St) (H : Hp) (s : Shared) (b : Bool) (R : Bool → Shared → Prop) (E : Value → Shared → Prop),
    L2.Inv (X.suite a ((a, oe) :: pn)) pins σ H s → s.heap.get? a = some oe → m oe.cls = some b → (∀ h' t', (∀ q o, s.heap.get? q = some o → h'.get? q = some o) → R b { s with heap := h', toks := t' }) →
    wpAny (model X.prog X.w) (X.A.mark (some (.ref a))) (eval t X.env) (fun c s1 => wpAny (model X.prog X.w) (X.A.mark (some (.ref a))) (excMatches (.ref a) c) R E s1) E s
theorem ty_at {X : Cx} {h : Heap} {a : Addr} {oe : Obj} (e : h.get? a = some oe) : PySem.W.Looks (model X.prog X.w) h (typeOf (.ref a)) oe.cls := fun A Q E s k q => wpAny_typeOf_ref (k _ _ e) q
theorem test1 {X : Cx} {x : Str} {c : Value} {np : Pos} (hc : Names X x c) : TestOk X (.Name x np) fun cls => PySem.W.exmOne X.K cls c := fun a oe pn pins σ H s b R E I he hm k => by
  have LM := PySem.W.exm_one (M := model X.prog X.w) I.kIn (ty_at (X := X) he) hm
  have fin := k s.heap s.toks fun _ _ z => z
  obtain ⟨hg, hd, hm | ⟨hm, hv, hn⟩⟩ := hc
  · exact ld_glob (X := X.suite a ((a, oe) :: pn)) I hg hm (LM.here fin) hd
  · exact ld_blt (X := X.suite a ((a, oe) :: pn)) I hg hm hv (LM.here fin) hn hd
theorem test2 {X : Cx} {x y : Str} {c d : Value} {p1 p2 tp : Pos} {kk : Nat} (hx : Names X x c) (hy : Names X y d) : TestOk X (.Tuple [.Name x p1, .Name y p2] kk tp) fun cls => PySem.W.exmAny X.K cls [c, d] := fun a oe pn pins σ H s b R E I he hm k => by
  have ld : ∀ {z : Str} {u : Value} {pos : Pos} {Q : Value → Shared → Prop}, Names X z u → Q u s → wpAny (model X.prog X.w) (X.A.mark (some (.ref a))) (eval (.Name z pos) X.env) Q E s := fun {z u pos Q} hc q => by
    obtain ⟨hg, hd, hm | ⟨hm, hv, hn⟩⟩ := hc
    · exact ld_glob (X := X.suite a ((a, oe) :: pn)) I hg hm q hd
    · exact ld_blt (X := X.suite a ((a, oe) :: pn)) I hg hm hv q hn hd
  refine wpAny_Tuple (wpAny_items_cons (ld hx (wpAny_items_cons (ld hy (wpAny_items_nil ⟨by size_fits, ?_⟩)))))
  have kp : ∀ q o, s.heap.get? q = some o → (s.heap.push { cls := .type "tuple", data := .seq [c, d].toArray }).get? q = some o := fun _ _ z => Heap.get?_push_of_some _ z
  exact (PySem.W.exm_tup2 (I.kIn.keeps kp) ((ty_at (X := X) he).keeps kp) (Heap.get?_push_size s.heap rfl) hm).here (k _ s.toks kp)
theorem fly_keeps {B h h' : Heap} {l : List Env} {a : Addr} {Z : Obj → Prop} (f : HandSPX.FlyingZ B l a Z h) (k : ∀ b o, h.get? b = some o → h'.get? b = some o) : HandSPX.FlyingZ B l a Z h' := by
  obtain ⟨f1, f2, f3, oe, vs, T, oT, ts, he, hz, hd, h1, hn, hne, hT, hdT, h3⟩ := f
  exact ⟨fun b o q => k b o (f1 b o q), f2, f3.of_keeps fun b o q _ => ⟨o, k b o q, rfl⟩, oe, vs, T, oT, ts, k _ _ he, hz, hd, h1, hn, hne, k _ _ hT, hdT, h3⟩
structure Clause where
  m : Value → Option Bool
  i : Nat
  ts : Addr → Value → Option Addr → TS
inductive ClsOk (X : Cx) : List ExceptHandler → List Clause → Prop
  | nil : ClsOk X [] []
  | cons {t : Expr} {n : Str} {b₀ : Stmt} {suite : List Stmt} {pos : Pos} {hds : List ExceptHandler} {l : List Clause} {c : Clause} (ht : TestOk X t c.m) (hi : X.N[c.i]? = some n) (hl : X.env.kindOf n = some .local)
      (hs : ∀ (a : Addr) (oe : Obj) (cls : Value) (d : Option Addr) (pn : List (Addr × Obj)), Zc cls d oe → (∃ vs, oe.data = .fields vs) → PSs (X.suite a ((a, oe) :: pn)) (b₀ :: suite) (c.ts a cls d)) (r : ClsOk X hds l) :
      ClsOk X (.ExceptHandler (some t) (some n) (b₀ :: suite) pos :: hds) (c :: l)
def Ends.gone (D : Ends) (i : Nat) : Ends := { nx := fun σ H => D.nx (σ.set i none) H, rt := D.rt, bk := fun σ H => D.bk (σ.set i none) H, ct := fun σ H => D.ct (σ.set i none) H }
def wCls (Wout : WX) (D : Ends) : List Clause → WX
  | [] => Wout
  | c :: r => fun cls d σ H => ∃ b, c.m cls = some b ∧ (b = true → ∀ a, H a = none → c.ts a cls d (Ends.gone D c.i) (σ.set c.i (some (.ref a))) H) ∧ (b = false → wCls Wout D r cls d σ H)
section
variable {X : Cx} {Wout : WX} {D : Ends} {pins : List (Addr × Obj)} {σ : L2.St} {H : Hp} {sI : Shared} {a : Addr} {cls : Value} {d : Option Addr} {B : Heap}
structure Catch (X : Cx) (pins : List (Addr × Obj)) (σ : L2.St) (H : Hp) (sI s : Shared) (a : Addr) (cls : Value) (d : Option Addr) (B : Heap) : Prop where
  inv : L2.Inv X pins σ H sI
  nb : ∀ b o, sI.heap.get? b = some o → b ∉ frs X.stack → B.get? b = some o
  up : sI.heap.UpToSlots s.heap
  fly : HandSPX.FlyingZ B (X.env :: X.outer) a (Zc cls d) s.heap
  na : H a = none
  os : s.os = sI.os
  ag : AllBare s.gens
theorem Catch.now (c : Catch X pins σ H sI s a cls d B) : L2.Inv X pins σ H s := c.inv.landed c.nb c.fly.1 c.up c.os c.ag
theorem Catch.on {s : Shared} (c : Catch X pins σ H sI s a cls d B) {h' : Heap} {t' : Nat} (f : HandSPX.FlyingZ B (X.env :: X.outer) a (Zc cls d) h') (u : s.heap.UpToSlots h') : Catch X pins σ H sI { s with heap := h', toks := t' } a cls d B :=
  ⟨c.inv, c.nb, c.up.trans u, f, c.na, c.os, c.ag⟩
theorem Catch.obj {s : Shared} (c : Catch X pins σ H sI s a cls d B) (hf : X.env.frame = some X.env.locals) : ∃ oe, s.heap.get? a = some oe ∧ Zc cls d oe ∧ (∃ vs, oe.data = .fields vs) ∧ L2.Inv (X.suite a ((a, oe) :: (X.pn ++ pins))) [] σ H s := by
  obtain ⟨oe, vs, he, hz, hd⟩ := c.fly.there
  have nfr : a ∉ frs (X.env :: X.outer) := fun hm => by
    obtain ⟨_, o, e, hn⟩ := c.fly.2.2.1.mem hm
    rw [he] at e; cases e
    exact hn _ hd
  have nL : a ≠ X.env.locals := fun z => nfr (List.mem_filterMap.mpr ⟨X.env, List.mem_cons_self, by rw [hf, z]⟩)
  have nF : a ∉ X.fs := fun hm => by
    obtain ⟨e, h1, h2⟩ := List.mem_filterMap.mp hm
    exact nfr (List.mem_filterMap.mpr ⟨e, List.mem_cons_of_mem _ h1, h2⟩)
  exact ⟨oe, he, hz, ⟨vs, hd⟩, c.now.suite he hd c.na nL nF⟩
theorem Catch.out {s : Shared} (c : Catch X pins σ H sI s a cls d B) (hs : X.stack = X.env :: X.outer) (hf : X.env.frame = some X.env.locals) (tk : Takes X Wout) (w : Wout cls d σ H) {Q : Flow → Shared → Prop} :
    wpAny (model X.prog X.w) X.A (handleBy (.ref a) X.env []) Q X.xe s := by
  refine wpAny_handleBy_nil ?_
  obtain ⟨_, _, _, oe, vs, T, oT, ts, he, _, hd, h1, _⟩ := id c.fly
  have fin : wpAny (model X.prog X.w) X.A (setFlight (.ref a) X.env.frame) (fun _ s4 => wpAny (model X.prog X.w) X.A (throw (.ref a) : Sem Flow) Q X.xe s4) X.xe s := by
    rw [hf]
    exact HandSPX.setFlight_upZ c.fly fun h4 k4 u4 => wpAny_throw (tk _ _ ⟨a, B, sI, pins, σ, H, cls, d, rfl, c.inv, c.nb, c.up.trans u4, .inr (.inr (by rw [hs]; exact k4)), c.na, c.os, c.ag, w⟩)
  unfold PySem.passOn
  refine wpAny_bind (wpAny_field he hd h1 ?_)
  rw [if_neg (by simp)]
  first
    | exact wpAny_bind fin
    | exact wpAny_bind (wpAny_pure (wpAny_bind fin))
theorem clauses_run (hs : X.stack = X.env :: X.outer) (hf : X.env.frame = some X.env.locals) (hN : X.N.Nodup) (tk : Takes X Wout) {hds : List ExceptHandler} {l : List Clause} (k : ClsOk X hds l) :
    ∀ {s : Shared}, Catch X pins σ H sI s a cls d B → wCls Wout D l cls d σ H → wpAny (model X.prog X.w) X.A (handleBy (.ref a) X.env hds) (SP X pins D) X.xe s := by
  induction k with
  | nil => exact fun c w => c.out hs hf tk w
  | @cons t n b₀ suite pos hds l cl ht hi hl hsu r ih =>
    intro s c w
    obtain ⟨b, hb, yes, no⟩ := w
    obtain ⟨oe, he, hz, hd, S⟩ := c.obj hf
    refine wpAny_handleBy_cons (codeAny_handlers_test (ht a oe (X.pn ++ pins) [] σ H s b _ _ S he (by rw [hz.1]; exact hb) fun h1 t1 k1 => ?_)) (by intro q; cases q)
    have c1 : Catch X pins σ H sI { s with heap := h1, toks := t1 } a cls d B := c.on (fly_keeps c.fly k1) (Heap.UpToSlots.of_keeps k1)
    cases b with
    | false => exact ih c1 (no rfl)
    | true =>
      refine codeAny_handlers_suite_as (HandSPX.lands_againZ c1.fly fun h2 f2 u2 => ?_)
      have c2 : Catch X pins σ H sI { s with heap := h2, toks := t1 } a cls d B := c1.on (t' := t1) f2 u2
      obtain ⟨oe2, he2, hz2, hd2, S2⟩ := c2.obj hf
      refine store_ok (X := X.suite a ((a, oe2) :: (X.pn ++ pins))) (v := .ref a) S2 hN hi (.inl hl) rfl (fun s5 S5 => ?_) (.inr hl)
      refine wpAny_mono ((hsu a oe2 cls d (X.pn ++ pins) hz2 hd2).run [] s5 _ H (Ends.gone D cl.i) S5 (yes rfl a c.na)) (fun f s6 e6 => ?_) fun _ _ z => z.elim
      have bye : ∀ {σ6 : L2.St} {H6 : Hp} {Q : Shared → Prop}, L2.Inv (X.suite a ((a, oe2) :: (X.pn ++ pins))) [] σ6 H6 s6 → (∀ s7, L2.Inv X pins (σ6.set cl.i none) H6 s7 → Q s7) →
          wpAny (model X.prog X.w) X.A (do bindName X.env n .none; unbindBehindTheSuite X.env n pos) (fun _ s7 => Q s7) X.xe s6 := fun J q => gone_ok (J.unsuite c.inv.ok) hN hi hl q
      cases f with
      | ret u =>
        obtain ⟨v, σ6, H6, J, rv, q⟩ := e6
        exact bye J fun s7 J7 => ⟨v, _, H6, J7, rv, q⟩
      | next =>
        obtain ⟨σ6, H6, J, q⟩ := e6
        exact bye J fun s7 J7 => ⟨_, H6, J7, q⟩
      | brk =>
        obtain ⟨σ6, H6, J, q⟩ := e6
        exact bye J fun s7 J7 => ⟨_, H6, J7, q⟩
      | cont =>
        obtain ⟨σ6, H6, J, q⟩ := e6
        exact bye J fun s7 J7 => ⟨_, H6, J7, q⟩
end
theorem ps_tryN {X : Cx} {Wout : WX} {body : List Stmt} {hd : ExceptHandler} {hds : List ExceptHandler} {l : List Clause} {pos : Pos} {tb : WX → TS} (hs : X.stack = X.env :: X.outer) (hf : X.env.frame = some X.env.locals) (hN : X.N.Nodup) (tk : Takes X Wout)
    (hb : ∀ (W : WX) (pn : List (Addr × Obj)) (xe : Value → Shared → Prop), Takes (X.tr pn xe) W → PassesOwn (model X.prog X.w) X.A X.env xe → PSs (X.tr pn xe) body (tb W)) (k : ClsOk X (hd :: hds) l) :
    PS X (.Try body (hd :: hds) [] [] pos) (fun D σ H => tb (wCls Wout D l) D σ H) := by
  refine ⟨fun pins s σ H D I h => ?_⟩
  have ok := I.ok
  refine wpAny_Try_except ?_
  refine wpAny_mono ((hb (wCls Wout D l) (X.pn ++ pins) _ (fun u s' x => ?_) PassesOwn.looking).run [] s σ H D (I.toTry _) h) (fun f s1 e => ?_) fun e s1 x => x
  · obtain ⟨a, B, sI, pins', σ', H', cls, d, rfl, J, nb, up, sky, na, os, ag, w⟩ := x
    have sky' : Sky B (X.env :: X.outer) a (Zc cls d) X.env.locals s'.heap := by rw [← hs]; exact sky
    refine Sky.land Zc.steady (by rw [ok.frames, hs]) hf sky' fun h3 f3 u3 => ?_
    exact clauses_run hs hf hN tk k ⟨J.ofTry ok, nb, up.trans u3, f3, na, os, ag⟩ w
  · cases f with
    | ret u =>
      obtain ⟨v, σ1, H1, J, rv, q⟩ := e
      exact ⟨v, σ1, H1, J.ofTry ok, rv, q⟩
    | next =>
      obtain ⟨σ1, H1, J, q⟩ := e
      exact wpAny_execs_nil ⟨σ1, H1, J.ofTry ok, q⟩
    | brk =>
      obtain ⟨σ1, H1, J, q⟩ := e
      exact ⟨σ1, H1, J.ofTry ok, q⟩
    | cont =>
      obtain ⟨σ1, H1, J, q⟩ := e
      exact ⟨σ1, H1, J.ofTry ok, q⟩
end Z
namespace Z
open PySem PySem.Spec PyProof.Rows L2

section
variable {X : Cx} {B : Bs} {pos : Pos} {a b e : Expr} {fa fb : DTE}
theorem dt_eqU (hu : X.A.units + 65 < cLine) (ha : DE X B a fa) (hb : DE X B b fb) : DT X B (.Compare a [.Eq] [b] pos) (bin2T eqD fa fb) := dt_cmp (op_eq.or (op_eqD (by omega))) ok_eq (nomark _) ha hb
theorem dt_inU (hu : X.A.units + 65 < cLine) (ha : DE X B a fa) (hb : DE X B b fb) (hm : behindInMarks .In b = false := by rfl) : DT X B (.Compare a [.In] [b] pos) (bin2T inD fa fb) := dt_cmp (op_in_sign.or (op_in_seq.or (op_inD hu))) ok_in hm ha hb
end

theorem wd_xd {K : PySem.W.Frag} {M : Sto} {H G : Hp} {a : Addr} {fs : List (Str × V)} (w : Wd K M H G) (h : H a = some (.xd fs)) : M a = none := by
  cases q : M a with
  | none => rfl
  | some c =>
    have z := (w.cells a c q).2
    cases c with
    | lst l => obtain ⟨_, e, _⟩ := z; rw [h] at e; cases e
    | dic l => obtain ⟨_, e, _⟩ := z; rw [h] at e; cases e
    | dit l => obtain ⟨_, e, _⟩ := z; rw [h] at e; cases e
    | ins C l => obtain ⟨_, _, e, _⟩ := z; rw [h] at e; cases e
    | tab q => obtain ⟨_, e, _⟩ := z; rw [h] at e; cases e
structure XAt (K : PySem.W.Frag) (B : Bs) (x : XD) (cls : Value) (d : Option Addr) : Prop where
  rx : RepX K B.G B.H x cls d
  nm : ∀ dd, d = some dd → B.M dd = none
theorem XAt.now {K : PySem.W.Frag} {B : Bs} {x : XD} {cls : Value} {d : Option Addr} {r : En} {M : Sto} {σ : L2.St} {H G : Hp} (h : XAt K B x cls d) (R : Rel K B r M σ H G) : RepX K G H x cls d := by
  obtain ⟨e, dd, fvs, e1, e2, e3⟩ := h.rx
  exact ⟨e, dd, fvs, e1, R.sin.keep _ _ e2 (h.nm _ e1), e3.mono R.sin.gsub⟩
section
variable {X : Cx} {B : Bs} {pos : Pos} {e : Expr} {fa : DTE} {a : Addr} {oe : Obj} {x : XD} {cls : Value} {d : Option Addr} {n : Str}
theorem de_xf {K : PySem.W.Frag} (hp : (a, oe) ∈ X.pn) (hz : Zc cls d oe) (hf : ∃ vs, oe.data = .fields vs) (hx : XAt K B x cls d) (he : DE X B e fa) (hK : X.K = K := by rfl) (hb : attributeBase e n X.env (eval e X.env) = eval e X.env := by rfl) :
    DE X B (.Attribute e n pos) (fun r M Ψ => fa r M fun y M1 => y = .ref a ∧ XfC K x.1 ∧ NoAttr K x.1 n ∧ optK (x.2.lookup n) fun v => Ψ v M1) := by
  subst hK
  refine ⟨fun pins s σ H Q I ⟨r, M, G, Ψ, R, h, k⟩ => ?_⟩
  refine attr_of hb (thn (he.run pins s σ H (fun v H1 => ∃ M1 G1, v = .ref a ∧ Rel X.K B r M1 σ H1 G1 ∧ Sub G G1 ∧ XfC X.K x.1 ∧ NoAttr X.K x.1 n ∧ optK (x.2.lookup n) fun v => Ψ v M1) I ⟨r, M, G, _, R, h, fun y M1 v H1 G1 ⟨e1, e2, e3, e4⟩ R1 s1 p1 => ?_⟩) fun u s1 hh => ?_)
  · subst e1
    cases p1
    exact ⟨M1, G1, rfl, R1, s1, e2, e3, e4⟩
  · obtain ⟨v, H1, I1, rv, M1, G1, ev, R1, s1', e2, e3, e4⟩ := hh
    subst ev
    obtain rfl : u = Value.ref a := rv
    obtain ⟨y, ey, q⟩ := optK_some e4
    obtain ⟨ec, dd, fvs, ed, edd, rf⟩ := hx.now R1
    obtain ⟨w', hw, rw'⟩ := rf.look ey
    obtain ⟨ha, _⟩ := I1.pin (a, oe) (List.mem_append_left _ hp)
    obtain ⟨vs, hd⟩ := hf
    have T' := e2
    obtain ⟨mA, hns, hr⟩ := (I1.hok dd _ edd : ObjOk X.prog X.w H1 s1.heap dd (.xd fvs))
    obtain ⟨od, ho, hl⟩ := lookIn_ns hns
    obtain ⟨u, hu, ru⟩ := RelO.some_of (v := w') (o := mA n) (by rw [← hw]; exact hr n)
    have J : PySem.W.InstAt s1.heap a oe x.1 (some od) := ⟨ha, hz.1.trans ec, by unfold PySem.W.notCls; rw [hd] <;> rfl, by rw [hz.2, ed]; exact ho⟩
    exact HandSPX.exc_get I1.kIn J T'.ga T'.gg T'.exC (PySem.W.findObj_own T'.hdC e3 rfl (by rw [hl, hu])) (handed_of ru) ⟨w', H1, I1.tok _, ru, k _ _ _ _ _ q R1 s1' rw'⟩
end
section
variable {P : Program} {w : World} {K : PySem.W.Frag} {mg : Str → Option Value} {base : Heap} {k : Nat} {f : Addr} {fd : FuncData} {N ps : List Str} {x qual : Str} {st : Stmt} {dvs : List V} {kws : List (Str × V)}
structure FnP (P : Program) (w : World) (K : PySem.W.Frag) (mg : Str → Option Value) (base : Heap) (k : Nat) (f : Addr) (fd : FuncData) (ps : List Str) (c : Addr → XD → Ct) : Prop where
  run : ∀ (A : Around) (outer : List Env) (s : Shared) (H : Hp) (args : Args) (us : List Value) (vs : List V) (Q : VK) (p : Addr × Obj) (y : XD) (cls : Value) (d : Option Addr) (G : Hp) (M : Sto) (ds : List D) (Ψ : PD), L2H.RoomH k A → L2H.PinOk outer H s p → Env0 P w K mg base A outer s H →
    BindsTo s fd args (ps.zip us) → Vals vs us → Zc cls d p.2 → (∃ vs, p.2.data = .fields vs) → Wd K M H G → RepL K G ds vs → ds.length = ps.length → RepX K G H y cls d → c p.1 y ds M Ψ noX → Post K H G M Ψ Q →
    codeAny (model P w) A (.call (.ref f) args) (CR (L2.CX P w) outer P w H s Q (fun _ _ _ => False)) s
abbrev cxP (P : Program) (w : World) (K : PySem.W.Frag) (mg : Str → Option Value) (base : Heap) (N : List Str) (qual : Str) (scope : Scope) (f : Addr) (cd : Value) (A : Around) (outer : List Env) (s : Shared) (H : Hp) (p : Addr × Obj) : Cx := L2H.cxH (L2.CX P w) P w K mg base N qual scope f cd A outer s H (fun _ _ _ => False) p
theorem fnP (F : FnZ K x qual st dvs kws f fd) (S : FnScope N ps (defScope st)) (c : Addr → XD → Ct)
    (hb : ∀ (cdv : Value) (A : Around) (outer : List Env) (s : Shared) (H : Hp) (p : Addr × Obj) (y : XD) (cls : Value) (d : Option Addr) (B : Bs), (A.deeper (envOfC qual (defScope st) s.heap.objs.size f cdv)).units + 65 < cLine → Zc cls d p.2 → (∃ vs, p.2.data = .fields vs) → XAt K B y cls d →
      ∃ t, DSs (cxP P w K mg base N qual (defScope st) f cdv A outer s H p) B (defBody st) t ∧
        ∀ (ds : List D) (Ψ : PD), ds.length = ps.length → c p.1 y ds B.M Ψ noX → t { nx := fun _ M' => rtF B.M Ψ .non M', rt := rtF B.M Ψ } (ent N.length ds) B.M) :
    FnP P w K mg base 1 f fd ps c := by
  obtain ⟨oc, od, dV, kV, doc, pm, an, cdv, ct, osl, rfl, lk, hcd, _, _⟩ := F.ex
  refine ⟨fun A outer s H args us vs Q p y cls d G M ds Ψ hr hpin e0 hbd r hz hf wd rds hl rx hc post => ?_⟩
  have KX : K.In s.heap := e0.mod.kin.keeps fun b o e => (e0.bs b o e).1
  have lim : s.heap.NoLimit := e0.mod.nolimit.keeps fun b o e => (e0.bs b o e).1
  have hkind : ∀ y ∈ ps.zip us, (defScope st).names.lookup y.1 = some .local ∨ ((defScope st).names.lookup y.1 = some .cell ∧ ((cellsFrom (s.heap.objs.size + 1) (defScope st).names []).lookup y.1).isSome = true) := fun ⟨n, v⟩ hy => by
    rcases S.par n (List.of_mem_zip hy).1 with q | q
    · exact .inl q
    · exact .inr ⟨q, PySem.W.cellsFrom_some _ _ _ (.inl q)⟩
  refine codeAny_call_function hr.depth (KX _ _ lk) rfl S.co S.gen rfl (PySem.W.codeRec_of KX hcd) (hbd _ _ _ _ ?_)
  refine wpAny_newFunctionEnv_cells S.kind hkind fun env he s1 xx => ?_
  subst he
  refine ⟨lim.keeps xx.toInCall.keep, codeAny_func ?_⟩
  have hu : (A.deeper (envOfC qual (defScope st) s.heap.objs.size f cdv)).units + 65 < cLine := by
    have := hr.un
    show A.units + 3 + 65 < cLine
    omega
  obtain ⟨t, ht, q⟩ := hb cdv A outer s H p y cls d ⟨H, G, M⟩ hu hz hf ⟨rx, fun dd e => by
    obtain ⟨_, dd', fvs, e1, e2, _⟩ := rx
    rw [e] at e1; cases e1
    exact wd_xd wd e2⟩
  have I : L2.Inv (cxP P w K mg base N qual (defScope st) f cdv A outer s H p) [] (L2.start N vs) H s1 := L2H.inv_startH S hpin e0 (rds.length.symm.trans hl) r xx
  have end_ : ∀ (d : D) (r' : En) (M' : Sto) (v : V) (σ' : L2.St) (H' G' : Hp), rtF M Ψ d M' → Rel K ⟨H, G, M⟩ r' M' σ' H' G' → Rep K G' d v → Q v H' := fun d r' M' v σ' H' G' ⟨d', M'', fr, q⟩ R' p => by
    cases fr with
    | same => exact post _ _ _ _ _ q R'.wd R'.sin p
    | drop =>
      obtain ⟨w1, s1⟩ := frz_end R'.wd R'.sin
      exact post _ _ _ _ _ q w1 s1 (p.mono frzG_sub)
    | frz n =>
      obtain ⟨w1, s1⟩ := frz_end R'.wd R'.sin
      exact post _ _ _ _ _ q w1 s1 ((p.mono frzG_sub).sb (rep_frz R'.wd n))
  have hq : liftS K ⟨H, G, M⟩ t { nx := fun _ H' => Q .non H', rt := Q } (L2.start N vs) H := by
    refine ⟨ent N.length ds, M, G, _, rel_start wd rds, q ds Ψ hl hc, ⟨fun r' M' σ' H' G' q' R' s' => ?_, fun d r' M' v σ' H' G' q' R' p => end_ d r' M' v σ' H' G' q' R' p, fun _ _ _ _ _ q' _ _ => q'.elim, fun _ _ _ _ _ q' _ _ => q'.elim⟩⟩
    exact end_ .non r' M' .non σ' H' G' q' R' .non
  refine wpAny_mono (ht.run [] s1 (L2.start N vs) H _ I hq) (fun fl s' hs => ?_) fun e s' hs => hs
  have fin : ∀ {σ' : L2.St} {H' : Hp} {v : V} {u : Value}, L2.Inv (cxP P w K mg base N qual (defScope st) f cdv A outer s H p) [] σ' H' s' → RelV v u → Q v H' → CE outer P w H s Q u s' :=
    fun {σ' H' v u} J rv q => ⟨v, H', J.os, J.bare, J.base, J.hok, rv, q⟩
  cases fl with
  | ret u =>
    obtain ⟨v, σ', H', J, rv, q⟩ := hs
    exact fin J rv q
  | next =>
    obtain ⟨σ', H', J, q⟩ := hs
    exact fin (v := V.non) (u := Value.none) J rfl q
  | brk =>
    obtain ⟨_, _, _, q⟩ := hs
    exact q.elim
  | cont =>
    obtain ⟨_, _, _, q⟩ := hs
    exact q.elim
end
structure Hf (P : Program) (w : World) (K : PySem.W.Frag) (mg : Str → Option Value) (base : Heap) (x : Str) (c : Addr → XD → Ct) : Prop where
  ex : ∃ f fd ps, mg x = some (.ref f) ∧ PySem.W.keepIn K (.ref f) = true ∧ FnP P w K mg base 1 f fd ps c ∧ BindD K fd ps (Z.pos 1)
section
variable {X : Cx} {B : Bs} {pos p : Pos} {e : Expr} {ga : DTA} {a : Addr} {oe : Obj} {y : XD} {cls : Value} {d : Option Addr} {x : Str} {c : Addr → XD → Ct} {pn : List (Addr × Obj)}
theorem de_callP (F : Hf X.prog X.w X.K X.mg X.base x c) (hr : L2H.RoomH 1 X.A) (hz : Zc cls d oe) (hf : ∃ vs, oe.data = .fields vs) (hx : XAt X.K B y cls d) (ha : DA (X.suite a ((a, oe) :: pn)) B [e] ga) (hg : Gl X x := by rfl) (hdb : (x == ("__debug__" : Str)) = false := by decide)
    (he : starEach [e] X.env = (false, eval e X.env) :: starEach [] X.env := by rfl) (hpl : (backTo pos (starEach [] X.env)).any (·.1) = false := by rfl) :
    DE (X.suite a ((a, oe) :: pn)) B (.Call (.Name x p) [e] [] pos) (fun r M Ψ => ga r M fun ds M1 => ds.length = 1 ∧ c a y ds M1 Ψ noX) := by
  obtain ⟨f, fd, ps, hm, hk, FP, hb⟩ := F.ex
  refine ⟨fun pins s σ H Q I ⟨r, M, G, Ψ, R, h, k⟩ => ?_⟩
  refine wpAny_Call_Name_kw (ld_glob (X := X.suite a ((a, oe) :: pn)) I hg hm ?_ hdb)
  refine PySem.W.callWith_K (h₀ := X.base) I.ok.mod.kin hk (thn (ha.run pos pins s σ H (fun vs H1 => ∃ ds M1 G1, ds.length = 1 ∧ c a y ds M1 Ψ noX ∧ Rel X.K B r M1 σ H1 G1 ∧ Sub G G1 ∧ RepL X.K G1 ds vs) I ⟨r, M, G, _, R, h, fun ds M1 vs H1 G1 ⟨q1, q2⟩ R1 s1 p1 => ⟨ds, M1, G1, q1, q2, R1, s1, p1⟩⟩) fun us s1 ⟨vs, H1, I1, rv, ds, M1, G1, q1, q2, R1, s1', p1⟩ => ⟨I1.kIn, ?_⟩) he hpl
  obtain ⟨hl, gl, gV, kb, rel⟩ := hb
  have u1 : us.length = 1 := by rw [← rv.length, ← p1.length]; exact q1
  have P1 := I1.pin (a, oe) (List.mem_append_left _ List.mem_cons_self)
  have hpin : L2H.PinOk X.stack H1 s1 (a, oe) := ⟨P1.1, P1.2.1, fun hm => (List.mem_cons.mp (I1.stkSub a hm)).elim P1.2.2.1 P1.2.2.2.1, P1.2.2.2.2⟩
  have rr := rel G1 ds vs [] [] p1 .nil
  refine wpAny_call (codeAny_mono (FP.run (X.A.mark (some (.ref a))) X.stack s1 H1 ⟨us, []⟩ (gl us []) (gV vs []) Q (a, oe) y cls d G1 M1 ds Ψ ⟨hr.dp, hr.un⟩ hpin I1.env0 (kb.to s1 us [] I1.kIn u1 rfl) (kb.rel rv .nil) hz hf R1.wd rr (hl ds [] q1 rfl) (hx.now R1) q2 fun d' M' v H' G' q w s p => k _ _ _ _ _ q (R1.go w s) (s1'.tr s.gsub) p) fun fr s' hq => ?_)
  cases fr with
  | error e => exact LamX.takes0 e s' (XE.of_call I1 (W := fun _ _ _ _ => False) (fun _ _ _ h => h) hq)
  | ok fl =>
    cases fl with
    | ret u => exact I1.after hq
    | next => exact False.elim hq
    | brk => exact False.elim hq
    | cont => exact False.elim hq
end
end Z
namespace Z
open PySem PySem.Spec PyProof.Rows L2

def Bs.at (H G : Hp) (M : Sto) : Bs := ⟨H, G, M⟩
theorem Rel.here {K : PySem.W.Frag} {B : Bs} {r : En} {M : Sto} {σ : L2.St} {H G : Hp} (R : Rel K B r M σ H G) : Rel K (Bs.at H G M) r M σ H G := ⟨R.wd, R.len, R.slots, Since.refl⟩
theorem Rel.back {K : PySem.W.Frag} {B : Bs} {r r' : En} {M M' : Sto} {σ σ' : L2.St} {H G H' G' : Hp} (R : Rel K B r M σ H G) (R' : Rel K (Bs.at H G M) r' M' σ' H' G') : Rel K B r' M' σ' H' G' := ⟨R'.wd, R'.len, R'.slots, Since.trans R.wd R.sin R'.sin⟩
theorem EkOk.here {K : PySem.W.Frag} {B : Bs} {r : En} {M : Sto} {σ : L2.St} {H G : Hp} {E : Ek} {D : Ends} (k : EkOk K B G E D) (R : Rel K B r M σ H G) : EkOk K (Bs.at H G M) G E D :=
  ⟨fun r' M' σ' H' G' q R' s => k.nx _ _ _ _ _ q (R.back R') s, fun d r' M' v σ' H' G' q R' p => k.rt _ _ _ _ _ _ _ q (R.back R') p, fun r' M' σ' H' G' q R' s => k.bk _ _ _ _ _ q (R.back R') s, fun r' M' σ' H' G' q R' s => k.ct _ _ _ _ _ q (R.back R') s⟩
structure ClD where
  m : Value → Option Bool
  i : Nat
  fs : Addr → XD → DTS
inductive ClsD (X : Cx) : List ExceptHandler → List ClD → Prop
  | nil : ClsD X [] []
  | cons {t : Expr} {n : Str} {b₀ : Stmt} {suite : List Stmt} {pos : Pos} {hds : List ExceptHandler} {l : List ClD} {m : Value → Option Bool} {i : Nat} {fs : Addr → XD → DTS} (ht : TestOk X t m) (hi : X.N[i]? = some n) (hl : X.env.kindOf n = some .local)
      (hs : ∀ (a : Addr) (oe : Obj) (cls : Value) (d : Option Addr) (pn : List (Addr × Obj)) (B : Bs) (y : XD), Zc cls d oe → (∃ vs, oe.data = .fields vs) → XAt X.K B y cls d → DSs (X.suite a ((a, oe) :: pn)) B (b₀ :: suite) (fs a y)) (r : ClsD X hds l) :
      ClsD X (.ExceptHandler (some t) (some n) (b₀ :: suite) pos :: hds) (⟨m, i, fs⟩ :: l)
def Ek.gone (E : Ek) (i : Nat) : Ek := { nx := fun r M => E.nx (r.set i none) M, rt := E.rt, bk := fun r M => E.bk (r.set i none) M, ct := fun r M => E.ct (r.set i none) M }
theorem EkOk.gone {K : PySem.W.Frag} {B : Bs} {G : Hp} {E : Ek} {D : Ends} (k : EkOk K B G E D) (i : Nat) : EkOk K B G (E.gone i) (Ends.gone D i) :=
  ⟨fun _ _ _ _ _ q R s => k.nx _ _ _ _ _ q (R.unset i none) s, k.rt, fun _ _ _ _ _ q R s => k.bk _ _ _ _ _ q (R.unset i none) s, fun _ _ _ _ _ q R s => k.ct _ _ _ _ _ q (R.unset i none) s⟩
def clsD (Ξ : XD → En → Sto → Prop) (E : Ek) : List ClD → XD → En → Sto → Prop
  | [] => Ξ
  | c :: l => fun x r M => ∃ b, c.m (.ref x.1) = some b ∧ (b = true → ∀ a, M a = none → c.fs a x (E.gone c.i) (r.set c.i (some (.ref a))) M) ∧ (b = false → clsD Ξ E l x r M)
def ClD.up (K : PySem.W.Frag) (c : ClD) : Clause := ⟨c.m, c.i, fun a cls d D σ H => ∃ B y, XAt K B y cls d ∧ liftS K B (c.fs a y) D σ H⟩
theorem ClsD.ok {X : Cx} : ∀ {hds : List ExceptHandler} {l : List ClD}, ClsD X hds l → ClsOk X hds (l.map (ClD.up X.K))
  | _, _, .nil => .nil
  | _, _, .cons ht hi hl hs r => .cons ht hi hl (fun a oe cls d pn hz hf => ⟨fun pins s σ H D I ⟨B, y, hx, h⟩ => (hs a oe cls d pn B y hz hf hx).run pins s σ H D I h⟩) r.ok
theorem xat_here {K : PySem.W.Frag} {M : Sto} {H G : Hp} {x : XD} {cls : Value} {d : Option Addr} (w : Wd K M H G) (rx : RepX K G H x cls d) : XAt K (Bs.at H G M) x cls d := ⟨rx, fun dd e => by
  obtain ⟨_, dd', fvs, e1, e2, _⟩ := rx
  rw [e] at e1; cases e1
  exact wd_xd w e2⟩
section
variable {X : Cx} {B : Bs} {Ξ : XD → En → Sto → Prop} {E : Ek} {D : Ends} {G0 : Hp} {r0 : En} {M0 : Sto} {σ0 : L2.St} {H0 : Hp}
theorem cls_run (R : Rel X.K B r0 M0 σ0 H0 G0) (k : EkOk X.K B G0 E D) : ∀ (l : List ClD) (cls : Value) (d : Option Addr) (σ : L2.St) (H : Hp), wOf X.K (Bs.at H0 G0 M0) (clsD Ξ E l) cls d σ H → wCls (wOf X.K B Ξ) D (l.map (ClD.up X.K)) cls d σ H
  | [], cls, d, σ, H, ⟨x, r, M, G, q, R1, rx⟩ => ⟨x, r, M, G, q, R.back R1, rx⟩
  | c :: l, cls, d, σ, H, ⟨x, r, M, G, ⟨b, hb, yes, no⟩, R1, rx⟩ => by
    have ec : cls = .ref x.1 := rx.cls
    refine ⟨b, by rw [ec]; exact hb, fun e a na => ?_, fun e => cls_run R k l cls d σ H ⟨x, r, M, G, no e, R1, rx⟩⟩
    have R2 := (R.back R1)
    refine ⟨Bs.at H G M, x, xat_here R1.wd rx, r.set c.i (some (.ref a)), M, G, E.gone c.i, (R2.here).set .ref c.i, yes e a (R1.wd.nomem na), ?_⟩
    exact ((k.mono R1.sin.gsub).here R2).gone c.i
theorem ds_tryN {body : List Stmt} {hd : ExceptHandler} {hds : List ExceptHandler} {l : List ClD} {pos : Pos} {fb : (XD → En → Sto → Prop) → DTS} (hs : X.stack = X.env :: X.outer) (hf : X.env.frame = some X.env.locals) (hN : X.N.Nodup) (z : Zx X B Ξ)
    (hb : ∀ (B1 : Bs) (pn : List (Addr × Obj)) (xe : Value → Shared → Prop) (Ξ' : XD → En → Sto → Prop), Sub B.G B1.G → Zx (X.tr pn xe) B1 Ξ' → DSs (X.tr pn xe) B1 body (fb Ξ')) (k : ClsD X (hd :: hds) l) :
    DS X B (.Try body (hd :: hds) [] [] pos) (fun E r M => fb (clsD Ξ E l) E r M) := by
  refine PS_imp (ps_tryN (tb := fun W D σ H => ∃ (B1 : Bs) (Ξ' : XD → En → Sto → Prop), Sub B.G B1.G ∧ (∀ cls d σ H, wOf X.K B1 Ξ' cls d σ H → W cls d σ H) ∧ liftS X.K B1 (fb Ξ') D σ H) hs hf hN z.tk (fun W pn xe tk po => ⟨fun pins s σ H D I ⟨B1, Ξ', hS, hW, h⟩ => (hb B1 pn xe Ξ' hS ⟨tk.imp hW, po⟩).run pins s σ H D I h⟩) k.ok) fun D σ H h => ?_
  obtain ⟨r, M, G, E, R, q, kE⟩ := EkOk.of h
  exact ⟨Bs.at H G M, clsD Ξ E l, R.sin.gsub, cls_run R kE l, r, M, G, E, R.here, q, kE.here R⟩
end
structure Lam where
  q : Str
  params : Arguments
  body : Expr
  scope : Scope
  cl : List (Str × Addr)
def lamFd (l : Lam) (dV pm cdv ct : Value) : FuncData := { name := "<lambda>", qualname := l.q, params := l.params, body := .expr l.body, scope := l.scope, globals := mainGlobals, closure := l.cl, defaults := dV, kwdefaults := .none, doc := .none, pyModule := pm, annotations := none, code := cdv, closureTuple := ct, builtins := builtinsNs }
abbrev lamO (l : Lam) (dV pm ctv : Value) (c' : Addr) : Obj := { cls := .type "function", data := .func (lamFd l dV pm (.ref c') ctv) }
def lamQ (l : Lam) (ns : List Int) (G : Hp) (a : Addr) : Prop := ∃ (dV pm ctv : Value) (c' : Addr), G a = some (.ext fun h => h.get? a = some (lamO l dV pm ctv c')) ∧ G c' = some (LamX.CodeO c' l.q) ∧
  ((ns = [] ∧ dV = .none) ∨ ∃ T, ns ≠ [] ∧ dV = .ref T ∧ G T = some (.tup (ns.map V.int)))
section
variable {X : Cx} {pins : List (Addr × Obj)} {σ : L2.St} {H : Hp} {s : Shared}
theorem mk_fn {l : Lam} {dV pm ctv : Value} {c' : Addr} {h' : Heap} {t t' : Nat} (I : L2.Inv X pins σ H { s with heap := h', toks := t }) :
    L2.Inv X pins σ (upd H h'.objs.size (.ext fun h => h.get? h'.objs.size = some (lamO l dV pm ctv c'))) { s with heap := h'.push (lamO l dV pm ctv c'), toks := t' } :=
  I.laid (fun b u e => Heap.get?_push_of_some _ e) (Nat.le_refl _) ⟨Heap.get?_push_size _ rfl, ⟨_, Heap.get?_push_size _ rfl⟩, fun h1 h2 z st => st _ z⟩
theorem lam_tail {Kn : Addr → Prop} {l : Lam} {dV : Value} {P c : Addr} {ps : Array Value} {pos : Pos} {Q : Value → Shared → Prop} {E : Value → Shared → Prop} (I : L2.Inv X pins σ H s) (TB : LamX.TabB X.base X.mg c P) (hcode : X.env.code = .ref c) (hP : H P = some (.tbl ps)) (ht : TriplesOk ps.toList)
    (ha : ∀ (pos : Pos) (cv : Value), codeAmong pos ps.toList = some cv → ∃ c, cv = .ref c ∧ Kn c ∧ H c = some (LamX.CodeO c l.q)) (hcl : closureFor l.scope X.env = pure l.cl)
    (h : ∀ (f c' : Addr) (pm ctv : Value) (H1 : Hp) (s' : Shared), L2.Inv X pins σ (upd H1 f (.ext fun h => h.get? f = some (lamO l dV pm ctv c'))) s' → H1 f = none → H1 c' = some (LamX.CodeO c' l.q) →
      ((Kn c' ∧ H1 = H) ∨ (H c' = none ∧ H1 = upd (upd H P (.tbl (ps ++ #[rawInt pos.line, rawInt pos.col, .ref c']))) c' (LamX.CodeO c' l.q))) → Q (.ref f) s') :
    wpAny (model X.prog X.w) X.A (makeTail "<lambda>" l.q l.params (.expr l.body) l.scope X.env dV .none none pos pos.line) Q E s := by
  unfold makeTail
  rw [hcl, I.ok.glob]
  refine wpAny_bind (wpAny_pure ?_)
  have p1 : wpAny (model X.prog X.w) X.A (pure .none : Sem Value) (fun _ s1 => L2.Inv X pins σ H s1) E s := wpAny_pure I
  have p2 : ∀ its, wpAny (model X.prog X.w) X.A (newTextTuple its) (fun _ s1 => L2.Inv X pins σ H s1) E s := fun its => wpAny_newTextTuple (I.kept (t' := s.toks) fun b o e => Heap.get?_push_of_some _ e)
  cases hce : l.cl.isEmpty
  case' true =>
    simp only [if_true]
    refine wpAny_bind (wpAny_mono p1 (fun ctv s1 I1 => ?_) fun _ _ x => x)
  case' false =>
    simp only [Bool.false_eq_true, if_false]
    refine wpAny_bind (wpAny_mono (p2 _) (fun ctv s1 I1 => ?_) fun _ _ x => x)
  all_goals
    have hg := I1.mod.glob.keeps I1.bk
    obtain ⟨bm, ob, hbm, hne0, _, hneP, hbo, hcls, hdict, hdata⟩ := TB.bm.keeps I1.bk
    have hP' : s1.heap.get? P = some { cls := .none, data := .fields ps } := I1.hok P _ hP
    have C := TB.code.keeps I1.bk
    cases hc : codeAmong pos ps.toList with
    | some cv =>
      obtain ⟨c', rfl, hkn, hco⟩ := ha pos cv hc
      refine wpAny_bind (wpAny_functionCode_hit hcode (C.code hP' ht) hc ?_)
      refine wpAny_bind (wpAny_builtinsFor hg hbm hne0 hbo hcls hdict hdata ?_)
      refine wpAny_bind (wpAny_nsGet hg ?_)
      refine wpAny_bind (wpAny_pure (wpAny_newObj_type ?_ (by size_fits)))
      exact h _ c' _ ctv H _ (mk_fn (l := l) (t := s1.toks) I1) (I1.hok.fresh (Nat.le_refl _)) hco (.inl ⟨hkn, rfl⟩)
    | none =>
      refine wpAny_bind (wpAny_functionCodeX hcode (C.code hP' ht) (C.tab hP') hc fun c' h' tk hx hge hlt _ hrec htb _ => ?_)
      have hg' := hg.extBut hx TB.gP
      refine wpAny_bind (wpAny_builtinsFor hg' hbm hne0 (hx _ _ hneP hbo) hcls hdict hdata ?_)
      refine wpAny_bind (wpAny_nsGet hg' ?_)
      refine wpAny_bind (wpAny_pure (wpAny_newObj_type ?_ (by size_fits)))
      obtain ⟨c2, oc, vs, t, e2, hoc, hd, hv⟩ := hrec
      cases e2
      have nC : H c' = none := I1.hok.fresh hge
      have I2 := LamX.inv_table (t' := tk) (q := l.q) (more := #[rawInt pos.line, rawInt pos.col, .ref c']) I1 hP (fun b o hb e => hx b o hb e) htb.2 hge ⟨oc, vs, t, hoc, hd, hv⟩
      have nF : upd (upd H P (.tbl (ps ++ #[rawInt pos.line, rawInt pos.col, .ref c']))) c' (LamX.CodeO c' l.q) h'.objs.size = none := I2.hok.fresh (Nat.le_refl _)
      exact h _ c' _ ctv _ _ (mk_fn (l := l) (t := tk) I2) nF upd_same (.inr ⟨nC, rfl⟩)
end
theorem tab_put {K : PySem.W.Frag} {M : Sto} {H G : Hp} {P c' : Addr} {q : Str} {ps : Array Value} {pos : Pos} (w : Wd K M H G) (hM : M P = some (.tab q)) (hP : H P = some (.tbl ps)) (ht : TriplesOk ps.toList)
    (ha : ∀ (pos : Pos) (cv : Value), codeAmong pos ps.toList = some cv → ∃ c, cv = .ref c ∧ G c = some (LamX.CodeO c q)) (nC : H c' = none) :
    Wd K M (upd (upd H P (.tbl (ps ++ #[rawInt pos.line, rawInt pos.col, .ref c']))) c' (LamX.CodeO c' q)) (upd G c' (LamX.CodeO c' q)) ∧
    Since H G M M (upd (upd H P (.tbl (ps ++ #[rawInt pos.line, rawInt pos.col, .ref c']))) c' (LamX.CodeO c' q)) (upd G c' (LamX.CodeO c' q)) := by
  have gP : G P = none := (w.cells P _ hM).1
  have nPc : P ≠ c' := ne_of_none hP nC
  have gC : G c' = none := by
    cases e : G c' with
    | none => rfl
    | some o => rw [w.sub _ _ e] at nC; cases nC
  have sg : Sub G (upd G c' (LamX.CodeO c' q)) := fun a o e => by rw [upd_ne (ne_of_none e gC)]; exact e
  have old : ∀ a o, H a = some o → a ≠ P → upd (upd H P (.tbl (ps ++ #[rawInt pos.line, rawInt pos.col, .ref c']))) c' (LamX.CodeO c' q) a = some o := fun a o e n => by rw [upd_ne (ne_of_none e nC), upd_ne n]; exact e
  refine ⟨⟨fun a o e => ?_, fun a c e => ?_⟩, ⟨fun a o e n => old a o e (fun z => by rw [z, hM] at n; cases n), fun a e => ?_, sg, fun a e n => ?_, fun a e n => absurd n e⟩⟩
  · by_cases z : a = c'
    · rw [z, upd_same] at e ⊢; exact e
    · rw [upd_ne z] at e
      exact old a o (w.sub _ _ e) (fun y => by rw [y, gP] at e; cases e)
  · obtain ⟨h1, h2⟩ := w.cells a c e
    have nc : a ≠ c' := fun z => by rw [z] at h2; exact h2.there nC
    refine ⟨by rw [upd_ne nc]; exact h1, ?_⟩
    by_cases z : a = P
    · subst z
      rw [hM] at e
      cases e
      have eL : (ps ++ #[rawInt pos.line, rawInt pos.col, .ref c']).toList = ps.toList ++ [rawInt pos.line, rawInt pos.col, .ref c'] := by simp
      refine ⟨ps ++ #[rawInt pos.line, rawInt pos.col, .ref c'], by rw [upd_ne nPc, upd_same], by rw [eL]; exact PySem.TriplesOk_snoc _ _ _ _ ht, fun p' cv hcv => ?_⟩
      rw [eL] at hcv
      rcases LamX.among_app _ ht hcv with y | y
      · obtain ⟨c0, e1, e2⟩ := ha p' cv y
        exact ⟨c0, e1, sg _ _ e2⟩
      · exact ⟨c', y, upd_same⟩
    · exact h2.move sg fun o y => old a o y z
  · cases q : H a with
    | none => exact absurd q e
    | some o =>
      by_cases z : a = P
      · rw [z, upd_ne nPc, upd_same]; simp
      · rw [old a o q z]; simp
  · by_cases z : a = c'
    · rw [z]; exact nC
    · rw [upd_ne z] at e; exact absurd n e
structure LamOk (X : Cx) (l : Lam) : Prop where
  q : X.env.qual ++ "<lambda>" = l.q
  cl : l.cl = cloFrom X.env.cells l.scope.names []
  free : ∀ y ∈ l.scope.names, y.2 = .free → X.env.scope.names.lookup y.1 = some .cell ∨ X.env.scope.names.lookup y.1 = some .free
theorem LamOk.has {X : Cx} {l : Lam} (L : LamOk X l) (ok : X.Ok) : ∀ y ∈ l.scope.names, y.2 = .free → ∃ c, X.env.cells.lookup y.1 = some c := fun y hy e => by
  rcases L.free y hy e with k | k
  · exact ok.has _ (.inl k)
  · exact ok.has _ (.inr k)
section
variable {X : Cx} {B : Bs} {pos : Pos} {l : Lam} {P c : Addr}
theorem lam_core {pins : List (Addr × Obj)} {σ : L2.St} {H G : Hp} {s : Shared} {r : En} {M : Sto} {Q : VK} {dV : Value} {ns : List Int} (I : L2.Inv X pins σ H s) (R : Rel X.K B r M σ H G) (TB : LamX.TabB X.base X.mg c P) (hcode : X.env.code = .ref c) (L : LamOk X l) (hM : M P = some (.tab l.q))
    (hdv : (ns = [] ∧ dV = .none) ∨ ∃ T, ns ≠ [] ∧ dV = .ref T ∧ G T = some (.tup (ns.map V.int)))
    (hQ : ∀ v H' G', Rel X.K B r M σ H' G' → Sub G G' → Rep X.K G' (.fn (lamQ l ns)) v → Q v H') :
    wpAny (model X.prog X.w) X.A (makeTail "<lambda>" l.q l.params (.expr l.body) l.scope X.env dV .none none pos pos.line) (EP X pins σ Q) X.xe s := by
  obtain ⟨gP, ps, hP, ht, ha⟩ := R.wd.cells P _ hM
  refine lam_tail (Kn := fun c => G c = some (LamX.CodeO c l.q)) I TB hcode hP ht (fun pos cv e => let ⟨c, e1, e2⟩ := ha pos cv e; ⟨c, e1, e2, R.wd.sub _ _ e2⟩) (by rw [L.cl]; exact closure_ok (L.has I.ok)) fun f c' pm ctv H1 s' I' nF hC hH => ?_
  have fin : ∀ G1, Rel X.K B r M σ H1 G1 → Sub G G1 → G1 c' = some (LamX.CodeO c' l.q) → EP X pins σ Q (.ref f) s' := fun G1 R1 s1 e1 => by
    have g := grow_upd (o := .ext fun h => h.get? f = some (lamO l dV pm ctv c')) R1.wd.sub nF
    have nG : G1 f = none := by
      cases q : G1 f with
      | none => rfl
      | some o => rw [R1.wd.sub _ _ q] at nF; cases nF
    refine ⟨.ref f, _, I', rfl, hQ _ _ _ (R1.grow g) (s1.tr g.gsub) (.fn Sub.rfl' ⟨dV, pm, ctv, c', upd_same, g.gsub _ _ e1, hdv.imp id fun ⟨T, a, b, d⟩ => ⟨T, a, b, g.gsub _ _ (s1 _ _ d)⟩⟩)⟩
  rcases hH with ⟨kn, e⟩ | ⟨nC, e⟩
  · subst e
    exact fin G R Sub.rfl' kn
  · subst e
    obtain ⟨w1, s1⟩ := tab_put (pos := pos) R.wd hM hP ht ha nC
    exact fin _ (R.go w1 s1) s1.gsub upd_same
end
end Z
namespace Z
open PySem PySem.Spec PyProof.Rows L2

section
variable {X : Cx} {B : Bs} {pos p1 : Pos} {l : Lam} {P c : Addr}
theorem de_lam {q : Str} {params : Arguments} {body : Expr} {scope : Scope} {cl : List (Str × Addr)} (TB : LamX.TabB X.base X.mg c P) (hcode : X.env.code = .ref c) (L : LamOk X ⟨q, params, body, scope, cl⟩) (hdef : defaultsOf params X.env = ([], [])) :
    DE X B (.Lambda params body scope pos) (fun _ M Ψ => M P = some (.tab q) ∧ Ψ (.fn (lamQ ⟨q, params, body, scope, cl⟩ [])) M) := by
  refine ⟨fun pins s σ H Q I ⟨r, M, G, Ψ, R, ⟨hM, h⟩, k⟩ => ?_⟩
  have Lq : X.env.qual ++ "<lambda>" = q := L.q
  refine PySem.W.kla_eval hdef ?_
  rw [makeFunction_eq, Lq]
  simp only [List.zip_nil_right, List.filterMap_nil, List.isEmpty_nil, if_true, pure_bind]
  exact lam_core (l := ⟨q, params, body, scope, cl⟩) I R TB hcode L hM (.inl ⟨rfl, rfl⟩) fun v H' G' R' s' p => k _ _ _ _ _ h R' s' p
end
structure LamT (X : Cx) (l : Lam) (ps : List Str) : Prop where
  kind : l.scope.kind = .function
  co : l.scope.isCoroutine = false
  gen : l.scope.isGenerator = false
  nocell : ∀ y ∈ l.scope.names, y.2 ≠ .cell
  loc : ∀ y ∈ X.N, l.scope.names.lookup y ≠ some .local
  par : ∀ y ∈ ps, l.scope.names.lookup y = some .local
  bind : (ps = [] ∧ ∀ pm cv ctv, bindArgs (lamFd l .none pm cv ctv) ⟨[], []⟩ = pure []) ∨ (ps ≠ [] ∧ ∀ (T : Addr) (pm cv ctv : Value) (its : List Value), its.length = ps.length →
    ∃ k, bindArgs (lamFd l (.ref T) pm cv ctv) ⟨[], []⟩ = seqItems? (.ref T) >>= k ∧ k (some its.toArray) = pure (ps.zip its))
section
variable {X : Cx} {pins : List (Addr × Obj)} {σ : L2.St} {H HZ : Hp} {s s1 : Shared} {l : Lam} {ps : List Str}
theorem lam_start {A : Around} {outer : List Env} {E : XK} {f c' : Addr} {h₁ : Heap} {tk : Nat} {m : Str → Option Value} (I : L2.Inv X pins σ H s) (L : LamOk X l) (T : LamT X l ps) (e0 : Env0 X.prog X.w X.K X.mg X.base A outer s1 HZ) (hd : A.handled = none)
    (un : Un (frs X.stack) [] H HZ s.heap s1.heap) (hns : h₁.Ns s1.heap.objs.size m) (kp : ∀ b o, s1.heap.get? b = some o → h₁.get? b = some o) :
    L2.Inv (LamX.lamCx X A outer s1 HZ E l.scope f c') [] σ HZ { s1 with heap := h₁, toks := tk } := by
  have hfree := L.has I.ok
  have same : ∀ {y c}, (cloFrom X.env.cells l.scope.names []).lookup y = some c → X.env.cells.lookup y = some c := fun {y c} e => by
    rcases cloFrom_mem (PySem.mem_of_lookup e) with z | ⟨h1, h2⟩
    · cases z
    · obtain ⟨c1, hc⟩ := hfree _ h1 rfl
      have hc : X.env.cells.lookup y = some c1 := hc
      rw [hc] at h2 ⊢
      rw [h2]; rfl
  have look : ∀ {y}, l.scope.names.lookup y = some .free → ∃ c, (cloFrom X.env.cells l.scope.names []).lookup y = some c := fun {y} hl => by
    have hy : (y, NameKind.free) ∈ l.scope.names := PySem.mem_of_lookup hl
    exact mem_lookup (cloFrom_has (cells := X.env.cells) (acc := []) hy)
  have cell : ∀ {c : Addr} {v : Option Value}, H c = none → s.heap.IsCell c v → h₁.IsCell c v := fun {c v} n ⟨o, ho, hd⟩ => by
    obtain ⟨sl, q⟩ := un.any ho n (by simp)
    exact ⟨_, kp _ _ q, hd⟩
  have nex : ∀ b : Addr, b ∉ (LamX.lamCx X A outer s1 HZ E l.scope f c').ex := fun b z => absurd (show b ∈ ([] : List Addr) from z) (by simp)
  have ok : (LamX.lamCx X A outer s1 HZ E l.scope f c').Ok := by
    refine ⟨e0.mod, T.kind, rfl, rfl, Nat.le_refl _, fun y z c e1 e2 => I.ok.inj y z c (same e1) (same e2), fun y hy => ?_, fun y c z _ => Bool.noConfusion (show false = true from z), fun _ => hd, Around.frames_deeper e0.frames, .inr ⟨rfl, rfl⟩, fun b z => absurd z (nex b), e0.bs, e0.bsz, fun b _ _ => nex b, fun b z => absurd z (nex b), e0.funs, e0.frf⟩
    have hy : l.scope.names.lookup y = some .cell ∨ l.scope.names.lookup y = some .free := hy
    rcases hy with hy | hy
    · exact absurd rfl (T.nocell _ (PySem.mem_of_lookup hy))
    · exact look hy
  refine ⟨ok, rfl, e0.bare, Un.kept kp, ⟨_, hns, fun i y v e1 e2 e3 => ?_⟩, fun y c e => ?_, e0.hok.fresh (Nat.le_refl _), fun y c e => ?_, fun q hq => absurd (show q ∈ ([] : List (Addr × Obj)) ++ [] from hq) (by simp), e0.hok.kept kp, I.len⟩
  · have e3 : Vis l.scope y := e3
    rcases e3 with k | k | k
    · exact absurd k (T.loc y (List.mem_of_getElem? e1))
    · exact absurd rfl (T.nocell _ (PySem.mem_of_lookup k))
    · obtain ⟨m0, hn, hl⟩ := I.loc
      have hv : Vis X.env.scope y := (L.free _ (PySem.mem_of_lookup k) rfl).elim (fun z => .inr (.inl z)) fun z => .inr (.inr z)
      obtain ⟨w', r, q⟩ := hl i y v e1 e2 hv
      obtain ⟨c2, h2⟩ := look k
      refine ⟨w', r, .inr ⟨.inr k, c2, h2, ?_⟩⟩
      have c1 := same h2
      rcases q with ⟨k', _⟩ | ⟨_, c3, e', z⟩
      · have k' : X.env.scope.names.lookup y = some .local := k'
        rcases L.free _ (PySem.mem_of_lookup k) rfl with k2 | k2 <;> rw [show X.env.scope.names.lookup y = _ from k2] at k' <;> cases k'
      · rw [c1] at e'
        cases e'
        exact cell (I.freeC y _ c1) z
  · obtain ⟨w', z⟩ := I.cell y c (same e)
    exact ⟨w', cell (I.freeC y c (same e)) z⟩
  · obtain ⟨v, o, ho, hd⟩ := I.cell y c (same e)
    exact un.free c o ho (I.freeC y c (same e)) (by simp)
end
def LamBody (X : Cx) (k : Nat) (l : Lam) (t : (XD → En → Sto → Prop) → DTE) : Prop := ∀ (A : Around) (outer : List Env) (s : Shared) (H : Hp) (E : XK) (f c' : Addr) (B : Bs) (Ξ : XD → En → Sto → Prop), Room k (A.deeper (LamX.lamEnv X l.scope s.heap.objs.size f c')) →
  Zx (LamX.lamCx X A outer s H E l.scope f c') B Ξ → DE (LamX.lamCx X A outer s H E l.scope f c') B l.body (t Ξ)
def ActOk (X : Cx) (B : Bs) (q : L2.Hp → Addr → Prop) (beh : Sto → PD → (XD → Sto → Prop) → Prop) : Prop := ∀ (a : Str) (pn : List (Addr × Obj)) (xe : Value → Shared → Prop) (B1 : Bs) (Ξ : XD → En → Sto → Prop) (p1 p2 : Pos), X.N[0]? = some a → Vis X.env.scope a → (a == ("__debug__" : Str)) = false → (a == ("__classdict__" : Str)) = false →
  Sub B.G B1.G → Zx (X.tr pn xe) B1 Ξ → DE (X.tr pn xe) B1 (.Call (.Name a p1) [] [] p2) (fun r M Ψ => getS r 0 (fun d => d = .fn q) ∧ ∃ Ψ' Ξ', beh M Ψ' Ξ' ∧ (∀ d M', Ψ' d M' → Ψ d M') ∧ ∀ x M', Ξ' x M' → Ξ x r M')
section
variable {X : Cx} {pins : List (Addr × Obj)} {σ : L2.St} {H G : Hp} {s : Shared} {l : Lam} {ps : List Str} {ns : List Int} {B : Bs} {r : En} {M : Sto} {k : Nat} {t : (XD → En → Sto → Prop) → DTE} {Ng : List Str} {qg : Str} {sg : Scope} {g : Addr} {cdg : Value} {Eg : XK} {CXg : CXT}
theorem act_ok (I : L2.Inv X pins σ H s) (R : Rel X.K B r M σ H G) (L : LamOk X l) (T : LamT X l ps) (hn : ns.length = ps.length) (hr : Room (k + 1) (X.A.deeper (envOfC qg sg s.heap.objs.size g cdg))) (hb : LamBody X k l t) :
    ActOk (cxOf CXg X.prog X.w X.K X.mg X.base Ng qg sg g cdg X.A X.stack s H Eg) (Bs.at H G M) (lamQ l ns) (fun MZ Ψ Ξ => t (fun x _ M' => Ξ x M') r MZ Ψ) := by
  intro a pn xe B1 Ξ p1 p2 hN hv hd hcd hG z
  refine ⟨fun pinsZ sZ σZ HZ Q IZ ⟨rZ, MZ, GZ, Ψ, RZ, hs, kk⟩ => ?_⟩
  obtain ⟨d, ed, ed2, Ψ', Ξ', ht, hΨ, hΞ⟩ := (show ∃ d, rZ[0]? = some (some d) ∧ d = .fn (lamQ l ns) ∧ ∃ (Ψ' : PD) (Ξ' : XD → Sto → Prop), t (fun x _ M' => Ξ' x M') r MZ Ψ' ∧ (∀ d M', Ψ' d M' → Ψ d M') ∧ ∀ x M', Ξ' x M' → Ξ x rZ M' from by
    obtain ⟨h1, h2⟩ := hs
    obtain ⟨d, e, e2⟩ := getS_some h1
    exact ⟨d, e, e2, h2⟩)
  subst ed2
  obtain ⟨v, ev, pv⟩ := RZ.slots _ _ ed
  cases pv with
  | @fn _ f G0 hsub hq =>
    obtain ⟨dV, pm, ctv, c', hf, hc, hdv⟩ := hq
    refine wpAny_Call_Name_kw (thn ((pe_var (X := (cxOf CXg X.prog X.w X.K X.mg X.base Ng qg sg g cdg X.A X.stack s H Eg).tr pn xe) (pos := p1) (i := 0) hN hv hd hcd).run pinsZ sZ σZ HZ (fun v H1 => v = .ref f ∧ H1 = HZ) IZ ⟨.ref f, ev, rfl, rfl⟩) fun u s1 ⟨v, H1, I1, r1, q1⟩ => ?_)
    obtain ⟨ev', eH⟩ := q1
    subst ev'
    rw [eH] at I1
    obtain rfl : u = Value.ref f := r1
    have of1 : s1.heap.get? f = some (lamO l dV pm ctv c') := (I1.hok f _ (RZ.wd.sub _ _ (hsub _ _ hf))).1
    refine PySem.W.callWith_F0 ⟨_, _, _, _, of1⟩ ?_
    have un : Un (frs X.stack) [] H HZ s.heap s1.heap := I1.base
    obtain ⟨⟨oc, vs, tq, hoc, hdc, hvc⟩, _, _⟩ := I1.hok c' _ (RZ.wd.sub _ _ (hsub _ _ hc))
    let E : XK := fun cls d H' => ∃ x M' G', Ξ' x M' ∧ Wd X.K M' H' G' ∧ Since HZ GZ MZ M' H' G' ∧ RepX X.K G' H' x cls d
    have RB : Rel X.K (Bs.at HZ GZ MZ) r MZ σ HZ GZ := ⟨RZ.wd, R.len, fun i d e => let ⟨v, h1, h2⟩ := R.slots i d e; ⟨v, h1, h2.mono (hG.tr RZ.sin.gsub)⟩, Since.refl⟩
    have hbd : BindsTo s1 (lamFd l dV pm (.ref c') ctv) ⟨[], []⟩ (ps.zip (ps.map fun _ => Value.none)) ∨ ∃ its : List Value, its.length = ps.length ∧ BindsTo s1 (lamFd l dV pm (.ref c') ctv) ⟨[], []⟩ (ps.zip its) := by
      rcases T.bind with ⟨e, h⟩ | ⟨e, h⟩
      · subst e
        rcases hdv with ⟨_, e2⟩ | ⟨T', e2, _⟩
        · subst e2
          exact .inl (.of_eq (h pm (.ref c') ctv))
        · exact absurd (List.length_eq_zero_iff.mp hn) e2
      · rcases hdv with ⟨e1, _⟩ | ⟨T', e1, e2, e3⟩
        · subst e1
          exact absurd (List.length_eq_zero_iff.mp hn.symm) e
        · subst e2
          obtain ⟨_, its, rv, o, ho, hcl, n, hdt⟩ := I1.hok T' _ (RZ.wd.sub _ _ (hsub _ _ e3))
          have hl : its.length = ps.length := by rw [← rv.length, List.length_map]; exact hn
          obtain ⟨kb, k1, k2⟩ := h T' pm (.ref c') ctv its hl
          refine .inr ⟨its, hl, fun M0 A0 Q0 E0 q => ?_⟩
          rw [k1]
          refine wpAny_bind (wpAny_seqItems ho hdt ?_)
          rw [k2]
          exact wpAny_pure q
    have par : ∀ {its : List Value}, ∀ y ∈ ps.zip its, l.scope.names.lookup y.1 = some .local := fun {its} y hy => T.par _ (List.of_mem_zip hy).1
    have rc : codeAny (model X.prog X.w) (X.A.deeper (envOfC qg sg s.heap.objs.size g cdg)) (.call (.ref f) ⟨[], []⟩) (CR (L2.CX X.prog X.w) (envOfC qg sg s.heap.objs.size g cdg :: X.stack) X.prog X.w HZ s1 Q E) s1 := by
      obtain ⟨binds, hbinds, hpar⟩ : ∃ binds, BindsTo s1 (lamFd l dV pm (.ref c') ctv) ⟨[], []⟩ binds ∧ ∀ y ∈ binds, l.scope.names.lookup y.1 = some .local := by
        rcases hbd with h | ⟨its, _, h⟩
        · exact ⟨_, h, par⟩
        · exact ⟨_, h, par⟩
      refine PySem.W.kla_callFunE hr.depth of1 rfl T.co T.gen rfl ⟨c', oc, vs, tq, rfl, hoc, hdc, hvc⟩ ?_
      refine hbinds _ _ _ _ ?_
      refine wpAny_newFunctionEnv T.nocell hpar (fun h₁ hns hsb => ⟨I1.nolimit.fresh _ hsb, ?_⟩) T.kind
      have kp : ∀ b o, s1.heap.get? b = some o → h₁.get? b = some o := fun b o e => hsb.extBut b o (Nat.ne_of_lt (Heap.lt_size e)) (Heap.get?_push_of_some _ e)
      have J := lam_start (E := E) (f := f) (c' := c') (tk := s1.toks + binds.length) I L T I1.env0 hr.hd un hns kp
      have zb : Zx (LamX.lamCx X (X.A.deeper (envOfC qg sg s.heap.objs.size g cdg)) (envOfC qg sg s.heap.objs.size g cdg :: X.stack) s1 HZ E l.scope f c') (Bs.at HZ GZ MZ) (fun x _ M' => Ξ' x M') :=
        ⟨(takes_of rfl rfl rfl rfl).imp fun cls d σ' H' ⟨x, r', M', G', q, R', rx⟩ => ⟨x, M', G', q, R'.wd, R'.sin, rx⟩, passes_of rfl⟩
      have pb := hb (X.A.deeper (envOfC qg sg s.heap.objs.size g cdg)) (envOfC qg sg s.heap.objs.size g cdg :: X.stack) s1 HZ E f c' (Bs.at HZ GZ MZ) _ (hr.deeper _) zb
      have e1 : PySem.W.envX (X.env.qual ++ "<lambda>") l.scope s1.heap.objs.size f (.ref c') (cloFrom X.env.cells l.scope.names []) = newEnv l.scope s1.heap.objs.size mainGlobals l.cl (l.q ++ ".<locals>.") (some f) (.ref c') none builtinsNs := by
        rw [L.q, L.cl]; rfl
      show codeAny _ _ (.expr l.body (newEnv l.scope s1.heap.objs.size mainGlobals l.cl (l.q ++ ".<locals>.") (some f) (.ref c') none builtinsNs)) _ _
      rw [← e1]
      refine PySem.W.kla_codeExpr (wpAny_mono (pb.run [] _ _ HZ Q J ⟨r, MZ, GZ, Ψ', RB, ht, fun d' M' v H' G' q R' s' p => ?_⟩) (fun v s' hq => ?_) fun e s' hq => hq)
      · exact kk _ _ _ _ _ (hΨ _ _ q) (RZ.go R'.wd R'.sin) s' p
      · obtain ⟨w', H', J', rv, q⟩ := hq
        exact ⟨w', H', J'.os, J'.bare, J'.base, J'.hok, rv, q⟩
    refine wpAny_call (codeAny_mono rc fun fr s' hq => ?_)
    cases fr with
    | error e => exact z.tk e s' (XE.of_call I1 (W := wOf X.K B1 Ξ) (fun cls d H' ⟨x, M', G', q, w, sn, rx⟩ => ⟨x, rZ, M', G', hΞ _ _ q, RZ.go w sn, rx⟩) hq)
    | ok fl =>
      cases fl with
      | ret u => exact I1.after hq
      | next => exact False.elim hq
      | brk => exact False.elim hq
      | cont => exact False.elim hq
end
end Z
namespace Z
open PySem PySem.Spec PyProof.Rows L2

def fldN (t : Str) : Option Str :=
  if t ∈ (["InvalidWord", "InvalidRing", "InvalidRoom", "InvalidCount", "InvalidIndex", "InvalidBound", "InvalidLimit"] : List Str) then some "given"
  else if t ∈ (["TooLong", "TooGreat", "TooManyRooms"] : List Str) then some "most"
  else if t ∈ (["InvalidName", "DuplicateName", "UnknownName"] : List Str) then some "name"
  else if t = ("InvalidProgram" : Str) then some "path"
  else if t = ("CapacityExceeded" : Str) then some "limit"
  else if t = ("InvalidCommand" : Str) then some "word"
  else if t = ("InUse" : Str) then some "user"
  else if t = ("ParseError" : Str) then some "line"
  else none
def wfX (K : PySem.W.Frag) (x : XD) (φ : Str → D → Prop) : Prop := ∃ t, x.2.lookup ("tag" : Str) = some (D.str t) ∧ XfC K x.1 ∧ NoAttr K x.1 "tag" ∧ match fldN t with
  | some n => NoAttr K x.1 n ∧ ∃ v, x.2.lookup n = some v ∧ φ t v
  | none => φ t .non
def whyX (K : PySem.W.Frag) (x : XD) (φ : Str → D → Prop) : Prop := ∃ b, PySem.W.exmAny K (.ref x.1) [.ref (He.ga K "MillError"), .ref (He.ga K "Missing")] = some b ∧ (b = true → wfX K x φ) ∧
  (b = false → PySem.W.exmOne K (.ref x.1) (.ref (He.ga K "NothingLeft")) = some true ∧ ∃ t, x.2.lookup ("tag" : Str) = some (D.str t) ∧ XfC K x.1 ∧ NoAttr K x.1 "tag" ∧ φ t .non)
abbrev whyΨ (Ψ : PD) : PD := fun d M' => Ψ (.tup [.str "", d]) M'
abbrev whyΞ (K : PySem.W.Frag) (Ψ : PD) : XD → Sto → Prop := fun x M' => whyX K x fun t v => Ψ (.tup [.str t, v]) M'
structure WhyOk (P : Program) (w : World) (K : PySem.W.Frag) (mg : Str → Option Value) (base : Heap) (x : Str) (k : Nat) : Prop where
  ex : ∃ (f : Addr) (fd : FuncData) (N : List Str) (a qual : Str) (st : Stmt), mg x = some (.ref f) ∧ PySem.W.keepIn K (.ref f) = true ∧ FnZ K x qual st [] [] f fd ∧ FnScope N [a] (defScope st) ∧ BindD K fd [a] (Z.pos 1) ∧
    ∀ (cdv : Value) (A : Around) (outer : List Env) (s : Shared) (H : Hp) (E : XK) (B : Bs) (q : L2.Hp → Addr → Prop) (beh : Sto → PD → (XD → Sto → Prop) → Prop), Room k (A.deeper (envOfC qual (defScope st) s.heap.objs.size f cdv)) →
      Zx (cxOf (L2.CX P w) P w K mg base N qual (defScope st) f cdv A outer s H E) B (exF B.M noX) → ActOk (cxOf (L2.CX P w) P w K mg base N qual (defScope st) f cdv A outer s H E) B q beh →
      ∃ t, DSs (cxOf (L2.CX P w) P w K mg base N qual (defScope st) f cdv A outer s H E) B (defBody st) t ∧ ∀ Ψ, beh B.M (whyΨ Ψ) (whyΞ K Ψ) → t { nx := fun _ M' => rtF B.M Ψ .non M', rt := rtF B.M Ψ } (ent N.length [.fn q]) B.M
structure LamD where
  l : Lam
  ps : List Str
  ns : List Int
  t : (XD → En → Sto → Prop) → DTE
structure LamD.Ok (X : Cx) (k : Nat) (m : LamD) : Prop where
  o : LamOk X m.l
  t : LamT X m.l m.ps
  n : m.ns.length = m.ps.length
  b : LamBody X k m.l m.t
def lamFB (sc scope : Scope) : Bool := scope.names.all fun y => !decide (y.2 = .free) || decide (sc.names.lookup y.1 = some .cell) || decide (sc.names.lookup y.1 = some .free)
theorem lamF_by {sc scope : Scope} (h : lamFB sc scope = true) : ∀ y ∈ scope.names, y.2 = .free → sc.names.lookup y.1 = some .cell ∨ sc.names.lookup y.1 = some .free := fun y hy e => by
  have h2 := List.all_eq_true.mp h y hy
  simp only [Bool.or_eq_true, Bool.not_eq_true', decide_eq_true_eq, decide_eq_false_iff_not] at h2
  rcases h2 with (z | z) | z
  · exact absurd e z
  · exact .inl z
  · exact .inr z
def lamTB (N : List Str) (scope : Scope) (ps : List Str) : Bool := decide (scope.kind = .function) && (!scope.isCoroutine && (!scope.isGenerator && ((scope.names.all fun y => !decide (y.2 = .cell)) && ((N.all fun y => !decide (scope.names.lookup y = some .local)) && ps.all fun y => decide (scope.names.lookup y = some .local)))))
theorem lamT_by {X : Cx} {l : Lam} {ps : List Str} (h : lamTB X.N l.scope ps = true) (hb : (ps = [] ∧ ∀ pm cv ctv, bindArgs (lamFd l .none pm cv ctv) ⟨[], []⟩ = pure []) ∨ (ps ≠ [] ∧ ∀ (T : Addr) (pm cv ctv : Value) (its : List Value), its.length = ps.length →
    ∃ k, bindArgs (lamFd l (.ref T) pm cv ctv) ⟨[], []⟩ = seqItems? (.ref T) >>= k ∧ k (some its.toArray) = pure (ps.zip its))) : LamT X l ps := by
  unfold lamTB at h
  simp only [Bool.and_eq_true, Bool.not_eq_true', List.all_eq_true, decide_eq_true_eq, decide_eq_false_iff_not] at h
  obtain ⟨h1, h2, h3, h4, h5, h6⟩ := h
  exact ⟨h1, h2, h3, h4, h5, h6, hb⟩
section
variable {X : Cx} {B : Bs} {k j : Nat} {x : Str} {pos p : Pos} {e : Expr} {ga : DTA}
theorem why_core {pins : List (Addr × Obj)} {σ : L2.St} {H G : Hp} {s : Shared} {r : En} {M : Sto} {Q : VK} {Ψ : PD} {m : LamD} {v : V} {u : Value} {f : Addr} (W : WhyOk X.prog X.w X.K X.mg X.base x k) (hm : X.mg x = some (.ref f)) (hr : Room (k + 2) X.A) (I : L2.Inv X pins σ H s) (R : Rel X.K B r M σ H G)
    (rv : RelV v u) (p : Rep X.K G (.fn (lamQ m.l m.ns)) v) (ok : m.Ok X k) (h : m.t (fun x _ M' => whyΞ X.K Ψ x M') r M (whyΨ Ψ)) (hQ : Post X.K H G M Ψ Q) :
    codeAny (model X.prog X.w) X.A (.call (.ref f) ⟨[u], []⟩) (CR (L2.CX X.prog X.w) X.stack X.prog X.w H s Q (fun _ _ _ => False)) s := by
  obtain ⟨f', fd, N, a, qual, st, hm', hk, F, S, hbd, body⟩ := W.ex
  rw [hm] at hm'
  cases hm'
  obtain ⟨oc, od, dV, kV, doc, pm, an, cdv, ct, osl, rfl, lk, hcd, _, _⟩ := F.ex
  obtain ⟨hl, gl, gV, kb, rel⟩ := hbd
  have rr := rel G [.fn (lamQ m.l m.ns)] [v] [] [] (.cons p .nil) .nil
  refine LamX.run_ofS (N := N) (ps := [a]) (us := gl [u] []) (vs := gV [v] []) lk hcd S (k := k + 1) hr I.env0 (kb.to s [u] [] I.kIn rfl rfl) (kb.rel (.cons rv .nil) .nil) (by rw [← rr.length]; rfl) fun hr' => ?_
  have z : Zx (cxOf (L2.CX X.prog X.w) X.prog X.w X.K X.mg X.base N qual (defScope st) f cdv X.A X.stack s H (fun _ _ _ => False)) (Bs.at H G M) (exF M noX) :=
    ⟨(takes_of rfl rfl rfl rfl).imp (exF_take (B := Bs.at H G M) (Ξ := noX) (E := fun _ _ _ => False) fun _ _ _ _ _ _ z _ _ _ => z), passes_of rfl⟩
  obtain ⟨t, ht, q⟩ := body cdv X.A X.stack s H (fun _ _ _ => False) (Bs.at H G M) (lamQ m.l m.ns) _ (hr'.mono (by omega)) z (act_ok I R ok.o ok.t ok.n hr' ok.b)
  refine ⟨_, ht, ent N.length [.fn (lamQ m.l m.ns)], M, G, _, rel_start R.wd rr, q Ψ h, ⟨fun r' M' σ' H' G' q' R' s' => ?_, fun d r' M' v σ' H' G' q' R' p => ?_, fun _ _ _ _ _ q' _ _ => q'.elim, fun _ _ _ _ _ q' _ _ => q'.elim⟩⟩
  · obtain ⟨d', M'', fr, q⟩ := q'
    cases fr with
    | same => exact hQ _ _ _ _ _ q R'.wd R'.sin .non
    | drop =>
      obtain ⟨w1, s1⟩ := frz_end R'.wd R'.sin
      exact hQ _ _ _ _ _ q w1 s1 .non
    | frz n =>
      obtain ⟨w1, s1⟩ := frz_end R'.wd R'.sin
      exact hQ _ _ _ _ _ q w1 s1 (Rep.sb (d := .non) (rep_frz R'.wd n) .non)
  · obtain ⟨d', M'', fr, q⟩ := q'
    cases fr with
    | same => exact hQ _ _ _ _ _ q R'.wd R'.sin p
    | drop =>
      obtain ⟨w1, s1⟩ := frz_end R'.wd R'.sin
      exact hQ _ _ _ _ _ q w1 s1 (p.mono frzG_sub)
    | frz n =>
      obtain ⟨w1, s1⟩ := frz_end R'.wd R'.sin
      exact hQ _ _ _ _ _ q w1 s1 ((p.mono frzG_sub).sb (rep_frz R'.wd n))
def whyD (X : Cx) (j : Nat) (r : En) (ds : List D) (M : Sto) (Ψ : PD) : Prop := ∃ m : LamD, m.Ok X j ∧ ds = [.fn (lamQ m.l m.ns)] ∧ m.t (fun x _ M' => whyΞ X.K Ψ x M') r M (whyΨ Ψ)
theorem de_why (W : WhyOk X.prog X.w X.K X.mg X.base x j) (hr : Room k X.A) (ha : DA X B [e] ga) (hj : j + 2 ≤ k := by decide) (hg : Gl X x := by rfl) (hdb : (x == ("__debug__" : Str)) = false := by decide)
    (he : starEach [e] X.env = (false, eval e X.env) :: starEach [] X.env := by rfl) (hpl : (backTo pos (starEach [] X.env)).any (·.1) = false := by rfl) :
    DE X B (.Call (.Name x p) [e] [] pos) (fun r M Ψ => ga r M fun ds M1 => whyD X j r ds M1 Ψ) := by
  obtain ⟨f, hm, hk⟩ : ∃ f, X.mg x = some (.ref f) ∧ PySem.W.keepIn X.K (.ref f) = true := by
    obtain ⟨f, _, _, _, _, _, h1, h2, _⟩ := W.ex
    exact ⟨f, h1, h2⟩
  refine ⟨fun pins s σ H Q I ⟨r, M, G, Ψ, R, h, k'⟩ => ?_⟩
  refine wpAny_Call_Name_kw (ld_glob I hg hm ?_ hdb)
  refine PySem.W.callWith_K (h₀ := X.base) I.ok.mod.kin hk (thn (ha.run pos pins s σ H (fun vs H1 => ∃ ds M1 G1, whyD X j r ds M1 Ψ ∧ Rel X.K B r M1 σ H1 G1 ∧ Sub G G1 ∧ RepL X.K G1 ds vs) I ⟨r, M, G, _, R, h, fun ds M1 vs H1 G1 q R1 s1 p1 => ⟨ds, M1, G1, q, R1, s1, p1⟩⟩) fun us s1 ⟨vs, H1, I1, rv, ds, M1, G1, q, R1, s1', p1⟩ => ⟨I1.kIn, ?_⟩) he hpl
  obtain ⟨m, hm', rfl, q⟩ := q
  cases p1 with
  | cons p1 p2 =>
    cases p2
    cases rv with
    | cons rv r2 =>
      cases r2
      refine wpAny_call (codeAny_mono (why_core W hm (hr.mono hj) I1 R1 rv p1 hm' q fun d M' v H' G' q w sn p => k' _ _ _ _ _ q (R1.go w sn) (s1'.tr sn.gsub) p) fun fr s' hq => ?_)
      cases fr with
      | error e => exact LamX.takes0 e s' (XE.of_call I1 (W := fun _ _ _ _ => False) (fun _ _ _ h => h) hq)
      | ok fl =>
        cases fl with
        | ret u => exact I1.after hq
        | next => exact False.elim hq
        | brk => exact False.elim hq
        | cont => exact False.elim hq
theorem de_whyL {q : Str} {params : Arguments} {body : Expr} {scope : Scope} {cl : List (Str × Addr)} {P c : Addr} {lpos : Pos} {t : (XD → En → Sto → Prop) → DTE} (W : WhyOk X.prog X.w X.K X.mg X.base x j) (hr : Room k X.A) (TB : LamX.TabB X.base X.mg c P) (hcode : X.env.code = .ref c)
    (L : LamOk X ⟨q, params, body, scope, cl⟩) (hdef : defaultsOf params X.env = ([], [])) (T : LamT X ⟨q, params, body, scope, cl⟩ []) (hb : LamBody X j ⟨q, params, body, scope, cl⟩ t) (hj : j + 2 ≤ k := by decide) (hg : Gl X x := by rfl) (hdb : (x == ("__debug__" : Str)) = false := by decide)
    (he : starEach [Expr.Lambda params body scope lpos] X.env = (false, eval (.Lambda params body scope lpos) X.env) :: starEach [] X.env := by rfl) (hpl : (backTo pos (starEach [] X.env)).any (·.1) = false := by rfl) :
    DE X B (.Call (.Name x p) [.Lambda params body scope lpos] [] pos) (fun r M Ψ => M P = some (.tab q) ∧ t (fun x _ M' => whyΞ X.K Ψ x M') r M (whyΨ Ψ)) :=
  PE_imp (de_why (B := B) W hr (da_cons (de_lam TB hcode L hdef) da_nil he) hj hg hdb he hpl) fun σ H Q ⟨r, M, G, Ψ, R, ⟨h1, h2⟩, kk⟩ =>
    ⟨r, M, G, Ψ, R, ⟨h1, ⟨⟨q, params, body, scope, cl⟩, [], [], t⟩, ⟨L, T, rfl, hb⟩, rfl, h2⟩, kk⟩
end
end Z
namespace Z
open PySem PySem.Spec PyProof.Rows L2

def codA (K : PySem.W.Frag) (f : Addr) : Addr := match K.lookup f with
  | some ⟨_, _, .func fd, _⟩ => (match fd.code with
    | .ref c => c
    | _ => 0)
  | _ => 0
def tabA (K : PySem.W.Frag) (f : Addr) : Addr := match K.lookup (codA K f) with
  | some ⟨_, _, .fields vs, _⟩ => (match (vs[11]? : Option Value) with
    | some (.ref P) => P
    | _ => 0)
  | _ => 0
abbrev Tbs := List (At × Str)
def Tbs.ps (ts : Tbs) (K : PySem.W.Frag) : List Addr := ts.map fun t => tabA K (t.1.ad K)
def Tbs.cs (ts : Tbs) (K : PySem.W.Frag) : List (Addr × Addr) := ts.map fun t => (codA K (t.1.ad K), tabA K (t.1.ad K))
def emptyTab : Option Obj → Bool
  | some ⟨.none, none, .fields ⟨[]⟩, ⟨[]⟩⟩ => true
  | _ => false
theorem emptyTab_ok {o : Option Obj} (h : emptyTab o = true) : o = some { cls := .none, data := .fields #[] } := by
  unfold emptyTab at h
  split at h
  · rfl
  · cases h
def tabB (ts : Tbs) (g : Addr → Option Obj) (K : PySem.W.Frag) : Bool := (ts.cs K).all (fun q => emptyTab (g q.2) && (PySem.W.codeHdIn K q.1 q.2 && (mainGlobals != q.2 && (K.lookup q.2).isNone))) && decide ((ts.cs K).map (·.2)).Nodup
structure TabZ (ts : Tbs) (K : PySem.W.Frag) (h : Heap) : Prop where
  ok : ∀ q ∈ ts.cs K, h.get? q.2 = some { cls := .none, data := .fields #[] } ∧ PySem.W.codeHdIn K q.1 q.2 = true ∧ mainGlobals ≠ q.2 ∧ K.lookup q.2 = none
  nd : ((ts.cs K).map (·.2)).Nodup
theorem tabB_ok {ts : Tbs} {h : Heap} {K : PySem.W.Frag} (c : tabB ts h.get? K = true) : TabZ ts K h := by
  obtain ⟨c1, c2⟩ := He.ba c
  refine ⟨fun q hq => ?_, of_decide_eq_true c2⟩
  obtain ⟨d1, d2⟩ := He.ba (List.all_eq_true.mp c1 q hq)
  obtain ⟨d2, d3⟩ := He.ba d2
  obtain ⟨d3, d4⟩ := He.ba d3
  exact ⟨emptyTab_ok d1, d2, by simpa using d3, by simpa using d4⟩
def tabM (ts : Tbs) (K : PySem.W.Frag) : Sto := fun a => ((ts.map fun t => (tabA K (t.1.ad K), t.2)).lookup a).map Cell.tab
theorem tabM_at {ts : Tbs} {K : PySem.W.Frag} (nd : ((ts.cs K).map (·.2)).Nodup) {t : At × Str} (h : t ∈ ts) : tabM ts K (tabA K (t.1.ad K)) = some (.tab t.2) := by
  unfold tabM
  have : ∀ ts : Tbs, ((ts.cs K).map (·.2)).Nodup → t ∈ ts → (ts.map fun t => (tabA K (t.1.ad K), t.2)).lookup (tabA K (t.1.ad K)) = some t.2 := fun ts => by
    induction ts with
    | nil => intro _ h; cases h
    | cons u r ih =>
      intro nd h
      rw [List.map_cons, List.lookup_cons]
      simp only [Tbs.cs, List.map_cons, List.nodup_cons] at nd
      rcases List.mem_cons.mp h with e | e
      · rw [e]; simp
      · have ne : tabA K (t.1.ad K) ≠ tabA K (u.1.ad K) := fun z => nd.1 (by
          rw [← z]
          exact List.mem_map.mpr ⟨_, List.mem_map.mpr ⟨t, e, rfl⟩, rfl⟩)
        rw [show (tabA K (t.1.ad K) == tabA K (u.1.ad K)) = false by simpa using ne]
        exact ih nd.2 e
  rw [this ts nd h]; rfl
theorem look_mem {β : Type} {a : Addr} {b : β} : ∀ {l : List (Addr × β)}, l.lookup a = some b → (a, b) ∈ l
  | [], e => nomatch (show (none : Option β) = some b from e)
  | (k, v) :: r, e => by
    rw [List.lookup_cons] at e
    cases q : a == k with
    | true =>
      rw [q] at e
      cases e
      rw [beq_iff_eq] at q
      subst q
      exact List.mem_cons_self
    | false =>
      rw [q] at e
      exact List.mem_cons_of_mem _ (look_mem e)
theorem tabM_mem {ts : Tbs} {K : PySem.W.Frag} {a : Addr} {c : Cell} (h : tabM ts K a = some c) : ∃ t ∈ ts, a = tabA K (t.1.ad K) ∧ c = .tab t.2 := by
  unfold tabM at h
  obtain ⟨q, h1, h2⟩ := Option.map_eq_some_iff.mp h
  have hm := look_mem h1
  obtain ⟨t, ht, e⟩ := List.mem_map.mp hm
  cases e
  exact ⟨t, ht, rfl, h2.symm⟩
theorem law_atT {l : PySem.W.OpenLaw} {w : World} {K : PySem.W.Frag} {k : Nat} {mg : Str → Option Value} {fa : Addr} {h : Heap} {fd : FuncData} {c : Ct} {x : Str} {ts : Tbs} (KX : K.In h) (TZ : TabZ ts K h) (hb : ∀ (s : Shared) (u : Value), BindsTo s fd ⟨[u], []⟩ [(x, u)])
    (F : ∀ base : Heap, K.In base → base.Ns mainGlobals mg → (∀ t ∈ ts, LamX.TabB base mg (codA K (t.1.ad K)) (tabA K (t.1.ad K))) → FnOk l.prog w K mg base (L2.CX l.prog w) k fa fd [x] (spC K 1 c))
    (hc : ∀ (ns : List Int), ns.length ≤ 63 → (∀ z ∈ ns, Builtin.Int.intBits z ≤ 1048576) → c [scr ns] (tabM ts K) (fun d _ => d = .bl true) noX) : LamX.LawAtS l w K (L2.CX l.prog w) k 63 x mg fa h := by
  refine ⟨fd, ts.cs K, spC K 1 c, fun p hp => (TZ.ok p hp).1, fun p hp => (TZ.ok p hp).2.2.2, fun p hp => PySem.W.codeHd_of_K KX (TZ.ok p hp).2.1, hb, fun H a ns hl hbits hT hS => ?_, fun base KX G hB => F base KX G fun t ht => hB _ (List.mem_map.mpr ⟨t, ht, rfl⟩)⟩
  let G0 : Hp := fun b => if b ∈ (ts.cs K).map (·.2) then none else H b
  have tb : ∀ b o, (∀ ps, o ≠ .tbl ps) → H b = some o → G0 b = some o := fun b o n e => by
    show (if b ∈ (ts.cs K).map (·.2) then none else H b) = some o
    rw [if_neg]
    · exact e
    · intro z
      obtain ⟨q, hq, e2⟩ := List.mem_map.mp z
      have := hT q hq
      rw [e2, e] at this
      exact n _ (Option.some.inj this)
  have hS' : SqL K G0 a (ns.map V.int) := by
    rcases hS with (hS | ⟨o, hS⟩) | hS
    · exact .inl (.inl (tb _ _ (by intro _ z; cases z) hS))
    · exact .inl (.inr ⟨o, tb _ _ (by intro _ z; cases z) hS⟩)
    · exact .inr hS
  refine ⟨rfl, [scr ns], G0, tabM ts K, _, _, ⟨fun b o e => ?_, fun b cc e => ?_⟩, .cons (.lk hS' (repL_scr ns)) .nil, hc ns hl hbits, fun d M' v H' G' q _ _ r => ?_, fun _ _ _ _ _ _ z _ _ _ => z⟩
  · have e : (if b ∈ (ts.cs K).map (·.2) then none else H b) = some o := e
    split at e
    · cases e
    · exact e
  · obtain ⟨t, ht, rfl, rfl⟩ := tabM_mem e
    have hm : (codA K (t.1.ad K), tabA K (t.1.ad K)) ∈ ts.cs K := List.mem_map.mpr ⟨t, ht, rfl⟩
    refine ⟨if_pos (List.mem_map.mpr ⟨_, hm, rfl⟩), #[], hT _ hm, True.intro, fun pos cv hcv => ?_⟩
    have z : codeAmong pos [] = some cv := hcv
    simp [codeAmong] at z
  · subst q
    cases r
    rfl
theorem fnDT {P : Program} {w : World} {K : PySem.W.Frag} {mg : Str → Option Value} {base : Heap} {x qual : Str} {st : Stmt} {f : Addr} {fd : FuncData} {N ps : List Str} {k : Nat} {dvs : List V} {kws : List (Str × V)} (F : FnZ K x qual st dvs kws f fd) (S : FnScope N ps (defScope st)) (c : Ct)
    (hb : ∀ (cdv : Value) (A : Around) (outer : List Env) (s : Shared) (H : Hp) (E : XK) (B : Bs) (Ξ : XD → Sto → Prop), cdv = .ref (codA K f) → Room k (A.deeper (envOfC qual (defScope st) s.heap.objs.size f cdv)) →
      Zx (cxOf (L2.CX P w) P w K mg base N qual (defScope st) f cdv A outer s H E) B (exF B.M Ξ) →
      ∃ t, DSs (cxOf (L2.CX P w) P w K mg base N qual (defScope st) f cdv A outer s H E) B (defBody st) t ∧
        ∀ (ds : List D) (Ψ : D → Sto → Prop), ds.length = ps.length → c ds B.M Ψ Ξ → t { nx := fun _ M' => rtF B.M Ψ .non M', rt := rtF B.M Ψ } (ent N.length ds) B.M) :
    FnOk P w K mg base (L2.CX P w) (k + 1) f fd ps (spC K ps.length c) := by
  obtain ⟨oc, od, dV, kV, doc, pm, an, cd0, ct, osl, rfl, lk, hcd, hd, hk⟩ := F.ex
  have e0 : cd0 = .ref (codA K f) := by
    unfold codA
    rw [lk]
    unfold PySem.W.codeIn at hcd
    split at hcd
    · rfl
    · cases hcd
  refine fn_of lk hcd S (fun vs H Q E h => h.1) fun A outer s H vs Q E hr h => ?_
  obtain ⟨hl, ds, G, M, Ψ, Ξ, wd, r, hc, hQ, hE⟩ := h
  have tk0 : Takes (cxOf (L2.CX P w) P w K mg base N qual (defScope st) f cd0 A outer s H E) (fun cls d _ H => E cls d H) := takes_of rfl rfl rfl rfl
  obtain ⟨t, ht, q⟩ := hb cd0 A outer s H E ⟨H, G, M⟩ Ξ e0 hr ⟨tk0.imp (exF_take (B := ⟨H, G, M⟩) hE), passes_of rfl⟩
  have end_ : ∀ (d : D) (r' : En) (M' : Sto) (v : V) (σ' : L2.St) (H' G' : Hp), rtF M Ψ d M' → Rel K ⟨H, G, M⟩ r' M' σ' H' G' → Rep K G' d v → Q v H' := fun d r' M' v σ' H' G' ⟨d', M'', fr, q⟩ R' p => by
    cases fr with
    | same => exact hQ _ _ _ _ _ q R'.wd R'.sin p
    | drop =>
      obtain ⟨w1, s1⟩ := frz_end R'.wd R'.sin
      exact hQ _ _ _ _ _ q w1 s1 (p.mono frzG_sub)
    | frz n =>
      obtain ⟨w1, s1⟩ := frz_end R'.wd R'.sin
      exact hQ _ _ _ _ _ q w1 s1 ((p.mono frzG_sub).sb (rep_frz R'.wd n))
  refine ⟨_, ht, ent N.length ds, M, G, _, rel_start wd r, q ds Ψ (r.length.trans hl) hc, ⟨fun r' M' σ' H' G' q' R' s' => ?_, fun d r' M' v σ' H' G' q' R' p => end_ d r' M' v σ' H' G' q' R' p, fun _ _ _ _ _ q' _ _ => q'.elim, fun _ _ _ _ _ q' _ _ => q'.elim⟩⟩
  exact end_ .non r' M' .non σ' H' G' q' R' .non
end Z
namespace Z
open PySem PySem.Spec PyProof.Rows L2

structure WhyC (K : PySem.W.Frag) (C : Str) (n : Option Str) : Prop where
  xf : XfC K (He.ga K C)
  tg : NoAttr K (He.ga K C) "tag"
  fl : ∀ m, n = some m → NoAttr K (He.ga K C) m
  ex : PySem.W.exmAny K (.ref (He.ga K C)) [.ref (He.ga K "MillError"), .ref (He.ga K "Missing")] = some true
def whyF (C : Str) (n : Option Str) : FF := fun K => xfB K (He.ga K C) && (decide (PySem.W.findIn K (.ref (He.ga K C)) "tag" = some none) && ((match n with
  | some m => decide (PySem.W.findIn K (.ref (He.ga K C)) m = some none)
  | none => true) && decide (PySem.W.exmAny K (.ref (He.ga K C)) [.ref (He.ga K "MillError"), .ref (He.ga K "Missing")] = some true)))
theorem whyF_ok {C : Str} {n : Option Str} {K : PySem.W.Frag} (h : whyF C n K = true) : WhyC K C n := by
  obtain ⟨h1, h⟩ := He.ba h
  obtain ⟨h2, h⟩ := He.ba h
  obtain ⟨h3, h4⟩ := He.ba h
  refine ⟨xfB_ok h1, (of_decide_eq_true h2 : PySem.W.findIn K (.ref (He.ga K C)) "tag" = some none), fun m e => ?_, of_decide_eq_true h4⟩
  subst e
  exact (of_decide_eq_true h3 : PySem.W.findIn K (.ref (He.ga K C)) m = some none)
section
variable {K : PySem.W.Frag} {C : Str} {n t : Str} {fs : List (Str × D)} {φ : Str → D → Prop} {v : D}
theorem why_of (W : WhyC K C (some n)) (h1 : fs.lookup ("tag" : Str) = some (D.str t)) (h2 : fldN t = some n) (h3 : fs.lookup n = some v) (q : φ t v) : whyX K (He.ga K C, fs) φ :=
  ⟨true, W.ex, fun _ => ⟨t, h1, W.xf, W.tg, by rw [h2]; exact ⟨W.fl n rfl, v, h3, q⟩⟩, (fun z => nomatch z)⟩
end
end Z
namespace Z
open PySem PySem.Spec PyProof.Rows L2

end Z
namespace Z
open PySem PySem.Spec PyProof.Rows L2
def oc (c : Nat) : Nat := if c = 76 then 82 else 76
theorem any_mem {t : Str} : ∀ l : List Str, (l.map PyData.str).any (fun z => PyData.eqv z (.str t)) = decide (t ∈ l)
  | [] => rfl
  | a :: l => by
    rw [List.map_cons, List.any_cons, any_mem l]
    simp only [PyData.eqv, List.mem_cons, Bool.decide_or]
    congr 1
    exact decide_eq_decide.mpr ⟨Eq.symm, Eq.symm⟩
theorem pdL_strs : ∀ l : List Str, pdL (l.map D.str) = some (l.map PyData.str)
  | [] => rfl
  | a :: l => by
    rw [List.map_cons, List.map_cons]
    unfold pdL
    rw [pdL_strs l]
    rfl
theorem inS {M : Sto} {t : Str} {φ : D → Prop} (l : List Str) (h : φ (.bl (decide (t ∈ l)))) : inD M (.str t) (.tup (l.map D.str)) φ := by
  unfold inD
  refine ⟨.str t, l.map PyData.str, rfl, pdL_strs l, ?_, rfl, ?_⟩
  · rw [List.all_map]
    exact List.all_eq_true.mpr fun _ _ => rfl
  · rw [any_mem]; exact h
end Z
namespace Z
open PySem PySem.Spec PyProof.Rows L2

section
variable {X : Cx} {σ : L2.St} {H HZ : Hp} {s s1 : Shared} {l : Lam} {ps : List Str} {St : List Env}
end
section
variable {X : Cx} {σ : L2.St} {H G : Hp} {s : Shared} {l : Lam} {ps : List Str} {ns : List Int} {B : Bs} {r : En} {M : Sto} {k : Nat} {t : (XD → En → Sto → Prop) → DTE} {Ng : List Str} {qg : Str} {sg : Scope} {g : Addr} {cdg : Value} {Eg : XK} {CXg : CXT} {St : List Env}
end
end Z
namespace Z
open PySem PySem.Spec PyProof.Rows L2

section
variable {X : Cx} {B : Bs} {j k : Nat} {x : Str} {e : Expr} {ga : DTA} {p cpos pos : Pos}
end
end Z
namespace Z
open PySem PySem.Spec PyProof.Rows L2

section
variable {vs : List Nat} {wi : DTI} {as : D → En → (En → Prop) → Prop} {fe : DTE} {r : En} {M : Sto} {Φ : List D → Sto → Prop}
end
theorem RepL.rep {K : PySem.W.Frag} {G : Hp} {a : List D} {us : List V} (r : RepL K G a us) : ∀ n : Nat, RepL K G (List.replicate n a).flatten (List.replicate n us).flatten
  | 0 => .nil
  | n + 1 => by
    rw [List.replicate_succ, List.replicate_succ, List.flatten_cons, List.flatten_cons]
    exact r.app (r.rep n)
end Z
namespace Z
open PySem PySem.Spec PyProof.Rows L2

section
variable {X : Cx} {B : Bs} {o e a b c : Expr} {es : List Expr} {fo : DTE} {ga : DTA} {apos pos p : Pos}
theorem de_smN {id : String} {name : Str} {r : V → List V → Hp → VK → Prop} {g : Sto → D → List D → PD → Prop} (slot : Slot "str" name id) (ty : typeOf (.builtin id) = pure (.type "method_descriptor")) (rule : MtR X id r) (ok : OkM X.K r g) (ho : DE X B o fo) (ha : DA X B (e :: es) ga)
    (hbase : attributeBase o name X.env (eval o X.env) = eval o X.env := by rfl)
    (hfew : ((backTo pos (starEach (e :: es) X.env)).all (fun x => !x.1) && (backToKw pos (keywordEach [] X.env)).all (fun x => x.1.isSome)
      && decide ((e :: es).length + ([] : List Keyword).length + (if ([] : List Keyword).isEmpty then 0 else 1) < 30)) = true := by rfl)
    (hline : (apos.endLine == pos.line) = true := by rfl) (hs : starEach (e :: es) X.env = (false, eval e X.env) :: starEach es X.env := by rfl) (hplain : (backTo pos (starEach es X.env)).any (·.1) = false := by rfl) :
    DE X B (.Call (.Attribute o name apos) (e :: es) [] pos) (fun r M Ψ => fo r M fun x M1 => isS x ∧ ga r M1 fun ds M2 => g M2 x ds Ψ) :=
  PE_imp (pe_bm PySem.F.plainAttrs_str slot ty rule ho ha hbase hfew hline hs hplain) fun σ H Q ⟨r, M, G, Ψ, R, h, k⟩ => by
    refine ⟨r, M, G, _, R, h, fun x M1 v H1 G1 ⟨q1, q⟩ R1 s1 p1 => ⟨?_, r, M1, G1, _, R1, q, fun ds M2 us H2 G2 q2 R2 s2 p2 => ?_⟩⟩
    · cases p1 <;> first | exact rfl | exact q1.elim
    · exact ok M2 H2 G2 _ _ _ _ _ _ R2.wd (p1.mono s2) p2 q2 fun d M' w H' G' f w' s' p => k _ _ _ _ _ f (R2.go w' s') ((s1.tr s2).tr s'.gsub) p
end
end Z
namespace Z
open PySem PySem.Spec PyProof.Rows L2

def PerF (f : Nat → Nat) (k : Nat) : Prop := ∀ i, f (i + k) = f i
theorem PerF.mul {f : Nat → Nat} {k : Nat} (h : PerF f k) (q i : Nat) : f (i + k * q) = f i := by
  induction q with
  | zero => rfl
  | succ q ih => rw [Nat.mul_succ, ← Nat.add_assoc, h, ih]
theorem PerF.sub {f : Nat → Nat} {a b : Nat} (ha : PerF f a) (hb : PerF f b) : PerF f (b % a) := fun i => by
  have := ha.mul (b / a) (i + b % a)
  rw [Nat.add_assoc, Nat.mod_add_div, hb] at this
  exact this.symm
theorem PerF.gcd {f : Nat → Nat} (a b : Nat) : PerF f a → PerF f b → PerF f (Nat.gcd a b) := by
  induction a, b using Nat.gcd.induction with
  | H0 n => intro _ hb; rw [Nat.gcd_zero_left]; exact hb
  | H1 m n hm ih =>
    intro ha hb
    rw [Nat.gcd_rec]
    exact ih (ha.sub hb) ha
end Z
namespace Z
open PySem PySem.Spec PyProof.Rows L2

theorem wlen {w : List Nat} : (⟨w.toArray⟩ : Str).length = w.length := List.size_toArray
theorem wapp {a b : List Nat} : (⟨a.toArray⟩ : Str) ++ ⟨b.toArray⟩ = ⟨(a ++ b).toArray⟩ := by
  show (⟨_ ++ _⟩ : Str) = _
  simp
theorem weq {a b : List Nat} : (⟨a.toArray⟩ : Str) = ⟨b.toArray⟩ ↔ a = b := ⟨fun h => by
  have : a.toArray = b.toArray := congrArg Str.cps h
  simpa using this, fun h => by rw [h]⟩
theorem cut_take {w : List Nat} {k : Nat} : cutS ⟨w.toArray⟩ none (some (k : Int)) = ⟨(w.take k).toArray⟩ := by
  unfold cutS
  rw [HT.sIx_nat, HT.sIx_none, wlen]
  simp only [List.drop_zero, Nat.sub_zero, List.take_eq_take_iff.mpr]
  congr 2
  rcases Nat.le_total k w.length with h | h
  · rw [Nat.min_eq_left h]
  · rw [Nat.min_eq_right h, List.take_of_length_le (Nat.le_refl _), List.take_of_length_le h]
theorem cut_drop {w : List Nat} {k : Nat} : cutS ⟨w.toArray⟩ (some (k : Int)) none = ⟨(w.drop k).toArray⟩ := by
  unfold cutS
  rw [HT.sIx_nat, HT.sIx_none, wlen]
  congr 2
  rcases Nat.le_total k w.length with h | h
  · rw [Nat.min_eq_left h]
    exact List.take_of_length_le (by simp)
  · rw [Nat.min_eq_right h, List.drop_of_length_le (Nat.le_refl _), List.drop_of_length_le h, List.take_nil]
theorem mul_word {w : List Nat} {k : Nat} : Txt.mul ⟨w.toArray⟩ (k : Int) = ⟨(List.replicate k w).flatten.toArray⟩ := by
  unfold Txt.mul
  by_cases h : (k : Int) < 1
  · rw [if_pos h]
    have : k = 0 := by omega
    subst this; rfl
  · rw [if_neg h]
    by_cases h1 : k = 1 ∨ w = []
    · rw [if_pos (by rcases h1 with e | e <;> subst e <;> simp [Str.length])]
      rcases h1 with e | e
      · subst e
        simp
      · subst e
        simp
    · have h2 : ¬ k = 1 ∧ ¬ w = [] := ⟨fun z => h1 (.inl z), fun z => h1 (.inr z)⟩
      rw [if_neg (by simp [Str.length]; exact ⟨by omega, h2.2⟩)]
      have e := fold_rep w.toArray k #[]
      simp only [Int.toNat_natCast]
      generalize hz : (List.replicate k w.toArray).foldl (· ++ ·) #[] = z at e ⊢
      have e2 : z.toList = (List.replicate k w).flatten := by rw [e]; simp
      rw [← e2]
end Z
namespace Z
open PySem PySem.Spec PyProof.Rows L2

end Z
namespace Z
open PySem PySem.Spec PyProof.Rows L2

section
variable {M : Sto} {w u : List Nat} {φ : D → Prop} {Φ : PD}
theorem w_sz (h : w.length ≤ 400000) : (⟨w.toArray⟩ : Str).length ≤ sizeLine := sz_le (n := 400000) (by rw [wlen]; exact h) (by decide)
theorem sl_take {k : Nat} (h : w.length ≤ 400000) (q : φ (.str ⟨(w.take k).toArray⟩)) : slD M (.str ⟨w.toArray⟩) none (some (k : Int)) φ := by
  refine ⟨w_sz h, ?_⟩
  rw [cut_take]
  exact q
theorem sl_drop {k : Nat} (h : w.length ≤ 400000) (q : φ (.str ⟨(w.drop k).toArray⟩)) : slD M (.str ⟨w.toArray⟩) (some (k : Int)) none φ := by
  refine ⟨w_sz h, ?_⟩
  rw [cut_drop]
  exact q
theorem add_w (h : w.length ≤ 400000) (h' : u.length ≤ 400000) (q : φ (.str ⟨(w ++ u).toArray⟩)) : addD M (.str ⟨w.toArray⟩) (.str ⟨u.toArray⟩) φ := by
  refine ⟨sz2 (n := 400000) (m := 400000) (by rw [wlen]; exact h) (by rw [wlen]; exact h') (by decide), ?_⟩
  rw [wapp]
  exact q
theorem one_w {c : Nat} : (⟨#[c]⟩ : Str) = ⟨[c].toArray⟩ := rfl
theorem mul_w {k : Nat} (hk : k ≤ 400000) (h : w.length * k ≤ 400000) (h' : w.length ≤ 400000) (q : φ (.str ⟨(List.replicate k w).flatten.toArray⟩)) : mulSD M (.str ⟨w.toArray⟩) (.int (k : Int)) φ := by
  refine ⟨⟨?_, fun h1 h2 => ?_, fun h1 h2 => ?_⟩, ?_⟩
  · rw [Bool.or_eq_false_iff]
    exact ⟨decide_eq_false (by omega), decide_eq_false (by omega)⟩
  · rw [wlen]
    have : (w.length : Int) ≤ (2 ^ 63 - 1) / (k : Int) := (Int.le_ediv_iff_mul_le (by omega)).mpr (by
      have : ((w.length * k : Nat) : Int) ≤ 400000 := by omega
      rw [Int.natCast_mul] at this
      omega)
    omega
  · rw [wlen, Int.toNat_natCast]
    show decide (w.length * k > sizeLine) = false
    refine decide_eq_false ?_
    have := big_ok
    omega
  · rw [mul_word]
    exact q
theorem ne_emp {s : List Nat} (q : φ (.bl (!decide (s = [])))) : neD M (.str ⟨s.toArray⟩) (.str "") φ := by
  refine neS ?_
  rw [show decide ((⟨s.toArray⟩ : Str) = "") = decide (s = []) from decide_eq_decide.mpr (weq (b := []))]
  exact q
theorem inKI {i : Int} {ψ : Int → Prop} (q : ψ i) : inK (.int i) ψ := q
end
theorem PerF.least {f : Nat → Nat} {m k : Nat} (m0 : 0 < m) (pm : PerF f m) (hm : ∀ j, j < m → ¬ (0 < j ∧ PerF f j)) (p : PerF f k) : m ∣ k := by
  have g := PerF.gcd m k pm p
  have h1 : 0 < Nat.gcd m k := Nat.gcd_pos_of_pos_left _ m0
  have h2 : Nat.gcd m k = m := by
    have := Nat.le_of_dvd m0 (Nat.gcd_dvd_left m k)
    rcases Nat.lt_or_ge (Nat.gcd m k) m with z | z
    · exact absurd ⟨h1, g⟩ (hm _ z)
    · omega
  rw [← h2]
  exact Nat.gcd_dvd_right _ _
theorem LR.take {w : List Nat} (h : LR w) (k : Nat) : LR (w.take k) := fun c hc => h c (List.mem_of_mem_take hc)
theorem LR.drop {w : List Nat} (h : LR w) (k : Nat) : LR (w.drop k) := fun c hc => h c (List.mem_of_mem_drop hc)
theorem LR.app {w u : List Nat} (h : LR w) (h' : LR u) : LR (w ++ u) := fun c hc => (List.mem_append.mp hc).elim (h c) (h' c)
end Z
namespace Z
open PySem PySem.Spec PyProof.Rows L2

theorem vals_get : ∀ {vs : List V} {us : List Value}, vs.length = us.length → (∀ (j : Nat) (v : V) (u : Value), vs[j]? = some v → us[j]? = some u → L2.RelV v u) → Vals vs us
  | [], [], _, _ => .nil
  | [], u :: us, h, _ => by cases h
  | v :: vs, [], h, _ => by cases h
  | v :: vs, u :: us, h, k => .cons (k 0 v u rfl rfl) (vals_get (Nat.succ.inj h) fun j v u h1 h2 => k (j + 1) v u (by simpa using h1) (by simpa using h2))
theorem call_list_text {X : Cx} (hc : X.calm = true) : CallR X (.type "list") (fun xs H Q => ∃ z : Str, xs = [.str z] ∧ z.length ≤ sizeLine ∧ ∀ l, H l = none → Q (.ref l) (upd H l (.lst (z.cps.toList.map fun c => V.str ⟨#[c]⟩)))) := by
  intro pins s σ H xs us Q I r h
  obtain ⟨z, rfl, hz, q⟩ := h
  obtain ⟨u, rfl, t, rfl⟩ := vals1 r
  refine call_list_str (I.ok.hd hc) z t (hn := hz) fun h' tk acc' c' kp e hacc => ?_
  have hl : (z.cps.toList.map fun c => V.str ⟨#[c]⟩).length = acc'.toList.length := by
    rw [List.length_map, Array.length_toList, Array.length_toList, hacc.1]
  refine ⟨.ref s.heap.objs.size, _, I.laid (t' := tk) kp (Nat.le_refl _) (show ObjOk X.prog X.w _ h' _ (.lst _) from ⟨by rw [List.length_map]; exact hz, acc'.toList, c', vals_get hl fun j v u h1 h2 => ?_, by rw [Array.toArray_toList]; exact e⟩), rfl, q _ (I.hok.fresh (Nat.le_refl _))⟩
  obtain ⟨c, u', hc', rfl⟩ := hacc.2 j u (by simpa using h2)
  rw [List.getElem?_map] at h1
  rw [show z.cps.toList[j]? = some c by simpa using hc'] at h1
  cases h1
  exact ⟨_, rfl⟩
def listSD (M : Sto) (ds : List D) (φ : PD) : Prop := match ds with
  | [.str z] => z.length ≤ sizeLine ∧ φ (.lst (z.cps.toList.map fun c => .str ⟨#[c]⟩)) M
  | _ => False
theorem rep_signs {K : PySem.W.Frag} {G : Hp} : ∀ l : List Nat, RepL K G (l.map fun c => D.str ⟨#[c]⟩) (l.map fun c => V.str ⟨#[c]⟩)
  | [] => .nil
  | c :: l => .cons .str (rep_signs l)
theorem ok_listS {K : PySem.W.Frag} : OkC K (fun xs H Q => ∃ z : Str, xs = [.str z] ∧ z.length ≤ sizeLine ∧ ∀ l, H l = none → Q (.ref l) (upd H l (.lst (z.cps.toList.map fun c => V.str ⟨#[c]⟩)))) listSD := fun M H G ds vs φ Q w r h k => by
  unfold listSD at h
  split at h
  · rename_i z
    cases r with
    | cons r1 r2 =>
      cases r2
      cases r1
      refine ⟨_, rfl, h.1, fun l hl => ?_⟩
      have g := grow_upd (o := .lst (z.cps.toList.map fun c => V.str ⟨#[c]⟩)) w.sub hl
      exact k.grow w g h.2 (.lst (.inl upd_same) (rep_signs _))
  · exact h.elim
theorem de_listS {X : Cx} {B : Bs} {a : Expr} {ga : DTA} {p pos : Pos} (hc : X.calm = true) (hm : X.mg "list" = none) (ha : DA X B [a] ga) (hg : Gl X "list" := by rfl) (he : starEach [a] X.env = (false, eval a X.env) :: starEach [] X.env := by rfl) : DE X B (.Call (.Name "list" p) [a] [] pos) (fun r M Ψ => ga r M fun ds M1 => listSD M1 ds Ψ) :=
  de_callT (call_list_text hc) ok_listS hm bt_list ha hg (by decide) (by decide) he rfl
end Z
namespace Z
open PySem PySem.Spec PyProof.Rows L2

section
variable {X : Cx} {B : Bs} {a b : Expr} {fa fb : DTE} {pos : Pos}
end
theorem PerF.mod {f : Nat → Nat} {k : Nat} (h : PerF f k) (i : Nat) : f (i % k) = f i := by
  have := h.mul (i / k) (i % k)
  rw [Nat.mod_add_div] at this
  exact this.symm
theorem alike {f g : Nat → Nat} {p q : Nat} (hp : PerF f p) (hq : PerF g q) (p0 : 0 < p) (q0 : 0 < q) (h : ∀ i, i < p + q → f i = g i) (i : Nat) : f i = g i := by
  have fq : PerF f q := fun i => by
    have hm := Nat.mod_lt i p0
    have e1 : f (i + q) = f (i % p + q) := by
      have := hp.mul (i / p) (i % p + q)
      rw [← this]
      congr 1
      have := Nat.mod_add_div i p
      omega
    rw [e1, h _ (by omega), hq, ← h _ (by omega), hp.mod]
  have hm := Nat.mod_lt i q0
  rw [← fq.mod i, h _ (by omega), hq.mod]
theorem LR.oc {w : List Nat} (h : LR w) : LR (w.map Z.oc) := fun c hc => by
  obtain ⟨d, hd, rfl⟩ := List.mem_map.mp hc
  rcases h d hd with rfl | rfl
  · exact .inr rfl
  · exact .inl rfl
end Z
noncomputable section
namespace Z
open PySem PySem.W PySem.Calls PyProof.Rows HandSHeadRun

section
variable (st : SharedT → Thread → Option (SharedT × Thread)) (n0 : Nat) (ann : Option Value)
def segF (b : Nat) : Nat → SharedT → Thread → Option (Flow × SharedT × Code × Pos)
  | 0, _, _ => none
  | m + 1, s, t => match endAt b t with
    | some f => some (f, s, t.code, t.pos)
    | none => match stepOk n0 ann t with
      | false => none
      | true => match st s t with
        | some (s', t') => frS s' fun s' => segF b m s' t'
        | none => none
def preF : Nat → SharedT → Thread → Option (SharedT × Thread)
  | 0, s, t => some (s, t)
  | m + 1, s, t => match through t with
    | true => none
    | false => match stepOk n0 ann t with
      | false => none
      | true => match st s t with
        | some (s', t') => frS s' fun s' => preF m s' t'
        | none => none
end
theorem segF_eq {st : SharedT → Thread → Option (SharedT × Thread)} {n0 : Nat} {ann : Option Value} {b m : Nat} {s : SharedT} {t : Thread} : segF st n0 ann b (m + 1) s t = (match endAt b t with
    | some f => some (f, s, t.code, t.pos)
    | none => match stepOk n0 ann t with
      | false => none
      | true => match st s t with
        | some (s', t') => frS s' fun s' => segF st n0 ann b m s' t'
        | none => none) := rfl
theorem preF_eq {st : SharedT → Thread → Option (SharedT × Thread)} {n0 : Nat} {ann : Option Value} {m : Nat} {s : SharedT} {t : Thread} : preF st n0 ann (m + 1) s t = (match through t with
    | true => none
    | false => match stepOk n0 ann t with
      | false => none
      | true => match st s t with
        | some (s', t') => frS s' fun s' => preF st n0 ann m s' t'
        | none => none) := rfl
section
variable {tb : String → Option Builtin} {p : Program} {w : World} {n0 : Nat} {ann : Option Value}
theorem segF_ok {b : Nat} : ∀ {m : Nat} {s s' : SharedT} {t : Thread} {f : Flow} {c : Code} {q : Pos}, segF (stepT (denote tb) p w) n0 ann b m s t = some (f, s', c, q) → segRun tb p w n0 ann b m s.abs t = some (f, s'.abs, c, q)
  | 0, _, _, _, _, _, _, h => by cases h
  | m + 1, s, s', t, f, c, q, h => by
    rw [segF_eq] at h
    unfold segRun
    cases he : endAt b t with
    | some x =>
      rw [he] at h
      cases h
      rfl
    | none =>
      rw [he] at h
      cases hk : stepOk n0 ann t with
      | false =>
        rw [hk] at h
        cases h
      | true =>
        rw [hk] at h
        cases hs : stepT (denote tb) p w s t with
        | none =>
          rw [hs] at h
          cases h
        | some r =>
          obtain ⟨s2, t2⟩ := r
          rw [hs] at h
          have h3 : (frS s2 fun s' => segF (stepT (denote tb) p w) n0 ann b m s' t2) = some (f, s', c, q) := h
          rw [frS_eq] at h3
          have z := segF_ok h3
          show (match step (denote tb) p w s.abs t with
            | .go s' t' => segRun tb p w n0 ann b m s' t'
            | .halt _ _ => none) = _
          rw [stepT_spec hs]
          exact z
theorem preF_ok : ∀ {m : Nat} {s s' : SharedT} {t t' : Thread}, preF (stepT (denote tb) p w) n0 ann m s t = some (s', t') → topGo tb p w n0 ann m s.abs t = some (s'.abs, t')
  | 0, _, _, _, _, h => by cases h; rfl
  | m + 1, s, s', t, t', h => by
    rw [preF_eq] at h
    unfold topGo
    cases he : through t with
    | true =>
      rw [he] at h
      cases h
    | false =>
      rw [he] at h
      cases hk : stepOk n0 ann t with
      | false =>
        rw [hk] at h
        cases h
      | true =>
        rw [hk] at h
        cases hs : stepT (denote tb) p w s t with
        | none =>
          rw [hs] at h
          cases h
        | some r =>
          obtain ⟨s2, t2⟩ := r
          rw [hs] at h
          have h3 : (frS s2 fun s' => preF (stepT (denote tb) p w) n0 ann m s' t2) = some (s', t') := h
          rw [frS_eq] at h3
          have z := preF_ok h3
          show (match step (denote tb) p w s.abs t with
            | .go s' t' => topGo tb p w n0 ann m s' t'
            | .halt _ _ => none) = _
          rw [stepT_spec hs]
          exact z
end
def envT (p : Program) (cv : Value) (fr : Addr) : Env := { scope := p.main.scope, locals := mainNs, globals := mainNs, cells := [], code := cv, frame := some fr }
def codT (p : Program) (cv : Value) (fr : Addr) : Code := .body (behindTheImports p) (envT p cv fr)
def firstF (st : SharedT → Thread → Option (SharedT × Thread)) (p : Program) (w : World) (cv : Value) (fr : Addr) (q : Pos) (m0 mB m : Nat) (l : List Stmt) (os : OsState) : Option (Nat × Thread × Flow × Code × Flow × SharedT × Code × Pos) :=
  match putAll (boot_heap w.params).objs.toList .nil 0 with
  | some (t, n) => frNat n fun n0 => match preF st n0 (bootAnn w) m0 (bootT w os (t, n0)) (topStub p) with
    | some (sa, ta) => (match segF st n0 (bootAnn w) 1 mB sa (blockOf (behindTheImports p) (envT p cv fr) ta.code ta.pos [topFrame q]) with
      | some (f1, sb, c1, p1) => (match segF st n0 (bootAnn w) 1 m sb (piecesOf l (envT p cv fr) c1 p1 [topFrame q]) with
        | some (f2, s1, c2, p2) => some (n0, ta, f1, c1, f2, s1, c2, p2)
        | none => none)
      | none => none)
    | none => none
  | none => none
def lastF (st : SharedT → Thread → Option (SharedT × Thread)) (p : Program) (w : World) (cv : Value) (fr : Addr) (q : Pos) (n0 m mf : Nat) (l : List Stmt) (s : SharedT) (pos : Pos) : Option (Flow × Code × SharedT) :=
  match segF st n0 (bootAnn w) 1 m s (piecesOf l (envT p cv fr) (codT p cv fr) pos [topFrame q]) with
  | some (f, s1, c1, p1) => (match goF st n0 (bootAnn w) mf s1 ⟨doneF .next, c1, p1, [topFrame q]⟩ with
    | some sf => some (f, c1, sf)
    | none => none)
  | none => none
def RestOk (p q : Program) (loose : List PySem.Str) (Xt : Shared → Bool) {α : Type} (ob : SharedT → α) (val : World → α) (cv : Value) (fr : Addr) (qp : Pos) (n0 : Nat) (M : Nat) (S : World → OsState → SharedT) (l : List Stmt) (pos : Pos) : Prop :=
  ∀ (w : World) (os : OsState), ∃ sf : SharedT, topRun treeTable p w n0 (bootAnn w) M (S w os).abs (restOf l (envT p cv fr) (codT p cv fr) pos [topFrame qp]) = some sf.abs ∧
    (looksF p (boot_heap w.params) sf.abs, openSeen q loose (importedModules p.main.body) Xt true sf.abs, ob sf) = (true, openGood q loose, val w)
section
variable {p q : Program} {loose : List PySem.Str} {Xt : Shared → Bool} {α : Type} {ob : SharedT → α} {val : World → α} {cv : Value} {fr : Addr} {qp : Pos} {n0 M m mf : Nat} {S S' : World → OsState → SharedT} {l l' : List Stmt} {pos pos' : Pos}
abbrev stQ (p : Program) (w : World) : SharedT → Thread → Option (SharedT × Thread) := stepQ (denQ tabQ) p w
theorem stQ_eq {p : Program} {w : World} : stQ p w = stepT (denote treeTable) p w := by
  unfold stQ
  rw [← stepQ_eq, ← denQ_eq, ← tabQ_eq]
theorem rest_last (h : ∀ (w : World) (os : OsState), (lastF (stQ p w) p w cv fr qp n0 m mf l (S w os) pos).map (fun x => (x.1, x.2.1, looksF p (boot_heap w.params) x.2.2.abs, seenQ q loose (importedModules p.main.body) Xt x.2.2.abs, ob x.2.2)) = some (.next, codT p cv fr, true, openGood q loose, val w)) :
    RestOk p q loose Xt ob val cv fr qp n0 (m + mf) S l pos := fun w os => by
  obtain ⟨⟨f, c, sf⟩, e1, e2⟩ := Option.map_eq_some_iff.mp (h w os)
  have e2' : (f, c, looksF p (boot_heap w.params) sf.abs, seenQ q loose (importedModules p.main.body) Xt sf.abs, ob sf) = (.next, codT p cv fr, true, openGood q loose, val w) := e2
  simp only [Prod.mk.injEq] at e2'
  obtain ⟨rfl, rfl, a1, a2, a3⟩ := e2'
  rw [stQ_eq] at e1
  unfold lastF at e1
  cases z : segF (stepT (denote treeTable) p w) n0 (bootAnn w) 1 m (S w os) (piecesOf l (envT p cv fr) (codT p cv fr) pos [topFrame qp]) with
  | none => rw [z] at e1; cases e1
  | some r =>
    obtain ⟨f1, s1, c1, p1⟩ := r
    rw [z] at e1
    dsimp only at e1
    cases y : goF (stepT (denote treeTable) p w) n0 (bootAnn w) mf s1 ⟨doneF .next, c1, p1, [topFrame qp]⟩ with
    | none => rw [y] at e1; cases e1
    | some sf' =>
      rw [y] at e1
      cases e1
      refine ⟨sf, ?_, ?_⟩
      · have := piece_app (rest := []) (q := qp) (segF_ok z) (piece_nil (goF_ok y))
        rw [List.append_nil] at this
        exact this
      · rw [← seenQ_eq] at a2
        rw [a1, a2, a3]
theorem rest_last3 (h1 : ∀ (w : World) (os : OsState), (lastF (stQ p w) p w cv fr qp n0 m mf l (S w os) pos).map (fun x => (x.1, x.2.1, looksF p (boot_heap w.params) x.2.2.abs)) = some (.next, codT p cv fr, true))
    (h2 : ∀ (w : World) (os : OsState), (lastF (stQ p w) p w cv fr qp n0 m mf l (S w os) pos).map (fun x => seenQ q loose (importedModules p.main.body) Xt x.2.2.abs) = some (openGood q loose))
    (h3 : ∀ (w : World) (os : OsState), (lastF (stQ p w) p w cv fr qp n0 m mf l (S w os) pos).map (fun x => ob x.2.2) = some (val w)) :
    RestOk p q loose Xt ob val cv fr qp n0 (m + mf) S l pos := rest_last fun w os => by
  obtain ⟨⟨f, c, sf⟩, e1, e2⟩ := Option.map_eq_some_iff.mp (h1 w os)
  have a2 := h2 w os
  have a3 := h3 w os
  rw [e1] at a2 a3 ⊢
  have a2' : seenQ q loose (importedModules p.main.body) Xt sf.abs = openGood q loose := Option.some.inj a2
  have a3' : ob sf = val w := Option.some.inj a3
  have e2' : (f, c, looksF p (boot_heap w.params) sf.abs) = (.next, codT p cv fr, true) := e2
  simp only [Prod.mk.injEq] at e2'
  obtain ⟨z1, z2, z3⟩ := e2'
  show some (f, c, looksF p (boot_heap w.params) sf.abs, seenQ q loose (importedModules p.main.body) Xt sf.abs, ob sf) = _
  rw [z1, z2, z3, a2', a3']
theorem left_cut {N : Nat} {m0 mB : Nat} {pos0 : Pos} (e : opening p = plainProg p.main.scope.names) (hN : Nat.ble 600 N = true) (f : ∀ s, fenceModules? p s = some s) (hb : behindTheImports p = l ++ l')
    (first : ∀ (w : World) (os : OsState), firstF (stQ p w) p w cv fr qp m0 mB m l os = some (n0, ⟨denQ tabQ (codT p cv fr), codT p cv fr, pos0, [topFrame qp]⟩, .next, codT p cv fr, .next, S w os, codT p cv fr, pos))
    (k : RestOk p q loose Xt ob val cv fr qp n0 M S l' pos) (le : Nat.ble (m0 + (mB + (m + M))) N = true) {obs : Shared → α} (ho : ∀ s : SharedT, ob s = obs s.abs) :
    LeftO p q loose Xt obs val N true := fun w => by
  obtain ⟨⟨h, gs, d, kk, os⟩, a, a'⟩ := Option.map_eq_some_iff.mp (boot_open e hN f w)
  obtain ⟨rfl, rfl, rfl, rfl⟩ : h = boot_heap w.params ∧ gs = Array.mk [] ∧ d = boot_drawn ∧ kk = boot_toks := by simpa using a'
  obtain ⟨sf, hr, hv⟩ := k w os
  have hv' : (looksF p (boot_heap w.params) sf.abs, openSeen q loose (importedModules p.main.body) Xt true sf.abs, ob sf) = (true, openGood q loose, val w) := hv
  simp only [Prod.mk.injEq] at hv'
  obtain ⟨l1, l2, l3⟩ := hv'
  have F := first w os
  rw [stQ_eq, show denQ tabQ = denote treeTable by rw [denQ_eq, tabQ_eq]] at F
  unfold firstF at F
  cases e0 : putAll (boot_heap w.params).objs.toList .nil 0 with
  | none => rw [e0] at F; cases F
  | some r0 =>
    obtain ⟨t, n⟩ := r0
    rw [e0] at F
    dsimp only at F
    rw [frNat_eq] at F
    have eh := putAll_heap e0
    have en : (boot_heap w.params).objs.size = n := by
      rw [← eh]
      exact absHeap_size t n _
    have eb : (bootT w os (t, n)).abs = ⟨boot_heap w.params, #[], boot_drawn, boot_toks, os⟩ := by
      show (⟨absHeap t n (boot_heap w.params).life, #[], boot_drawn, boot_toks, os⟩ : Shared) = _
      rw [eh]
    cases e1 : preF (stepT (denote treeTable) p w) n (bootAnn w) m0 (bootT w os (t, n)) (topStub p) with
    | none => rw [e1] at F; cases F
    | some r1 =>
      obtain ⟨sa, ta⟩ := r1
      rw [e1] at F
      dsimp only at F
      cases e2 : segF (stepT (denote treeTable) p w) n (bootAnn w) 1 mB sa (blockOf (behindTheImports p) (envT p cv fr) ta.code ta.pos [topFrame qp]) with
      | none => rw [e2] at F; cases F
      | some r2 =>
        obtain ⟨f1, sb, c1, p1⟩ := r2
        rw [e2] at F
        dsimp only at F
        cases e3 : segF (stepT (denote treeTable) p w) n (bootAnn w) 1 m sb (piecesOf l (envT p cv fr) c1 p1 [topFrame qp]) with
        | none => rw [e3] at F; cases F
        | some r3 =>
          obtain ⟨f2, s1, c2, p2⟩ := r3
          rw [e3] at F
          dsimp only at F
          have F2 := Option.some.inj F
          simp only [Prod.mk.injEq] at F2
          obtain ⟨rfl, rfl, rfl, rfl, rfl, rfl, rfl, rfl⟩ := F2
          have r2 := piece_app (segF_ok e3) hr
          rw [← hb] at r2
          have r1 := piece_block (segF_ok e2) r2
          have r0 := go_top (preF_ok e1) r1
          rw [eb] at r0
          have r := topRun_mono (N - (m0 + (mB + (m + M)))) _ _ _ _ r0
          rw [show m0 + (mB + (m + M)) + (N - (m0 + (mB + (m + M)))) = N by have := Nat.le_of_ble_eq_true le; omega] at r
          have l1' : (staticsOk (importedModules p.main.body) (boot_heap w.params) sf.abs.heap && namesBound p sf.abs.heap && gensDone sf.abs && laidKept (boot_heap w.params) sf.abs.heap) = true := l1
          have tt : topFrom treeTable p w N ⟨boot_heap w.params, Array.mk [], boot_drawn, boot_toks, os⟩ = some sf.abs := by
            unfold topFrom
            dsimp only
            rw [boot_ns]
            show (topRun treeTable p w (boot_heap w.params).objs.size (bootAnn w) N ⟨boot_heap w.params, #[], boot_drawn, boot_toks, os⟩ (topStub p)).bind _ = _
            rw [en, r]
            show (match staticsOk (importedModules p.main.body) (boot_heap w.params) sf.abs.heap && namesBound p sf.abs.heap && gensDone sf.abs && laidKept (boot_heap w.params) sf.abs.heap with | true => some sf.abs | false => none) = _
            rw [l1']
          unfold openEnds
          rw [a]
          show (topFrom treeTable p w N _).map _ = _
          rw [tt, ← l3, ho sf]
          exact congrArg some (Prod.ext l2 rfl)
end
theorem head_cut {r : OpenRow} {q : Program} {H : Hook} {ob : SharedT → H.α} {loose : List PySem.Str} {d : DefRec} {kwd : List (PySem.Str × PySem.Expr)} {cv : Value} {fr : Addr} {qp : Pos} {n0 M m m0 mB : Nat} {S : World → OsState → SharedT} {l l' : List Stmt} {pos pos0 : Pos}
    (ho : ∀ s : SharedT, ob s = H.obs s.abs) (e : opening r.prog = plainProg r.prog.main.scope.names) (f : ∀ s, fenceModules? r.prog s = some s) (hbd : behindTheImports r.prog = l ++ l')
    (first : ∀ (w : World) (os : OsState), firstF (stQ r.prog w) r.prog w cv fr qp m0 mB m l os = some (n0, ⟨denQ tabQ (codT r.prog cv fr), codT r.prog cv fr, pos0, [topFrame qp]⟩, .next, codT r.prog cv fr, .next, S w os, codT r.prog cv fr, pos))
    (k : RestOk r.prog q loose (fun s => xlAt q [] s && recOk r.toRowW.records s) ob H.val cv fr qp n0 M S l' pos)
    (hdef : defOf q r.name = some (d, kwd)) (hp : r.prog.theDef r.name = some (d.params, d.body, d.scope)) (hk : kwWritten? d.params.kwonlyargs d.params.kw_defaults = some kwd)
    (hwr : (!r.writes || r.records.isEmpty) = true) (k1 : r.wellSaid = true) (ok : (chainsOk q && opensWell r.prog && (frees r.toRowW && r.within.isEmpty)) = true) (hb : r.prog.bare) (hw : r.toRowW.promised)
    (call : WalkO q loose (XL q []) H.says r.toRowW d kwd fun f vs => PySem.call f vs) : r.Holds :=
  holds_open (r := r) (q := q) (loose := loose) (XP := XL q []) (YP := H.says) (d := d) (kwd := kwd) (left_cut (N := m0 + (mB + (m + M)) + 600) e (Nat.ble_eq_true_of_le (by omega)) f hbd first k (Nat.ble_eq_true_of_le (by omega)) ho) H.of H.keeps (fun s z => xl_of s (Bool.and_eq_true_iff.mp z).1) XL.keeps hdef hp hk (fun s z => recFacts_of (Bool.and_eq_true_iff.mp z).2) hwr k1 ok hb hw call
end Z
namespace Z
open PySem PySem.Spec PyProof.Rows L2

mutual
inductive Pl : Nat → D → Prop
  | non {n : Nat} : Pl n .non
  | int {n : Nat} (i : Int) : Pl n (.int i)
  | str {n : Nat} {x : Str} (h : PyData.strOk x = true) : Pl n (.str x)
  | tup {n : Nat} {l : List D} (h : PlL n l) : Pl (n + 1) (.tup l)
  | lst {n : Nat} {l : List D} (h : PlL n l) : Pl (n + 1) (.lst l)
inductive PlL : Nat → List D → Prop
  | nil {n : Nat} : PlL n []
  | cons {n : Nat} {d : D} {l : List D} (h : Pl n d) (r : PlL n l) : PlL n (d :: l)
end
theorem PlL.of {n : Nat} : ∀ {l : List D}, (∀ d ∈ l, Pl n d) → PlL n l
  | [], _ => .nil
  | d :: l, h => .cons (h d List.mem_cons_self) (PlL.of fun e he => h e (List.mem_cons_of_mem _ he))
mutual
theorem Pl.data : ∀ {n : Nat} {d : D}, Pl n d → ∃ p, pd d = some p ∧ PyData.canLay0 p = true ∧ PyData.depth p ≤ n ∧ ∀ (e : D) (m : Nat) (q : PyData), Pl m e → pd e = some q → (PyData.eqv p q = true ↔ d = e)
  | _, _, .non => ⟨.none, rfl, rfl, Nat.zero_le _, fun e m q h eq => by
      cases h with
      | non => cases eq; exact ⟨fun _ => rfl, fun _ => rfl⟩
      | int => cases eq; exact ⟨(fun h => by cases h), (fun h => by cases h)⟩
      | str => cases eq; exact ⟨(fun h => by cases h), (fun h => by cases h)⟩
      | tup => obtain ⟨_, _, rfl⟩ := Option.map_eq_some_iff.mp (show (pdL _).map PyData.tuple = some _ from eq); exact ⟨(fun h => by cases h), (fun h => by cases h)⟩
      | lst => obtain ⟨_, _, rfl⟩ := Option.map_eq_some_iff.mp (show (pdL _).map PyData.list = some _ from eq); exact ⟨(fun h => by cases h), (fun h => by cases h)⟩⟩
  | _, _, .int i => ⟨.int i, rfl, rfl, Nat.zero_le _, fun e m q h eq => by
      cases h with
      | non => cases eq; exact ⟨(fun h => by cases h), (fun h => by cases h)⟩
      | int => cases eq; exact ⟨fun h => by rw [show i = _ from by simpa [PyData.eqv] using h], fun h => by cases h; simp [PyData.eqv]⟩
      | str => cases eq; exact ⟨(fun h => by cases h), (fun h => by cases h)⟩
      | tup => obtain ⟨_, _, rfl⟩ := Option.map_eq_some_iff.mp (show (pdL _).map PyData.tuple = some _ from eq); exact ⟨(fun h => by cases h), (fun h => by cases h)⟩
      | lst => obtain ⟨_, _, rfl⟩ := Option.map_eq_some_iff.mp (show (pdL _).map PyData.list = some _ from eq); exact ⟨(fun h => by cases h), (fun h => by cases h)⟩⟩
  | _, _, .str (x := x) hx => ⟨.str x, rfl, hx, Nat.zero_le _, fun e m q h eq => by
      cases h with
      | non => cases eq; exact ⟨(fun h => by cases h), (fun h => by cases h)⟩
      | int => cases eq; exact ⟨(fun h => by cases h), (fun h => by cases h)⟩
      | str => cases eq; exact ⟨fun h => by rw [show x = _ from by simpa [PyData.eqv] using h], fun h => by cases h; simp [PyData.eqv]⟩
      | tup => obtain ⟨_, _, rfl⟩ := Option.map_eq_some_iff.mp (show (pdL _).map PyData.tuple = some _ from eq); exact ⟨(fun h => by cases h), (fun h => by cases h)⟩
      | lst => obtain ⟨_, _, rfl⟩ := Option.map_eq_some_iff.mp (show (pdL _).map PyData.list = some _ from eq); exact ⟨(fun h => by cases h), (fun h => by cases h)⟩⟩
  | _, _, .tup (l := l) hl => by
    obtain ⟨ps, e1, c1, d1, k⟩ := hl.pds
    refine ⟨.tuple ps, by show (pdL l).map PyData.tuple = _; rw [e1]; rfl, c1, Nat.succ_le_succ d1, fun e m q h eq => ?_⟩
    cases h with
    | non => cases eq; exact ⟨(fun h => by cases h), (fun h => by cases h)⟩
    | int => cases eq; exact ⟨(fun h => by cases h), (fun h => by cases h)⟩
    | str => cases eq; exact ⟨(fun h => by cases h), (fun h => by cases h)⟩
    | tup h' =>
      obtain ⟨qs, e2, rfl⟩ := Option.map_eq_some_iff.mp (show (pdL _).map PyData.tuple = some _ from eq)
      exact (k _ _ _ h' e2).trans ⟨fun h => by rw [h], fun h => by injection h⟩
    | lst => obtain ⟨_, _, rfl⟩ := Option.map_eq_some_iff.mp (show (pdL _).map PyData.list = some _ from eq); exact ⟨(fun h => by cases h), (fun h => by cases h)⟩
  | _, _, .lst (l := l) hl => by
    obtain ⟨ps, e1, c1, d1, k⟩ := hl.pds
    refine ⟨.list ps, by show (pdL l).map PyData.list = _; rw [e1]; rfl, c1, Nat.succ_le_succ d1, fun e m q h eq => ?_⟩
    cases h with
    | non => cases eq; exact ⟨(fun h => by cases h), (fun h => by cases h)⟩
    | int => cases eq; exact ⟨(fun h => by cases h), (fun h => by cases h)⟩
    | str => cases eq; exact ⟨(fun h => by cases h), (fun h => by cases h)⟩
    | tup => obtain ⟨_, _, rfl⟩ := Option.map_eq_some_iff.mp (show (pdL _).map PyData.tuple = some _ from eq); exact ⟨(fun h => by cases h), (fun h => by cases h)⟩
    | lst h' =>
      obtain ⟨qs, e2, rfl⟩ := Option.map_eq_some_iff.mp (show (pdL _).map PyData.list = some _ from eq)
      exact (k _ _ _ h' e2).trans ⟨fun h => by rw [h], fun h => by injection h⟩
theorem PlL.pds : ∀ {n : Nat} {l : List D}, PlL n l → ∃ ps, pdL l = some ps ∧ PyData.canLayAll0 ps = true ∧ PyData.depthAll ps ≤ n ∧ ∀ (l' : List D) (m : Nat) (qs : List PyData), PlL m l' → pdL l' = some qs → (PyData.eqvAll ps qs = true ↔ l = l')
  | _, _, .nil => ⟨[], rfl, rfl, Nat.zero_le _, fun l' m qs h eq => by
      cases h with
      | nil => cases eq; exact ⟨fun _ => rfl, fun _ => rfl⟩
      | cons h r =>
        unfold pdL at eq
        split at eq
        · cases eq
          exact ⟨(fun h => by cases h), (fun h => by cases h)⟩
        · cases eq⟩
  | _, _, .cons h r => by
    obtain ⟨p, e1, c1, d1, k1⟩ := h.data
    obtain ⟨ps, e2, c2, d2, k2⟩ := r.pds
    refine ⟨p :: ps, by unfold pdL; rw [e1, e2], by show (_ && _) = true; rw [c1, c2]; rfl, Nat.max_le.mpr ⟨d1, d2⟩, fun l' m qs h' eq => ?_⟩
    cases h' with
    | nil => cases eq; exact ⟨(fun h => by cases h), (fun h => by cases h)⟩
    | cons h' r' =>
      unfold pdL at eq
      split at eq
      case h_2 => cases eq
      rename_i p' ps' e1' e2'
      cases eq
      show (PyData.eqv p p' && PyData.eqvAll ps ps') = true ↔ _
      rw [Bool.and_eq_true, k1 _ _ _ h' e1', k2 _ _ _ r' e2', List.cons.injEq]
end
theorem Pl.shaped {n : Nat} {d : D} {p : PyData} (h : Pl n d) (e : pd d = some p) (hn : n ≤ 64) : SeqAt.shaped p = true := by
  obtain ⟨q, e1, c1, d1, _⟩ := h.data
  rw [e] at e1
  cases e1
  unfold SeqAt.shaped
  rw [c1, decide_eq_true (Nat.le_trans d1 hn)]
  rfl
theorem eqv_pl {M : Sto} {n m : Nat} {x y dx dy : D} {φ : Bool → Prop} (hx : Pl n dx) (hy : Pl m dy) (hn : n ≤ 64) (hm : m ≤ 64) (ex : toPd M x = pd dx) (ey : toPd M y = pd dy) (nt : ∀ i j, x = .int i → y = .int j → dx = x ∧ dy = y) (ns : ∀ i j, x = .str i → y = .str j → dx = x ∧ dy = y) (nb : ∀ i, x ≠ .bl i)
    (q : ∀ b : Bool, (b = true ↔ dx = dy) → φ b) : eqvD M x y φ := by
  have gen : ∃ p q, toPd M x = some p ∧ toPd M y = some q ∧ SeqAt.shaped p = true ∧ SeqAt.shaped q = true ∧ φ (PyData.eqv p q) := by
    obtain ⟨p, e1, _, _, k⟩ := hx.data
    obtain ⟨p', e2, _⟩ := hy.data
    exact ⟨p, p', ex.trans e1, ey.trans e2, hx.shaped e1 hn, hy.shaped e2 hm, q _ (k _ _ _ hy e2)⟩
  unfold eqvD
  split
  · obtain ⟨rfl, rfl⟩ := nt _ _ rfl rfl
    refine q _ ⟨fun h => by rw [of_decide_eq_true h], fun h => by cases h; exact decide_eq_true rfl⟩
  · obtain ⟨rfl, rfl⟩ := ns _ _ rfl rfl
    refine q _ ⟨fun h => by rw [of_decide_eq_true h], fun h => by cases h; exact decide_eq_true rfl⟩
  · exact absurd rfl (nb _)
  · exact gen
theorem toPd_ref {M : Sto} {d : D} {l : List D} (h : lstOf M d = some l) : toPd M d = pd (.lst l) := by
  unfold toPd
  rw [h]
  rfl
theorem lstOf_no {M : Sto} {d : D} {l : List D} (h : lstOf M d = some l) : (∀ i, d ≠ .int i) ∧ (∀ i, d ≠ .str i) ∧ ∀ i, d ≠ .bl i := by
  cases d <;> first | cases h | skip
  all_goals exact ⟨fun _ => nofun, fun _ => nofun, fun _ => nofun⟩
theorem nePlL {M : Sto} {n m : Nat} {x y : D} {l l' : List D} {φ : D → Prop} (ex : lstOf M x = some l) (ey : lstOf M y = some l') (hx : PlL n l) (hy : PlL m l') (q : ∀ b : Bool, (b = true ↔ l = l') → φ (.bl (!b))) (hn : n ≤ 63 := by decide) (hm : m ≤ 63 := by decide) : neD M x y φ := by
  unfold neD
  have n1 := lstOf_no ex
  exact eqv_pl (φ := fun b => φ (.bl (!b))) (.lst hx) (.lst hy) (Nat.succ_le_succ hn) (Nat.succ_le_succ hm) (toPd_ref ex) (toPd_ref ey) (fun _ _ e _ => absurd e (n1.1 _)) (fun _ _ e _ => absurd e (n1.2.1 _)) (fun i e => n1.2.2 _ e) fun b h => q b (h.trans ⟨fun e => by injection e, fun e => by rw [e]⟩)

section
variable {X : Cx} {B : Bs} {o e : Expr} {es : List Expr} {fo : DTE} {ga : DTA} {apos pos : Pos}
end
end Z
namespace Z
open PySem PySem.Spec PyProof.Rows L2

section
variable {M : Sto} {p : Addr} {l : List D}
theorem lstOf_at (h : M p = some (.lst l)) : lstOf M (.ref p) = some l := by
  show (match M p with | some (.lst l) => some l | _ => none) = _
  rw [h]
theorem atI_last {α : Type} {l : List α} (h : l ≠ []) : L2.atI l (-1) = l.getLast? := by
  have l0 := List.length_pos_iff.mpr h
  unfold L2.atI L2.ixN
  rw [if_neg (by decide), if_pos (by omega)]
  show l[((-1 : Int) + (l.length : Int)).toNat]? = _
  rw [List.getLast?_eq_getElem?, show ((-1 : Int) + (l.length : Int)).toNat = l.length - 1 by omega]
end
end Z
namespace Z
open PySem PySem.Spec PyProof.Rows L2

section
variable {M : Sto} {φ : Bool → Prop}
end
section
variable {X : Cx} {B : Bs} {pos : Pos} {a b : Expr} {es : List Expr} {fa fb : DTE}
end
theorem Same.L {M : Sto} {n : Nat} {a b : D} {xs ys : List D} (ea : lstOf M a = some xs) (eb : lstOf M b = some ys) (h : SameL M n xs ys) (hl : xs.length ≤ 1000000) : Same M (n + 1) a b :=
  .inr (.inr (.inr (.inr ⟨xs, ys, .inl ⟨ea, eb⟩, h.len, hl, h.get⟩)))
theorem HandAt.upd {M : Sto} {p u : Addr} {c : Cell} (h : HandAt M p) (hu : M u = none) : HandAt (updM M u c) p := by
  obtain ⟨k, e, a, b⟩ := h
  exact ⟨k, by rw [updM_ne fun z => by rw [z, hu] at e; cases e]; exact e, a, b⟩
theorem HandAt.put {M : Sto} {p u : Addr} {c : Cell} {l : List D} (h : HandAt M p) (hu : p ≠ u) : HandAt (updM M u c) p := by
  obtain ⟨k, e, a, b⟩ := h
  exact ⟨k, by rw [updM_ne hu]; exact e, a, b⟩
theorem HandAt.ne {M : Sto} {p u : Addr} (h : HandAt M p) (hu : M u = none) : p ≠ u := fun z => by
  obtain ⟨k, e, _⟩ := h
  rw [z, hu] at e
  cases e
end Z
namespace Z
open PySem PySem.Spec PyProof.Rows L2

section
variable {X : Cx} {B : Bs} {Ξ : XD → En → Sto → Prop} {k j n : Nat} {c : Ct} {pos apos p : Pos} {e : Expr} {es : List Expr} {kws : List Keyword} {ga gk : DTA} {C : Addr} {m x : Str} {ks : List Str} {g : List D → List D → List D} {bs : List (Nat × List Str × (List D → List D → List D))}
end
end Z
namespace Z
open PySem PySem.Spec PyProof.Rows L2

section
variable {X : Cx} {B : Bs} {pos : Pos} {es : List Expr}
def lstN (n : Nat) (f : DTGs) : DTG := fun d r M Ψ => ∃ l, lstOf M d = some l ∧ l.length = n ∧ f l r M Ψ
theorem dg_lst {k n : Nat} {f : DTGs} (hc : X.calm = true) (h : DGs X B es f) (hn : (assignEach es X.env).length = n := by rfl) (hf : List.findIdx? (fun x => x.fst) (assignEach es X.env) = none := by rfl) : DG X B (.Tuple es k pos) (lstN n f) :=
  PG_imp (pg_lst hc h hn hf) fun v σ H Q ⟨d, r, M, G, Ψ, R, p, ⟨l, e, hl, h⟩, k⟩ => by
    obtain ⟨a, vs, rfl, h1, r1⟩ := lst_rep' R.wd p e
    exact ⟨_, _, rfl, h1, by rw [← r1.length]; exact hl, _, r, M, G, Ψ, R, r1, h, k⟩
end
section
variable {ts : List DTE} {a w : List Nat} {r : En} {M : Sto} {φ : Str → Sto → Prop}
theorem js_s {s : Str} (h : s = ⟨w.toArray⟩) (hl : a.length + w.length ≤ 400000) (q : jsD ts ⟨(a ++ w).toArray⟩ r M φ) : jsD ((fun _ M Ψ => Ψ (.str s) M) :: ts) ⟨a.toArray⟩ r M φ := by
  subst h
  show (_ ++ _ : Str).length ≤ sizeLine ∧ jsD ts (_ ++ _) r M φ
  rw [wapp]
  exact ⟨w_sz (by rw [List.length_append]; exact hl), q⟩
theorem empty_w : Str.empty = ⟨([] : List Nat).toArray⟩ := rfl
end
theorem ws_sum : ∀ ps : List (List Nat), ((ps.map fun p => (⟨p.toArray⟩ : Str)).map (·.length)).sum = ps.flatten.length
  | [] => rfl
  | p :: ps => by
    rw [List.map_cons, List.map_cons, List.sum_cons, ws_sum ps, List.flatten_cons, List.length_append, wlen]
theorem strs_ws (ps : List (List Nat)) : strsD (ps.map fun p => D.str ⟨p.toArray⟩) = some (ps.map fun p => (⟨p.toArray⟩ : Str)) := by
  have h := strsD_map (ps.map fun p => (⟨p.toArray⟩ : Str))
  rw [List.map_map] at h
  exact h
end Z
namespace Z
open PySem PySem.Spec PyProof.Rows L2

open Classical in
noncomputable def dlook (l : List (D × D)) (c : D) : Option D := (l.find? fun kv => decide (kv.1 = c)).map (·.2)
open Classical in
noncomputable def dput (l : List (D × D)) (c d : D) : List (D × D) := if (dlook l c).isSome = true then l.map (fun kv => if kv.1 = c then (kv.1, d) else kv) else l ++ [(c, d)]
section
variable {K : PySem.W.Frag} {G : Hp} {c d : D} {l : List (D × D)}
end
section
variable {K : PySem.W.Frag} {M : Sto} {H G : Hp} {x y d : D} {v u t : V}
end
section
variable {X : Cx} {B : Bs} {pos p3 : Pos} {a b : Expr} {es : List Expr} {fa fb fc : DTE} {ga : DTA} {k : Nat}
end
end Z
namespace L2
open PySem PySem.Spec PyProof.Rows
end L2
namespace Z
open PySem PySem.Spec PyProof.Rows L2
section
variable {X : Cx} {B : Bs} {pos : Pos} {a b : Expr} {fk fv : DTE} {k : Nat}
end
end Z
namespace Z
open PySem PySem.Spec PyProof.Rows L2

noncomputable def wd (t : T4) : List Nat := Classical.epsilon fun w => ∃ u, Tk t w u
noncomputable def lf (t : T4) : T4 := Classical.epsilon fun u => ∃ w, Tk t w u
theorem wd_lf {t u : T4} {w : List Nat} (hd : 0 < det4 t) (h : Tk t w u) : wd t = w ∧ lf t = u := by
  have h1 : ∃ u, Tk t (wd t) u := Classical.epsilon_spec (p := fun w => ∃ u, Tk t w u) ⟨w, u, h⟩
  have h2 : ∃ w, Tk t w (lf t) := Classical.epsilon_spec (p := fun u => ∃ w, Tk t w u) ⟨u, w, h⟩
  obtain ⟨u', h1⟩ := h1
  obtain ⟨w', h2⟩ := h2
  exact ⟨(Tk.uniq hd h1 h).1, (Tk.uniq hd h2 h).2⟩
def tother (c : Nat) : Nat := if c = 76 then 82 else 76
def trn (tu : Bool) (c : Nat) : Nat := if tu = true then tother c else c
noncomputable def gol (tu : Bool) (u : T4) (c : Nat) : T4 := lf (mul4 u (turnT (trn tu c)))
noncomputable def tld (tu : Bool) (u : T4) (c : Nat) : List Nat := wd (mul4 u (turnT (trn tu c)))
open Classical in
noncomputable def insR (l : List T4) (g : T4) : List T4 := if g ∈ l then l else l ++ [g]
noncomputable def stD (tu : Bool) (u : T4) (l : List T4) (c : Nat) : D := .tup [.str ⟨(tld tu u c).toArray⟩, .int (l.idxOf (gol tu u c) : Nat)]
theorem tk_ex : ∀ (n : Nat) {t : T4}, sum4 t ≤ n → Nn t → 0 < det4 t → ∃ w u, Tk t w u
  | 0, t, hs, hn, hd => by
    exfalso
    obtain ⟨a, b, c, d⟩ := t
    unfold sum4 at hs
    unfold det4 at hd
    dsimp only at hs hd
    have e1 : a = 0 := by omega
    have e2 : b = 0 := by omega
    subst e1 e2
    simp at hd
  | n + 1, t, hs, hn, hd => by
    cases hb : bR t with
    | true =>
      obtain ⟨k, _, k1, hn2, hs2⟩ := stepR_ok hn hd hb
      have e := mul_subR k t
      have hd2 : det4 (subR k t) = det4 t := det_w e
      obtain ⟨w, u, h⟩ := tk_ex n (t := subR k t) (by omega) hn2 (by rw [hd2]; exact hd)
      refine ⟨List.replicate k 82 ++ w, u, ⟨fun d hd => ?_, ?_, h.nn, h.bal⟩⟩
      · rcases List.mem_append.mp hd with z | z
        · exact .inr (List.eq_of_mem_replicate z)
        · exact h.lr d z
      · rw [wL_app, mul_assoc4, h.eq, e]
    | false =>
      cases hb2 : bL t with
      | true =>
        obtain ⟨k, _, k1, hn2, hs2⟩ := stepL_ok hn hd hb2
        have e := mul_subL k t
        have hd2 : det4 (subL k t) = det4 t := det_w e
        obtain ⟨w, u, h⟩ := tk_ex n (t := subL k t) (by omega) hn2 (by rw [hd2]; exact hd)
        refine ⟨List.replicate k 76 ++ w, u, ⟨fun d hd => ?_, ?_, h.nn, h.bal⟩⟩
        · rcases List.mem_append.mp hd with z | z
          · exact .inl (List.eq_of_mem_replicate z)
          · exact h.lr d z
        · rw [wL_app, mul_assoc4, h.eq, e]
      | false => exact ⟨[], t, Tk.bal_self hn ⟨hb, hb2⟩⟩
theorem tk_lf {t : T4} (hn : Nn t) (hd : 0 < det4 t) : Tk t (wd t) (lf t) := by
  obtain ⟨w, u, h⟩ := tk_ex _ (Nat.le_refl _) hn hd
  obtain ⟨e1, e2⟩ := wd_lf hd h
  rw [e1, e2]; exact h
def pr4 (t : T4) : T4 := (t.1.fdiv (gN (iL t)), t.2.1.fdiv (gN (iL t)), t.2.2.1.fdiv (gN (iL t)), t.2.2.2.fdiv (gN (iL t)))
theorem gN_pos {t : T4} (hd : det4 t ≠ 0) : 0 < gN (iL t) := by
  obtain ⟨x, hx, h0⟩ := det_ne hd
  exact Nat.pos_of_ne_zero fun z => h0 (gN_zero z x hx)
theorem pr4_sc {t : T4} (hd : det4 t ≠ 0) : sc (gN (iL t)) (pr4 t) = t := by
  have hg := gN_pos hd
  have e : ∀ x ∈ iL t, (gN (iL t) : Int) * x.fdiv (gN (iL t)) = x := fun x hx => fdiv_ex hg (gN_dvd hx)
  show (_, _, _, _) = t
  obtain ⟨a, b, c, d⟩ := t
  dsimp only [pr4]
  rw [e a (by simp [iL]), e b (by simp [iL]), e c (by simp [iL]), e d (by simp [iL])]
theorem det_sc (m : Int) (t : T4) : det4 (sc m t) = m * m * det4 t := by unfold det4 sc; simp only; grind
theorem pr4_det {t : T4} (hd : det4 t ≠ 0) : det4 (pr4 t) ≠ 0 ∧ (0 < det4 (pr4 t) ↔ 0 < det4 t) := by
  have e : det4 t = (gN (iL t) : Int) * gN (iL t) * det4 (pr4 t) := by
    conv => lhs; rw [← pr4_sc hd]
    exact det_sc _ _
  have hg : (0 : Int) < (gN (iL t) : Int) * gN (iL t) := Int.mul_pos (by have := gN_pos hd; omega) (by have := gN_pos hd; omega)
  refine ⟨fun z => hd (by rw [e, z, Int.mul_zero]), ⟨fun h => by rw [e]; exact Int.mul_pos hg h, fun h => ?_⟩⟩
  rcases Int.lt_or_le 0 (det4 (pr4 t)) with z | z
  · exact z
  · have := Int.mul_nonpos_of_nonneg_of_nonpos (show (0 : Int) ≤ (gN (iL t) : Int) * gN (iL t) by omega) z
    omega
theorem fdiv_le_abs {x : Int} {g : Nat} (hg : 0 < g) (h : g ∣ x.natAbs) : (x.fdiv g).natAbs ≤ x.natAbs := by
  have e := fdiv_ex hg h
  conv => rhs; rw [← e]
  rw [Int.natAbs_mul, Int.natAbs_natCast]
  exact Nat.le_mul_of_pos_left _ hg
theorem pr4_le {t : T4} (hd : det4 t ≠ 0) : (pr4 t).1.natAbs ≤ t.1.natAbs ∧ (pr4 t).2.1.natAbs ≤ t.2.1.natAbs ∧ (pr4 t).2.2.1.natAbs ≤ t.2.2.1.natAbs ∧ (pr4 t).2.2.2.natAbs ≤ t.2.2.2.natAbs := by
  have hg := gN_pos hd
  refine ⟨fdiv_le_abs hg (gN_dvd ?_), fdiv_le_abs hg (gN_dvd ?_), fdiv_le_abs hg (gN_dvd ?_), fdiv_le_abs hg (gN_dvd ?_)⟩ <;> simp [iL]
theorem pr4_sum {t : T4} (hd : det4 t ≠ 0) : sum4 (pr4 t) ≤ sum4 t := by
  obtain ⟨a, b, c, d⟩ := pr4_le hd
  unfold sum4
  omega
theorem fdiv_nn {x : Int} (g : Nat) (h : 0 ≤ x) : 0 ≤ x.fdiv g := Int.fdiv_nonneg h (by omega)
theorem pr4_nn {t : T4} (h : Nn t) : Nn (pr4 t) := ⟨fdiv_nn _ h.1, fdiv_nn _ h.2.1, fdiv_nn _ h.2.2.1, fdiv_nn _ h.2.2.2⟩
theorem iL_scm (m : Int) (t : T4) : iL (sc m t) = (iL t).map (m * ·) := rfl
theorem pr4_scale {t : T4} (k : Nat) (hk : 0 < k) (hd : det4 t ≠ 0) : pr4 (sc k t) = pr4 t := by
  have hg := gN_pos hd
  have e : gN (iL (sc k t)) = k * gN (iL t) := by rw [iL_scm, gN_mul, Int.natAbs_natCast]
  have q : ∀ x ∈ iL t, ((k : Int) * x).fdiv ((k * gN (iL t) : Nat)) = x.fdiv (gN (iL t)) := fun x hx => by
    have h1 := fdiv_ex hg (gN_dvd hx)
    have h2 : 0 < k * gN (iL t) := Nat.mul_pos hk hg
    have h3 := fdiv_ex (g := k * gN (iL t)) (x := (k : Int) * x) h2 (by rw [Int.natAbs_mul, Int.natAbs_natCast]; exact Nat.mul_dvd_mul_left k (gN_dvd hx))
    refine Int.eq_of_mul_eq_mul_left (a := ((k * gN (iL t) : Nat) : Int)) (by omega) ?_
    rw [h3]
    rw [Int.natCast_mul, Int.mul_assoc, h1]
  show (_, _, _, _) = (_, _, _, _)
  rw [e]
  obtain ⟨a, b, c, d⟩ := t
  dsimp only [sc]
  rw [q a (by simp [iL]), q b (by simp [iL]), q c (by simp [iL]), q d (by simp [iL])]
def swC (t : T4) : T4 := (t.2.1, t.1, t.2.2.2, t.2.2.1)
theorem det_swC (t : T4) : det4 (swC t) = - det4 t := by unfold det4 swC; simp only; grind
def mtu (t : T4) : Bool := decide (det4 (pr4 t) < 0)
def mpl (t : T4) : T4 := if mtu t = true then swC (pr4 t) else pr4 t
theorem mpl_ok {t : T4} (hn : Nn t) (hd : det4 t ≠ 0) : Nn (mpl t) ∧ det4 (mpl t) = ((det4 (pr4 t)).natAbs : Nat) ∧ 0 < det4 (mpl t) ∧ sum4 (mpl t) ≤ sum4 t := by
  have h1 := pr4_nn hn
  have h2 := (pr4_det hd).1
  have h3 := pr4_sum hd
  unfold mpl
  cases e : mtu t with
  | true =>
    have := of_decide_eq_true e
    rw [if_pos rfl, det_swC]
    refine ⟨⟨h1.2.1, h1.1, h1.2.2.2, h1.2.2.1⟩, by omega, by omega, ?_⟩
    unfold sum4 at h3 ⊢
    unfold swC
    dsimp only
    omega
  | false =>
    have := of_decide_eq_false e
    rw [if_neg (by simp)]
    exact ⟨h1, by omega, by omega, h3⟩
end Z
namespace Z
open PySem PySem.Spec PyProof.Rows L2

variable {M0 M : Sto} {tu : Bool} {p1 p2 p3 p4 : Addr} {l : List T4} {ps : List Addr} {u g : T4}
def cI (i : Nat) : Nat := if i = 0 then 76 else 82
noncomputable def lI (tu : Bool) (l : List T4) (v : T4) : Nat → List T4
  | 0 => l
  | i + 1 => insR (lI tu l v i) (gol tu v (cI i))
noncomputable def rI (tu : Bool) (l : List T4) (v : T4) : Nat → List (D × D)
  | 0 => []
  | i + 1 => dput (rI tu l v i) (.str ⟨#[cI i]⟩) (stD tu v (lI tu l v (i + 1)) (cI i))
end Z
namespace Z
open PySem PySem.Spec PyProof.Rows L2

theorem gN_sw (t : T4) : gN (iL (sw4' t)) = gN (iL t) := by
  obtain ⟨a, b, c, d⟩ := t
  show Nat.gcd (Nat.gcd (Nat.gcd (Nat.gcd 0 b.natAbs) a.natAbs) d.natAbs) c.natAbs = Nat.gcd (Nat.gcd (Nat.gcd (Nat.gcd 0 a.natAbs) b.natAbs) c.natAbs) d.natAbs
  rw [Nat.gcd_zero_left, Nat.gcd_zero_left, Nat.gcd_comm b.natAbs, Nat.gcd_assoc _ d.natAbs, Nat.gcd_comm d.natAbs, ← Nat.gcd_assoc]
theorem pr4_sw (t : T4) : pr4 (sw4' t) = sw4' (pr4 t) := by
  unfold pr4
  rw [gN_sw]
  rfl
theorem sw_swC (t : T4) : swC (sw4' t) = t := rfl
theorem Tk.sc {t u : T4} {w : List Nat} {m : Int} (hm : 0 < m) (h : Tk t w u) : Tk (Z.sc m t) w (Z.sc m u) := by
  refine ⟨h.lr, by rw [mul_sc4, h.eq], nn_sc' (by omega) h.nn, ?_⟩
  obtain ⟨a, b, c, d⟩ := u
  have e : ∀ x y : Int, (decide (m * x ≤ m * y)) = decide (x ≤ y) := fun x y => by
    by_cases z : x ≤ y
    · rw [decide_eq_true z, decide_eq_true (Int.mul_le_mul_of_nonneg_left z (by omega))]
    · rw [decide_eq_false z, decide_eq_false fun q => z (Int.le_of_mul_le_mul_left q hm)]
  obtain ⟨r, l⟩ := h.bal
  refine ⟨?_, ?_⟩
  · unfold bR Z.sc at *
    dsimp only at *
    rw [e, e]; exact r
  · unfold bL Z.sc at *
    dsimp only at *
    rw [e, e]; exact l
theorem pr4_size {t : T4} (hd : det4 t ≠ 0) : (det4 (pr4 t)).natAbs ≤ (det4 t).natAbs := by
  have e : det4 t = (gN (iL t) : Int) * gN (iL t) * det4 (pr4 t) := by
    conv => lhs; rw [← pr4_sc hd]
    exact Z.det_sc _ _
  have hg := gN_pos hd
  rw [e, Int.natAbs_mul]
  refine Nat.le_mul_of_pos_left _ ?_
  rw [Int.natAbs_mul, Int.natAbs_natCast]
  exact Nat.mul_pos hg hg
structure Mil1 (cap : Nat) (t : T4) : Prop where
  nn : Nn t
  det : det4 t ≠ 0
  sm : Sm 20 t
  size : (det4 (pr4 t)).natAbs ≤ cap
  sum : sum4 (pr4 t) ≤ 144 * cap
  lead : ∀ w u, Tk (mpl t) w u → w.length ≤ 3 + 24 * cap
theorem Mil1.ex {cap : Nat} {t : T4} (h : Mil1 cap t) : Tk (mpl t) (wd (mpl t)) (lf (mpl t)) := by
  obtain ⟨a, b, c, d⟩ := mpl_ok h.nn h.det
  exact tk_lf a c
theorem mil1_mk {cap : Nat} {w1 : List Nat} {c : T4} {m : Int} {t : T4} (hw : LR w1) (hl : w1.length ≤ 3) (hn : Nn c) (hd : 0 < det4 c) (hdc : det4 c ≤ cap) (hs : sum4 c ≤ 24 * cap) (le : Le4 (36 * cap) (mul4 (wL w1) c)) (hc : cap ≤ 60) (m1 : 1 ≤ m) (m3 : m ≤ 3)
    (ht : t = sc m (mul4 (wL w1) c) ∨ t = sw4' (sc m (mul4 (wL w1) c))) : Mil1 cap t := by
  have nn0 : Nn (mul4 (wL w1) c) := (nn_wL w1).mul hn
  have d0 : det4 (mul4 (wL w1) c) = det4 c := by rw [det_mul, det_wL, Int.one_mul]
  have tk0 : ∀ w u, Tk (pr4 (mul4 (wL w1) c)) w u → w.length ≤ 3 + 24 * cap := fun w u h => by
    have hne : det4 (mul4 (wL w1) c) ≠ 0 := by omega
    have hg := gN_pos hne
    have h1 := h.sc (m := (gN (iL (mul4 (wL w1) c)) : Int)) (by omega)
    rw [pr4_sc hne] at h1
    obtain ⟨w', u', h2⟩ := tk_ex _ (Nat.le_refl _) hn hd
    have h3 := h2.app hw
    obtain ⟨e, _⟩ := Tk.uniq (by omega) h1 h3
    have := len_sum h2.lr h2.nn hd h2.eq
    rw [e, List.length_append]
    omega
  have s0 := le.sum (n := 36 * cap) nn0
  generalize mul4 (wL w1) c = t0 at *
  have hne : det4 t0 ≠ 0 := by omega
  obtain ⟨k, rfl⟩ : ∃ k : Nat, m = (k : Int) := ⟨m.toNat, by omega⟩
  have ep : pr4 (sc k t0) = pr4 t0 := pr4_scale k (by omega) hne
  have nns : Nn (sc k t0) := nn_sc' (by omega) nn0
  have dts : det4 (sc k t0) ≠ 0 := by have := det_sc_pos m1 (show 0 < det4 t0 by omega); omega
  have hsum : sum4 (pr4 t0) ≤ 144 * cap := by have := pr4_sum hne; omega
  have hsize : (det4 (pr4 t0)).natAbs ≤ cap := by have := pr4_size hne; omega
  have hp : 0 < det4 (pr4 t0) := (pr4_det hne).2.mpr (by omega)
  have hsm : Sm 20 (sc k t0) := by
    refine sm_of_sum ?_
    rw [sum_sc, Int.natAbs_natCast]
    have : k * sum4 t0 ≤ 3 * (4 * (36 * cap)) := Nat.mul_le_mul (by omega) s0
    show _ < 1048576
    omega
  rcases ht with rfl | rfl
  · refine ⟨nns, dts, hsm, by rw [ep]; exact hsize, by rw [ep]; exact hsum, ?_⟩
    have : mtu (sc k t0) = false := decide_eq_false (by rw [ep]; omega)
    unfold mpl
    rw [this, if_neg (by simp), ep]
    exact tk0
  · have eq : pr4 (sw4' (sc k t0)) = sw4' (pr4 t0) := by rw [pr4_sw, ep]
    refine ⟨⟨nns.2.1, nns.1, nns.2.2.2, nns.2.2.1⟩, by rw [det_sw']; omega, ⟨hsm.2.1, hsm.1, hsm.2.2.2, hsm.2.2.1⟩, ?_, ?_, ?_⟩
    · rw [eq, det_sw', Int.natAbs_neg]; exact hsize
    · rw [eq, sum_sw]; exact hsum
    have : mtu (sw4' (sc k t0)) = true := decide_eq_true (by rw [eq, det_sw']; omega)
    unfold mpl
    rw [this, if_pos rfl, eq, sw_swC]
    exact tk0
end Z
namespace Z
open PySem PySem.Spec PyProof.Rows L2

def u4 (t : T4) : Nat × Nat × Nat × Nat := (t.1.toNat, t.2.1.toNat, t.2.2.1.toNat, t.2.2.2.toNat)
end Z
namespace Z
open PySem PySem.Spec PyProof.Rows L2

mutual
def nb : D → D
  | .bl b => .int (if b = true then 1 else 0)
  | .tup l => .tup (nbL l)
  | .tpl l => .tup (nbL l)
  | .lst l => .lst (nbL l)
  | d => d
def nbL : List D → List D
  | [] => []
  | d :: r => nb d :: nbL r
end
section
variable {X : Cx} {B : Bs} {pos p : Pos} {a b : Expr} {ga : DTA} {C C2 : Addr}
end

section
variable {X : Cx} {B : Bs} {k j n : Nat} {c : Ct} {pos : Pos} {a b : Expr} {fa fb : DTE} {C C2 : Addr} {bs : List (Nat × List Str × (List D → List D → List D))}
end
end Z
namespace Z
open PySem PySem.Spec PyProof.Rows L2

section
variable {X : Cx} {B : Bs} {k : Nat} {o e : Expr} {es : List Expr} {fo : DTE} {ga : DTA} {apos pos p : Pos}
end
end Z
namespace Z
open PySem PySem.Spec PyProof.Rows L2

variable {M0 M : Sto} {tu : Bool} {p1 p3 p4 : Addr} {l : List T4} {ps : List Addr} {u g : T4}
end Z
namespace Z
open PySem PySem.Spec PyProof.Rows L2

def tab (C : Addr) (t : T4) : D := .obj C [("whole", tD t)]
theorem isO_in {C : Addr} {M : Sto} {p : Addr} {fs : List (Str × D)} {φ : List (Str × D) → Prop} (h : M p = some (.ins C fs)) (q : φ fs) : isO C M (.ref p) φ := by
  unfold isO
  rw [show objOf M (.ref p) = some (C, fs) from by show (match M p with | some (.ins C fs) => some (C, fs) | _ => none) = _; rw [h]]
  exact ⟨rfl, q⟩
end Z
namespace Z
open PySem PySem.Spec PyProof.Rows L2

section
variable {n : Int} {tu : Bool}
end
end Z
namespace Z
open PySem PySem.Spec PyProof.Rows L2

end Z
namespace Z
open PySem PySem.Spec PyProof.Rows L2

def row (C : Addr) (x y : List Nat) : D := .obj C [("whole", .tup [.str ⟨x.toArray⟩, .str ⟨y.toArray⟩])]
end Z
namespace Z
open PySem PySem.Spec PyProof.Rows L2

end Z
namespace Z
open PySem PySem.Spec PyProof.Rows L2

end Z
namespace Z
open PySem PySem.Spec PyProof.Rows L2

end Z
namespace Z
open PySem PySem.Spec PyProof.Rows L2
def obsF (ts : Tbs) (as : List Addr) (fa : List FF) (fn : List DefZ) (g : Addr → Option Obj) : He.AlD := ((obsZ fa fn (He.frG g as)).1 && tabB ts g (He.frG g as), (obsZ fa fn (He.frG g as)).2)
def hookF (ts : Tbs) (as : List Addr) (fa : List FF) (fn : List DefZ) : PySem.W.Hook where
  α := He.AlD
  obs := fun s => obsF ts as fa fn s.heap.get?
  val := fun _ => valZ fn
  says := fun _ h => ∃ K : PySem.W.Frag, K.In h ∧ SaysZ fa fn K ∧ TabZ ts K h
  of := fun _ s e => ⟨He.frG s.heap.get? as, He.frG_in, by
    have e1 : ((obsZ fa fn (He.frG s.heap.get? as)).1 && tabB ts s.heap.get? (He.frG s.heap.get? as)) = true := congrArg (fun z : He.AlD => z.1) e
    have e2 : (obsZ fa fn (He.frG s.heap.get? as)).2 = fn.map DefZ.val := congrArg (fun z : He.AlD => z.2) e
    obtain ⟨h1, h2⟩ := He.ba e1
    exact ⟨Prod.ext h1 e2, tabB_ok h2⟩⟩
  keeps := fun _ _ _ ⟨K, hK, c, t⟩ k => ⟨K, PySem.W.Frag.In.keeps hK k, c, fun q hq => let ⟨a, b⟩ := t.ok q hq; ⟨k _ _ a, b⟩, t.nd⟩
theorem obsF_eq {ts : Tbs} {as : List Addr} {fa : List FF} {fn : List DefZ} {g : Addr → Option Obj} {s : Shared} (h : ∀ a, g a = s.heap.get? a) : obsF ts as fa fn g = (hookF ts as fa fn).obs s := by
  have e : g = s.heap.get? := funext h
  rw [e] <;> rfl
end Z
namespace Z
open PySem PySem.Spec PyProof.Rows L2

section
variable {X : Cx} {B : Bs} {Ξ : XD → En → Sto → Prop}
end

section
variable {X : Cx} {B : Bs} {o : Expr} {fn : Str} {pos : Pos} {C : Addr} {fo : DTE} {to : TE}
end

section
variable {X : Cx} {B : Bs} {Ξ : XD → En → Sto → Prop} {k j : Nat} {c : Ct} {pos apos : Pos} {e o : Expr} {es : List Expr} {ga : DTA} {fo : DTE} {C : Addr} {m : Str}
end

section
variable {X : Cx} {tg : Expr}
end
end Z
namespace Z
open PySem PySem.Spec PyProof.Rows L2

end Z
namespace Z
open PySem PySem.Spec PyProof.Rows L2

end Z
namespace Z
open PySem PySem.Spec PyProof.Rows L2

theorem cut_mid {w : List Nat} {a b : Nat} : cutS ⟨w.toArray⟩ (some (a : Int)) (some (b : Int)) = ⟨((w.drop a).take (b - a)).toArray⟩ := by
  unfold cutS
  rw [HT.sIx_nat, HT.sIx_nat, wlen]
  congr 2
  rcases Nat.le_total a w.length with h | h
  · rw [Nat.min_eq_left h]
    rcases Nat.le_total b w.length with h2 | h2
    · rw [Nat.min_eq_left h2]
    · rw [Nat.min_eq_right h2, List.take_of_length_le (by simp), List.take_of_length_le (by rw [List.length_drop]; omega)]
  · rw [Nat.min_eq_right h, List.drop_of_length_le h, List.drop_of_length_le (Nat.le_refl _), List.take_nil, List.take_nil]
theorem sl_mid {M : Sto} {w : List Nat} {a b : Nat} {φ : D → Prop} (h : w.length ≤ 400000) (q : φ (.str ⟨((w.drop a).take (b - a)).toArray⟩)) : slD M (.str ⟨w.toArray⟩) (some (a : Int)) (some (b : Int)) φ := by
  refine ⟨w_sz h, ?_⟩
  rw [cut_mid]
  exact q
end Z
namespace Z
open PySem PySem.Spec PyProof.Rows L2

end Z
namespace Z
open PySem PySem.Spec PyProof.Rows L2

end Z
namespace Z
open PySem PySem.Spec PyProof.Rows L2

section
variable {prog : Program} {w : World} {A : Around} {E : Value → Shared → Prop} {s : Shared}
theorem unpackS {t : Addr} {items : Array Value} {k : Nat} {Q : List Value → Shared → Prop} (hh : A.handled = none) (hl : IsTup s.heap t items) (hk : k ≤ items.size) (hz : items.size ≤ 16384)
    (h : ∀ (h' : Heap) (tk : Nat), (∀ b o, s.heap.get? b = some o → h'.get? b = some o) → Q (items.toList.take k ++ [.ref h'.objs.size]) { s with heap := h'.push { cls := .type "list", data := .seq (items.toList.drop k).toArray }, toks := tk }) : wpAny (model prog w) A (unpackItems (.ref t) (k + 1) (some k)) Q E s := by
  have hlt : t ≠ s.heap.objs.size := by obtain ⟨o, ho, _⟩ := hl; exact Nat.ne_of_lt (Heap.lt_size ho)
  unfold unpackItems
  refine wpAny_bind ?_
  unfold notIterableAtAll
  refine wpAny_bind (wpAny_specialOf hl.typeIs slot_tuple_iter.lookup ?_)
  refine wpAny_pure ?_
  simp only [Bool.false_eq_true, if_false]
  refine wpAny_bind (wpAny_holding (iter_tuple hl ?_))
  refine wpAny_bind (wpAny_holding (draw_tuple hlt k 0 _ _ ⟨_, Heap.get?_push_size _ rfl, rfl, rfl⟩ (hl.push _) (by omega) fun h₁ hit₁ hs₁ => ?_))
  have hl₁ : IsTup h₁ t items := (hl.push _).extBut hs₁.extBut hlt
  rw [Nat.zero_add] at hit₁
  have hit₁' := hit₁
  obtain ⟨oi, hoi, _⟩ := hit₁'
  have hl₁' := hl₁
  obtain ⟨ol, hol, _⟩ := hl₁'
  rw [List.drop_zero]
  have hfl : (items.toList.take k).length = k := by rw [List.length_take, Array.length_toList]; omega
  rw [if_neg (show ¬ ((items.toList.take k).length < k) by rw [hfl]; omega)]
  refine wpAny_bind (wpAny_holding (PySem.W.kun_collect (s := { s with heap := h₁ }) (T := "tuple_iterator") (.inr (.inr (.inr rfl))) (Walks.tuple (A := A.in1) hh s.heap.objs.size t hlt items) (fun j u st => st.1.typeIs) (k := k) hk ⟨hit₁, hl₁⟩ (Heap.lt_size hoi) (Heap.lt_size hol) (fun h₂ tk hk2 => ?_) (by rw [sizeLine_eq]; omega)))
  have hrl : (items.toList.drop k).length = items.size - k := by rw [List.length_drop, Array.length_toList]
  show wpAny _ _ (if (items.toList.drop k).length < k + 1 - 1 - k then _ else _) _ _ _
  rw [if_neg (by omega)]
  show wpAny _ _ (newList ((items.toList.drop k).take ((items.toList.drop k).length - (k + 1 - 1 - k))) >>= fun d => pure (items.toList.take k ++ [d] ++ (items.toList.drop k).drop ((items.toList.drop k).length - (k + 1 - 1 - k)))) _ _ _
  rw [show (items.toList.drop k).length - (k + 1 - 1 - k) = (items.toList.drop k).length by omega, List.take_length, List.drop_length]
  refine wpAny_bind (wpAny_newList ?_ (by rw [hrl, sizeLine_eq]; omega))
  refine wpAny_pure ?_
  rw [List.append_nil]
  have he : ∀ b o, s.heap.get? b = some o → h₂.get? b = some o := fun b o e => by
    have hb : b ≠ s.heap.objs.size := Nat.ne_of_lt (Heap.lt_size e)
    exact hk2 b o hb (hs₁.extBut b o hb (Heap.get?_push_of_some _ e))
  exact h h₂ tk he
end
inductive Bds (N : List Str) (K : PySem.W.Frag) (G : Hp) : List Nat → List D → List (Str × Value) → Prop
  | nil : Bds N K G [] [] []
  | cons {i : Nat} {is : List Nat} {x : Str} {d : D} {ds : List D} {v : V} {u : Value} {bs : List (Str × Value)} : N[i]? = some x → Rep K G d v → RelV v u → Bds N K G is ds bs → Bds N K G (i :: is) (d :: ds) ((x, u) :: bs)
theorem Bds.mono {N : List Str} {K : PySem.W.Frag} {G G' : Hp} (s : Sub G G') : ∀ {is : List Nat} {ds : List D} {bs : List (Str × Value)}, Bds N K G is ds bs → Bds N K G' is ds bs
  | _, _, _, .nil => .nil
  | _, _, _, .cons a b c r => .cons a (b.mono s) c (r.mono s)
theorem Bds.app {N : List Str} {K : PySem.W.Frag} {G : Hp} : ∀ {is js : List Nat} {ds es : List D} {bs cs : List (Str × Value)}, Bds N K G is ds bs → Bds N K G js es cs → Bds N K G (is ++ js) (ds ++ es) (bs ++ cs)
  | _, _, _, _, _, _, .nil, h => h
  | _, _, _, _, _, _, .cons a b c r, h => .cons a b c (r.app h)
abbrev DPat := D → Sto → (Option (List D) → Prop) → Prop
abbrev DPats := List D → Sto → (Option (List D) → Prop) → Prop
abbrev litP (x : Str) : DPat := fun d M Φ => eqD M d (.str x) fun z => ∃ b : Bool, z = .bl b ∧ Φ (if b = true then some [] else none)
abbrev capP : DPat := fun d _ Φ => Φ (some [d])
abbrev wildP : DPat := fun _ _ Φ => Φ (some [])
abbrev nilP : DPats := fun _ _ Φ => Φ (some [])
abbrev consP (f : DPat) (g : DPats) : DPats := fun l M Φ => match l with
  | [] => False
  | d :: l => f d M fun o => match o with
    | none => Φ none
    | some as => g l M fun o' => match o' with
      | none => Φ none
      | some bs => Φ (some (as ++ bs))
abbrev starP : DPats := fun l _ Φ => match l with
  | [d] => Φ (some [d])
  | _ => False
def seqP (n : Nat) (g : DPats) : DPat := fun d M Φ => ∃ l, tupOf d = some l ∧ if l.length = n then g l M Φ else Φ none
def seqSP (k : Nat) (g : DPats) : DPat := fun d M Φ => ∃ l, tupOf d = some l ∧ l.length ≤ 16384 ∧ if k ≤ l.length then g (l.take k ++ [.lst (l.drop k)]) M Φ else Φ none
def setL : En → List Nat → List D → En
  | r, i :: is, d :: ds => setL (r.set i (some d)) is ds
  | r, _, _ => r
def caseD (f : DPat) (is : List Nat) (g : DTS) (h : D → DTS) (d : D) (E : Ek) (r : En) (M : Sto) : Prop := f d M fun o => match o with
  | none => h d E r M
  | some ds => g E (setL r is ds) M
section
variable {f : DPat} {g' : DPats} {is : List Nat} {g : DTS} {h : D → DTS} {E : Ek} {r : En} {M : Sto} {l : List D} {n k : Nat} {i j : Str}
theorem caseLen (hl : ¬ l.length = n) (q : h (.tup l) E r M) : caseD (seqP n g') is g h (.tup l) E r M := ⟨l, rfl, by rw [if_neg hl]; exact q⟩
theorem caseTag (e : decide (i = j) = false) (hl : (D.str i :: l).length = n) (q : h (.tup (.str i :: l)) E r M) : caseD (seqP n (consP (litP j) g')) is g h (.tup (.str i :: l)) E r M := ⟨_, rfl, by
  rw [if_pos hl]
  unfold litP eqD
  exact ⟨false, by rw [e], q⟩⟩
theorem caseHit (e : decide (i = j) = true) (hl : (D.str i :: l).length = n) (q : g' l M fun o => match o with | none => h (.tup (.str i :: l)) E r M | some ds => g E (setL r is ds) M) :
    caseD (seqP n (consP (litP j) g')) is g h (.tup (.str i :: l)) E r M := ⟨_, rfl, by
  rw [if_pos hl]
  unfold litP eqD
  refine ⟨true, by rw [e], ?_⟩
  have e2 : (fun o' : Option (List D) => match o' with
      | none => h (.tup (.str i :: l)) E r M
      | some bs => g E (setL r is ([] ++ bs)) M) = (fun o => match o with | none => h (.tup (.str i :: l)) E r M | some ds => g E (setL r is ds) M) := by
    funext o
    cases o <;> rfl
  rw [← e2] at q
  exact q⟩
theorem caseSTag (e : decide (i = j) = false) (hl : k ≤ l.length) (h16 : (D.str i :: l).length ≤ 16384) (q : h (.tup (.str i :: l)) E r M) : caseD (seqSP (k + 1) (consP (litP j) g')) is g h (.tup (.str i :: l)) E r M := ⟨_, rfl, h16, by
  rw [if_pos (by rw [List.length_cons]; omega), List.take_succ_cons, List.drop_succ_cons, List.cons_append]
  unfold litP eqD
  exact ⟨false, by rw [e], q⟩⟩
theorem caseSHit (e : decide (i = j) = true) (hl : k ≤ l.length) (h16 : (D.str i :: l).length ≤ 16384) (q : g' (l.take k ++ [.lst (l.drop k)]) M fun o => match o with | none => h (.tup (.str i :: l)) E r M | some ds => g E (setL r is ds) M) :
    caseD (seqSP (k + 1) (consP (litP j) g')) is g h (.tup (.str i :: l)) E r M := ⟨_, rfl, h16, by
  rw [if_pos (by rw [List.length_cons]; omega), List.take_succ_cons, List.drop_succ_cons, List.cons_append]
  unfold litP eqD
  refine ⟨true, by rw [e], ?_⟩
  have e2 : (fun o' : Option (List D) => match o' with
      | none => h (.tup (.str i :: l)) E r M
      | some bs => g E (setL r is ([] ++ bs)) M) = (fun o => match o with | none => h (.tup (.str i :: l)) E r M | some ds => g E (setL r is ds) M) := by
    funext o
    cases o <;> rfl
  rw [← e2] at q
  exact q⟩
end
structure PEnd (X : Cx) (B : Bs) (pins : List (Addr × Obj)) (is : List Nat) (σ : L2.St) (r : En) (M : Sto) (G : Hp) (Φ : Option (List D) → Prop) (Q : Option (List (Str × Value)) → Shared → Prop) : Prop where
  miss : ∀ s' H' G', Φ none → L2.Inv X pins σ H' s' → Rel X.K B r M σ H' G' → Sub G G' → Q none s'
  hit : ∀ ds bs s' H' G', Φ (some ds) → L2.Inv X pins σ H' s' → Rel X.K B r M σ H' G' → Sub G G' → Bds X.N X.K G' is ds bs → Q (some bs) s'
structure DP (X : Cx) (B : Bs) (p : Pattern) (is : List Nat) (f : DPat) : Prop where
  run : ∀ (pins : List (Addr × Obj)) (s : Shared) (σ : L2.St) (H : Hp) (r : En) (M : Sto) (G : Hp) (d : D) (v : V) (u : Value) (Φ : Option (List D) → Prop) (Q : Option (List (Str × Value)) → Shared → Prop), L2.Inv X pins σ H s → Rel X.K B r M σ H G → Rep X.K G d v → RelV v u → f d M Φ → PEnd X B pins is σ r M G Φ Q → wpAny (model X.prog X.w) X.A (matchPattern p X.env u) Q X.xe s
structure DPs (X : Cx) (B : Bs) (ps : List Pattern) (is : List Nat) (f : DPats) : Prop where
  run : ∀ (pins : List (Addr × Obj)) (s : Shared) (σ : L2.St) (H : Hp) (r : En) (M : Sto) (G : Hp) (ds : List D) (vs : List V) (us : List Value) (Φ : Option (List D) → Prop) (Q : Option (List (Str × Value)) → Shared → Prop), L2.Inv X pins σ H s → Rel X.K B r M σ H G → RepL X.K G ds vs → Vals vs us → f ds M Φ → PEnd X B pins is σ r M G Φ Q → wpAny (model X.prog X.w) X.A (matchEach ps X.env us) Q X.xe s
section
variable {X : Cx} {B : Bs} {pos : Pos}
theorem dp_cap {x : Str} {i : Nat} (hi : X.N[i]? = some x := by rfl) : DP X B (.MatchAs none (some x) pos) [i] capP :=
  ⟨fun pins s σ H r M G d v u Φ Q I R rd rv h k => wpAny_matchPattern_Capture (k.hit _ _ _ _ _ h I R Sub.rfl' (.cons hi rd rv .nil))⟩
theorem dp_wild : DP X B (.MatchAs none none pos) [] wildP :=
  ⟨fun pins s σ H r M G d v u Φ Q I R rd rv h k => wpAny_matchPattern_Capture (k.hit _ _ _ _ _ h I R Sub.rfl' .nil)⟩
theorem dp_lit {k : Nat} {x : Str} {j} {p1 : Pos} (hr : Room k X.A) : DP X B (.MatchValue (.Constant (.str x) j p1) pos) [] (litP x) :=
  ⟨fun pins s σ H r M G d v u Φ Q I R rd rv h kk => by
    refine wpAny_matchPattern_Value (thn ((pe_str (x := x) (j := j) (pos := p1)).run pins s σ H (fun v' H' => v' = .str x ∧ H' = H) I ⟨rfl, rfl⟩) fun u2 s1 ⟨v2, H1, I1, rv2, e1, e2⟩ => ?_)
    subst e1 e2
    refine thn ((op_eq.or (op_eqD hr.units)) pins s1 σ H1 v (.str x) u u2 (fun w H2 => ∃ (b : Bool) (G2 : Hp), w = .bl b ∧ Φ (if b = true then some [] else none) ∧ Rel X.K B r M σ H2 G2 ∧ Sub G G2) I1 rv rv2 (ok_eq (K := X.K) M H1 G d (.str x) v (.str x) _ _ R.wd rd .str h fun z w H2 G2 ⟨b, e, q⟩ g rz => ?_)) fun u3 s2 ⟨v3, H2, I2, rv3, b, G2, e, q, R2, s2'⟩ => ?_
    · subst e
      cases rz
      exact ⟨b, G2, rfl, q, R.grow g, g.gsub⟩
    · subst e
      cases rv3
      refine wpAny_truthy_bool ?_
      cases b with
      | true => exact kk.hit _ _ _ _ _ q I2 R2 s2' .nil
      | false => exact kk.miss _ _ _ q I2 R2 s2'⟩
theorem dps_nil : DPs X B [] [] nilP :=
  ⟨fun pins s σ H r M G ds vs us Φ Q I R rd rv h k => wpAny_matchEach_nil (k.hit _ _ _ _ _ h I R Sub.rfl' .nil)⟩
theorem dps_cons {p : Pattern} {ps : List Pattern} {is js : List Nat} {f : DPat} {g : DPats} (h1 : DP X B p is f) (h2 : DPs X B ps js g) (hp : p.isStar = false := by rfl) :
    DPs X B (p :: ps) (is ++ js) (consP f g) :=
  ⟨fun pins s σ H r M G ds vs us Φ Q I R rd rv h k => by
    cases rd with
    | nil => exact h.elim
    | cons r1 r2 =>
      cases rv with
      | cons q1 q2 =>
        refine wpAny_matchEach_cons (h1.run pins s σ H r M G _ _ _ _ _ I R r1 q1 h ⟨fun s1 H1 G1 q I1 R1 t1 => ?_, fun ds1 bs1 s1 H1 G1 q I1 R1 t1 b1 => ?_⟩) hp
        · exact k.miss _ _ _ q I1 R1 t1
        · refine h2.run pins s1 σ H1 r M G1 _ _ _ _ _ I1 R1 (r2.mono t1) q2 q ⟨fun s2 H2 G2 q' I2 R2 t2 => ?_, fun ds2 bs2 s2 H2 G2 q' I2 R2 t2 b2 => ?_⟩
          · exact k.miss _ _ _ q' I2 R2 (t1.tr t2)
          · exact k.hit _ _ _ _ _ q' I2 R2 (t1.tr t2) ((b1.mono t2).app b2)⟩
theorem dps_star {x : Str} {i : Nat} {p1 : Pos} (hi : X.N[i]? = some x := by rfl) : DPs X B [.MatchStar (some x) p1] [i] starP :=
  ⟨fun pins s σ H r M G ds vs us Φ Q I R rd rv h k => by
    cases rd with
    | nil => exact h.elim
    | cons r1 r2 =>
      cases r2 with
      | cons _ _ => exact h.elim
      | nil =>
        cases rv with
        | cons q1 q2 =>
          cases q2
          refine PySem.W.kun_each (wpAny_matchEach_nil ?_)
          exact k.hit _ _ _ _ _ h I R Sub.rfl' (.cons hi r1 q1 .nil)⟩
theorem dp_seq {ps : List Pattern} {is : List Nat} {g : DPats} {n : Nat} (hc : X.calm = true) (h : DPs X B ps is g) (hn : ps.length = n := by rfl) (hstar : ps.findIdx? (·.isStar) = none := by rfl)
    (hwild : (ps.all fun p => p.isWildcard || (p.isStar && p.names.isEmpty)) = false := by rfl) : DP X B (.MatchSequence ps pos) is (seqP n g) :=
  ⟨fun pins s σ H r M G d v u Φ Q I R rd rv ⟨l, hl, h'⟩ k => by
    subst hn
    obtain ⟨a, vs, e1, hq, rl⟩ : ∃ a vs, v = .ref a ∧ SqT X.K H a vs ∧ RepL X.K G l vs := by
      cases rd with
      | tup h1 r1 => cases hl; exact ⟨_, _, rfl, R.wd.sub.sqT h1, r1⟩
      | tpl h1 r1 => cases hl; exact ⟨_, _, rfl, R.wd.sub.sqT (SqT.of h1), r1⟩
      | _ => cases hl
    subst e1
    cases rv
    obtain ⟨its, rv, ht, hz⟩ := I.tuple hq
    obtain ⟨arr, harr⟩ : ∃ arr, arr = its.toArray := ⟨_, rfl⟩
    have hel : arr.toList = its := by rw [harr]
    rw [← harr] at ht
    have hlen : arr.size = l.length := by rw [harr, List.size_toArray, rl.length, rv.length]
    have hsl : arr.size ≤ sizeLine := by rw [hlen, rl.length]; exact hz
    have hfit : (arr.size : Int) < 2 ^ 63 := by
      rw [sizeLine_eq] at hsl
      omega
    have I0 : ∀ t, L2.Inv X pins σ H { s with toks := t } := fun t => I.kept (h' := s.heap) (t' := t) fun b o e => e
    by_cases e : l.length = ps.length
    · rw [if_pos e] at h'
      refine matchSeq_tuple_hit ht hfit (by rw [hlen]; exact e) ?_ hstar hwild
      rw [show ps.length = arr.size by rw [hlen, e]]
      refine unpackItems_tuple (s := { s with toks := _ }) (I.ok.hd hc) ht fun h1 hx => ?_
      have I1 : L2.Inv X pins σ H { s with heap := h1, toks := s.toks + 1 + 1 } := I.kept fun b o e => hx b o (Nat.ne_of_lt (Heap.lt_size e)) e
      rw [hel]
      exact h.run pins _ σ H r M G l vs _ Φ Q I1 R rl rv h' k
    · rw [if_neg e] at h'
      exact matchSeq_tuple_miss ht hfit (by rw [hlen]; exact e) (k.miss _ _ _ h' (I0 _) R Sub.rfl') hstar hwild⟩
end
section
variable {prog : Program} {w : World} {A : Around} {E : Value → Shared → Prop} {s : Shared}
theorem seq_star {ps : List Pattern} {pos : Pos} {env : Env} {t : Addr} {items : Array Value} {k : Nat} {Q : Option (List (Str × Value)) → Shared → Prop} (ht : IsTup s.heap t items) (hfit : (items.size : Int) < 2 ^ 63) (hl : ps.length = k + 1) (h0 : 0 < k)
    (hst : ps.findIdx? (·.isStar) = some k) (hnm : (ps[k]?.elim [] (·.names)).isEmpty = false) (hwild : (ps.all fun p => p.isWildcard || (p.isStar && p.names.isEmpty)) = false)
    (h1 : items.size < k → Q none { s with toks := s.toks + 1 + 1 })
    (h2 : k ≤ items.size → wpAny (model prog w) A (unpackItems (.ref t) (k + 1) (some k)) (fun vs s₃ => wpAny (model prog w) A (matchEach ps env vs) Q E s₃) E { s with toks := s.toks + 1 + 1 }) :
    wpAny (model prog w) A (matchPattern (.MatchSequence ps pos) env (.ref t)) Q E s := by
  rw [arm_matchPattern_MatchSequence]
  refine wpAny_bind (wpAny_standAt (wpAny_bind (wpAny_collectionFlag ht.typeIs flag_seq_tuple ?_)))
  simp only [hst, hwild, hl, hnm, Bool.not_true, Bool.false_eq_true, if_false]
  rw [if_pos (by omega)]
  refine wpAny_bind ?_
  refine pyLen_tuple ht hfit ?_
  by_cases e : items.size < k
  · rw [if_pos (by omega)]
    exact wpAny_pure (h1 e)
  · rw [if_neg (by omega)]
    exact wpAny_bind (h2 (by omega))
end
section
variable {X : Cx} {B : Bs} {pos : Pos}
theorem dp_seqS {ps : List Pattern} {is : List Nat} {g : DPats} {k : Nat} (hc : X.calm = true) (h : DPs X B ps is g) (hl : ps.length = k + 1 := by rfl) (h0 : 0 < k := by decide) (hstar : ps.findIdx? (·.isStar) = some k := by rfl)
    (hnm : (ps[k]?.elim [] (·.names)).isEmpty = false := by rfl) (hwild : (ps.all fun p => p.isWildcard || (p.isStar && p.names.isEmpty)) = false := by rfl) :
    DP X B (.MatchSequence ps pos) is (seqSP k g) :=
  ⟨fun pins s σ H r M G d v u Φ Q I R rd rv ⟨l, htl, hl16, h'⟩ kk => by
    obtain ⟨a, vs, e1, hq, rl⟩ : ∃ a vs, v = .ref a ∧ SqT X.K H a vs ∧ RepL X.K G l vs := by
      cases rd with
      | tup h1 r1 => cases htl; exact ⟨_, _, rfl, R.wd.sub.sqT h1, r1⟩
      | tpl h1 r1 => cases htl; exact ⟨_, _, rfl, R.wd.sub.sqT (SqT.of h1), r1⟩
      | _ => cases htl
    subst e1
    cases rv
    obtain ⟨its, rv, ht, hz⟩ := I.tuple hq
    obtain ⟨arr, harr⟩ : ∃ arr, arr = its.toArray := ⟨_, rfl⟩
    have hel : arr.toList = its := by rw [harr]
    rw [← harr] at ht
    have hlen : arr.size = l.length := by rw [harr, List.size_toArray, rl.length, rv.length]
    have I0 : ∀ t, L2.Inv X pins σ H { s with toks := t } := fun t => I.kept (h' := s.heap) (t' := t) fun b o e => e
    refine seq_star ht (by omega) hl h0 hstar hnm hwild (fun e => ?_) (fun e => ?_)
    · rw [if_neg (by omega)] at h'
      exact kk.miss _ _ _ h' (I0 _) R Sub.rfl'
    · rw [if_pos (by omega)] at h'
      refine unpackS (s := { s with toks := _ }) (I.ok.hd hc) ht (by omega) (by omega) fun h1 tk hx => ?_
      rw [hel]
      have rvd : Vals (vs.drop k) (its.drop k) := rv.drop k
      have rvt : Vals (vs.take k) (its.take k) := rv.take k
      have I1 : L2.Inv X pins σ H ⟨h1, s.gens, s.drawn, tk, s.os⟩ := I.kept (t' := tk) hx
      have hf : H h1.objs.size = none := I1.hok.fresh (Nat.le_refl _)
      have hz2 : (vs.drop k).length ≤ sizeLine := by rw [List.length_drop]; omega
      have I2 := I1.laid (t' := tk) (h' := h1.push { cls := .type "list", data := .seq (its.drop k).toArray }) (fun b u e => Heap.get?_push_of_some _ e) (Nat.le_refl _) (o := .lst (vs.drop k)) ⟨hz2, its.drop k, 0, rvd, Heap.get?_push_size _ rfl⟩
      have gr : Grow H G (upd H h1.objs.size (.lst (vs.drop k))) (upd G h1.objs.size (.lst (vs.drop k))) := grow_upd R.wd.sub hf
      have rr : RepL X.K (upd G h1.objs.size (.lst (vs.drop k))) (l.take k ++ [.lst (l.drop k)]) (vs.take k ++ [.ref h1.objs.size]) :=
        ((rl.take k).mono gr.gsub).app (.cons (.lst (.inl upd_same) ((rl.drop k).mono gr.gsub)) .nil)
      exact h.run pins _ σ _ r M _ _ _ _ Φ Q I2 (R.grow gr) rr (rvt.append (.cons rfl .nil)) h' ⟨fun s' H' G' q I' R' t' => kk.miss _ _ _ q I' R' (gr.gsub.tr t'), fun ds bs s' H' G' q I' R' t' b => kk.hit _ _ _ _ _ q I' R' (gr.gsub.tr t') b⟩⟩
theorem binds_ok {pins : List (Addr × Obj)} {Q : Unit → Shared → Prop} {E : Value → Shared → Prop} {A : Around} {N0 : X.N.Nodup} {M : Sto} {H G : Hp} : ∀ {is : List Nat} {ds : List D} {bs : List (Str × Value)} {s : Shared} {σ : L2.St} {r : En},
    (∀ i ∈ is, ∀ x, X.N[i]? = some x → Loc X.env.scope x ∧ (X.fn x = true ∨ X.env.scope.names.lookup x = some .local)) → Bds X.N X.K G is ds bs → L2.Inv X pins σ H s → Rel X.K B r M σ H G →
    (∀ s' σ', L2.Inv X pins σ' H s' → Rel X.K B (setL r is ds) M σ' H G → Q () s') → wpAny (model X.prog X.w) A (assignInOrder (bs.map fun (n, _) => bindName X.env n) (bs.map (·.2))) Q E s
  | _, _, _, _, _, _, _, .nil, I, R, h => wpAny_assignInOrder_none (h _ _ I R)
  | i :: is, d :: ds, (x, u) :: bs, s, σ, r, hl, .cons hi rd rv b, I, R, h => by
    obtain ⟨l1, l2⟩ := hl i List.mem_cons_self x hi
    refine wpAny_assignInOrder_more (wpAny_bindName (store_ok I N0 hi l1 rv (fun s' I' => ?_) l2))
    exact binds_ok (N0 := N0) (fun j hj => hl j (List.mem_cons_of_mem _ hj)) b I' (R.set rd i) h
inductive LocsOk (X : Cx) : List Nat → Prop
  | nil : LocsOk X []
  | cons {i : Nat} {is : List Nat} {x : Str} : X.N[i]? = some x → Loc X.env.scope x → (X.fn x = true ∨ X.env.scope.names.lookup x = some .local) → LocsOk X is → LocsOk X (i :: is)
theorem LocsOk.all : ∀ {is : List Nat}, LocsOk X is → ∀ i ∈ is, ∀ x, X.N[i]? = some x → Loc X.env.scope x ∧ (X.fn x = true ∨ X.env.scope.names.lookup x = some .local)
  | _, .cons a b c r, i, hi, x, hx => by
    rcases List.mem_cons.mp hi with rfl | hi
    · rw [a] at hx
      cases hx
      exact ⟨b, c⟩
    · exact r.all i hi x hx
structure DCs (X : Cx) (B : Bs) (cs : List MatchCase) (f : D → DTS) : Prop where
  run : ∀ (pins : List (Addr × Obj)) (s : Shared) (σ : L2.St) (H : Hp) (r : En) (M : Sto) (G : Hp) (d : D) (v : V) (u : Value) (E : Ek) (Ds : Ends) (first : Bool), L2.Inv X pins σ H s → Rel X.K B r M σ H G → Rep X.K G d v → RelV v u → EkOk X.K B G E Ds → f d E r M → wpAny (model X.prog X.w) X.A (matchCases cs X.env u first) (SP X pins Ds) X.xe s
theorem dc_nil : DCs X B [] (fun _ E r M => E.nx r M) :=
  ⟨fun pins s σ H r M G d v u E Ds first I R rd rv k h => wpAny_matchCases_nil ⟨σ, H, I, k.nx _ _ _ _ _ h R Sub.rfl'⟩⟩
theorem dc_cons {p : Pattern} {body : List Stmt} {cs : List MatchCase} {is : List Nat} {f : DPat} {g : DTS} {h : D → DTS} (hN : X.N.Nodup) (hp : DP X B p is f) (hb : DSs X B body g) (hr : DCs X B cs h) (lk : LocsOk X is) :
    DCs X B (⟨p, none, body⟩ :: cs) (caseD f is g h) :=
  ⟨fun pins s σ H r M G d v u E Ds first I R rd rv k q => wpAny_matchCases_cons (hp.run pins s σ H r M G d v u _ _ I R rd rv q ⟨fun s1 H1 G1 q1 I1 R1 t1 => hr.run pins s1 σ H1 r M G1 d v u E Ds false I1 R1 (rd.mono t1) rv (k.mono t1) q1,
    fun ds bs s1 H1 G1 q1 I1 R1 t1 b1 => binds_ok (N0 := hN) lk.all b1 I1 R1 fun s2 σ2 I2 R2 => hb.run pins s2 σ2 H1 Ds I2 ⟨_, M, G1, E, R2, q1, k.mono t1⟩⟩)⟩
theorem ds_match {e : Expr} {fe : DTE} {cs : List MatchCase} {fc : D → DTS} (he : DE X B e fe) (hc : DCs X B cs fc) : DS X B (.Match e cs pos) (fun E r M => fe r M fun d M1 => fc d E r M1) :=
  ⟨fun pins s σ H Ds I hh => by
    obtain ⟨r, M, G, E, R, q, k⟩ := EkOk.of hh
    refine wpAny_Match (thn (he.run pins s σ H (fun v H1 => ∃ d M1 G1, fc d E r M1 ∧ Rel X.K B r M1 σ H1 G1 ∧ Sub G G1 ∧ Rep X.K G1 d v) I ⟨r, M, G, _, R, q, fun d M1 v H1 G1 q1 R1 s1 p1 => ⟨d, M1, G1, q1, R1, s1, p1⟩⟩) fun u s1 ⟨v, H1, I1, rv, d, M1, G1, q1, R1, s1', p1⟩ => ?_)
    exact hc.run pins s1 σ H1 r M1 G1 d v u E Ds true I1 R1 p1 rv (k.mono s1') q1⟩
end
end Z
namespace Z
open PySem PySem.Spec PyProof.Rows L2

section
variable {X : Cx} {B : Bs} {pos p p1 p2 p3 : Pos} {e o : Expr} {es : List Expr} {fa fo : DTE} {ga : DTA} {k : Nat}
def seqOf (M : Sto) (d : D) : Option (List D) := match tupOf d with
  | some l => some l
  | none => lstOf M d
theorem seq_rep {K : PySem.W.Frag} {M : Sto} {H G : Hp} {d : D} {v : V} {l : List D} (w : Wd K M H G) (r : Rep K G d v) (e : seqOf M d = some l) : ∃ a vs, v = .ref a ∧ (SqT K H a vs ∨ SqL K H a vs) ∧ RepL K G l vs := by
  unfold seqOf at e
  cases h : tupOf d with
  | some l' =>
    rw [h] at e
    cases e
    obtain ⟨a, vs, e1, h1, r1⟩ := tup_rep w r h
    exact ⟨a, vs, e1, .inl h1, r1⟩
  | none =>
    rw [h] at e
    obtain ⟨a, vs, e1, h1, r1⟩ := lst_rep' w r e
    exact ⟨a, vs, e1, .inr h1, r1⟩
theorem RepL.reverse {K : PySem.W.Frag} {G : Hp} : ∀ {ds : List D} {vs : List V}, RepL K G ds vs → RepL K G ds.reverse vs.reverse
  | _, _, .nil => .nil
  | d :: ds, v :: vs, .cons h r => by
    rw [List.reverse_cons, List.reverse_cons]
    exact r.reverse.app (.cons h .nil)
theorem da_star (he : DE X B e fa) (hr : DA X B es ga) (hs : starEach (.Starred e p :: es) X.env = (true, eval e X.env) :: starEach es X.env := by rfl) :
    DA X B (.Starred e p :: es) (fun r M Ψ => fa r M fun d M1 => ∃ l, seqOf M1 d = some l ∧ ga r M1 fun ds M2 => Ψ (l ++ ds) M2) :=
  PA_imp (StX.pa_star he hr hs) fun σ H Q ⟨r, M, G, Ψ, R, h, kk⟩ => by
    refine ⟨r, M, G, _, R, h, fun d M1 v H1 G1 ⟨l, hl, q⟩ R1 s1 p1 => ?_⟩
    obtain ⟨a, vs, e1, h1, r1⟩ := seq_rep R1.wd p1 hl
    exact ⟨a, vs, e1, h1, r, M1, G1, _, R1, q, fun ds M2 us H2 G2 q2 R2 s2 p2 => kk _ _ _ _ _ q2 R2 (s1.tr s2) ((r1.mono s2).app p2)⟩
theorem de_revL (he : DE X B e fa) : DE X B (.Subscript e (.Slice none none (some (.UnaryOp .USub (.Constant (.int 1) k p1) p2)) p3) pos) (fun r M Ψ => fa r M fun d M1 => ∃ l, lstOf M1 d = some l ∧ Ψ (.lst l.reverse) M1) :=
  PE_imp (pe_revL he) fun σ H Q ⟨r, M, G, Ψ, R, h, kk⟩ => by
    refine ⟨r, M, G, _, R, h, fun d M1 v H1 G1 ⟨l, hl, q⟩ R1 s1 p1 => ?_⟩
    obtain ⟨a, vs, e1, h1, r1⟩ := lst_rep' R1.wd p1 hl
    refine ⟨a, vs, e1, h1, fun c hc => ?_⟩
    have g : Grow H1 G1 (upd H1 c (.lst vs.reverse)) (upd G1 c (.lst vs.reverse)) := grow_upd R1.wd.sub hc
    exact kk _ _ _ _ _ q (R1.grow g) (s1.tr g.gsub) (.lst (.inl upd_same) (RepL.reverse (r1.mono g.gsub)))
def rExtS (K : PySem.W.Frag) : V → List V → Hp → VK → Prop := fun x vs H Q => ∃ l b xs zs, x = .ref l ∧ vs = [.ref b] ∧ H l = some (.lst xs) ∧ Rd H b (.lst zs) ∧ xs.length + zs.length ≤ sizeLine ∧ Q .non (upd H l (.lst (xs ++ zs)))
theorem mt_extS : MtM X "list.extend" (rExtS X.K) := by
  intro pins s σ H x vs v us Q I rx rv h
  obtain ⟨l, b, xs, zs, rfl, rfl, hH, hB, hz, q⟩ := h
  cases rx
  obtain ⟨u, rfl, ru⟩ := rv.one
  cases ru
  obtain ⟨z, its, n, r, hl, e⟩ := I.lstM hH
  obtain ⟨z2, its2, n2, r2, e2⟩ := hB.ok I.hok
  have l2 : its2.length ≤ sizeLine := by rw [← r2.length]; exact z2
  have l1 : its.length = xs.length := r.length.symm
  have l3 : its2.length = zs.length := r2.length.symm
  have tot : its.toArray.size + its2.toArray.size ≤ sizeLine := by rw [List.size_toArray, List.size_toArray, l1, l3]; exact hz
  have few : ¬ (!its.toArray.isEmpty && Builtin.List.listTooLong (its.toArray.size + its2.toArray.size)) = true := by
    rw [notLongL tot, Bool.and_false]
    simp
  refine call_meets PySem.F.slot_list_extend ⟨_, e, rfl⟩ PySem.F.entry_list_extend (PySem.F.args_list_extend_2 _ _)
    (AutoSeq1.list_extend_list_list_0 l its.toArray n b its2.toArray n2 few (by simp only [List.size_toArray] at *; omega) (by simp only [List.size_toArray] at *; omega)) ⟨e, e2, ⟨.non, _, I.lset (its' := its ++ its2) hH e (by simp) (r.append r2) (by rw [List.length_append]; omega), rfl, q⟩⟩
def extendD (M : Sto) (x : D) (ds : List D) (φ : PD) : Prop := match ds with
  | [d] => lstAt M x fun p l => ∃ l2, lstOf M d = some l2 ∧ l.length + l2.length ≤ sizeLine ∧ φ .non (updM M p (.lst (l ++ l2)))
  | _ => False
theorem ok_extS {K : PySem.W.Frag} : OkM K (rExtS K) extendD := fun M H G x v ds vs φ Q w r rs h k => by
  unfold extendD at h
  split at h
  · obtain ⟨p, l, rfl, e, l2, h2, hl, h⟩ := lstAt_some h
    cases r
    cases rs with
    | cons r1 rs =>
      cases rs
      obtain ⟨b, zs, eb, hb, rz⟩ := lst_rep w r1 h2
      subst eb
      obtain ⟨gp, us, hp, rl⟩ := w.cells _ _ e
      obtain ⟨w1, s1⟩ := cell_put (c := .lst (l ++ l2)) (o := .lst (us ++ zs)) w e ⟨_, upd_same, rl.app rz⟩
      exact ⟨p, b, us, zs, rfl, rfl, hp, hb, by rw [← rl.length, ← rz.length]; exact hl, k _ _ _ _ _ h w1 s1 .non⟩
  · exact h.elim
theorem de_extend {apos : Pos} (ho : DE X B o fo) (ha : DA X B [e] ga) (hbase : attributeBase o "extend" X.env (eval o X.env) = eval o X.env := by rfl) (hline : (apos.endLine == pos.line) = true := by rfl) (hs : starEach [e] X.env = (false, eval e X.env) :: starEach [] X.env := by rfl)
    (hfew : ((backTo pos (starEach [e] X.env)).all (fun x => !x.1) && (backToKw pos (keywordEach [] X.env)).all (fun x => x.1.isSome)
      && decide ([e].length + ([] : List Keyword).length + (if ([] : List Keyword).isEmpty then 0 else 1) < 30)) = true := by rfl) :
    DE X B (.Call (.Attribute o "extend" apos) [e] [] pos) (fun r M Ψ => fo r M fun x M1 => (∃ l, lstOf M1 x = some l) ∧ ga r M1 fun ds M2 => extendD M2 x ds Ψ) := de_lm1 PySem.F.slot_list_extend PySem.F.type_list_extend mt_extS ok_extS ho ha hbase hfew hline hs rfl
theorem ds_fldadd {C : Addr} {fn : Str} {tpos : Pos} {value : Expr} {fv : DTE} (T : Cls X.K C) (nf : NoAttr X.K C fn) (ho : DE X B o fo) (hv : DE X B value fv) :
    DS X B (.AugAssign (.Attribute o fn tpos) .Add value pos) (fun E r M => fo r M fun x M1 => match x with
      | .ref a => match M1 a with
        | some (.ins C' fs) => C' = C ∧ ∃ d, fs.lookup fn = some d ∧ fv r M1 fun y M2 => match M2 a with
          | some (.ins C2 fs2) => C2 = C ∧ fs2.length < 1000 ∧ ∃ i j, d = .int i ∧ y = .int j ∧ E.nx r (updM M2 a (.ins C (putD fn (.int (i + j)) fs2)))
          | _ => False
        | _ => False
      | _ => False) := PS_imp (ps_fldaug ho hv in_add) fun D' σ H h => by
  obtain ⟨r, M, G, E, R, q, k⟩ := EkOk.of h
  refine ⟨r, M, G, _, R, q, fun x M1 v H1 G1 q1 R1 s1 p1 => ?_⟩
  split at q1
  · split at q1
    · rename_i a _ C' fs em
      obtain ⟨rfl, d, hd, q1⟩ := q1
      cases p1
      obtain ⟨ga, dx, fvs, h1, r1⟩ := R1.wd.cells _ _ em
      obtain ⟨u, hu, ru⟩ := r1.look hd
      refine ⟨a, _, dx, fvs, u, rfl, h1, T, nf, hu, r, M1, G1, _, R1, q1, fun y M2 w H2 G2 q2 R2 s2 p2 => ?_⟩
      split at q2
      · rename_i C2 fs2 em2
        obtain ⟨rfl, hl, i, j, rfl, rfl, q2⟩ := q2
        obtain ⟨gb, dx2, fvs2, h2, r2⟩ := R2.wd.cells _ _ em2
        cases ru
        cases p2
        refine ⟨i, j, rfl, rfl, dx2, fvs2, h2, by rw [← r2.length]; exact hl, ?_⟩
        obtain ⟨w1, s3⟩ := cell_put (c := .ins C2 (putD fn (.int (i + j)) fs2)) (o := .ins C2 dx2 (putF fn (.int (i + j)) fvs2)) R2.wd em2 ⟨_, _, upd_same, r2.put .int⟩
        exact k.nx _ _ _ _ _ q2 (R2.go w1 s3) ((s1.tr s2).tr s3.gsub)
      · exact q2.elim
    · exact q1.elim
  · exact q1.elim
def intSD (M : Sto) (ds : List D) (φ : PD) : Prop := match ds with
  | [.str a] => ∃ n, PySem.intText? a = some n ∧ a.length ≤ 640 ∧ φ (.int n) M
  | _ => False
theorem ok_intS {K : PySem.W.Frag} : OkC K (fun xs H Q => ∃ a n, xs = [.str a] ∧ PySem.intText? a = some n ∧ a.length ≤ 640 ∧ Q (.int n) H) intSD := fun M H G ds vs φ Q w r h k => by
  unfold intSD at h
  split at h
  · obtain ⟨n, h1, h2, h⟩ := h
    cases r with
    | cons r1 r2 =>
      cases r2
      cases r1
      exact ⟨_, n, rfl, h1, h2, k.grow w (Grow.refl w.sub) h .int⟩
  · exact h.elim
theorem de_intS (hm : X.mg "int" = none) (ha : DA X B [e] ga) (hg : Gl X "int" := by rfl) (he : starEach [e] X.env = (false, eval e X.env) :: starEach [] X.env := by rfl) : DE X B (.Call (.Name "int" p) [e] [] pos) (fun r M Ψ => ga r M fun ds M1 => intSD M1 ds Ψ) :=
  de_callT call_int_str ok_intS hm bt_int ha hg (by decide) (by decide) he rfl
def sw3D (M : Sto) (x : D) (ds : List D) (φ : PD) : Prop := match x, ds with
  | .str a, [.str b, .int i] => φ (.bl (Txt.startswith3 a b i)) M
  | _, _ => False
theorem ok_sw3 {K : PySem.W.Frag} : OkM K (fun x xs H Q => ∃ (a b : Str) (i : Int), x = .str a ∧ xs = [.str b, .int i] ∧ Q (.bl (Txt.startswith3 a b i)) H) sw3D := fun M H G x v ds vs φ Q w r rs h k => by
  unfold sw3D at h
  split at h
  · cases r
    cases rs with
    | cons r1 rs =>
      cases rs with
      | cons r2 rs =>
        cases rs
        cases r1
        cases r2
        exact ⟨_, _, _, rfl, rfl, k _ _ _ _ _ h w Since.refl .bl⟩
  · exact h.elim
end
end Z
namespace Z
open PySem PySem.Spec PyProof.Rows L2

section
variable {X : Cx} {B : Bs} {pos p : Pos} {e : Expr} {ga : DTA}
end
def catMD (M : Sto) (x y : D) (φ : PD) : Prop := ∃ l l', lstOf M x = some l ∧ lstOf M y = some l' ∧ l.length + l'.length ≤ sizeLine ∧ ∀ p, M p = none → φ (.ref p) (updM M p (.lst (l ++ l')))
theorem ok_catM {K : PySem.W.Frag} : OkP2 K rCatL catMD := fun M H G x y v u φ Q w rx ry ⟨l, l', e1, e2, z, h⟩ k => by
  obtain ⟨p, vs, rfl, h1, r1⟩ := lst_rep w rx e1
  obtain ⟨q', us, rfl, h2, r2⟩ := lst_rep w ry e2
  refine ⟨p, q', vs, us, rfl, rfl, h1, h2, by rw [← r1.length, ← r2.length]; exact z, fun q hq => ?_⟩
  obtain ⟨w2, s2⟩ := cell_new (c := .lst (l ++ l')) (o := .lst (vs ++ us)) w hq ⟨_, upd_same, r1.app r2⟩
  exact k _ _ _ _ _ (h q (w.nomem hq)) w2 s2 .ref
section
variable {X : Cx} {B : Bs} {pos : Pos} {a b : Expr} {fa fb : DTE}
theorem de_addM (ha : DE X B a fa) (hb : DE X B b fb) : DE X B (.BinOp a .Add b pos) (fun r M Ψ => fa r M fun x M1 => fb r M1 fun y M2 => catMD M2 x y Ψ) := PE_imp (pe_op op_catL ha hb) fun σ H Q h => tOp_okP ok_catM h
end
section
variable {X : Cx} {B : Bs} {pos p : Pos} {e : Expr} {ga : DTA} {fa : DTE}
end
section
variable {vs : List Nat} {wi : DTI} {as : D → En → (En → Prop) → Prop} {fe : DTE} {r : En} {M : Sto} {Φ : List D → Sto → Prop}
end
end Z
namespace Z
open PySem PySem.Spec PyProof.Rows L2

theorem gs0 {d : D} {l : En} {φ : D → Prop} (h : φ d) : getS (some d :: l) 0 φ := h
theorem cutD_tail {α : Type} (d : α) (l : List α) : cutD (d :: l) (some 1) none = l := by
  unfold cutD
  have h1 : HT.sIx (d :: l).length 0 (some 1) = 1 := by
    simp [HT.sIx, List.length_cons]
  have h2 : HT.sIx (d :: l).length (d :: l).length none = (d :: l).length := rfl
  rw [h1, h2]
  simp
inductive Pg where
  | tab (t : T4) | trn (w : Str) | swp | thn (l : List Pg) | tms (n : Int) (p : Pg) | use (x : Str)
mutual
def pgD : Pg → D
  | .tab t => .tup [.str "table", tD t]
  | .trn w => .tup [.str "turns", .str w]
  | .swp => .tup [.str "swap"]
  | .thn l => .tup (.str "then" :: pgDs l)
  | .tms n p => .tup [.str "times", .int n, pgD p]
  | .use x => .tup [.str "use", .str x]
def pgDs : List Pg → List D
  | [] => []
  | p :: l => pgD p :: pgDs l
end
theorem pgDs_map : ∀ l : List Pg, pgDs l = l.map pgD
  | [] => by simp [pgDs]
  | p :: l => by simp [pgDs, pgDs_map l]
mutual
/-- how deep it is nested -/
def pgK : Pg → Nat
  | .thn l => pgKs l + 1
  | .tms _ p => pgK p + 1
  | _ => 1
def pgKs : List Pg → Nat
  | [] => 0
  | p :: l => max (pgK p) (pgKs l)
end
theorem pgK_pos (p : Pg) : 0 < pgK p := by cases p <;> simp [pgK]
theorem pgKs_mem : ∀ {l : List Pg} {p : Pg}, p ∈ l → pgK p ≤ pgKs l
  | q :: l, p, h => by
    rw [pgKs]
    rcases List.mem_cons.mp h with rfl | h
    · exact Nat.le_max_left _ _
    · exact Nat.le_trans (pgKs_mem h) (Nat.le_max_right _ _)
theorem pgKs_le {l : List Pg} {k : Nat} (h : ∀ p ∈ l, pgK p ≤ k) : pgKs l ≤ k := by
  induction l with
  | nil => exact Nat.zero_le _
  | cons p l ih =>
    rw [pgKs]
    exact Nat.max_le.mpr ⟨h p List.mem_cons_self, ih fun q hq => h q (List.mem_cons_of_mem _ hq)⟩
mutual
/-- how many parts there are -/
def pgN : Pg → Nat
  | .thn l => pgNs l + 1
  | .tms _ p => pgN p + 1
  | _ => 1
def pgNs : List Pg → Nat
  | [] => 0
  | p :: l => pgN p + pgNs l
end
theorem pgN_pos (p : Pg) : 0 < pgN p := by cases p <;> simp [pgN]
theorem pgNs_app : ∀ (l m : List Pg), pgNs (l ++ m) = pgNs l + pgNs m
  | [], m => by simp [pgNs]
  | p :: l, m => by simp only [List.cons_append, pgNs, pgNs_app l m]; omega
theorem pgNs_len : ∀ l : List Pg, l.length ≤ pgNs l
  | [] => by simp [pgNs]
  | p :: l => by have := pgNs_len l; have := pgN_pos p; simp only [List.length_cons, pgNs]; omega
def pgIn : Pg → List Pg
  | .thn l => l
  | .tms _ p => [p]
  | _ => []
theorem pgN_in (p : Pg) : pgN p = pgNs (pgIn p) + 1 := by cases p <;> simp [pgN, pgIn, pgNs]
theorem pgK_in {p q : Pg} (h : q ∈ pgIn p) : pgK q + 1 ≤ pgK p := by
  cases p with
  | thn l => have := pgKs_mem (l := l) h; rw [pgK]; omega
  | tms n p => obtain rfl := List.mem_singleton.mp h; rw [pgK]; omega
  | _ => simp [pgIn] at h
def PgS : Pg → Prop
  | .thn l => l.length + 1 ≤ 16384
  | _ => True
mutual
/-- the names in the order of writing -/
def pgU : Pg → List Str
  | .use x => [x]
  | .thn l => pgUs l
  | .tms _ p => pgU p
  | _ => []
def pgUs : List Pg → List Str
  | [] => []
  | p :: l => pgU p ++ pgUs l
end
def pgTag : Pg → Str
  | .tab _ => "table" | .trn _ => "turns" | .swp => "swap" | .thn _ => "then" | .tms _ _ => "times" | .use _ => "use"
def pgRest : Pg → List D
  | .tab t => [tD t] | .trn w => [.str w] | .swp => [] | .thn l => pgDs l | .tms n p => [.int n, pgD p] | .use x => [.str x]
theorem pgD_tag (p : Pg) : pgD p = .tup (.str (pgTag p) :: pgRest p) := by cases p <;> simp [pgD, pgTag, pgRest]
theorem at_zero {d : D} {l : List D} : L2.atI (d :: l) 0 = some d := by
  unfold L2.atI ixN
  simp
theorem ix_tag {M : Sto} {p : Pg} {φ : D → Prop} (h : φ (.str (pgTag p))) : ixD M (pgD p) (.int 0) φ := by rw [pgD_tag]; exact optK_of at_zero h
def NameOk (x : Str) : Prop := 1 ≤ x.cps.size ∧ x.cps.size ≤ 8 ∧ x ≠ "swap" ∧ x ≠ "then" ∧ ∀ c ∈ x.cps.toList, 97 ≤ c ∧ c ≤ 122
def TabOk (t : T4) : Prop := Nn t ∧ t.1 ≤ 60 ∧ t.2.1 ≤ 60 ∧ t.2.2.1 ≤ 60 ∧ t.2.2.2 ≤ 60 ∧ det4 t ≠ 0
def PtOk : Pg → Prop
  | .tab t => TabOk t
  | .trn w => LR w.cps.toList ∧ 1 ≤ w.cps.size ∧ w.cps.size ≤ 60
  | .swp => True
  | .thn l => 2 ≤ l.length ∧ l.length ≤ 6
  | .tms n _ => 0 ≤ n ∧ n ≤ 12
  | .use x => NameOk x
mutual
def PgOk : Pg → Prop
  | .thn l => PtOk (.thn l) ∧ PgOks l
  | .tms n p => PtOk (.tms n p) ∧ PgOk p
  | p => PtOk p
def PgOks : List Pg → Prop
  | [] => True
  | p :: l => PgOk p ∧ PgOks l
end
theorem pgOks_iff : ∀ {l : List Pg}, PgOks l ↔ ∀ p ∈ l, PgOk p
  | [] => by simp [PgOks]
  | p :: l => by rw [PgOks, pgOks_iff (l := l)]; simp
theorem pgOk_iff (p : Pg) : PgOk p ↔ PtOk p ∧ ∀ q ∈ pgIn p, PgOk q := by
  cases p <;> simp [PgOk, pgIn, PtOk, pgOks_iff]
theorem strOk_of {x : Str} (h : ∀ c ∈ x.cps.toList, c < 0x110000) : PyData.strOk x = true := by
  unfold PyData.strOk
  rw [Array.all_eq_true]
  intro i hi
  exact decide_eq_true (h _ (by rw [← Array.getElem_toList (h := hi)]; exact List.getElem_mem _))
theorem LR.lt {l : List Nat} (h : LR l) : ∀ c ∈ l, c < 0x110000 := fun c hc => by have := h c hc; omega
theorem PgOk.s {p : Pg} (h : PgOk p) : PgS p := by
  cases p with
  | thn l => have := h.1.2; show l.length + 1 ≤ 16384; omega
  | _ => trivial
theorem pop_at {M : Sto} {p : Addr} {l : List D} {d : D} {φ : PD} (e : M p = some (.lst l)) (h : l[l.length - 1]? = some d) (q : φ d (updM M p (.lst l.dropLast))) : popD M (.ref p) [] φ := lstAt_of (φ := fun p l => ∃ d, l[l.length - 1]? = some d ∧ φ d (updM M p (.lst l.dropLast))) e ⟨d, h, q⟩
theorem extend_at {M : Sto} {p : Addr} {l l2 : List D} {d : D} {φ : PD} (e : M p = some (.lst l)) (h : lstOf M d = some l2) (hl : l.length + l2.length ≤ sizeLine) (q : φ .non (updM M p (.lst (l ++ l2)))) : extendD M (.ref p) [d] φ :=
  lstAt_of (φ := fun p l => ∃ l2, lstOf M d = some l2 ∧ l.length + l2.length ≤ sizeLine ∧ φ .non (updM M p (.lst (l ++ l2)))) e ⟨l2, h, hl, q⟩
theorem leaf_k {p : Pg} (h : pgIn p = []) (ho : PgOk p) : pgK p = 1 ∧ pgN p = 1 := by
  cases p with
  | thn l =>
    have : l = [] := h
    subst this
    exact absurd ho.1.1 (by simp)
  | tms n p => simp [pgIn] at h
  | _ => simp [pgK, pgN]
theorem pgDs_of {P : Pg → Prop} : ∀ {acc : List D}, (∀ y ∈ acc, ∃ p, y = pgD p ∧ P p) → ∃ l : List Pg, acc = pgDs l ∧ l.length = acc.length ∧ ∀ p ∈ l, P p
  | [], _ => ⟨[], by rw [pgDs], rfl, by simp⟩
  | y :: acc, h => by
    obtain ⟨p, rfl, hp⟩ := h y List.mem_cons_self
    obtain ⟨l, rfl, hl, ho⟩ := pgDs_of (P := P) (acc := acc) fun z hz => h z (List.mem_cons_of_mem _ hz)
    exact ⟨p :: l, by rw [pgDs], by simp [hl], fun q hq => by
      rcases List.mem_cons.mp hq with rfl | hq
      · exact hp
      · exact ho q hq⟩
theorem pgNs_le {l : List Pg} {k : Nat} (h : ∀ p ∈ l, pgN p ≤ k) : pgNs l ≤ l.length * k := by
  induction l with
  | nil => simp [pgNs]
  | cons p l ih =>
    have h1 := h p List.mem_cons_self
    have h2 := ih fun q hq => h q (List.mem_cons_of_mem _ hq)
    rw [pgNs, List.length_cons, Nat.succ_mul]
    omega
theorem pgUs_sub {l : List Pg} {ks : List Str} (h : ∀ p ∈ l, ∀ x ∈ pgU p, x ∈ ks) : ∀ x ∈ pgUs l, x ∈ ks := by
  induction l with
  | nil => simp [pgUs]
  | cons p l ih =>
    intro x hx
    rw [pgUs] at hx
    rcases List.mem_append.mp hx with hx | hx
    · exact h p List.mem_cons_self x hx
    · exact ih (fun q hq => h q (List.mem_cons_of_mem _ hq)) x hx
def shB : Nat → Nat
  | 0 => 1
  | n + 1 => 6 * shB n + 1
theorem shB_pos : ∀ n, 1 ≤ shB n
  | 0 => Nat.le_refl 1
  | n + 1 => by rw [shB]; omega
theorem rs_same {M0 M : Sto} (h : ∀ a, M0 a ≠ none → M a = M0 a) : rs M0 M = M0 := by
  funext a
  unfold rs
  cases e : M0 a with
  | none => rfl
  | some c =>
    show M a = some c
    rw [h a (by rw [e]; simp), e]
theorem least {p : Nat → Prop} (h : ∃ n, p n) : ∃ n, p n ∧ ∀ m, p m → n ≤ m := by
  obtain ⟨n, hn⟩ := h
  induction n using Nat.strongRecOn with
  | ind n ih =>
    by_cases e : ∃ m, m < n ∧ p m
    · obtain ⟨m, hm, pm⟩ := e
      exact ih m hm pm
    · exact ⟨n, hn, fun m pm => Nat.le_of_not_lt fun hm => e ⟨m, hm, pm⟩⟩
open Classical in
noncomputable def muJ (J : Nat → En → Sto → Prop) (r : En) (M : Sto) : Nat := if h : ∃ n, J n r M then Classical.choose (least h) else 0
theorem muJ_at {J : Nat → En → Sto → Prop} {r : En} {M : Sto} (h : ∃ n, J n r M) : ∃ n, J n r M ∧ muJ J r M = n := by
  refine ⟨_, (Classical.choose_spec (least h)).1, ?_⟩
  unfold muJ
  rw [dif_pos h]
theorem muJ_le {J : Nat → En → Sto → Prop} {r : En} {M : Sto} {n : Nat} (h : J n r M) : muJ J r M ≤ n := by
  unfold muJ
  rw [dif_pos ⟨n, h⟩]
  exact (Classical.choose_spec (least ⟨n, h⟩)).2 n h
def capT (t : T4) : Option T4 := if (pr4 t).1 ≤ 1000000 ∧ (pr4 t).2.1 ≤ 1000000 ∧ (pr4 t).2.2.1 ≤ 1000000 ∧ (pr4 t).2.2.2 ≤ 1000000 then some (pr4 t) else none
def stepT (f : Option T4) (d : Option T4) : Option T4 := match d, f with
  | some d, some f => capT (mul4 d f)
  | _, _ => none
def powT (d : Option T4) (n : Nat) : Option T4 := (List.range n).foldl (fun f _ => stepT f d) (some O4)
mutual
def tbl (g : Str → Option T4) : Pg → Option T4
  | .tab t => capT t
  | .trn w => capT (wL w.cps.toList)
  | .swp => some (0, 1, 1, 0)
  | .thn l => match tbls g l with
    | [] => none
    | d :: r => r.foldl stepT d
  | .tms n p => match tbl g p with
    | none => none
    | some t => powT (some t) n.toNat
  | .use x => g x
def tbls (g : Str → Option T4) : List Pg → List (Option T4)
  | [] => []
  | p :: l => tbl g p :: tbls g l
end
theorem Dr.rs {p : Addr} {M M' M8 : Sto} (d : Dr p M M') (h0 : HandAt M p) (h : ∀ a, M' a ≠ none → M8 a = M' a) : Dr p M (rs M M8) := by
  obtain ⟨hh, e0, _⟩ := h0
  obtain ⟨h1, e1, h2⟩ := d.1
  have e8 : Z.rs M M8 p = some (hd h1) := by
    unfold Z.rs
    rw [e0]
    show M8 p = _
    rw [h p (by rw [e1]; simp), e1]
  refine ⟨⟨h1, e8, h2⟩, fun q hq => ?_⟩
  unfold Z.rs
  cases e : M q with
  | none => rfl
  | some c =>
    show M8 q = some c
    have := d.2 q hq
    rw [h q (by rw [this, e]; simp), this, e]
def rl5 : Str := Txt.mul "RL" 5
def addS (acc : List Str) (x : Str) : List Str := if x ∈ acc then acc else acc ++ [x]
def dd (xs : List Str) : List Str := xs.foldl addS []
end Z
namespace Z
open PySem PySem.Spec PyProof.Rows L2 PySem.NumText

def strC (x : Str) : List Nat := x.cps.toList
def decC (i : Int) : List Nat := strC (Str.ofString (toString i))
def joinC (s : List Nat) : List (List Nat) → List Nat
  | [] => []
  | [x] => x
  | x :: y :: r => x ++ s ++ joinC s (y :: r)
def thenC : List Nat := [32, 116, 104, 101, 110, 32]
def swapC : List Nat := [115, 119, 97, 112]
mutual
def pgC : Pg → List Nat
  | .tab t => [91] ++ decC t.1 ++ [32] ++ decC t.2.1 ++ [59, 32] ++ decC t.2.2.1 ++ [32] ++ decC t.2.2.2 ++ [93]
  | .trn w => strC w
  | .swp => swapC
  | .thn l => [40] ++ joinC thenC (pgCs l) ++ [41]
  | .tms n p => decC n ++ [42] ++ pgC p
  | .use x => strC x
def pgCs : List Pg → List (List Nat)
  | [] => []
  | p :: l => pgC p :: pgCs l
end
def isDg (c : Nat) : Bool := decide (48 ≤ c) && decide (c ≤ 57)
def isLR (c : Nat) : Bool := c == 76 || c == 82
def isLo (c : Nat) : Bool := decide (97 ≤ c) && decide (c ≤ 122)
def numV (cs : List Nat) : Option Int := if 1 ≤ cs.length ∧ cs.length ≤ 31 ∧ (cs = [48] ∨ cs.head? ≠ some 48) then some (digitsVal cs : Nat) else none
def stripP (m t : List Nat) : Option (List Nat) := if m.isPrefixOf t then some (t.drop m.length) else none
def entG : List (List Nat) → List Nat → Option (List Int × List Nat)
  | [], t => some ([], t)
  | m :: ms, t => match numV (t.takeWhile isDg) with
    | none => none
    | some n => match stripP m (t.dropWhile isDg) with
      | none => none
      | some r => match entG ms r with
        | none => none
        | some (ns, r) => some (n :: ns, r)
def marks4 : List (List Nat) := [[32], [59, 32], [32], [93]]
def tabOf : List Int → Pg
  | [a, b, c, d] => .tab (a, b, c, d)
  | _ => .swp
def rws (f : List Nat → Option (Pg × List Nat)) : Nat → List Nat → Option (List Pg × List Nat)
  | 0, _ => none
  | m + 1, t => match f t with
    | none => none
    | some (p, r) => match stripP thenC r with
      | some r => match rws f m r with
        | none => none
        | some (l, r) => some (p :: l, r)
      | none => match stripP [41] r with
        | none => none
        | some r => some ([p], r)
def prs : Nat → List Nat → Option (Pg × List Nat)
  | 0, _ => none
  | k + 1, t => match stripP [40] t with
    | some r => match rws (prs k) (r.length + 1) r with
      | none => none
      | some (l, r) => some (.thn l, r)
    | none => match stripP [91] t with
      | some r => match entG marks4 r with
        | none => none
        | some (ns, r) => some (tabOf ns, r)
      | none =>
        if t.takeWhile isLR ≠ [] then some (.trn ⟨(t.takeWhile isLR).toArray⟩, t.dropWhile isLR)
        else if t.takeWhile isLo ≠ [] then some (if t.takeWhile isLo = swapC then .swp else .use ⟨(t.takeWhile isLo).toArray⟩, t.dropWhile isLo)
        else match numV (t.takeWhile isDg) with
          | none => none
          | some n => match stripP [42] (t.dropWhile isDg) with
            | none => none
            | some r => match prs k r with
              | none => none
              | some (p, r) => some (.tms n p, r)
def decChk (i : Nat) : Bool := (decC i).all isDg && decide ((digitsVal (decC i)) = i) && decide (1 ≤ (decC i).length) && decide ((decC i).length ≤ 2) && (decide (decC i = [48]) || decide ((decC i).head? ≠ some 48))
theorem decChk_all : (List.range 61).all decChk = true := by decide +kernel
theorem dec_ok {i : Int} (h0 : 0 ≤ i) (h1 : i ≤ 60) : (∀ c ∈ decC i, isDg c = true) ∧ numV (decC i) = some i ∧ (decC i).length ≤ 2 ∧ decC i ≠ [] := by
  obtain ⟨n, rfl⟩ : ∃ n : Nat, i = n := ⟨i.toNat, by omega⟩
  have h := List.all_eq_true.mp decChk_all n (List.mem_range.mpr (by omega))
  unfold decChk at h
  simp only [Bool.and_eq_true, Bool.or_eq_true, decide_eq_true_eq] at h
  obtain ⟨⟨⟨⟨a, b⟩, c⟩, d⟩, e⟩ := h
  refine ⟨List.all_eq_true.mp a, ?_, d, fun z => by rw [z] at c; simp at c⟩
  unfold numV
  rw [if_pos ⟨c, by omega, e⟩, b]
theorem stripP_app (m r : List Nat) : stripP m (m ++ r) = some r := by
  unfold stripP
  rw [if_pos (List.isPrefixOf_iff_prefix.mpr (List.prefix_append m r)), List.drop_left]
theorem stripP_ne {a c : Nat} {m r : List Nat} (h : a ≠ c) : stripP (a :: m) (c :: r) = none := by
  unfold stripP
  rw [if_neg]
  intro z
  have := List.isPrefixOf_iff_prefix.mp z
  rw [List.cons_prefix_cons] at this
  exact h this.1
theorem takeWhile_stop {P : Nat → Bool} {w r : List Nat} (hw : ∀ c ∈ w, P c = true) (hr : r = [] ∨ ∃ c r', r = c :: r' ∧ P c = false) : (w ++ r).takeWhile P = w ∧ (w ++ r).dropWhile P = r := by
  induction w with
  | nil =>
    rcases hr with rfl | ⟨c, r', rfl, hc⟩
    · exact ⟨rfl, rfl⟩
    · simp [List.takeWhile_cons, List.dropWhile_cons, hc]
  | cons c w ih =>
    have h1 := hw c List.mem_cons_self
    obtain ⟨a, b⟩ := ih fun d hd => hw d (List.mem_cons_of_mem _ hd)
    simp only [List.cons_append, List.takeWhile_cons, List.dropWhile_cons, h1, if_true, a, b, and_self]
def Stop (r : List Nat) : Prop := r = [] ∨ ∃ c r', r = c :: r' ∧ (c = 32 ∨ c = 41)
theorem Stop.no {r : List Nat} (h : Stop r) {P : Nat → Bool} (h1 : P 32 = false) (h2 : P 41 = false) : r = [] ∨ ∃ c r', r = c :: r' ∧ P c = false := by
  rcases h with h | ⟨c, r', e, rfl | rfl⟩
  · exact .inl h
  · exact .inr ⟨_, _, e, h1⟩
  · exact .inr ⟨_, _, e, h2⟩
theorem head_ne {P : Nat → Bool} {w r : List Nat} {a : Nat} {m : List Nat} (hw : ∀ c ∈ w, P c = true) (h0 : w ≠ []) (ha : P a = false) : stripP (a :: m) (w ++ r) = none := by
  cases w with
  | nil => exact absurd rfl h0
  | cons c w =>
    have := hw c List.mem_cons_self
    exact stripP_ne fun z => by rw [z, this] at ha; cases ha
theorem take_none {P Q : Nat → Bool} {w r : List Nat} (hw : ∀ c ∈ w, P c = true) (h0 : w ≠ []) (hq : ∀ c, P c = true → Q c = false) : (w ++ r).takeWhile Q = [] := by
  cases w with
  | nil => exact absurd rfl h0
  | cons c w => simp [List.takeWhile_cons, hq c (hw c List.mem_cons_self)]
theorem entG_step {i : Int} {m : List Nat} {ms : List (List Nat)} {r : List Nat} (h0 : 0 ≤ i) (h1 : i ≤ 60) (hm : ∃ c m', m = c :: m' ∧ isDg c = false) : entG (m :: ms) (decC i ++ (m ++ r)) = match entG ms r with
    | none => none
    | some (ns, r) => some (i :: ns, r) := by
  obtain ⟨c, m', rfl, hc⟩ := hm
  obtain ⟨a, b, _, _⟩ := dec_ok h0 h1
  obtain ⟨e1, e2⟩ := takeWhile_stop (r := (c :: m') ++ r) a (.inr ⟨c, m' ++ r, rfl, hc⟩)
  rw [entG, e1, b, e2]
  dsimp only
  rw [stripP_app]
theorem isLo_of {c : Nat} (h : 97 ≤ c ∧ c ≤ 122) : isLo c = true := by unfold isLo; simp [h]
mutual
theorem prs_text : ∀ (p : Pg) (k : Nat) (r : List Nat), PgOk p → pgK p ≤ k → Stop r → prs k (pgC p ++ r) = some (p, r)
  | .tab t, k, r, h, hk, hr => by
    obtain ⟨k, rfl⟩ : ∃ j, k = j + 1 := ⟨k - 1, by have := pgK_pos (.tab t); omega⟩
    obtain ⟨⟨n1, n2, n3, n4⟩, a1, a2, a3, a4, _⟩ := h
    obtain ⟨a, b, c, d⟩ := t
    rw [pgC, prs]
    simp only [List.append_assoc, List.cons_append, List.nil_append]
    rw [stripP_ne (by decide), show (91 :: (decC a ++ 32 :: (decC b ++ 59 :: 32 :: (decC c ++ 32 :: (decC d ++ 93 :: r))))) = [91] ++ (decC a ++ ([32] ++ (decC b ++ ([59, 32] ++ (decC c ++ ([32] ++ (decC d ++ ([93] ++ r)))))))) from rfl, stripP_app]
    unfold marks4
    dsimp only
    rw [entG_step n1 a1 ⟨32, [], rfl, rfl⟩, entG_step n2 a2 ⟨59, [32], rfl, rfl⟩, entG_step n3 a3 ⟨32, [], rfl, rfl⟩, entG_step n4 a4 ⟨93, [], rfl, rfl⟩, entG]
    rfl
  | .trn w, k, r, h, hk, hr => by
    obtain ⟨k, rfl⟩ : ∃ j, k = j + 1 := ⟨k - 1, by have := pgK_pos (.trn w); omega⟩
    obtain ⟨hl, l1, l2⟩ := h
    have hw : ∀ c ∈ strC w, isLR c = true := fun c hc => by
      rcases hl c hc with rfl | rfl <;> rfl
    have h0 : strC w ≠ [] := fun z => by
      have : (strC w).length = w.cps.size := Array.length_toList
      rw [z] at this
      simp at this
      omega
    obtain ⟨e1, e2⟩ := takeWhile_stop hw (hr.no rfl rfl)
    rw [pgC, prs, head_ne hw h0 rfl, head_ne hw h0 rfl]
    dsimp only
    rw [e1, e2, if_pos h0]
    rfl
  | .swp, k, r, h, hk, hr => by
    obtain ⟨k, rfl⟩ : ∃ j, k = j + 1 := ⟨k - 1, by have := pgK_pos .swp; omega⟩
    have hw : ∀ c ∈ swapC, isLo c = true := by decide
    have h0 : swapC ≠ [] := by decide
    obtain ⟨e1, e2⟩ := takeWhile_stop hw (hr.no rfl rfl)
    rw [pgC, prs, head_ne hw h0 rfl, head_ne hw h0 rfl]
    dsimp only
    rw [take_none hw h0 (Q := isLR) (by intro c hc; unfold isLo at hc; unfold isLR; simp at hc ⊢; omega), e1, e2, if_neg (by simp), if_pos h0, if_pos rfl]
  | .use x, k, r, h, hk, hr => by
    obtain ⟨k, rfl⟩ : ∃ j, k = j + 1 := ⟨k - 1, by have := pgK_pos (.use x); omega⟩
    obtain ⟨l1, l2, nsw, nth, hl⟩ := h
    have hw : ∀ c ∈ strC x, isLo c = true := fun c hc => isLo_of (hl c hc)
    have h0 : strC x ≠ [] := fun z => by
      have : (strC x).length = x.cps.size := Array.length_toList
      rw [z] at this
      simp at this
      omega
    have hs : strC x ≠ swapC := fun z => nsw (by
      have e : strC ("swap" : Str) = swapC := by decide +kernel
      rw [← e] at z
      exact congrArg Str.mk (Array.toList_inj.mp z))
    obtain ⟨e1, e2⟩ := takeWhile_stop hw (hr.no rfl rfl)
    rw [pgC, prs, head_ne hw h0 rfl, head_ne hw h0 rfl]
    dsimp only
    rw [take_none hw h0 (Q := isLR) (by intro c hc; unfold isLo at hc; unfold isLR; simp at hc ⊢; omega), e1, e2, if_neg (by simp), if_pos h0, if_neg hs]
    rfl
  | .tms n p, k, r, h, hk, hr => by
    rw [pgK] at hk
    obtain ⟨k, rfl⟩ : ∃ j, k = j + 1 := ⟨k - 1, by omega⟩
    obtain ⟨⟨n0, n1⟩, hp⟩ := h
    obtain ⟨hw, hv, _, h0⟩ := dec_ok n0 (by omega)
    obtain ⟨e1, e2⟩ := takeWhile_stop (r := [42] ++ (pgC p ++ r)) hw (.inr ⟨42, pgC p ++ r, rfl, rfl⟩)
    rw [pgC, prs]
    simp only [List.append_assoc]
    rw [head_ne hw h0 rfl, head_ne hw h0 rfl]
    dsimp only
    rw [take_none hw h0 (Q := isLR) (by intro c hc; unfold isDg at hc; unfold isLR; simp at hc ⊢; omega), take_none hw h0 (Q := isLo) (by intro c hc; unfold isDg at hc; unfold isLo; simp at hc ⊢; omega), if_neg (by simp), if_neg (by simp), e1, hv]
    dsimp only
    rw [e2, stripP_app]
    dsimp only
    rw [prs_text p k r hp (by omega) hr]
  | .thn l, k, r, h, hk, hr => by
    rw [pgK] at hk
    obtain ⟨k, rfl⟩ : ∃ j, k = j + 1 := ⟨k - 1, by omega⟩
    obtain ⟨⟨l1, l2⟩, hs⟩ := h
    rw [pgC, prs]
    simp only [List.append_assoc]
    rw [stripP_app]
    dsimp only
    have hne : l ≠ [] := fun z => by rw [z] at l1; simp at l1
    have hlen : l.length < (joinC thenC (pgCs l) ++ ([41] ++ r)).length + 1 + 1 := by
      have : l.length ≤ (joinC thenC (pgCs l)).length + 1 := joinC_len l
      simp only [List.length_append]
      have : ([41] : List Nat).length = 1 := rfl
      omega
    rw [rws_text l k r _ hs (by omega) hne hlen]
theorem rws_text : ∀ (l : List Pg) (k : Nat) (r : List Nat) (m : Nat), PgOks l → pgKs l ≤ k → l ≠ [] → l.length < m + 1 → rws (prs k) m (joinC thenC (pgCs l) ++ ([41] ++ r)) = some (l, r)
  | [], _, _, _, _, _, h, _ => absurd rfl h
  | [p], k, r, m, ho, hk, _, hm => by
    obtain ⟨m, rfl⟩ : ∃ j, m = j + 1 := ⟨m - 1, by simp at hm; omega⟩
    rw [pgKs] at hk
    rw [pgCs, pgCs, joinC, rws, prs_text p k ([41] ++ r) ho.1 (by omega) (.inr ⟨41, r, rfl, .inr rfl⟩)]
    dsimp only
    rw [show stripP thenC ([41] ++ r) = none from stripP_ne (by decide)]
    dsimp only
    rw [stripP_app]
  | p :: q :: l, k, r, m, ho, hk, _, hm => by
    obtain ⟨m, rfl⟩ : ∃ j, m = j + 1 := ⟨m - 1, by simp at hm; omega⟩
    rw [pgKs] at hk
    have ih := rws_text (q :: l) k r m ho.2 (by omega) (by simp) (by simp at hm ⊢; omega)
    rw [pgCs] at ih
    rw [pgCs, pgCs, joinC]
    simp only [List.append_assoc]
    rw [rws, prs_text p k (thenC ++ (joinC thenC (pgC q :: pgCs l) ++ ([41] ++ r))) ho.1 (by omega) (.inr ⟨32, _, rfl, .inl rfl⟩)]
    dsimp only
    rw [stripP_app]
    dsimp only
    rw [ih]
theorem joinC_len : ∀ l : List Pg, l.length ≤ (joinC thenC (pgCs l)).length + 1
  | [] => by simp
  | [p] => by simp
  | p :: q :: l => by
    have ih := joinC_len (q :: l)
    rw [pgCs] at ih
    rw [pgCs, pgCs, joinC]
    simp only [List.length_append, List.length_cons] at ih ⊢
    have : thenC.length = 6 := rfl
    omega
end
end Z
namespace Z
open PySem PySem.Spec PyProof.Rows L2

theorem at_zeroN {α : Type} {d : α} {l : List α} : L2.atI (d :: l) 0 = some d := by
  unfold L2.atI ixN
  simp
section
variable {P : Program} {w : World} {K : PySem.W.Frag} {mg : Str → Option Value} {base : Heap}
theorem funOkH {x qual : Str} {st : Stmt} {f : Addr} {fd : FuncData} {N ps : List Str} {k : Nat} {sp : Sp} (F : Fun K x qual st f fd) (S : FnScope N ps (defScope st)) (len : ∀ vs H Q E, sp vs H Q E → vs.length = ps.length)
    (hbody : ∀ (cdv : Value) (A : Around) (outer : List Env) (s : Shared) (H : Hp) (vs : List V) (Q : VK) (E : XK) (p : Addr × Obj), L2H.Hot1 A p → L2H.RoomH k (A.deeper (envOfC qual (defScope st) s.heap.objs.size f cdv)) → sp vs H Q E →
      ∃ t, PSs (L2H.cxH (L2.CX P w) P w K mg base N qual (defScope st) f cdv A outer s H E p) (defBody st) t ∧ t { nx := fun _ H' => Q .non H', rt := Q } (start N vs) H) : L2H.FnH P w K mg base (L2.CX P w) (k + 1) f fd ps sp := by
  obtain ⟨oc, od, kV, doc, pm, an, cdv, ct, osl, rfl, lk, hcd⟩ := F.ex
  exact L2H.fn_ofH lk hcd S len fun A outer s H vs Q E p hot hr hsp => hbody cdv A outer s H vs Q E p hot hr hsp
theorem x1_okH {x qual : Str} {st : Stmt} {f C : Addr} {fd : FuncData} {t fl : Str} {j : Nat} {p1 p2 p3 p4 p5 p6 p7 p8 : Pos} {sc : Scope} (F : Fun K x qual st f fd) (T : OexG K C) (n1 : PySem.W.findIn K (.ref C) "tag" = some none) (n2 : PySem.W.findIn K (.ref C) fl = some none)
    (hb : defBody st = [.Assign [.Attribute (.Name "self" p1) "tag" p2] (.Constant (.str t) j p3) p4, .Assign [.Attribute (.Name "self" p5) fl p6] (.Name fl p7) p8]) (hs : defScope st = sc) (S : FnScope ["self", fl] ["self", fl] sc) (hv : sc.names.lookup ("self" : Str) = some .local) (hv2 : sc.names.lookup fl = some .local) (hd : (fl == ("__debug__" : Str)) = false)
    (hc : (fl == ("__classdict__" : Str)) = false) : L2H.FnH P w K mg base (L2.CX P w) 1 f fd ["self", fl] (spX C 1 (tag2 t fl)) := by
  subst hs
  refine funOkH F S (fun vs H Q E h => h.1) fun cdv A outer s H vs Q E p hot hr h => ?_
  obtain ⟨hl, a, ws, rfl, ha, k⟩ := h
  obtain ⟨v, rfl⟩ : ∃ v, ws = [v] := by
    match ws, hl with
    | [v], _ => exact ⟨v, rfl⟩
  rw [hb]
  refine ⟨_, pss_cons (ps_ostG (pe_var (i := 0) rfl (.inl hv)) pe_str) (pss_one (ps_ostG (pe_var (i := 0) rfl (.inl hv)) (pe_var (i := 1) rfl (.inl hv2) hd hc))), ?_⟩
  refine ⟨_, rfl, a, C, rfl, T, n1, .inl ⟨ha, fun dx hdx hne => ?_⟩⟩
  refine ⟨_, rfl, _, rfl, a, C, rfl, T, n2, .inr ⟨dx, _, upd_same, by rw [upd_ne hne, upd_same], Nat.le_of_ble_eq_true rfl, ?_⟩⟩
  refine k dx _ hdx hne (by rw [upd_ne hne.symm, upd_same]) upd_same fun b h1 h2 => ?_
  rw [upd_ne h2, upd_ne h1, upd_ne h2]
structure XfH (P : Program) (w : World) (K : PySem.W.Frag) (mg : Str → Option Value) (base : Heap) (x : Str) (C : Addr) (n : Nat) (g : List V → List (Str × V)) : Prop where
  cls : OexG K C
  mgC : mg x = some (.ref C)
  ex : ∃ fI fd ps, PySem.W.findIn K (.ref C) "__init__" = some (some (.ref fI)) ∧ PySem.W.typeIn K (.ref fI) = some (.type "function") ∧ L2H.FnH P w K mg base (L2.CX P w) 1 fI fd ps (spX C n g) ∧ Binds K fd ps [] ∧ ps.length = n + 1
end
section
variable {X : Cx} {B : Bs} {Ξ : XD → En → Sto → Prop} {pos p : Pos} {e : Expr} {es : List Expr} {ga : DTA} {k n : Nat} {x : Str} {C : Addr} {g : List V → List (Str × V)}
theorem mk_xH (XF : XfH X.prog X.w X.K X.mg X.base x C n g) (hr : L2H.RoomH k X.A) (hot : L2H.HotC X) (hk : 2 ≤ k) {pins : List (Addr × Obj)} {s : Shared} {σ : L2.St} {H : Hp} {Q : XK} {us : List Value} {vs : List V} (I : L2.Inv X pins σ H s) (rv : Vals vs us) (hl : vs.length = n) (hn : n ≤ 1000)
    (q : ∀ d H', H d = none → H' d = some (.xd (g vs)) → (∀ b, b ≠ d → H' b = H b) → Q (.ref C) (some d) H') : wpAny (model X.prog X.w) X.A (call (.ref C) us) (fun u s' => L2N.MkP X pins σ Q u s' ∧ L2H.Six u s') X.xe s := by
  obtain ⟨fI, fd, ps, iC, tI, FO, hb, lp⟩ := XF.ex
  have T := XF.cls
  obtain ⟨B0, nw, ini, bmB, FB, SF, ov, nm, qq, N, bs, bm, sn, sub, ab, col, dd, k0, k1, k2, k3, k5, hC, hbm⟩ := T.base
  obtain ⟨pn, hot1, hpn⟩ := hot
  obtain ⟨hp, gn, dr, tk, os⟩ := s
  generalize ea : hp.objs.size + 1 = a
  have hsz : hp.objs.size ≤ a := by omega
  have na : H a = none := I.hok.fresh hsz
  have kk : ∀ b o, hp.get? b = some o → ((hp.push (PySem.W.kdv_tup us)).push (PySem.HandSPX.excO C hp.objs.size)).get? b = some o := fun b o z => Heap.get?_push_of_some _ (Heap.get?_push_of_some _ z)
  have hget : ((hp.push (PySem.W.kdv_tup us)).push (PySem.HandSPX.excO C hp.objs.size)).get? a = some (PySem.HandSPX.excO C hp.objs.size) := by rw [← ea]; heap_get
  have I2 : L2.Inv X pins σ (upd H a (exo a C none)) ⟨(hp.push (PySem.W.kdv_tup us)).push (PySem.HandSPX.excO C hp.objs.size), gn, dr, tk, os⟩ := I.laid (t' := tk) kk hsz (exo_ok hget)
  have r2 : Vals (V.ref a :: vs) (Value.ref a :: us) := .cons rfl rv
  have hul : (Value.ref a :: us ++ []).length = ps.length := by rw [List.append_nil, ← r2.length, lp, List.length_cons, hl]
  have hus : us.length ≤ sizeLine := by rw [← rv.length, hl, sizeLine_eq]; omega
  have hsp : spX C n g (V.ref a :: vs) (upd H a (exo a C none)) (fun v H2 => v = .non ∧ ∃ d, H d = none ∧ H2 a = some (exo a C (some d)) ∧ H2 d = some (exd d (g vs)) ∧ Q (.ref C) (some d) (upd (del H2 a) d (.xd (g vs)))) (fun _ _ _ => False) := by
    refine ⟨by rw [List.length_cons, hl], a, vs, rfl, upd_same, fun dx H' h1 h2 h3 h4 h5 => ⟨rfl, dx, ?_, h3, h4, q dx _ ?_ upd_same fun b hb => ?_⟩⟩
    · rw [upd_ne h2] at h1; exact h1
    · rw [upd_ne h2] at h1; exact h1
    · rw [upd_ne hb]
      by_cases z : b = a
      · rw [z, del_same, na]
      · rw [del_ne z, h5 b z hb, upd_ne z]
  have P1 := I2.pin pn (List.mem_append_left _ hpn)
  have hpin : L2H.PinOk X.stack (upd H a (exo a C none)) ⟨(hp.push (PySem.W.kdv_tup us)).push (PySem.HandSPX.excO C hp.objs.size), gn, dr, tk, os⟩ pn :=
    ⟨P1.1, P1.2.1, fun hmm => (List.mem_cons.mp (I2.stkSub pn.1 hmm)).elim P1.2.2.1 P1.2.2.2.1, P1.2.2.2.2⟩
  refine wpAny_call (PySem.HandSPX.call_own FB hbm (I.kIn _ _ hC) (PySem.W.looks_findIn I.kIn iC) (fun self => PySem.W.bind_fn I.kIn self tI) hus ?_)
  rw [ea]
  refine codeAny_mono (FO.run _ X.stack _ _ ⟨Value.ref a :: us, []⟩ (Value.ref a :: us) _ _ (fun _ _ _ => False) pn ((hr.mono hk).make C us []) ⟨hot1.1, hot1.2⟩ hpin (I2.env0.make C us []) ?_ r2 hsp) fun r s' hq' => ?_
  · have z := hb ⟨(hp.push (PySem.W.kdv_tup us)).push (PySem.HandSPX.excO C hp.objs.size), gn, dr, tk, os⟩ (Value.ref a :: us) I2.kIn hul
    rw [List.append_nil] at z
    exact z
  · cases r with
    | error er =>
      obtain ⟨_, _, _, _, _, _, _, _, _, _, _, _, z⟩ := hq'
      exact z.elim
    | ok fl =>
      cases fl with
      | ret u =>
        obtain ⟨v, H2, os2, bare2, un2, hok2, rv2, ev, d, hd, e1, e2, q2⟩ := hq'
        subst ev
        obtain ⟨h2, g2, d2, t2, os'⟩ := s'
        obtain ⟨t0, G, J, kG, ge, hoe, na2⟩ := mk_end0 (d2 := d2) (t2 := t2) I hsz kk un2 hok2 os2 bare2 e1 e2 hd
        refine ⟨rv2, ⟨a, _, _, ⟨G, g2, d2, t2, os'⟩, _, .ref C, some d, rfl, J, kG, ge, hoe, ⟨rfl, rfl, fun vs hv => ?_⟩, rfl, rfl, na2, rfl, bare2, raises_own T.exC T.tyC, q2⟩, fun a' oe vs ea2 hg2 hd2 => ?_⟩
        · cases hv
          rfl
        · cases ea2
          have hg3 : h2.get? a = some oe := hg2
          rw [hoe] at hg3
          cases hg3
          cases hd2
          show (4 : Nat) < 6
          decide
      | next => exact False.elim hq'
      | brk => exact False.elim hq'
      | cont => exact False.elim hq'
theorem mk_xN (XF : Xf X.prog X.w X.K X.mg X.base x C n g) (hr : Room k X.A) (hk : 2 ≤ k) {pins : List (Addr × Obj)} {s : Shared} {σ : L2.St} {H : Hp} {Q : XK} {us : List Value} {vs : List V} (I : L2.Inv X pins σ H s) (rv : Vals vs us) (hl : vs.length = n) (hn : n ≤ 1000)
    (q : ∀ d H', H d = none → H' d = some (.xd (g vs)) → (∀ b, b ≠ d → H' b = H b) → Q (.ref C) (some d) H') : wpAny (model X.prog X.w) X.A (call (.ref C) us) (L2N.MkP X pins σ Q) X.xe s := by
  obtain ⟨fI, fd, ps, iC, tI, FO, hb, lp⟩ := XF.ex
  have T := XF.cls
  obtain ⟨B0, nw, ini, bmB, FB, SF, ov, nm, qq, N, bs, bm, sn, sub, ab, col, dd, k0, k1, k2, k3, k5, hC, hbm⟩ := T.base
  obtain ⟨hp, gn, dr, tk, os⟩ := s
  generalize ea : hp.objs.size + 1 = a
  have hsz : hp.objs.size ≤ a := by omega
  have na : H a = none := I.hok.fresh hsz
  have kk : ∀ b o, hp.get? b = some o → ((hp.push (PySem.W.kdv_tup us)).push (PySem.HandSPX.excO C hp.objs.size)).get? b = some o := fun b o z => Heap.get?_push_of_some _ (Heap.get?_push_of_some _ z)
  have hget : ((hp.push (PySem.W.kdv_tup us)).push (PySem.HandSPX.excO C hp.objs.size)).get? a = some (PySem.HandSPX.excO C hp.objs.size) := by rw [← ea]; heap_get
  have I2 : L2.Inv X pins σ (upd H a (exo a C none)) ⟨(hp.push (PySem.W.kdv_tup us)).push (PySem.HandSPX.excO C hp.objs.size), gn, dr, tk, os⟩ := I.laid (t' := tk) kk hsz (exo_ok hget)
  have r2 : Vals (V.ref a :: vs) (Value.ref a :: us) := .cons rfl rv
  have hul : (Value.ref a :: us ++ []).length = ps.length := by rw [List.append_nil, ← r2.length, lp, List.length_cons, hl]
  have hus : us.length ≤ sizeLine := by rw [← rv.length, hl, sizeLine_eq]; omega
  have hsp : spX C n g (V.ref a :: vs) (upd H a (exo a C none)) (fun v H2 => v = .non ∧ ∃ d, H d = none ∧ H2 a = some (exo a C (some d)) ∧ H2 d = some (exd d (g vs)) ∧ Q (.ref C) (some d) (upd (del H2 a) d (.xd (g vs)))) (fun _ _ _ => False) := by
    refine ⟨by rw [List.length_cons, hl], a, vs, rfl, upd_same, fun dx H' h1 h2 h3 h4 h5 => ⟨rfl, dx, ?_, h3, h4, q dx _ ?_ upd_same fun b hb => ?_⟩⟩
    · rw [upd_ne h2] at h1; exact h1
    · rw [upd_ne h2] at h1; exact h1
    · rw [upd_ne hb]
      by_cases z : b = a
      · rw [z, del_same, na]
      · rw [del_ne z, h5 b z hb, upd_ne z]
  refine wpAny_call (PySem.HandSPX.call_own FB hbm (I.kIn _ _ hC) (PySem.W.looks_findIn I.kIn iC) (fun self => PySem.W.bind_fn I.kIn self tI) hus ?_)
  rw [ea]
  refine codeAny_mono (FO.run _ X.stack _ _ ⟨Value.ref a :: us, []⟩ (Value.ref a :: us) _ _ (fun _ _ _ => False) ((hr.mono hk).make C us []) (I2.env0.make C us []) ?_ r2 hsp) fun r s' hq' => ?_
  · have z := hb ⟨(hp.push (PySem.W.kdv_tup us)).push (PySem.HandSPX.excO C hp.objs.size), gn, dr, tk, os⟩ (Value.ref a :: us) I2.kIn hul
    rw [List.append_nil] at z
    exact z
  · cases r with
    | error er =>
      obtain ⟨_, _, _, _, _, _, _, _, _, _, _, _, z⟩ := hq'
      exact z.elim
    | ok fl =>
      cases fl with
      | ret u =>
        obtain ⟨v, H2, os2, bare2, un2, hok2, rv2, ev, d, hd, e1, e2, q2⟩ := hq'
        subst ev
        obtain ⟨h2, g2, d2, t2, os'⟩ := s'
        obtain ⟨t0, G, J, kG, ge, hoe, na2⟩ := mk_end0 (d2 := d2) (t2 := t2) I hsz kk un2 hok2 os2 bare2 e1 e2 hd
        refine ⟨rv2, a, _, _, ⟨G, g2, d2, t2, os'⟩, _, .ref C, some d, rfl, J, kG, ge, hoe, ⟨rfl, rfl, fun vs hv => ?_⟩, rfl, rfl, na2, rfl, bare2, raises_own T.exC T.tyC, q2⟩
        cases hv
        rfl
      | next => exact False.elim hq'
      | brk => exact False.elim hq'
      | cont => exact False.elim hq'
end
section
variable {X : Cx} {B : Bs} {Ξ : XD → En → Sto → Prop} {pos p cpos : Pos} {e : Expr} {es : List Expr} {ga : DTA} {k : Nat} {x : Str} {C : Addr}
theorem put_xd {r : En} {M1 : Sto} {σ : L2.St} {H1 H' G1 : Hp} {v : V} {d : D} {dd : Addr} {t fl : Str} (R1 : Rel X.K B r M1 σ H1 G1) (p1 : Rep X.K G1 d v) (hd : H1 dd = none) (h' : H' dd = some (.xd (tag2 t fl [v]))) (hb : ∀ b, b ≠ dd → H' b = H1 b) (q1 : Ξ (C, [(fl, d), ("tag", .str t)]) r M1) :
    wOf X.K B Ξ (.ref C) (some dd) σ H' := by
  refine ⟨(C, [(fl, d), ("tag", .str t)]), r, M1, G1, q1, ?_, rfl, dd, _, rfl, h', .cons p1 (.cons .str .nil)⟩
  have e : H' = upd H1 dd (.xd (tag2 t fl [v])) := by
    funext b
    by_cases z : b = dd
    · rw [z, upd_same]; exact h'
    · rw [upd_ne z]; exact hb b z
  rw [e]
  refine R1.go ⟨fun a o y => by rw [upd_ne (ne_of_none (R1.wd.sub _ _ y) hd)]; exact R1.wd.sub _ _ y, fun a c y => ?_⟩ ⟨fun a o y _ => by rw [upd_ne (ne_of_none y hd)]; exact y, fun a y => ?_, Sub.rfl', fun a y n => absurd n y, fun a y n => absurd n y⟩
  · obtain ⟨h1, h2⟩ := R1.wd.cells a c y
    exact ⟨h1, h2.move Sub.rfl' fun o z => by rw [upd_ne (ne_of_none z hd)]; exact z⟩
  · by_cases z : a = dd
    · rw [z, upd_same]; simp
    · rw [upd_ne z]; exact y
theorem ds_raiseFN {t fl : Str} {j : Nat} {p2 : Pos} (XF : XfH X.prog X.w X.K X.mg X.base x C 1 (tag2 t fl)) (hr : L2H.RoomH k X.A) (tk : Takes X (wOf X.K B Ξ)) (hot : L2H.HotC X) (ha : DA X B [e] ga) (hk : 2 ≤ k := by decide) (hg : Gl X x := by rfl) (hdb : (x == ("__debug__" : Str)) = false := by decide)
    (he : starEach [e] X.env = (false, eval e X.env) :: starEach [] X.env := by rfl) : DS X B (.Raise (some (.Call (.Name x p) [e] [] p2)) (some (.Constant .none j cpos)) pos) (fun E r M => ga r M fun ds M1 => match ds with | [d] => Ξ (C, [(fl, d), ("tag", .str t)]) r M1 | _ => False) := by
  have mk : L2H.PMk5 X (.Call (.Name x p) [e] [] p2) (fun σ H Q => liftA X.K B ga σ H fun vs H1 => vs.length = 1 ∧ ∀ d H', H1 d = none → H' d = some (.xd (tag2 t fl vs)) → (∀ b, b ≠ d → H' b = H1 b) → Q (.ref C) (some d) H') := by
    intro pins s σ H Q I h
    refine wpAny_Call_Name_kw (ld_glob I hg XF.mgC ?_ hdb)
    exact PySem.W.callWith_K (h₀ := X.base) I.ok.mod.kin XF.cls.kC (thn (ha.run p2 pins s σ H _ I h) fun us s1 ⟨vs, H1, I1, rv, l1, q1⟩ => ⟨I1.kIn, mk_xH XF hr hot hk I1 rv l1 (by omega) q1⟩) he rfl
  refine PS_imp (L2H.ps_raiseHN hot tk mk) fun D' σ H h => ?_
  obtain ⟨r, M, G, E, R, q, _⟩ := EkOk.of h
  refine ⟨r, M, G, _, R, q, fun ds M1 vs H1 G1 q1 R1 s1 p1 => ?_⟩
  split at q1
  · rename_i d
    cases p1 with
    | @cons _ _ v _ p1 p2 =>
      cases p2
      exact ⟨rfl, fun dd H' hd h' hb => put_xd R1 p1 hd h' hb q1⟩
  · exact q1.elim
structure ZxN (X : Cx) (B : Bs) (Ξ : XD → En → Sto → Prop) : Prop where
  tk : L2N.Takes X (wOf X.K B Ξ)
  po : PassesOwn (model X.prog X.w) X.A X.env X.xe
theorem ZxN.z0 (z : ZxN X B Ξ) : Zx X B (fun _ _ _ => False) := ⟨fun u s' ⟨_, _, _, _, _, _, _, _, _, _, _, _, _, _, _, _, w⟩ => by
  obtain ⟨_, _, _, _, q, _⟩ := w
  exact q.elim, z.po⟩
theorem ds_raise1N {t fl : Str} {p2 : Pos} (XF : Xf X.prog X.w X.K X.mg X.base x C 1 (tag2 t fl)) (hr : Room k X.A) (z : ZxN X B Ξ) (hc : X.calm = true) (ha : DA X B [e] ga) (hk : 2 ≤ k := by decide) (hg : Gl X x := by rfl) (hdb : (x == ("__debug__" : Str)) = false := by decide)
    (he : starEach [e] X.env = (false, eval e X.env) :: starEach [] X.env := by rfl) : DS X B (.Raise (some (.Call (.Name x p) [e] [] p2)) none pos) (fun E r M => ga r M fun ds M1 => match ds with | [d] => Ξ (C, [(fl, d), ("tag", .str t)]) r M1 | _ => False) := by
  have mk : L2N.PMk X (.Call (.Name x p) [e] [] p2) (fun σ H Q => liftA X.K B ga σ H fun vs H1 => vs.length = 1 ∧ ∀ d H', H1 d = none → H' d = some (.xd (tag2 t fl vs)) → (∀ b, b ≠ d → H' b = H1 b) → Q (.ref C) (some d) H') := by
    intro pins s σ H Q I h
    refine wpAny_Call_Name_kw (ld_glob I hg XF.mgC ?_ hdb)
    exact PySem.W.callWith_K (h₀ := X.base) I.ok.mod.kin XF.cls.kC (thn (ha.run p2 pins s σ H _ I h) fun us s1 ⟨vs, H1, I1, rv, l1, q1⟩ => ⟨I1.kIn, mk_xN XF hr hk I1 rv l1 (by omega) q1⟩) he rfl
  refine PS_imp (L2N.ps_raise hc z.tk mk) fun D' σ H h => ?_
  obtain ⟨r, M, G, E, R, q, _⟩ := EkOk.of h
  refine ⟨r, M, G, _, R, q, fun ds M1 vs H1 G1 q1 R1 s1 p1 => ?_⟩
  split at q1
  · rename_i d
    cases p1 with
    | @cons _ _ v _ p1 p2 =>
      cases p2
      exact ⟨rfl, fun dd H' hd h' hb => put_xd R1 p1 hd h' hb q1⟩
  · exact q1.elim
end
section
variable {P : Program} {w : World} {K : PySem.W.Frag} {mg : Str → Option Value} {base : Heap} {x qual : Str} {st : Stmt} {f : Addr} {fd : FuncData} {N ps : List Str} {k : Nat} {dvs : List V} {kws : List (Str × V)}
theorem fnDN (F : FnZ K x qual st dvs kws f fd) (S : FnScope N ps (defScope st)) (c : Ct)
    (hb : ∀ (cdv : Value) (A : Around) (outer : List Env) (s : Shared) (H : Hp) (E : XK) (B : Bs) (Ξ : XD → Sto → Prop), Room k (A.deeper (envOfC qual (defScope st) s.heap.objs.size f cdv)) →
      ZxN (cxOf (L2N.CX P w) P w K mg base N qual (defScope st) f cdv A outer s H E) B (exF B.M Ξ) →
      ∃ t, DSs (cxOf (L2N.CX P w) P w K mg base N qual (defScope st) f cdv A outer s H E) B (defBody st) t ∧
        ∀ (ds : List D) (Ψ : D → Sto → Prop), ds.length = ps.length → c ds B.M Ψ Ξ → t { nx := fun _ M' => rtF B.M Ψ .non M', rt := rtF B.M Ψ } (ent N.length ds) B.M) :
    FnOk P w K mg base (L2N.CX P w) (k + 1) f fd ps (spC K ps.length c) := by
  refine F.ok S (fun vs H Q E h => h.1) fun cdv A outer s H vs Q E hr h => ?_
  obtain ⟨hl, ds, G, M, Ψ, Ξ, wd, r, hc, hQ, hE⟩ := h
  have tk0 : L2N.Takes (cxOf (L2N.CX P w) P w K mg base N qual (defScope st) f cdv A outer s H E) (fun cls d _ H => E cls d H) := L2N.takes_of rfl rfl rfl rfl
  obtain ⟨t, ht, q⟩ := hb cdv A outer s H E ⟨H, G, M⟩ Ξ hr ⟨tk0.imp (exF_take (B := ⟨H, G, M⟩) hE), passes_of rfl⟩
  have end_ : ∀ (d : D) (r' : En) (M' : Sto) (v : V) (σ' : L2.St) (H' G' : Hp), rtF M Ψ d M' → Rel K ⟨H, G, M⟩ r' M' σ' H' G' → Rep K G' d v → Q v H' := fun d r' M' v σ' H' G' ⟨d', M'', fr, q⟩ R' p => by
    cases fr with
    | same => exact hQ _ _ _ _ _ q R'.wd R'.sin p
    | drop =>
      obtain ⟨w1, s1⟩ := frz_end R'.wd R'.sin
      exact hQ _ _ _ _ _ q w1 s1 (p.mono frzG_sub)
    | frz n =>
      obtain ⟨w1, s1⟩ := frz_end R'.wd R'.sin
      exact hQ _ _ _ _ _ q w1 s1 ((p.mono frzG_sub).sb (rep_frz R'.wd n))
  refine ⟨_, ht, ent N.length ds, M, G, _, rel_start wd r, q ds Ψ (r.length.trans hl) hc, ⟨fun r' M' σ' H' G' q' R' s' => ?_, fun d r' M' v σ' H' G' q' R' p => end_ d r' M' v σ' H' G' q' R' p, fun _ _ _ _ _ q' _ _ => q'.elim, fun _ _ _ _ _ q' _ _ => q'.elim⟩⟩
  exact end_ .non r' M' .non σ' H' G' q' R' .non
theorem fn_ofN {sp : Sp} (F : FnOk P w K mg base (L2N.CX P w) k f fd ps sp) : FnOk P w K mg base (L2.CX P w) k f fd ps sp :=
  ⟨F.len, fun A outer s H args us vs Q E hr e0 hb r h => codeAny_mono (F.run A outer s H args us vs Q E hr e0 hb r h) fun fr s' hq => by
    cases fr with
    | ok fl => cases fl <;> exact hq
    | error e =>
      obtain ⟨a, B, H', cls, d, e1, fl, r⟩ := hq
      exact ⟨a, B, H', cls, d, e1, L2H.flyingZ_imp (fun o z => z.zc) fl, r⟩⟩
structure GfN (P : Program) (w : World) (K : PySem.W.Frag) (mg : Str → Option Value) (base : Heap) (x : Str) (k : Nat) (c : Ct) (bs : List (Nat × List Str × (List D → List D → List D))) : Prop where
  ex : ∃ f fd ps, mg x = some (.ref f) ∧ PySem.W.keepIn K (.ref f) = true ∧ FnOk P w K mg base (L2N.CX P w) k f fd ps (spC K ps.length c) ∧ ∀ b ∈ bs, BindD K fd ps b
end
section
variable {X : Cx} {B : Bs} {Ξ : XD → En → Sto → Prop} {pos p np pos' : Pos} {e : Expr} {es : List Expr} {ga : DTA} {j k n : Nat} {x : Str} {c : Ct} {bs : List (Nat × List Str × (List D → List D → List D))} {g : List D → List D → List D}
theorem run_cN {f : Addr} {fd : FuncData} {ps : List Str} {pins : List (Addr × Obj)} {r : En} {M : Sto} {σ : L2.St} {H G : Hp} {s : Shared} {Q : VK} {vs zs : List V} {us ws : List Value} {ds dz : List D} {b : Nat × List Str × (List D → List D → List D)} {Ψ : D → Sto → Prop}
    (F : FnOk X.prog X.w X.K X.mg X.base (L2N.CX X.prog X.w) k f fd ps (spC X.K ps.length c)) (hr : Room k X.A) (hb : BindD X.K fd ps b) (tk : L2N.Takes X (wOf X.K B Ξ)) (I : L2.Inv X pins σ H s) (R : Rel X.K B r M σ H G)
    (hv : Vals vs us) (hz : Vals zs ws) (rv : RepL X.K G ds vs) (rz : RepL X.K G dz zs) (l1 : ds.length = b.1) (l2 : dz.length = b.2.1.length) (hc : c (b.2.2 ds dz) M Ψ (fun x M' => Ξ x r M'))
    (hQ : ∀ d M' v H' G', Ψ d M' → Rel X.K B r M' σ H' G' → Sub G G' → Rep X.K G' d v → Q v H') : wpAny (model X.prog X.w) X.A (call (.ref f) us (b.2.1.zip ws)) (EP X pins σ Q) X.xe s := by
  obtain ⟨hl, gl, gV, kb, rel⟩ := hb
  have l3 := hl ds dz l1 l2
  have u1 : us.length = b.1 := by rw [← hv.length, ← rv.length]; exact l1
  have u2 : ws.length = b.2.1.length := by rw [← hz.length, ← rz.length]; exact l2
  have rr := rel G ds vs dz zs rv rz
  have hsp : spC X.K ps.length c (gV vs zs) H Q (fun cls d H' => wOf X.K B Ξ cls d σ H') := by
    refine ⟨by rw [← rr.length]; exact l3, _, G, M, Ψ, _, R.wd, rr, hc, fun d M' v H' G' q w s p => hQ d M' v H' G' q (R.go w s) s.gsub p, fun x M' H' G' cls dd q w s rx => ?_⟩
    exact ⟨x, r, M', G', q, R.go w s, rx⟩
  refine wpAny_call (codeAny_mono (F.run X.A X.stack s H ⟨us, b.2.1.zip ws⟩ (gl us ws) (gV vs zs) Q _ hr I.env0 (kb.to s us ws I.kIn u1 u2) (kb.rel hv hz) hsp) fun fr s' hq => ?_)
  cases fr with
  | error e => exact tk e s' (L2N.XE.of_call I (fun cls d H' h => h) hq)
  | ok fl =>
    cases fl with
    | ret u => exact I.after hq
    | next => exact False.elim hq
    | brk => exact False.elim hq
    | cont => exact False.elim hq
theorem de_callN (F : GfN X.prog X.w X.K X.mg X.base x j c bs) (hr : Room k X.A) (z : ZxN X B Ξ) (hb : (n, [], g) ∈ bs) (ha : DA X B (e :: es) ga) (hj : j ≤ k := by decide) (hg : Gl X x := by rfl) (hdb : (x == ("__debug__" : Str)) = false := by decide)
    (he : starEach (e :: es) X.env = (false, eval e X.env) :: starEach es X.env := by rfl) (hpl : (backTo pos (starEach es X.env)).any (·.1) = false := by rfl) :
    DE X B (.Call (.Name x p) (e :: es) [] pos) (fun r M Ψ => ga r M fun ds M1 => callD n 0 g c Ξ ds [] r M1 Ψ) := by
  obtain ⟨f, fd, ps, hm, hk, FO, hbs⟩ := F.ex
  refine ⟨fun pins s σ H Q I ⟨r, M, G, Ψ, R, h, kk⟩ => ?_⟩
  refine wpAny_Call_Name_kw (ld_glob I hg hm ?_ hdb)
  refine PySem.W.callWith_K (h₀ := X.base) I.ok.mod.kin hk (thn (ha.run pos pins s σ H _ I ⟨r, M, G, _, R, h, fun ds M1 vs H1 G1 q R1 s1 p1 => (⟨ds, M1, G1, q, R1, s1, p1⟩ : ∃ ds M1 G1, callD n 0 g c Ξ ds [] r M1 Ψ ∧ Rel X.K B r M1 σ H1 G1 ∧ Sub G G1 ∧ RepL X.K G1 ds vs)⟩) fun us s1 ⟨vs, H1, I1, rv, ds, M1, G1, ⟨l1, _, q⟩, R1, t1, p1⟩ => ⟨I1.kIn, ?_⟩) he hpl
  exact run_cN (zs := []) (ws := []) (dz := []) FO (hr.mono hj) (hbs _ hb) z.tk I1 R1 rv .nil p1 .nil l1 rfl q fun d M' v H' G' q R' s' p' => kk _ _ _ _ _ q R' (t1.tr s') p'
def onlyD (K : PySem.W.Frag) (c : Value) (fs : DTS) (Ξ : XD → En → Sto → Prop) (E : Ek) : XD → En → Sto → Prop := fun x r M => ∃ b, PySem.W.exmOne K (.ref x.1) c = some b ∧ (b = true → fs E r M) ∧ (b = false → Ξ x r M)
theorem ds_tryR {body suite : List Stmt} {b₀ : Stmt} {cv : Value} {fb : (XD → En → Sto → Prop) → DTS} {fs : DTS} (hs : X.stack = X.env :: X.outer) (hf : X.env.frame = some X.env.locals) (hc : Names X x cv) (hpa : ∀ hd : Option Value, PassesOwnAt (model X.prog X.w) (X.A.mark hd) X.A X.env X.xe) (z : Zx X B Ξ)
    (hb : ∀ (B1 : Bs) (pn : List (Addr × Obj)) (xe : Value → Shared → Prop) (Ξ' : XD → En → Sto → Prop), Sub B.G B1.G → ZxN (X.tr pn xe) B1 Ξ' → DSs (X.tr pn xe) B1 body (fb Ξ'))
    (hsu : ∀ (a : Addr) (oe : Obj) (pn : List (Addr × Obj)), Takes (L2H.suiteX X a ((a, oe) :: pn)) (wOf X.K B Ξ) → L2H.HotC (L2H.suiteX X a ((a, oe) :: pn)) → DSs (L2H.suiteX X a ((a, oe) :: pn)) B (b₀ :: suite) fs) :
    DS X B (.Try body [.ExceptHandler (some (.Name x np)) none (b₀ :: suite) pos'] [] [] pos) (fun E r M => fb (onlyD X.K cv fs Ξ E) E r M) := by
  refine PS_imp (L2H.ps_try_onlyX (tb := fun W D σ H => ∃ (B1 : Bs) (Ξ' : XD → En → Sto → Prop), Sub B.G B1.G ∧ (∀ cls d σ H, wOf X.K B1 Ξ' cls d σ H → W cls d σ H) ∧ liftS X.K B1 (fb Ξ') D σ H) (ts := fun _ _ _ D σ H => liftS X.K B fs D σ H) hs hf hc hpa z.tk
    (fun W pn xe tk _ po => ⟨fun pins s σ H D I ⟨B1, Ξ', hS, hW, h⟩ => (hb B1 pn xe Ξ' hS ⟨tk.imp hW, po⟩).run pins s σ H D I h⟩) (fun a oe cls d pn hz hfd tkS hot => ⟨fun pins s σ H D I h => (hsu a oe pn tkS hot).run pins s σ H D I h⟩)) fun D σ H h => ?_
  obtain ⟨r, M, G, E, R, q, kE⟩ := EkOk.of h
  refine ⟨Bs.at H G M, onlyD X.K cv fs Ξ E, R.sin.gsub, fun cls d σ' H' ⟨y, r1, M1, G1, ⟨b, hbb, yes, no⟩, R1, rx⟩ => ?_, r, M, G, E, R.here, q, kE.here R⟩
  have ec : cls = .ref y.1 := rx.cls
  refine ⟨b, by rw [ec]; exact hbb, fun e a na => ⟨r1, M1, G1, E, R.back R1, yes e, kE.mono R1.sin.gsub⟩, fun e => ⟨y, r1, M1, G1, no e, R.back R1, rx⟩⟩
end
end Z
namespace Z
open PySem PySem.Spec PyProof.Rows L2

theorem updM_id {M : Sto} {a : Addr} {c : Cell} (h : M a = some c) : updM M a c = M := by
  funext b
  by_cases e : b = a
  · rw [e, updM_same, h]
  · rw [updM_ne e]
def rdr (C : Addr) (t r : List Nat) : Cell := .ins C [("signs", .str ⟨t.toArray⟩), ("at", .int ((t.length - r.length : Nat) : Int))]
theorem sfx_drop {t r : List Nat} (h : r <:+ t) : t.drop (t.length - r.length) = r := by
  obtain ⟨p, rfl⟩ := h
  simp
theorem stripP_some {m r r' : List Nat} (h : stripP m r = some r') : r = m ++ r' := by
  unfold stripP at h
  split at h
  · rename_i hp
    cases h
    exact (List.prefix_iff_eq_append.mp (List.isPrefixOf_iff_prefix.mp hp)).symm
  · cases h
theorem sw_rdr {t r m : List Nat} (h : r <:+ t) : Txt.startswith3 ⟨t.toArray⟩ ⟨m.toArray⟩ ((t.length - r.length : Nat) : Int) = (stripP m r).isSome := by
  obtain ⟨p, rfl⟩ := h
  have e1 : (p ++ r).length - r.length = p.length := by simp
  rw [e1]
  unfold Txt.startswith3
  have e2 : fromIndex (⟨(p ++ r).toArray⟩ : Str).length (p.length : Int) = p.length := by
    unfold fromIndex
    rw [if_neg (by omega)]
    omega
  rw [e2]
  have l1 : (⟨(p ++ r).toArray⟩ : Str).length = p.length + r.length := by show (p ++ r).toArray.size = _; simp
  have l2 : (⟨m.toArray⟩ : Str).length = m.length := by show m.toArray.size = _; simp
  rw [l1, l2]
  unfold PySem.Builtin.Str.subAt stripP
  rw [l2]
  have e3 : ((⟨(p ++ r).toArray⟩ : Str).cps.extract p.length (p.length + m.length) == (⟨m.toArray⟩ : Str).cps) = decide (r.take m.length = m) := by
    show ((p ++ r).toArray.extract p.length (p.length + m.length) == m.toArray) = _
    rw [List.extract_toArray, Bool.eq_iff_iff, beq_iff_eq, decide_eq_true_eq]
    have e4 : (p ++ r).extract p.length (p.length + m.length) = r.take m.length := by
      rw [List.extract_eq_take_drop, List.drop_left, Nat.add_sub_cancel_left]
    rw [e4]
    exact ⟨fun z => by simpa using congrArg Array.toList z, fun z => by rw [z]⟩
  rw [e3]
  by_cases hp : m.isPrefixOf r = true
  · rw [if_pos hp]
    obtain ⟨q, rfl⟩ := List.isPrefixOf_iff_prefix.mp hp
    simp
  · rw [if_neg hp]
    have : ¬ r.take m.length = m := fun z => hp (List.isPrefixOf_iff_prefix.mpr (by rw [← z]; exact List.take_prefix _ _))
    simp [this]
theorem stripP_sfx {m r r' t : List Nat} (h : stripP m r = some r') (hs : r <:+ t) : r' <:+ t := by
  have := stripP_some h
  obtain ⟨p, rfl⟩ := hs
  exact ⟨p ++ m, by rw [this, List.append_assoc]⟩
theorem stripP_len {m r r' : List Nat} (h : stripP m r = some r') : r'.length + m.length = r.length := by
  rw [stripP_some h, List.length_append]; omega
theorem drop_sfx {P : Nat → Bool} {r t : List Nat} (h : r <:+ t) : r.dropWhile P <:+ t := (List.dropWhile_suffix P).trans h
theorem wl_len (P : Nat → Bool) (r : List Nat) : (r.takeWhile P).length + (r.dropWhile P).length = r.length := by
  rw [← List.length_append, List.takeWhile_append_dropWhile]
def rwt (f : List Nat → Option (Pg × List Nat)) (m : Nat) (r : List Nat) : Option (List Pg × List Nat) := match stripP thenC r with
  | some r => rws f m r
  | none => match stripP [41] r with
    | none => none
    | some r => some ([], r)
theorem rws_succ (f : List Nat → Option (Pg × List Nat)) (m : Nat) (t : List Nat) : rws f (m + 1) t = match f t with
    | none => none
    | some (p, r) => match rwt f m r with
      | none => none
      | some (l, r) => some (p :: l, r) := by
  rw [rws]
  unfold rwt
  cases f t with
  | none => rfl
  | some x =>
    obtain ⟨p, r⟩ := x
    dsimp only
    cases stripP thenC r with
    | some r => rfl
    | none =>
      dsimp only
      cases stripP [41] r <;> rfl
def PgZ : Pg → Prop
  | .tab t => Sm 200 t
  | .trn w => w.cps.size ≤ 16000 ∧ LR w.cps.toList
  | .swp => True
  | .thn l => l.length + 1 ≤ 16384
  | .tms _ _ => True
  | .use x => x.cps.size ≤ 16000 ∧ ∀ c ∈ x.cps.toList, 97 ≤ c ∧ c ≤ 122
mutual
def PgZs : Pg → Prop
  | .thn l => PgZ (.thn l) ∧ PgZss l
  | .tms _ p => PgZs p
  | p => PgZ p
def PgZss : List Pg → Prop
  | [] => True
  | p :: l => PgZs p ∧ PgZss l
end
theorem pgZss_iff : ∀ {l : List Pg}, PgZss l ↔ ∀ p ∈ l, PgZs p
  | [] => by simp [PgZss]
  | p :: l => by rw [PgZss, pgZss_iff (l := l)]; simp
theorem pgZs_iff (p : Pg) : PgZs p ↔ PgZ p ∧ ∀ q ∈ pgIn p, PgZs q := by
  cases p <;> simp [PgZs, pgIn, PgZ, pgZss_iff]
def Got (k : Nat) (t : List Nat) (p : Pg) (r : List Nat) : Prop := r <:+ t ∧ pgN p + r.length ≤ t.length ∧ PgZs p ∧ pgK p ≤ k
def GotL (k : Nat) (t : List Nat) (l : List Pg) (r : List Nat) : Prop := r <:+ t ∧ pgNs l + r.length + 1 ≤ t.length ∧ PgZss l ∧ pgKs l ≤ k
theorem numV_sm {cs : List Nat} {n : Int} (h : numV cs = some n) (hd : ∀ c ∈ cs, isDg c = true) : n.natAbs < 2 ^ 200 ∧ 0 ≤ n := by
  unfold numV at h
  split at h
  · rename_i hh
    cases h
    have : PySem.NumText.digitsVal cs < 10 ^ cs.length := by
      have key : ∀ (l : List Nat) (a : Nat), (∀ c ∈ l, isDg c = true) → l.foldl (fun acc c => acc * 10 + (c - 48)) a < (a + 1) * 10 ^ l.length := by
        intro l
        induction l with
        | nil => intro a _; simp
        | cons c l ih =>
          intro a hc
          have h1 := hc c List.mem_cons_self
          unfold isDg at h1
          simp only [Bool.and_eq_true, decide_eq_true_eq] at h1
          have := ih (a * 10 + (c - 48)) fun d hd => hc d (List.mem_cons_of_mem _ hd)
          rw [List.foldl_cons, List.length_cons, Nat.pow_succ]
          refine Nat.lt_of_lt_of_le this ?_
          have h2 : a * 10 + (c - 48) + 1 ≤ (a + 1) * 10 := by omega
          calc _ ≤ (a + 1) * 10 * 10 ^ l.length := Nat.mul_le_mul_right _ h2
            _ = _ := by rw [Nat.mul_comm (10 ^ l.length) 10, Nat.mul_assoc]
      have := key cs 0 hd
      simpa [PySem.NumText.digitsVal] using this
    have h2 : 10 ^ cs.length ≤ 10 ^ 31 := Nat.pow_le_pow_right (by decide) hh.2.1
    have h3 : (10 : Nat) ^ 31 < 2 ^ 200 := by decide
    omega
  · cases h
theorem entG_got : ∀ {ms : List (List Nat)} {t r : List Nat} {ns : List Int}, entG ms t = some (ns, r) → r <:+ t ∧ ns.length = ms.length ∧ ∀ n ∈ ns, n.natAbs < 2 ^ 200 ∧ 0 ≤ n
  | [], t, r, ns, h => by
    rw [entG] at h
    cases h
    exact ⟨List.suffix_refl _, rfl, fun n hn => nomatch hn⟩
  | m :: ms, t, r, ns, h => by
    rw [entG] at h
    split at h
    · cases h
    rename_i n hn
    split at h
    · cases h
    rename_i r1 h1
    split at h
    · cases h
    rename_i ns' r2 h2
    cases h
    obtain ⟨a, b, c⟩ := entG_got h2
    refine ⟨a.trans ((stripP_sfx h1 (List.suffix_refl _)).trans (List.dropWhile_suffix _)), by rw [List.length_cons, List.length_cons, b], fun k hk => ?_⟩
    rcases List.mem_cons.mp hk with rfl | hk
    · exact numV_sm hn fun c hc => List.all_eq_true.mp (List.all_takeWhile) c hc
    · exact c k hk
theorem sfx_le {r t : List Nat} (h : r <:+ t) : r.length ≤ t.length := h.length_le
theorem rws_got {f : List Nat → Option (Pg × List Nat)} {k : Nat} (hf : ∀ t p r, f t = some (p, r) → t.length ≤ 16000 → Got k t p r) : ∀ {m : Nat} {t r : List Nat} {l : List Pg}, rws f m t = some (l, r) → t.length ≤ 16000 → GotL k t l r
  | 0, t, r, l, h, _ => by rw [rws] at h; cases h
  | m + 1, t, r, l, h, ht => by
    rw [rws_succ] at h
    split at h
    · cases h
    rename_i p r1 h1
    obtain ⟨a, b, c, d⟩ := hf _ _ _ h1 ht
    split at h
    · cases h
    rename_i l' r2 h2
    cases h
    unfold rwt at h2
    split at h2
    · rename_i r3 h3
      have e := stripP_len h3
      obtain ⟨a2, b2, c2, d2⟩ := rws_got hf h2 (by omega)
      refine ⟨a2.trans ((stripP_sfx h3 (List.suffix_refl _)).trans a), ?_, ⟨c, c2⟩, ?_⟩
      · rw [pgNs]
        have : thenC.length = 6 := rfl
        omega
      · rw [pgKs]; exact Nat.max_le.mpr ⟨d, d2⟩
    · split at h2
      · cases h2
      rename_i r3 h3
      cases h2
      have e := stripP_len h3
      refine ⟨(stripP_sfx h3 (List.suffix_refl _)).trans a, ?_, ⟨c, trivial⟩, ?_⟩
      · rw [pgNs, pgNs]
        have : ([41] : List Nat).length = 1 := rfl
        omega
      · rw [pgKs, pgKs]; exact Nat.max_le.mpr ⟨d, Nat.zero_le _⟩
theorem lr_isLR {c : Nat} (h : isLR c = true) : c = 76 ∨ c = 82 := by unfold isLR at h; simpa using h
theorem lo_isLo {c : Nat} (h : isLo c = true) : 97 ≤ c ∧ c ≤ 122 := by unfold isLo at h; simpa using h
theorem prs_got : ∀ {k : Nat} {t r : List Nat} {p : Pg}, prs k t = some (p, r) → t.length ≤ 16000 → Got k t p r
  | 0, t, r, p, h, _ => by rw [prs] at h; cases h
  | k + 1, t, r, p, h, ht => by
    rw [prs] at h
    split at h
    · rename_i r1 h1
      have e1 := stripP_len h1
      have e2 : ([40] : List Nat).length = 1 := rfl
      split at h
      · cases h
      rename_i l r2 h2
      cases h
      obtain ⟨a, b, c, d⟩ := rws_got (fun t p r => prs_got) h2 (by omega)
      refine ⟨a.trans (stripP_sfx h1 (List.suffix_refl _)), by rw [pgN]; omega, ⟨?_, c⟩, by rw [pgK]; omega⟩
      have := pgNs_len l
      show l.length + 1 ≤ 16384
      omega
    split at h
    · rename_i r1 h1
      have e1 := stripP_len h1
      have e2 : ([91] : List Nat).length = 1 := rfl
      split at h
      · cases h
      rename_i ns r2 h2
      cases h
      obtain ⟨a, b, c⟩ := entG_got h2
      have b : ns.length = 4 := b
      match ns, b with
      | [n1, n2, n3, n4], _ =>
        have := sfx_le a
        refine ⟨a.trans (stripP_sfx h1 (List.suffix_refl _)), by simp only [tabOf, pgN]; omega, ?_, by simp only [tabOf, pgK]; omega⟩
        exact ⟨(c n1 (by simp)).1, (c n2 (by simp)).1, (c n3 (by simp)).1, (c n4 (by simp)).1⟩
    split at h
    · rename_i hne
      cases h
      have hl := wl_len isLR t
      have : 0 < (t.takeWhile isLR).length := List.length_pos_iff.mpr hne
      refine ⟨List.dropWhile_suffix _, by simp only [pgN]; omega, ⟨?_, ?_⟩, by simp only [pgK]; omega⟩
      · show (t.takeWhile isLR).toArray.size ≤ 16000
        rw [List.size_toArray]; omega
      · intro c hc
        exact lr_isLR (List.all_eq_true.mp (List.all_takeWhile) c (by simpa using hc))
    split at h
    · rename_i hne
      cases h
      have hl := wl_len isLo t
      have : 0 < (t.takeWhile isLo).length := List.length_pos_iff.mpr hne
      split
      · exact ⟨List.dropWhile_suffix _, by simp only [pgN]; omega, trivial, by simp only [pgK]; omega⟩
      · refine ⟨List.dropWhile_suffix _, by simp only [pgN]; omega, ⟨?_, ?_⟩, by simp only [pgK]; omega⟩
        · show (t.takeWhile isLo).toArray.size ≤ 16000
          rw [List.size_toArray]; omega
        · intro c hc
          exact lo_isLo (List.all_eq_true.mp (List.all_takeWhile) c (by simpa using hc))
    split at h
    · cases h
    rename_i n hn
    split at h
    · cases h
    rename_i r1 h1
    split at h
    · cases h
    rename_i p' r2 h2
    cases h
    have e1 := stripP_len h1
    have e2 : ([42] : List Nat).length = 1 := rfl
    have hl := wl_len isDg t
    obtain ⟨a, b, c, d⟩ := prs_got h2 (by omega)
    exact ⟨a.trans ((stripP_sfx h1 (List.suffix_refl _)).trans (List.dropWhile_suffix _)), by rw [pgN]; omega, c, by rw [pgK]; omega⟩
def chk : Nat → Pg → Prop
  | 0, _ => False
  | n + 1, p => PtOk p ∧ ∀ q ∈ pgIn p, chk n q
theorem pgK_iff (p : Pg) (n : Nat) : pgK p ≤ n + 1 ↔ ∀ q ∈ pgIn p, pgK q ≤ n := by
  constructor
  · intro h q hq
    have := pgK_in hq
    omega
  · intro h
    cases p with
    | thn l => rw [pgK]; have := pgKs_le (l := l) h; omega
    | tms m p => rw [pgK]; have := h p (List.mem_singleton.mpr rfl); omega
    | _ => simp [pgK]
theorem chk_iff : ∀ (n : Nat) (p : Pg), chk n p ↔ PgOk p ∧ pgK p ≤ n
  | 0, p => by
    have := pgK_pos p
    constructor
    · intro h; exact h.elim
    · intro h; omega
  | n + 1, p => by
    rw [chk, pgOk_iff, pgK_iff]
    constructor
    · rintro ⟨h1, h2⟩
      exact ⟨⟨h1, fun q hq => ((chk_iff n q).mp (h2 q hq)).1⟩, fun q hq => ((chk_iff n q).mp (h2 q hq)).2⟩
    · rintro ⟨⟨h1, h2⟩, h3⟩
      exact ⟨h1, fun q hq => (chk_iff n q).mpr ⟨h2 q hq, h3 q hq⟩⟩
open Classical in
noncomputable def rdP (t : List Nat) : Option Pg := match prs 9 t with
  | none => none
  | some (p, _) => if PgOk p ∧ pgK p ≤ 8 ∧ pgC p = t then some p else none
theorem rdP_iff {t : List Nat} {p : Pg} : rdP t = some p ↔ PgOk p ∧ pgK p ≤ 8 ∧ pgC p = t := by
  unfold rdP
  constructor
  · intro h
    split at h
    · cases h
    · rename_i q r hq
      split at h
      · rename_i hh
        cases h
        exact hh
      · cases h
  · rintro ⟨h1, h2, h3⟩
    have := prs_text p 9 [] h1 (by omega) (.inl rfl)
    rw [List.append_nil, h3] at this
    rw [this]
    exact if_pos ⟨h1, h2, h3⟩
theorem joinC_le (s : List Nat) : ∀ l : List (List Nat), (joinC s l).length ≤ (l.map fun x => x.length + s.length).sum
  | [] => by simp [joinC]
  | [x] => by simp [joinC]
  | x :: y :: r => by
    have := joinC_le s (y :: r)
    rw [joinC, List.map_cons, List.sum_cons]
    simp only [List.length_append]
    omega
theorem dec_len2 {i : Int} (h0 : 0 ≤ i) (h1 : i ≤ 60) : (decC i).length ≤ 2 := (dec_ok h0 h1).2.2.1
mutual
theorem pgC_len : ∀ p : Pg, PgOk p → (pgC p).length + 10 ≤ 70 * pgN p
  | .tab t, h => by
    obtain ⟨⟨n1, n2, n3, n4⟩, a1, a2, a3, a4, _⟩ := h
    have l1 := dec_len2 n1 a1
    have l2 := dec_len2 n2 a2
    have l3 := dec_len2 n3 a3
    have l4 := dec_len2 n4 a4
    simp only [pgC, pgN, List.length_append, List.length_cons, List.length_nil]
    omega
  | .trn w, h => by
    have h2 := h.2.2
    have : (strC w).length = w.cps.size := Array.length_toList
    simp only [pgC, pgN]
    omega
  | .swp, h => by simp [pgC, pgN, swapC]
  | .use x, h => by
    have h2 := h.2.1
    have : (strC x).length = x.cps.size := Array.length_toList
    simp only [pgC, pgN]
    omega
  | .tms n p, h => by
    have := pgC_len p h.2
    have l1 := dec_len2 h.1.1 (by have := h.1.2; omega)
    simp only [pgC, pgN, List.length_append, List.length_cons, List.length_nil]
    omega
  | .thn l, h => by
    have h1 := pgCs_len l h.2
    have h2 := joinC_le thenC (pgCs l)
    have h3 : thenC.length = 6 := rfl
    rw [h3] at h2
    simp only [pgC, pgN, List.length_append, List.length_cons, List.length_nil]
    omega
theorem pgCs_len : ∀ l : List Pg, PgOks l → ((pgCs l).map fun x => x.length + 6).sum ≤ 70 * pgNs l
  | [], _ => by simp [pgCs, pgNs]
  | p :: l, h => by
    have h1 := pgC_len p h.1
    have h2 := pgCs_len l h.2
    rw [pgCs, List.map_cons, List.sum_cons, pgNs]
    omega
end
theorem joinC_L (s : List Nat) : ∀ l, joinC s l = TL.joinL s l
  | [] => rfl
  | [x] => rfl
  | x :: y :: r => by
    rw [joinC, joinC_L s (y :: r), List.append_assoc]
    rfl
theorem join_C (s : List Nat) (l : List (List Nat)) : Txt.join ⟨s.toArray⟩ (l.map fun p => (⟨p.toArray⟩ : Str)) = ⟨(joinC s l).toArray⟩ := by
  rw [joinC_L]
  exact SX.join_S s l
theorem wS (x : Str) : x = ⟨(strC x).toArray⟩ := rfl
section
variable {ts : List DTE} {t : DTE} {a w : List Nat} {r : En} {M : Sto} {φ : Str → Sto → Prop}
theorem js_k (hl : a.length + w.length ≤ 400000) (q : jsD ts ⟨(a ++ w).toArray⟩ r M φ) : (fun (d : D) (M1 : Sto) => match d with
    | .str y => (⟨a.toArray⟩ ++ y : Str).length ≤ sizeLine ∧ jsD ts (⟨a.toArray⟩ ++ y) r M1 φ
    | _ => False) (.str ⟨w.toArray⟩) M := by
  show (_ ++ _ : Str).length ≤ sizeLine ∧ jsD ts (_ ++ _) r M φ
  rw [wapp]
  exact ⟨w_sz (by rw [List.length_append]; exact hl), q⟩
theorem js_i {i : Nat} {n : Int} (h : r[i]? = some (some (.int n))) (hn : n.natAbs.log2 < 1920) (hl : a.length + (decC n).length ≤ 400000) (q : jsD ts ⟨(a ++ decC n).toArray⟩ r M φ) : jsD ((fun r M Ψ => getS r i fun d => fmtD d fun y => Ψ (.str y) M) :: ts) ⟨a.toArray⟩ r M φ := by
  refine getS_at h ⟨hn, ?_⟩
  exact js_k (w := decC n) hl q
theorem fmt_w {φ : Str → Prop} (hl : w.length ≤ 400000) (q : φ ⟨w.toArray⟩) : fmtD (.str ⟨w.toArray⟩) φ := ⟨w_sz hl, q⟩
end
theorem log_60 {n : Int} (h0 : 0 ≤ n) (h1 : n ≤ 60) : n.natAbs.log2 < 1920 := by
  have : n.natAbs < 2 ^ 6 := Nat.lt_of_le_of_lt (show _ ≤ 60 by omega) (by decide)
  by_cases e : n.natAbs = 0
  · rw [e]; decide
  · exact Nat.lt_of_lt_of_le ((Nat.log2_lt e).mpr this) (by decide)
theorem caseNo {g' : DPats} {is : List Nat} {g : DTS} {h : D → DTS} {E : Ek} {r : En} {M : Sto} {l : List D} {n : Nat} {i j : Str} (e : decide (i = j) = false) (q : h (.tup (.str i :: l)) E r M) : caseD (seqP n (consP (litP j) g')) is g h (.tup (.str i :: l)) E r M := by
  by_cases hl : (D.str i :: l).length = n
  · exact caseTag e hl q
  · exact caseLen hl q
theorem pgCs_map : ∀ l : List Pg, pgCs l = l.map pgC
  | [] => by simp [pgCs]
  | p :: l => by simp [pgCs, pgCs_map l]
theorem pgNs_mem : ∀ {l : List Pg} {p : Pg}, p ∈ l → pgN p ≤ pgNs l
  | q :: l, p, h => by
    rw [pgNs]
    rcases List.mem_cons.mp h with rfl | h
    · omega
    · have := pgNs_mem h; omega
def PE0 (CP : Addr) : XD := (CP, [("line", .int 0), ("tag", .str "ParseError")])
theorem rs_put {M0 M : Sto} {a : Addr} {c : Cell} (h0 : M0 a ≠ none) (h : M a = some c) (hb : ∀ b, b ≠ a → M0 b ≠ none → M b = M0 b) : rs M0 M = updM M0 a c := by
  funext b
  unfold rs
  by_cases e : b = a
  · subst e
    rw [updM_same]
    cases e0 : M0 b with
    | none => exact absurd e0 h0
    | some x => exact h
  · rw [updM_ne e]
    cases e0 : M0 b with
    | none => rfl
    | some x => exact (hb b e (by rw [e0]; simp)).trans e0
theorem lo_mem {c : Nat} : c ∈ ("abcdefghijklmnopqrstuvwxyz" : Str).cps.toList ↔ isLo c = true := by
  have e : ("abcdefghijklmnopqrstuvwxyz" : Str).cps.toList = [97, 98, 99, 100, 101, 102, 103, 104, 105, 106, 107, 108, 109, 110, 111, 112, 113, 114, 115, 116, 117, 118, 119, 120, 121, 122] := by decide +kernel
  rw [e]
  unfold isLo
  simp only [List.mem_cons, List.not_mem_nil, or_false, Bool.and_eq_true, decide_eq_true_eq]
  omega
theorem dg_mem {c : Nat} : c ∈ ("0123456789" : Str).cps.toList ↔ isDg c = true := by
  have e : ("0123456789" : Str).cps.toList = [48, 49, 50, 51, 52, 53, 54, 55, 56, 57] := by decide +kernel
  rw [e]
  unfold isDg
  simp only [List.mem_cons, List.not_mem_nil, or_false, Bool.and_eq_true, decide_eq_true_eq]
  omega
theorem lr_memB {c : Nat} : c ∈ ("LR" : Str).cps.toList ↔ isLR c = true := by
  have e : ("LR" : Str).cps.toList = [76, 82] := by decide +kernel
  rw [e]
  unfold isLR
  simp
theorem sw_w (x : List Nat) : ((⟨x.toArray⟩ : Str) = "swap") ↔ x = swapC := by
  have e : ("swap" : Str) = ⟨swapC.toArray⟩ := by decide +kernel
  rw [e]
  exact ⟨fun z => by simpa using congrArg (fun y : Str => y.cps.toList) z, fun z => by rw [z]⟩
theorem tw_nil {pr : Nat → Bool} {r : List Nat} (h : r.takeWhile pr = []) : r.dropWhile pr = r := by
  have := List.takeWhile_append_dropWhile (p := pr) (l := r)
  rw [h] at this
  exact this
def exmF (C D : Str) (b : Bool) : FF := fun K => decide (PySem.W.exmOne K (.ref (He.ga K C)) (.ref (He.ga K D)) = some b)
theorem exmF_ok {C D : Str} {b : Bool} {K : PySem.W.Frag} (h : exmF C D b K = true) : PySem.W.exmOne K (.ref (He.ga K C)) (.ref (He.ga K D)) = some b := of_decide_eq_true h
theorem rdP_none {t r : List Nat} {p : Pg} (h : prs 9 t = some (p, r)) (hn : ¬ (PgOk p ∧ pgK p ≤ 8 ∧ pgC p = t)) : rdP t = none := by
  unfold rdP
  rw [h]
  exact if_neg hn
theorem rdP_none' {t : List Nat} (h : prs 9 t = none) : rdP t = none := by
  unfold rdP
  rw [h]
theorem w_eq {x y : List Nat} : ((⟨x.toArray⟩ : Str) = ⟨y.toArray⟩) ↔ x = y := ⟨fun z => by simpa using congrArg (fun u : Str => u.cps.toList) z, fun z => by rw [z]⟩
theorem addW {M : Sto} {x y : List Nat} {a b : Str} {φ : D → Prop} (ea : a = ⟨x.toArray⟩) (eb : b = ⟨y.toArray⟩) (hl : x.length + y.length ≤ 400000) (q : φ (.str ⟨(x ++ y).toArray⟩)) : addD M (.str a) (.str b) φ := by
  subst ea eb
  refine ⟨?_, ?_⟩
  · show x.toArray.size + y.toArray.size ≤ sizeLine
    rw [List.size_toArray, List.size_toArray]
    exact Nat.le_trans (show _ ≤ 1000000 by omega) big_ok
  · rw [wapp]
    exact q
mutual
theorem same_pg {M : Sto} : ∀ (p : Pg) (n : Nat), PgOk p → pgK p + 2 ≤ n → Same M n (pgD p) (pgD p)
  | .tab t, n, h, hk => by
    obtain ⟨n, rfl⟩ : ∃ j, n = j + 3 := ⟨n - 3, by have := pgK_pos (.tab t); omega⟩
    rw [pgD]
    exact Same.t (.cons (.s _) (.cons (Same.T t) .nil)) (by decide : 2 ≤ 1000000)
  | .trn w, n, h, hk => by
    obtain ⟨n, rfl⟩ : ∃ j, n = j + 3 := ⟨n - 3, by have := pgK_pos (.trn w); omega⟩
    rw [pgD]
    exact Same.t (.cons (.s _) (.cons (.s _) .nil)) (by decide : 2 ≤ 1000000)
  | .swp, n, h, hk => by
    obtain ⟨n, rfl⟩ : ∃ j, n = j + 3 := ⟨n - 3, by have := pgK_pos .swp; omega⟩
    rw [pgD]
    exact Same.t (.cons (.s _) .nil) (by decide : 1 ≤ 1000000)
  | .use x, n, h, hk => by
    obtain ⟨n, rfl⟩ : ∃ j, n = j + 3 := ⟨n - 3, by have := pgK_pos (.use x); omega⟩
    rw [pgD]
    exact Same.t (.cons (.s _) (.cons (.s _) .nil)) (by decide : 2 ≤ 1000000)
  | .tms m p, n, h, hk => by
    rw [pgK] at hk
    obtain ⟨n, rfl⟩ : ∃ j, n = j + 3 := ⟨n - 3, by omega⟩
    rw [pgD]
    exact Same.t (.cons (.s _) (.cons (.i _) (.cons (same_pg p (n + 2) h.2 (by omega)) .nil))) (by decide : 3 ≤ 1000000)
  | .thn l, n, h, hk => by
    rw [pgK] at hk
    obtain ⟨n, rfl⟩ : ∃ j, n = j + 3 := ⟨n - 3, by omega⟩
    rw [pgD]
    exact Same.t (.cons (.s _) (same_pgs l (n + 2) h.2 (by omega))) (by rw [List.length_cons, pgDs_map, List.length_map]; have := h.1.2; omega)
theorem same_pgs {M : Sto} : ∀ (l : List Pg) (n : Nat), PgOks l → pgKs l + 2 ≤ n → SameL M n (pgDs l) (pgDs l)
  | [], _, _, _ => by rw [pgDs]; exact .nil
  | p :: l, n, h, hk => by
    rw [pgDs]
    rw [pgKs] at hk
    exact .cons (same_pg p n h.1 (by omega)) (same_pgs l n h.2 (by omega))
end
theorem nm_coin : NameOk "coin" := ⟨by decide +kernel, by decide +kernel, by decide, by decide, fun c hc => by
  have e : ("coin" : Str).cps.toList = [99, 111, 105, 110] := by decide +kernel
  rw [e] at hc
  simp only [List.mem_cons, List.not_mem_nil, or_false] at hc
  omega⟩
theorem nm_far : NameOk "far" := ⟨by decide +kernel, by decide +kernel, by decide, by decide, fun c hc => by
  have e : ("far" : Str).cps.toList = [102, 97, 114] := by decide +kernel
  rw [e] at hc
  simp only [List.mem_cons, List.not_mem_nil, or_false] at hc
  omega⟩
theorem nm_cf : ∀ x ∈ (["coin", "far"] : List Str), NameOk x := fun x hx => by
  simp only [List.mem_cons, List.not_mem_nil, or_false] at hx
  rcases hx with rfl | rfl
  · exact nm_coin
  · exact nm_far
noncomputable def rdO (d : D) : Option Pg := match d with
  | .str x => rdP (strC x)
  | _ => none
def sptC (t r : List Nat) : Cell := .lst [.int ((t.length - r.length : Nat) : Int)]
theorem eq_emp {M : Sto} {φ : D → Prop} {s : List Nat} (q : φ (.bl (decide (s = [])))) : eqD M (.str ⟨s.toArray⟩) (.str "") φ := by
  refine eqS ?_
  rw [show decide ((⟨s.toArray⟩ : Str) = "") = decide (s = []) from decide_eq_decide.mpr (weq (b := []))]
  exact q
theorem sp_ix {M : Sto} {a : Addr} {t r : List Nat} {φ : D → Prop} (h : M a = some (sptC t r)) (q : φ (.int ((t.length - r.length : Nat) : Int))) : ixD M (.ref a) (.int 0) φ := ix_ref h (optK_of at_zero q)
theorem sp_set {M : Sto} {a : Addr} {t r r' : List Nat} {d : D} {φ : Sto → Prop} (h : M a = some (sptC t r)) (e : d = .int ((t.length - r'.length : Nat) : Int)) (q : φ (updM M a (sptC t r'))) : setD (.ref a) 0 d M φ := by
  subst e
  exact set_ref (j := 0) h rfl q
theorem atI_sfx {t r : List Nat} {c : Nat} (h : c :: r <:+ t) : L2.atI t ((t.length - (c :: r).length : Nat) : Int) = some c := by
  obtain ⟨p, rfl⟩ := h
  have e : (p ++ c :: r).length - (c :: r).length = p.length := by simp
  rw [e]
  exact at_nat (j := p.length) rfl (by simp)
theorem mark_at {i : Nat} {d : D} (h : ([.str " ", .str "; ", .str " ", .str "]"] : List D)[i]? = some d) : ∃ m, marks4.drop i = m :: marks4.drop (i + 1) ∧ d = .str ⟨m.toArray⟩ ∧ m.length ≤ 100 := by
  match i, h with
  | 0, h => cases h; exact ⟨[32], rfl, by rw [show (" " : Str) = ⟨[32].toArray⟩ from by decide +kernel], by decide⟩
  | 1, h => cases h; exact ⟨[59, 32], rfl, by rw [show ("; " : Str) = ⟨[59, 32].toArray⟩ from by decide +kernel], by decide⟩
  | 2, h => cases h; exact ⟨[32], rfl, by rw [show (" " : Str) = ⟨[32].toArray⟩ from by decide +kernel], by decide⟩
  | 3, h => cases h; exact ⟨[93], rfl, by rw [show ("]" : Str) = ⟨[93].toArray⟩ from by decide +kernel], by decide⟩
theorem pg_not_none (p : Pg) : isN (pgD p) = false := by rw [pgD_tag]; rfl
def wB (d : D) : Bool := match d with
  | .str x => x.cps.toList.all fun c => decide (c ∈ ("LR" : Str).cps.toList)
  | _ => false
def inB (d : D) (a b : Int) : Bool := match d with
  | .int i => decide (a ≤ i) && decide (i ≤ b)
  | _ => false
def nameB (x : Str) : Bool := (decide (1 ≤ x.cps.size) && decide (x.cps.size ≤ 8)) && (!(decide (x = "swap") || decide (x = "then")) && x.cps.toList.all isLo)
open Classical in
noncomputable def entB (t : T4) : Bool := (inB (.int t.1) 0 60 && (inB (.int t.2.1) 0 60 && (inB (.int t.2.2.1) 0 60 && inB (.int t.2.2.2) 0 60))) && !decide (t.1 * t.2.2.2 = t.2.1 * t.2.2.1)
noncomputable def ptB : Pg → Bool
  | .tab t => entB t
  | .trn w => wB (.str w) && (decide (1 ≤ w.cps.size) && decide (w.cps.size ≤ 60))
  | .swp => true
  | .thn l => decide (2 ≤ l.length) && decide (l.length ≤ 6)
  | .tms n _ => inB (.int n) 0 12
  | .use x => nameB x
theorem name_iff {x : Str} (h : ∀ c ∈ x.cps.toList, 97 ≤ c ∧ c ≤ 122) : nameB x = true ↔ NameOk x := by
  have ha : x.cps.toList.all isLo = true := List.all_eq_true.mpr fun c hc => isLo_of (h c hc)
  unfold nameB NameOk
  rw [ha, Bool.and_true]
  simp only [Bool.and_eq_true, Bool.not_eq_true', Bool.or_eq_false_iff, decide_eq_true_eq, decide_eq_false_iff_not]
  constructor
  · rintro ⟨⟨a, b⟩, c, d⟩; exact ⟨a, b, c, d, h⟩
  · rintro ⟨a, b, c, d, _⟩; exact ⟨⟨a, b⟩, c, d⟩
theorem inB_iff {i a b : Int} : inB (.int i) a b = true ↔ a ≤ i ∧ i ≤ b := by
  unfold inB
  simp
theorem pt_iff {p : Pg} (h : PgZ p) : ptB p = true ↔ PtOk p := by
  cases p with
  | tab t =>
    show entB t = true ↔ TabOk t
    unfold entB TabOk Nn det4
    simp only [Bool.and_eq_true, inB_iff, Bool.not_eq_true', decide_eq_false_iff_not]
    constructor
    · rintro ⟨⟨a, b, c, d⟩, e⟩
      exact ⟨⟨a.1, b.1, c.1, d.1⟩, a.2, b.2, c.2, d.2, fun z => e (by omega)⟩
    · rintro ⟨⟨n1, n2, n3, n4⟩, a, b, c, d, e⟩
      exact ⟨⟨⟨n1, a⟩, ⟨n2, b⟩, ⟨n3, c⟩, n4, d⟩, fun z => e (by omega)⟩
  | trn w =>
    show (wB (.str w) && (decide (1 ≤ w.cps.size) && decide (w.cps.size ≤ 60))) = true ↔ LR w.cps.toList ∧ 1 ≤ w.cps.size ∧ w.cps.size ≤ 60
    have : wB (.str w) = true := by
      unfold wB
      rw [List.all_eq_true]
      intro c hc
      exact decide_eq_true (lr_mem.mpr (h.2 c hc))
    rw [this, Bool.true_and]
    simp only [Bool.and_eq_true, decide_eq_true_eq]
    exact ⟨fun z => ⟨h.2, z⟩, fun z => z.2⟩
  | swp => exact ⟨fun _ => trivial, fun _ => rfl⟩
  | thn l =>
    show (decide (2 ≤ l.length) && decide (l.length ≤ 6)) = true ↔ 2 ≤ l.length ∧ l.length ≤ 6
    simp
  | tms n p => exact inB_iff
  | use x => exact name_iff h.2
mutual
theorem plz_pg : ∀ (p : Pg) (k : Nat), PgZs p → pgK p ≤ k → Pl (k + 1) (pgD p)
  | .tab t, k, h, hk => by
    obtain ⟨j, rfl⟩ : ∃ j, k = j + 1 := ⟨k - 1, by have := pgK_pos (.tab t); omega⟩
    rw [pgD]
    exact .tup (.cons (.str (by decide +kernel)) (.cons (.tup (.cons (.int _) (.cons (.int _) (.cons (.int _) (.cons (.int _) .nil))))) .nil))
  | .trn w, k, h, hk => by
    rw [pgD]
    exact .tup (.cons (.str (by decide +kernel)) (.cons (.str (strOk_of (LR.lt h.2))) .nil))
  | .swp, k, h, hk => by
    rw [pgD]
    exact .tup (.cons (.str (by decide +kernel)) .nil)
  | .thn l, k, h, hk => by
    rw [pgD]
    rw [pgK] at hk
    obtain ⟨j, rfl⟩ : ∃ j, k = j + 1 := ⟨k - 1, by omega⟩
    exact .tup (.cons (.str (by decide +kernel)) (plz_pgs l j h.2 (by omega)))
  | .tms n p, k, h, hk => by
    rw [pgD]
    rw [pgK] at hk
    obtain ⟨j, rfl⟩ : ∃ j, k = j + 1 := ⟨k - 1, by omega⟩
    exact .tup (.cons (.str (by decide +kernel)) (.cons (.int _) (.cons (plz_pg p j h (by omega)) .nil)))
  | .use x, k, h, hk => by
    rw [pgD]
    exact .tup (.cons (.str (by decide +kernel)) (.cons (.str (strOk_of fun c hc => by have := h.2 c hc; omega)) .nil))
theorem plz_pgs : ∀ (l : List Pg) (k : Nat), PgZss l → pgKs l ≤ k → PlL (k + 1) (pgDs l)
  | [], _, _, _ => by rw [pgDs]; exact .nil
  | p :: l, k, h, hk => by
    rw [pgDs]
    rw [pgKs] at hk
    exact .cons (plz_pg p k h.1 (by omega)) (plz_pgs l k h.2 (by omega))
end
def wtD (x : Pg × List Nat) : D := .tup [pgD x.1, .tup (x.2.map fun i => .int (i : Nat))]
theorem pl_ints {n : Nat} : ∀ l : List Nat, PlL n (l.map fun i => D.int (i : Nat))
  | [] => .nil
  | i :: l => .cons (.int _) (pl_ints l)
def newW (pth : List Nat) (l : List Pg) : List (Pg × List Nat) := (List.zip (List.range l.length) l).map fun x => (x.2, pth ++ [x.1])
def newG (pth : List D) (d : D) : D := match d with
  | .tup [i, one] => .tup [one, .tup (pth ++ [i])]
  | _ => .non
theorem newW_D (pth : List Nat) (l : List Pg) : (enumD (pgDs l)).map (newG (pth.map fun i => .int (i : Nat))) = (newW pth l).map wtD := by
  unfold enumD zipD rngD newW
  rw [pgDs_map, List.length_map]
  simp only [List.zip_map, List.map_map]
  apply List.map_congr_left
  rintro ⟨i, x⟩ _
  simp [newG, wtD]
theorem newW_fst (pth : List Nat) (l : List Pg) : (newW pth l).map (·.1) = l := by
  unfold newW
  rw [List.map_map]
  exact List.map_snd_zip (by simp)
theorem newW_mem {pth : List Nat} {l : List Pg} {x : Pg × List Nat} (h : x ∈ newW pth l) : x.1 ∈ l ∧ x.2.length = pth.length + 1 := by
  unfold newW at h
  obtain ⟨⟨i, y⟩, hy, rfl⟩ := List.mem_map.mp h
  exact ⟨(List.of_mem_zip hy).2, by simp⟩
theorem pl_wt {x : Pg × List Nat} {k : Nat} (h : PgZs x.1) (hk : pgK x.1 ≤ k) : Pl (k + 2) (wtD x) := .tup (.cons (plz_pg x.1 k h hk) (.cons (.tup (pl_ints x.2)) .nil))
def rngN (L P : List D) (d : D) : D := match d with
  | .int i => .tup [(L[i.toNat]?).getD .non, .tup (P ++ [.int i])]
  | _ => .non
theorem rng_new (L P : List D) : (rngD 0 L.length).map (rngN L P) = (enumD L).map (newG P) := by
  unfold enumD zipD rngD
  apply List.ext_getElem
  · simp
  · intro i h1 h2
    simp at h1
    simp [newG, rngN, h1]
theorem add_lst {M : Sto} {d : D} {pt : Addr} {L l : List D} {φ : D → Prop} (h : d = .ref pt ∨ ∃ l, d = .lst l) (e : lstOf M d = some L) (hl : L.length + l.length ≤ sizeLine) (q : φ (.lst (L ++ l))) : addD M d (.lst l) φ := by
  rcases h with rfl | ⟨x, rfl⟩
  · exact ⟨_, _, e, rfl, hl, q⟩
  · exact ⟨_, _, e, rfl, hl, q⟩
end Z
namespace K60
open PySem PySem.Spec PyProof.Rows L2 Z

def top (i : Nat) : Stmt := PySem.Challenge.pw_turnmill_k60_texts_that_are_no_programs.main.body.getD i (.Pass ⟨0, 0, 0, 0⟩)
abbrev s__law_hand : Stmt := top 31
abbrev s__law_text : Stmt := top 51
abbrev s__law_pick : Stmt := top 32
abbrev s__law_of : Stmt := top 33
abbrev s__law_prod : Stmt := top 39
abbrev s__law_grid : Stmt := top 40
abbrev s__law_word : Stmt := top 37
abbrev s__law_core : Stmt := top 42
abbrev s__law_mill : Stmt := top 43
abbrev s__law_some : Stmt := top 38
abbrev s__law_leaf : Stmt := top 49
abbrev s__law_shape : Stmt := top 50
abbrev s__law_bent : Stmt := top 58
abbrev s__law_mark : Stmt := top 54
abbrev s__law_row_parsed : Stmt := top 56
abbrev s__law_figure : Stmt := top 52
abbrev s__law_taken_signs : Stmt := top 53
abbrev s__law_parsed : Stmt := top 55
abbrev s__law_det : Stmt := top 41
abbrev s__law_is_whole : Stmt := top 45
abbrev s__law_is_name : Stmt := top 44
abbrev s__law_is_part : Stmt := top 47
abbrev s__law_inner : Stmt := top 46
abbrev s__law_wrong : Stmt := top 48
abbrev s__law_reading : Stmt := top 57
abbrev s__law_same : Stmt := top 34
abbrev s_Readerd_initd : Stmt := inClass (top 27) 0
abbrev s_Reader_take : Stmt := inClass (top 27) 1
abbrev s_Reader_need : Stmt := inClass (top 27) 2
abbrev s_Reader_row_of_parts : Stmt := inClass (top 27) 6
abbrev s_number_in : Stmt := top 28
abbrev s_Reader_taken : Stmt := inClass (top 27) 3
abbrev s_Reader_numeral : Stmt := inClass (top 27) 4
abbrev s_Reader_entries : Stmt := inClass (top 27) 7
abbrev s_Reader_program : Stmt := inClass (top 27) 5
abbrev s_is_name : Stmt := top 21
abbrev s_is_integer : Stmt := top 8
abbrev s_is_within : Stmt := top 9
abbrev s_is_word : Stmt := top 10
abbrev s_are_entries : Stmt := top 22
abbrev s_is_part : Stmt := top 23
abbrev s_inner_parts : Stmt := top 24
abbrev s_check_program : Stmt := top 25
abbrev s_program_text : Stmt := top 26
abbrev s_read_program : Stmt := top 29
abbrev s__law_field : Stmt := top 35
abbrev s__law_why : Stmt := top 36
abbrev s_law : Stmt := top 59
abbrev s_InvalidProgram : Stmt := inClass (top 3) 0
abbrev s_ParseError : Stmt := inClass (top 4) 0
theorem sc__law_hand : FnScope ["_law_script", "_law_cells", "_law_mark_here", "_law_cell"] ["_law_script"] (defScope s__law_hand) := ⟨rfl, rfl, rfl, by decide +kernel, rfl, by decide +kernel, by decide +kernel⟩
theorem sc__law_text : FnScope ["_law_plan", "_law_p", "_law_q", "_law_r", "_law_s", "_law_entry", "_law_part"] ["_law_plan"] (defScope s__law_text) := ⟨rfl, rfl, rfl, by decide +kernel, rfl, by decide +kernel, by decide +kernel⟩
theorem sc__law_pick : FnScope ["_law_hand_here", "_law_many", "_law_cell", "_law_one", "_law_two", "_law_drawn"] ["_law_hand_here", "_law_many"] (defScope s__law_pick) := ⟨rfl, rfl, rfl, by decide +kernel, rfl, by decide +kernel, by decide +kernel⟩
theorem sc__law_of : FnScope ["_law_hand_here", "_law_items"] ["_law_hand_here", "_law_items"] (defScope s__law_of) := ⟨rfl, rfl, rfl, by decide +kernel, rfl, by decide +kernel, by decide +kernel⟩
theorem sc__law_prod : FnScope ["_law_one", "_law_rival"] ["_law_one", "_law_rival"] (defScope s__law_prod) := ⟨rfl, rfl, rfl, by decide +kernel, rfl, by decide +kernel, by decide +kernel⟩
theorem sc__law_grid : FnScope ["_law_token", "_law_found", "_law_side"] ["_law_token"] (defScope s__law_grid) := ⟨rfl, rfl, rfl, by decide +kernel, rfl, by decide +kernel, by decide +kernel⟩
theorem sc__law_word : FnScope ["_law_hand_here", "_law_peak", "_law_k"] ["_law_hand_here", "_law_peak"] (defScope s__law_word) := ⟨rfl, rfl, rfl, by decide +kernel, rfl, by decide +kernel, by decide +kernel⟩
theorem sc__law_core : FnScope ["_law_hand_here", "_law_cap", "_law_size", "_law_share", "_law_part"] ["_law_hand_here", "_law_cap"] (defScope s__law_core) := ⟨rfl, rfl, rfl, by decide +kernel, rfl, by decide +kernel, by decide +kernel⟩
theorem sc__law_mill : FnScope ["_law_hand_here", "_law_cap", "_law_entries", "_law_many", "_law_entry"] ["_law_hand_here", "_law_cap"] (defScope s__law_mill) := ⟨rfl, rfl, rfl, by decide +kernel, rfl, by decide +kernel, by decide +kernel⟩
theorem sc__law_some : FnScope ["_law_hand_here", "_law_peak"] ["_law_hand_here", "_law_peak"] (defScope s__law_some) := ⟨rfl, rfl, rfl, by decide +kernel, rfl, by decide +kernel, by decide +kernel⟩
theorem sc__law_leaf : FnScope ["_law_hand_here", "_law_known", "_law_entries"] ["_law_hand_here", "_law_known"] (defScope s__law_leaf) := ⟨rfl, rfl, rfl, by decide +kernel, rfl, by decide +kernel, by decide +kernel⟩
theorem sc__law_shape : FnScope ["_law_hand_here", "_law_deep", "_law_known", "_law_way", "_law_k"] ["_law_hand_here", "_law_deep", "_law_known"] (defScope s__law_shape) := ⟨rfl, rfl, rfl, by decide +kernel, rfl, by decide +kernel, by decide +kernel⟩
theorem sc__law_bent : FnScope ["_law_hand_here", "_law_wording", "_law_marks", "_law_at", "_law_sign"] ["_law_hand_here", "_law_wording", "_law_marks"] (defScope s__law_bent) := ⟨rfl, rfl, rfl, by decide +kernel, rfl, by decide +kernel, by decide +kernel⟩
theorem sc__law_mark : FnScope ["_law_wording", "_law_spot", "_law_mark_here", "_law_here"] ["_law_wording", "_law_spot", "_law_mark_here"] (defScope s__law_mark) := ⟨rfl, rfl, rfl, by decide +kernel, rfl, by decide +kernel, by decide +kernel⟩
theorem sc__law_row_parsed : FnScope ["_law_wording", "_law_spot", "_law_left", "_law_found", "_law_k", "_law_part"] ["_law_wording", "_law_spot", "_law_left"] (defScope s__law_row_parsed) := ⟨rfl, rfl, rfl, by decide +kernel, rfl, by decide +kernel, by decide +kernel⟩
theorem sc__law_figure : FnScope ["_law_token", "_law_sign"] ["_law_token"] (defScope s__law_figure) := ⟨rfl, rfl, rfl, by decide +kernel, rfl, by decide +kernel, by decide +kernel⟩
theorem sc__law_taken_signs : FnScope ["_law_wording", "_law_spot", "_law_marks", "_law_begin"] ["_law_wording", "_law_spot", "_law_marks"] (defScope s__law_taken_signs) := ⟨rfl, rfl, rfl, by decide +kernel, rfl, by decide +kernel, by decide +kernel⟩
theorem sc__law_parsed : FnScope ["_law_wording", "_law_spot", "_law_left", "_law_figures", "_law_mark_here", "_law_token", "_law_times", "_law_inner_here"] ["_law_wording", "_law_spot", "_law_left"] (defScope s__law_parsed) := ⟨rfl, rfl, rfl, by decide +kernel, rfl, by decide +kernel, by decide +kernel⟩
theorem sc__law_det : FnScope ["_law_entries"] ["_law_entries"] (defScope s__law_det) := ⟨rfl, rfl, rfl, by decide +kernel, rfl, by decide +kernel, by decide +kernel⟩
theorem sc__law_is_whole : FnScope ["_law_item", "_law_low", "_law_high"] ["_law_item", "_law_low", "_law_high"] (defScope s__law_is_whole) := ⟨rfl, rfl, rfl, by decide +kernel, rfl, by decide +kernel, by decide +kernel⟩
theorem sc__law_is_name : FnScope ["_law_item", "_law_sign"] ["_law_item"] (defScope s__law_is_name) := ⟨rfl, rfl, rfl, by decide +kernel, rfl, by decide +kernel, by decide +kernel⟩
theorem sc__law_is_part : FnScope ["_law_part", "_law_token", "_law_size", "_law_entry", "_law_side"] ["_law_part"] (defScope s__law_is_part) := ⟨rfl, rfl, rfl, by decide +kernel, rfl, by decide +kernel, by decide +kernel⟩
theorem sc__law_inner : FnScope ["_law_plan"] ["_law_plan"] (defScope s__law_inner) := ⟨rfl, rfl, rfl, by decide +kernel, rfl, by decide +kernel, by decide +kernel⟩
theorem sc__law_wrong : FnScope ["_law_item", "_law_left", "_law_part", "_law_path", "_law_inner_here", "_law_at"] ["_law_item"] (defScope s__law_wrong) := ⟨rfl, rfl, rfl, by decide +kernel, rfl, by decide +kernel, by decide +kernel⟩
theorem sc__law_reading : FnScope ["_law_wording", "_law_spot", "_law_found"] ["_law_wording"] (defScope s__law_reading) := ⟨rfl, rfl, rfl, by decide +kernel, rfl, by decide +kernel, by decide +kernel⟩
theorem sc__law_same : FnScope ["_law_found", "_law_due", "_law_one", "_law_two"] ["_law_found", "_law_due"] (defScope s__law_same) := ⟨rfl, rfl, rfl, by decide +kernel, rfl, by decide +kernel, by decide +kernel⟩
theorem sc_Readerd_initd : FnScope ["self", "text"] ["self", "text"] (defScope s_Readerd_initd) := ⟨rfl, rfl, rfl, by decide +kernel, rfl, by decide +kernel, by decide +kernel⟩
theorem sc_Reader_take : FnScope ["self", "mark", "is_here"] ["self", "mark"] (defScope s_Reader_take) := ⟨rfl, rfl, rfl, by decide +kernel, rfl, by decide +kernel, by decide +kernel⟩
theorem sc_Reader_need : FnScope ["self", "mark"] ["self", "mark"] (defScope s_Reader_need) := ⟨rfl, rfl, rfl, by decide +kernel, rfl, by decide +kernel, by decide +kernel⟩
theorem sc_Reader_row_of_parts : FnScope ["self", "left", "found"] ["self", "left"] (defScope s_Reader_row_of_parts) := ⟨rfl, rfl, rfl, by decide +kernel, rfl, by decide +kernel, by decide +kernel⟩
theorem sc_number_in : FnScope ["text", "sign"] ["text"] (defScope s_number_in) := ⟨rfl, rfl, rfl, by decide +kernel, rfl, by decide +kernel, by decide +kernel⟩
theorem sc_Reader_taken : FnScope ["self", "signs", "begin"] ["self", "signs"] (defScope s_Reader_taken) := ⟨rfl, rfl, rfl, by decide +kernel, rfl, by decide +kernel, by decide +kernel⟩
theorem sc_Reader_numeral : FnScope ["self", "found"] ["self"] (defScope s_Reader_numeral) := ⟨rfl, rfl, rfl, by decide +kernel, rfl, by decide +kernel, by decide +kernel⟩
theorem sc_Reader_entries : FnScope ["self", "found", "mark"] ["self"] (defScope s_Reader_entries) := ⟨rfl, rfl, rfl, by decide +kernel, rfl, by decide +kernel, by decide +kernel⟩
theorem sc_Reader_program : FnScope ["self", "left", "word", "name", "count"] ["self", "left"] (defScope s_Reader_program) := ⟨rfl, rfl, rfl, by decide +kernel, rfl, by decide +kernel, by decide +kernel⟩
theorem sc_is_name : FnScope ["value", "sign"] ["value"] (defScope s_is_name) := ⟨rfl, rfl, rfl, by decide +kernel, rfl, by decide +kernel, by decide +kernel⟩
theorem sc_is_integer : FnScope ["value"] ["value"] (defScope s_is_integer) := ⟨rfl, rfl, rfl, by decide +kernel, rfl, by decide +kernel, by decide +kernel⟩
theorem sc_is_within : FnScope ["value", "least", "most"] ["value", "least", "most"] (defScope s_is_within) := ⟨rfl, rfl, rfl, by decide +kernel, rfl, by decide +kernel, by decide +kernel⟩
theorem sc_is_word : FnScope ["value", "turn"] ["value"] (defScope s_is_word) := ⟨rfl, rfl, rfl, by decide +kernel, rfl, by decide +kernel, by decide +kernel⟩
theorem sc_are_entries : FnScope ["value", "a", "b", "c", "d", "one"] ["value"] (defScope s_are_entries) := ⟨rfl, rfl, rfl, by decide +kernel, rfl, by decide +kernel, by decide +kernel⟩
theorem sc_is_part : FnScope ["value", "entries", "word", "parts", "count", "name"] ["value"] (defScope s_is_part) := ⟨rfl, rfl, rfl, by decide +kernel, rfl, by decide +kernel, by decide +kernel⟩
theorem sc_inner_parts : FnScope ["program", "parts", "last"] ["program"] (defScope s_inner_parts) := ⟨rfl, rfl, rfl, by decide +kernel, rfl, by decide +kernel, by decide +kernel⟩
theorem sc_check_program : FnScope ["value", "waiting", "part", "path", "at", "one"] ["value"] (defScope s_check_program) := ⟨rfl, rfl, rfl, by decide +kernel, rfl, by decide +kernel, by decide +kernel⟩
theorem sc_program_text : FnScope ["program", "a", "b", "c", "d", "parts", "count", "inner", "one"] ["program"] (defScope s_program_text) := ⟨rfl, rfl, rfl, by decide +kernel, rfl, by decide +kernel, by decide +kernel⟩
theorem sc_read_program : FnScope ["text", "reader", "found"] ["text"] (defScope s_read_program) := ⟨rfl, rfl, rfl, by decide +kernel, rfl, by decide +kernel, by decide +kernel⟩
theorem sc__law_field : FnScope ["_law_e"] ["_law_e"] (defScope s__law_field) := ⟨rfl, rfl, rfl, by decide +kernel, rfl, by decide +kernel, by decide +kernel⟩
theorem sc__law_why : FnScope ["_law_ask", "_law_told", "_law_e"] ["_law_ask"] (defScope s__law_why) := ⟨rfl, rfl, rfl, by decide +kernel, rfl, by decide +kernel, by decide +kernel⟩
theorem sc_law : FnScope ["_law_script", "_law_hand_here", "_law_texts", "_law_step", "_law_wording", "_law_change", "_law_many", "_law_due", "_law_told"] ["_law_script"] (defScope s_law) := ⟨rfl, rfl, rfl, by decide +kernel, rfl, by decide +kernel, by decide +kernel⟩
theorem sc_InvalidProgram : FnScope ["self", "path"] ["self", "path"] (defScope s_InvalidProgram) := ⟨rfl, rfl, rfl, by decide +kernel, rfl, by decide +kernel, by decide +kernel⟩
theorem sc_ParseError : FnScope ["self", "line"] ["self", "line"] (defScope s_ParseError) := ⟨rfl, rfl, rfl, by decide +kernel, rfl, by decide +kernel, by decide +kernel⟩
structure Txt (K : PySem.W.Frag) (mg : Str → Option Value) : Prop where
  n_range : mg "range" = none
  n_len : mg "len" = none
  n_isinstance : mg "isinstance" = none
  n_str : mg "str" = none
  gl_NothingLeft : mg "NothingLeft" = some (.ref (He.ga K "NothingLeft"))
  gl_MillError : mg "MillError" = some (.ref (He.ga K "MillError"))
  gl_Missing : mg "Missing" = some (.ref (He.ga K "Missing"))
  cl_Reader : Cls K (He.ga K "Reader")
  k_MOST_DEPTH : ∃ t, mg "MOST_DEPTH" = some (.int 8 t)
  ex_InvalidProgram : PySem.W.exmOne K (.ref (He.ga K "InvalidProgram")) (.ref (He.ga K "InvalidProgram")) = some true
  gl_InvalidProgram : mg "InvalidProgram" = some (.ref (He.ga K "InvalidProgram"))
  n_tuple : mg "tuple" = none
  n_enumerate : mg "enumerate" = none
  k_MOST_REPEATS : ∃ t, mg "MOST_REPEATS" = some (.int 12 t)
  k_MOST_PARTS : ∃ t, mg "MOST_PARTS" = some (.int 6 t)
  k_MOST_WORD : ∃ t, mg "MOST_WORD" = some (.int 60 t)
  n_all : mg "all" = none
  k_MOST_ENTRY : ∃ t, mg "MOST_ENTRY" = some (.int 60 t)
  n_bool : mg "bool" = none
  n_int : mg "int" = none
  k_TURNS : ∃ t, mg "TURNS" = some (.str "LR" t)
  k_RESERVED : TupG K mg "RESERVED" [.str "swap",.str "then"]
  k_MOST_SIGNS : ∃ t, mg "MOST_SIGNS" = some (.int 8 t)
  k_SMALL : ∃ t, mg "SMALL" = some (.str "abcdefghijklmnopqrstuvwxyz" t)
  na_Reader_signs : NoAttr K (He.ga K "Reader") "signs"
  na_Reader_at : NoAttr K (He.ga K "Reader") "at"
  k_DIGITS : ∃ t, mg "DIGITS" = some (.str "0123456789" t)
  n_list : mg "list" = none
  n_zip : mg "zip" = none
  n_max : mg "max" = none
  wy_ParseError : WhyC K "ParseError" (some "line")
def isIn (M : Sto) (d : D) : Bool := decide (tyN M d = some "int")
theorem cutJ {P A : Prop} (main : P → A) (rest : P) : A := main rest
theorem cut1 {α : Type} {Q C : α → Prop} {A : Prop} (main : (∀ a, C a → Q a) → A) (rest : ∀ a, C a → Q a) : A := main rest
theorem cut3 {α β γ : Type} {Q C : α → β → γ → Prop} {A : Prop} (main : (∀ a b c, C a b c → Q a b c) → A) (rest : ∀ a b c, C a b c → Q a b c) : A := main rest
theorem no_at {f : Str} {d : D} (h : (f == ("whole" : Str)) = false) : List.lookup f [(("whole" : Str), d)] = none := look_ne h
theorem no_plain {d : D} : List.lookup ("plain" : Str) [(("whole" : Str), d)] = none := no_at (by decide +kernel)
theorem no_back {d : D} : List.lookup ("back" : Str) [(("whole" : Str), d)] = none := no_at (by decide +kernel)
theorem no_alike {d : D} : List.lookup ("alike" : Str) [(("whole" : Str), d)] = none := no_at (by decide +kernel)
theorem no_taken {d : D} : List.lookup ("taken" : Str) [(("whole" : Str), d)] = none := no_at (by decide +kernel)
theorem no_entries {d : D} : List.lookup ("entries" : Str) [(("whole" : Str), d)] = none := no_at (by decide +kernel)
theorem no_power {d : D} : List.lookup ("power" : Str) [(("whole" : Str), d)] = none := no_at (by decide +kernel)
theorem wB_LR {x : Str} (h : LR x.cps.toList) : wB (.str x) = true := List.all_eq_true.mpr fun c hc => decide_eq_true (lr_mem.mpr (h c hc))
theorem wB_odd {x : Str} {c : Nat} (hc : c ∈ x.cps.toList) (h : c ≠ 76 ∧ c ≠ 82) : wB (.str x) = false := by
  cases e : wB (.str x) with
  | false => rfl
  | true =>
    have := of_decide_eq_true (List.all_eq_true.mp e c hc)
    rcases lr_mem.mp this with z | z
    · exact absurd z h.1
    · exact absurd z h.2
section
variable {P : Program} {w : World} {K : PySem.W.Frag} {mg : Str → Option Value} {base : Heap}
abbrev b__law_hand : List (Nat × List Str × (List D → List D → List D)) := [(pos 1)]
abbrev b__law_text : List (Nat × List Str × (List D → List D → List D)) := [(pos 1)]
abbrev b__law_pick : List (Nat × List Str × (List D → List D → List D)) := [(pos 2)]
abbrev b__law_of : List (Nat × List Str × (List D → List D → List D)) := [(pos 2)]
abbrev b__law_prod : List (Nat × List Str × (List D → List D → List D)) := [(pos 2)]
abbrev b__law_grid : List (Nat × List Str × (List D → List D → List D)) := [(pos 1)]
abbrev b__law_word : List (Nat × List Str × (List D → List D → List D)) := [(pos 2)]
abbrev b__law_core : List (Nat × List Str × (List D → List D → List D)) := [(pos 2)]
abbrev b__law_mill : List (Nat × List Str × (List D → List D → List D)) := [(pos 2)]
abbrev b__law_some : List (Nat × List Str × (List D → List D → List D)) := [(pos 2)]
abbrev b__law_leaf : List (Nat × List Str × (List D → List D → List D)) := [(pos 2)]
abbrev b__law_shape : List (Nat × List Str × (List D → List D → List D)) := [(pos 3)]
abbrev b__law_bent : List (Nat × List Str × (List D → List D → List D)) := [(pos 3)]
abbrev b__law_mark : List (Nat × List Str × (List D → List D → List D)) := [(pos 3)]
abbrev b__law_row_parsed : List (Nat × List Str × (List D → List D → List D)) := [(pos 3)]
abbrev b__law_figure : List (Nat × List Str × (List D → List D → List D)) := [(pos 1)]
abbrev b__law_taken_signs : List (Nat × List Str × (List D → List D → List D)) := [(pos 3)]
abbrev b__law_parsed : List (Nat × List Str × (List D → List D → List D)) := [(pos 3)]
abbrev b__law_det : List (Nat × List Str × (List D → List D → List D)) := [(pos 1)]
abbrev b__law_is_whole : List (Nat × List Str × (List D → List D → List D)) := [(pos 3)]
abbrev b__law_is_name : List (Nat × List Str × (List D → List D → List D)) := [(pos 1)]
abbrev b__law_is_part : List (Nat × List Str × (List D → List D → List D)) := [(pos 1)]
abbrev b__law_inner : List (Nat × List Str × (List D → List D → List D)) := [(pos 1)]
abbrev b__law_wrong : List (Nat × List Str × (List D → List D → List D)) := [(pos 1)]
abbrev b__law_reading : List (Nat × List Str × (List D → List D → List D)) := [(pos 1)]
abbrev b__law_same : List (Nat × List Str × (List D → List D → List D)) := [(pos 2)]
abbrev b_Readerd_initd : List (Nat × List Str × (List D → List D → List D)) := [(pos 2)]
abbrev b_Reader_take : List (Nat × List Str × (List D → List D → List D)) := [(pos 2)]
abbrev b_Reader_need : List (Nat × List Str × (List D → List D → List D)) := [(pos 2)]
abbrev b_Reader_row_of_parts : List (Nat × List Str × (List D → List D → List D)) := [(pos 2)]
abbrev b_number_in : List (Nat × List Str × (List D → List D → List D)) := [(pos 1)]
abbrev b_Reader_taken : List (Nat × List Str × (List D → List D → List D)) := [(pos 2)]
abbrev b_Reader_numeral : List (Nat × List Str × (List D → List D → List D)) := [(pos 1)]
abbrev b_Reader_entries : List (Nat × List Str × (List D → List D → List D)) := [(pos 1)]
abbrev b_Reader_program : List (Nat × List Str × (List D → List D → List D)) := [(pos 2)]
abbrev b_is_name : List (Nat × List Str × (List D → List D → List D)) := [(pos 1)]
abbrev b_is_integer : List (Nat × List Str × (List D → List D → List D)) := [(pos 1)]
abbrev b_is_within : List (Nat × List Str × (List D → List D → List D)) := [(pos 3)]
abbrev b_is_word : List (Nat × List Str × (List D → List D → List D)) := [(pos 1)]
abbrev b_are_entries : List (Nat × List Str × (List D → List D → List D)) := [(pos 1)]
abbrev b_is_part : List (Nat × List Str × (List D → List D → List D)) := [(pos 1)]
abbrev b_inner_parts : List (Nat × List Str × (List D → List D → List D)) := [(pos 1)]
abbrev b_check_program : List (Nat × List Str × (List D → List D → List D)) := [(pos 1)]
abbrev b_program_text : List (Nat × List Str × (List D → List D → List D)) := [(pos 1)]
abbrev b_read_program : List (Nat × List Str × (List D → List D → List D)) := [(pos 1)]
abbrev b__law_field : List (Nat × List Str × (List D → List D → List D)) := [(pos 1)]
abbrev b__law_why : List (Nat × List Str × (List D → List D → List D)) := [(pos 1)]
abbrev b_law : List (Nat × List Str × (List D → List D → List D)) := [(pos 1)]
def c__law_hand : Ct := fun ds M Ψ _ => ∃ ns : List Int, ds = [scr ns] ∧ ns.length ≤ 63 ∧ ∀ p (h : Hand), M p = none → h.cs.length ≤ 63 → 0 ≤ h.i → Ψ (.ref p) (updM M p (hd h))
theorem ok__law_hand {f : Addr} {fd : FuncData} {dvs : List V} {kws : List (Str × V)} (T : Txt K mg)  (F : FnZ K "_law_hand" "_law_hand" s__law_hand dvs kws f fd) : FnOk P w K mg base (L2.CX P w) 2 f fd ["_law_script"] (spC K ["_law_script"].length (c__law_hand)) := by
  have hnd := sc__law_hand.nd
  refine fnD F sc__law_hand (c__law_hand) fun cdv A outer s H E B Ξ hr z => ⟨_, (dss_cons (ds_setLc (i := 1) rfl hnd (sw_true rfl rfl rfl rfl) (di_list (de_slice (de_var (i := 0)) do_none (do_some de_int))) (blkOk_by (own := [("_law_cell", 3)]) (by rfl)) (tg_name (i := 3) (by decide)) (fun _ _ _ _ _ => (pg_name (i := 3) hnd rfl (by first | exact Or.inl rfl | exact Or.inr rfl) (by first | exact .inl rfl | exact .inr rfl))) (fun _ _ _ _ _ _ => dts_nil) (fun _ _ _ _ _ _ => (de_int1 T.n_int (da_cons (de_var (i := 3)) da_nil))))
    (dss_cons (ds_set (i := 2) hnd (de_add de_int (de_mul de_int (de_len T.n_len (da_cons (de_var (i := 1)) da_nil)))))
    (dss_cons (ds_for z.po rfl (di_list (de_var (i := 1))) (dg_name (i := 3) hnd) (dss_one (ds_set (i := 2) hnd (de_fmod (de_int1 T.n_int (da_cons (de_add (de_mul (de_var (i := 2)) de_int) (de_var (i := 3))) da_nil)) de_int))))
    (dss_one (ds_ret (de_lstM (da_cons (de_var (i := 1)) (da_cons de_int (da_cons de_int (da_cons (de_var (i := 2)) da_nil)))))))))), fun ds Ψ hl hc => ?_⟩
  obtain ⟨ns, rfl, hl, q⟩ := hc
  have hl2 : (cutD ns none (some 63)).length ≤ 63 := Nat.le_trans (cut_len _ _ _) hl
  refine compD_map (xs := cutD (ns.map D.int) none (some 63)) (S := fun M => lstOf M (.lst (cutD (ns.map D.int) none (some 63))) = some (cutD (ns.map D.int) none (some 63))) (fun K h => ⟨_, rfl, h⟩) (fun d => d) rfl ?_ (fun d hd Q q => ?_) ?_
  · rw [cut_map, List.length_map]
    exact Nat.le_trans hl2 (Nat.le_trans (by decide) big_ok)
  · rw [cut_map] at hd
    obtain ⟨i, _, rfl⟩ := List.mem_map.mp hd
    exact q
  rw [List.map_id', cut_map]
  generalize hcs : cutD ns none (some 63) = cs at hl2 ⊢
  refine ⟨IntMulOk.of_left (by decide), ?_⟩
  refine forD_n (xs := cs.map D.int) (S := fun M => lstOf M (.lst (cs.map D.int)) = some (cs.map D.int)) (fun K h => ⟨_, rfl, h⟩) (fun i r M' => M' = B.M ∧ ∃ (m : Int) (o : Option D), r = [some (scr ns), some (.lst (cs.map D.int)), some (.int m), o]) ⟨rfl, _, none, rfl⟩ (fun _ _ _ _ => rfl) (fun i d r M' hd h => ?_) (fun r M' h => ?_)
  · obtain ⟨rfl, m, o, rfl⟩ := h
    obtain ⟨c, _, rfl⟩ := List.mem_map.mp (lmem hd)
    exact ⟨IntMulOk.of_right (by decide), by decide, .of ⟨rfl, _, _, rfl⟩⟩
  · obtain ⟨rfl, m, o, rfl⟩ := h
    exact ⟨ln (n := 4) rfl (by decide), fun p hp => ⟨_, _, .same, q p ⟨cs, 0, 0, m⟩ hp hl2 (Int.le_refl 0)⟩⟩
def c__law_text (dp : Nat) : Ct := fun ds M Ψ _ => ∃ p : Pg, ds = [pgD p] ∧ PgOk p ∧ pgK p ≤ dp ∧ pgN p ≤ 5000 ∧ Ψ (.str ⟨(pgC p).toArray⟩) M
theorem no__law_text : ∀ (ds : List D) (M : Sto) (Ψ : PD) (Ξ : XD → Sto → Prop), ¬ c__law_text 0 ds M Ψ Ξ := fun _ _ _ _ ⟨p, _, _, hk, _⟩ => by
  have := pgK_pos p
  omega
theorem ok__law_text {f : Addr} {fd : FuncData} {dvs : List V} {kws : List (Str × V)} (T : Txt K mg) {lv dp : Nat} (hlv : 1 ≤ lv) (h__law_text : Gf P w K mg base "_law_text" lv (c__law_text dp) b__law_text) (F : FnZ K "_law_text" "_law_text" s__law_text dvs kws f fd) : FnOk P w K mg base (L2.CX P w) (lv + 1) f fd ["_law_plan"] (spC K ["_law_plan"].length (c__law_text (dp + 1))) := by
  have hnd := sc__law_text.nd
  refine fnD F sc__law_text (c__law_text (dp + 1)) fun cdv A outer s H E B Ξ hr z => ⟨_, (dss_cons (ds_if (dt_eq hr (de_ix (de_var (i := 0)) de_int) de_str) (dss_cons (ds_asg (de_lc rfl hnd (di_tup (de_ix (de_var (i := 0)) de_int)) (blkOk_by (own := [("_law_entry", 5)]) (by rfl)) (tg_name (i := 5) (by decide)) (fun _ _ _ _ _ => (pg_name (i := 5) hnd rfl (by first | exact Or.inl rfl | exact Or.inr rfl) (by first | exact .inl rfl | exact .inr rfl))) (fun _ _ _ _ _ _ => dts_nil) (fun _ _ _ _ _ _ => (de_str1 T.n_str (da_cons (de_var (i := 5)) da_nil)))) (dg_lst (n := 4) rfl (dgs_cons (dg_name (i := 1) hnd) (dgs_cons (dg_name (i := 2) hnd) (dgs_cons (dg_name (i := 3) hnd) (dgs_cons (dg_name (i := 4) hnd) dgs_nil))))))
    (dss_one (ds_ret (de_add (de_add (de_add (de_add (de_add (de_add (de_add (de_add de_str (de_var (i := 1))) de_str) (de_var (i := 2))) de_str) (de_var (i := 3))) de_str) (de_var (i := 4))) de_str)))) dss_nil)
    (dss_cons (ds_if (dt_eq hr (de_ix (de_var (i := 0)) de_int) de_str) (dss_one (ds_ret (de_add (de_add de_str (de_join de_str (de_lc rfl hnd (di_tup (de_slice (de_var (i := 0)) (do_some de_int) do_none)) (blkOk_by (own := [("_law_part", 6)]) (by rfl)) (tg_name (i := 6) (by decide)) (fun _ _ _ _ _ => (pg_name (i := 6) hnd rfl (by first | exact Or.inl rfl | exact Or.inr rfl) (by first | exact .inl rfl | exact .inr rfl))) (fun _ _ _ _ _ _ => dts_nil) (fun _ _ _ _ _ _ => (de_call (hj := by omega) h__law_text hr zx_blk (List.Mem.head _) (da_cons (de_var (i := 6)) da_nil)))))) de_str))) dss_nil)
    (dss_cons (ds_if (dt_eq hr (de_ix (de_var (i := 0)) de_int) de_str) (dss_one (ds_ret (de_add (de_add (de_str1 T.n_str (da_cons (de_ix (de_var (i := 0)) de_int) da_nil)) de_str) (de_call (hj := by omega) h__law_text hr z (List.Mem.head _) (da_cons (de_ix (de_var (i := 0)) de_int) da_nil))))) dss_nil)
    (dss_one (ds_ret (de_if (dt_eq hr (de_ix (de_var (i := 0)) de_int) de_str) de_str (de_ix (de_var (i := 0)) de_int))))))), fun ds Ψ hl hc => ?_⟩
  obtain ⟨p, rfl, ho, hk, hn, q⟩ := hc
  have hlen := pgC_len p ho
  rw [show ent (["_law_plan", "_law_p", "_law_q", "_law_r", "_law_s", "_law_entry", "_law_part"] : List Str).length [pgD p] = [some (pgD p), none, none, none, none, none, none] from rfl]
  try dsimp only [List.set, getS_z, getS_s, bin2, bin2T, ltD, leD, gtD, geD, cmp_i, add_i, sub_i, min2_i, max2_i]
  refine ix_tag ?_
  refine eqS ?_
  cases p with
  | tab t =>
    obtain ⟨⟨n1, n2, n3, n4⟩, a1, a2, a3, a4, _⟩ := ho
    have l1 := dec_len2 n1 a1
    have l2 := dec_len2 n2 a2
    have l3 := dec_len2 n3 a3
    have l4 := dec_len2 n4 a4
    refine bl_t (decide_eq_true rfl) ?_
    refine ite_t rfl ?_
    simp only [pgD]
    refine compD_map (xs := tL t) (fun K h => optK_of rfl ⟨tL t, rfl, h⟩) (fun d => match d with | .int i => .str (toString i) | _ => .non) trivial (ln (n := 4) rfl (by decide)) (fun d hd Q hQ => ?_) ?_
    · have hdi : ∃ i : Int, d = .int i ∧ 0 ≤ i ∧ i ≤ 60 := by
        simp only [tL, List.mem_cons, List.not_mem_nil, or_false] at hd
        rcases hd with rfl | rfl | rfl | rfl
        · exact ⟨_, rfl, n1, a1⟩
        · exact ⟨_, rfl, n2, a2⟩
        · exact ⟨_, rfl, n3, a3⟩
        · exact ⟨_, rfl, n4, a4⟩
      obtain ⟨i, rfl, i0, i1⟩ := hdi
      exact ⟨log_60 i0 i1, hQ⟩
    refine ⟨[.str (toString t.1), .str (toString t.2.1), .str (toString t.2.2.1), .str (toString t.2.2.2)], rfl, rfl, ⟨rfl, ?_⟩⟩
    try dsimp only [List.set, getS_z, getS_s, bin2, bin2T, ltD, leD, gtD, geD, cmp_i, add_i, sub_i, min2_i, max2_i]
    refine addW (x := [91]) (y := decC t.1) (by decide +kernel) rfl (by simp; omega) ?_
    refine addW (y := [32]) rfl (by decide +kernel) (by simp; omega) ?_
    refine addW (y := decC t.2.1) rfl rfl (by simp; omega) ?_
    refine addW (y := [59, 32]) rfl (by decide +kernel) (by simp; omega) ?_
    refine addW (y := decC t.2.2.1) rfl rfl (by simp; omega) ?_
    refine addW (y := [32]) rfl (by decide +kernel) (by simp; omega) ?_
    refine addW (y := decC t.2.2.2) rfl rfl (by simp; omega) ?_
    refine addW (y := [93]) rfl (by decide +kernel) (by simp; omega) ?_
    exact ⟨_, _, .same, q⟩
  | trn w' =>
    refine bl_f (show decide (("turns" : Str) = "table") = false from by decide) ?_
    refine ite_f rfl (ix_tag (eqS ?_))
    refine bl_f (show decide (("turns" : Str) = "then") = false from by decide) ?_
    refine ite_f rfl (ix_tag (eqS ?_))
    refine bl_f (show decide (("turns" : Str) = "times") = false from by decide) ?_
    refine ite_f rfl (ix_tag (eqS ?_))
    refine bl_f (show decide (("turns" : Str) = "swap") = false from by decide) ?_
    refine ite_f rfl ?_
    simp only [pgD]
    exact optK_of rfl ⟨_, _, .same, q⟩
  | use x =>
    refine bl_f (show decide (("use" : Str) = "table") = false from by decide) ?_
    refine ite_f rfl (ix_tag (eqS ?_))
    refine bl_f (show decide (("use" : Str) = "then") = false from by decide) ?_
    refine ite_f rfl (ix_tag (eqS ?_))
    refine bl_f (show decide (("use" : Str) = "times") = false from by decide) ?_
    refine ite_f rfl (ix_tag (eqS ?_))
    refine bl_f (show decide (("use" : Str) = "swap") = false from by decide) ?_
    refine ite_f rfl ?_
    simp only [pgD]
    exact optK_of rfl ⟨_, _, .same, q⟩
  | swp =>
    refine bl_f (show decide (("swap" : Str) = "table") = false from by decide) ?_
    refine ite_f rfl (ix_tag (eqS ?_))
    refine bl_f (show decide (("swap" : Str) = "then") = false from by decide) ?_
    refine ite_f rfl (ix_tag (eqS ?_))
    refine bl_f (show decide (("swap" : Str) = "times") = false from by decide) ?_
    refine ite_f rfl (ix_tag (eqS ?_))
    refine bl_t (decide_eq_true rfl) ?_
    exact ite_t rfl ⟨_, _, .same, q⟩
  | tms n p =>
    refine bl_f (show decide (("times" : Str) = "table") = false from by decide) ?_
    refine ite_f rfl (ix_tag (eqS ?_))
    refine bl_f (show decide (("times" : Str) = "then") = false from by decide) ?_
    refine ite_f rfl (ix_tag (eqS ?_))
    refine bl_t (decide_eq_true rfl) ?_
    refine ite_t rfl ?_
    rw [pgK] at hk
    rw [pgN] at hn
    have h0 := ho.1.1
    have h1 : n ≤ 60 := by have := ho.1.2; omega
    have l1 := dec_len2 h0 h1
    have l2 := pgC_len p ho.2
    simp only [pgD]
    refine optK_of rfl ⟨log_60 h0 h1, ?_⟩
    refine addW (x := decC n) (y := [42]) rfl (by decide +kernel) (by simp; omega) ?_
    refine optK_of rfl ⟨rfl, rfl, p, rfl, ho.2, by omega, by omega, ?_⟩
    refine addW (y := pgC p) rfl rfl (by simp; omega) ?_
    exact ⟨_, _, .same, q⟩
  | thn l =>
    refine bl_f (show decide (("then" : Str) = "table") = false from by decide) ?_
    refine ite_f rfl (ix_tag (eqS ?_))
    refine bl_t (decide_eq_true rfl) ?_
    refine ite_t rfl ?_
    rw [pgK] at hk
    rw [pgN] at hn
    have h1 := pgCs_len l ho.2
    have h2 := joinC_le thenC (pgCs l)
    have h3 : thenC.length = 6 := rfl
    rw [h3] at h2
    refine ⟨trivial, ?_⟩
    simp only [pgD]
    refine compD_of (fun xs S M1 => xs = pgDs l ∧ S = (fun _ => True) ∧ M1 = B.M) (fun K h => ⟨pgDs l, by rw [cutD_tail]; rfl, h _ _ _ ⟨rfl, rfl, rfl⟩⟩) (fun xs S M1 ⟨ex1, ex2, ex3⟩ => ?_)
    subst ex1 ex2 ex3
    have ll := ho.1.2
    refine ⟨fun i acc M' => M' = B.M ∧ acc = ((pgCs l).map fun x => D.str ⟨x.toArray⟩).take i, ⟨rfl, by simp⟩, fun _ _ _ _ => trivial, fun i d acc M' hd h => ?_, fun acc M' h => ?_⟩
    · obtain ⟨rfl, rfl⟩ := h
      rw [pgDs_map, List.getElem?_map] at hd
      obtain ⟨pi, hpi, rfl⟩ := Option.map_eq_some_iff.mp hd
      have mem := List.mem_of_getElem? hpi
      have hpn : pgN pi ≤ pgNs l := pgNs_mem mem
      refine ⟨rfl, rfl, pi, rfl, pgOks_iff.mp ho.2 pi mem, by have := pgKs_mem mem; omega, by omega, ?_, rfl, ?_⟩
      · rw [List.length_take]
        exact Nat.lt_of_le_of_lt (Nat.min_le_right _ _) (by rw [List.length_map, pgCs_map, List.length_map]; exact Nat.lt_of_le_of_lt ll (Nat.lt_of_lt_of_le (by decide) big_ok))
      · rw [List.take_add_one, List.getElem?_map, pgCs_map, List.getElem?_map, hpi]
        rfl
    obtain ⟨rfl, rfl⟩ := h
    rw [show (pgDs l).length = ((pgCs l).map fun x => D.str ⟨x.toArray⟩).length by rw [pgDs_map, List.length_map, List.length_map, pgCs_map, List.length_map], List.take_length]
    refine ⟨_, _, .inl rfl, strs_ws _, ?_, ?_⟩
    · rw [ws_sum, List.length_map, pgCs_map, List.length_map]
      have h4 : ((pgCs l).flatten).length ≤ ((pgCs l).map fun x => x.length + 6).sum := by
        generalize pgCs l = L
        induction L with
        | nil => simp
        | cons x L ih => rw [List.flatten_cons, List.length_append, List.map_cons, List.sum_cons]; omega
      rw [pgCs_map] at h4
      have h5 : (" then " : Str).length = 6 := by decide +kernel
      rw [h5]
      rw [pgCs_map] at h1
      omega
    · have e : Txt.join (" then " : Str) ((pgCs l).map fun p => (⟨p.toArray⟩ : Str)) = ⟨(joinC thenC (pgCs l)).toArray⟩ := by
        rw [← join_C]
        rfl
      rw [e]
      refine addW (x := [40]) (by decide +kernel) rfl (by simp; omega) (addW (y := [41]) rfl (by decide +kernel) (by simp; omega) ?_)
      exact ⟨_, _, .same, q⟩
theorem dok_b {j : Int} (h : 0 < j) (h' : j < 2 ^ 100) : Dok j := dok_of (n := 100) (by omega) (by omega) (by decide)
def c__law_pick : Ct := fun ds M Ψ _ => ∃ (p : Addr) (n : Int), ds = [.ref p, .int n] ∧ HandAt M p ∧ 0 < n ∧ n < 2 ^ 100 ∧ ∀ k M', 0 ≤ k → k < n → Dr p M M' → Ψ (.int k) M'
theorem ok__law_pick {f : Addr} {fd : FuncData} {dvs : List V} {kws : List (Str × V)} (T : Txt K mg)  (F : FnZ K "_law_pick" "_law_pick" s__law_pick dvs kws f fd) : FnOk P w K mg base (L2.CX P w) 2 f fd ["_law_hand_here", "_law_many"] (spC K ["_law_hand_here", "_law_many"].length (c__law_pick)) := by
  have hnd := sc__law_pick.nd
  refine fnD F sc__law_pick (c__law_pick) fun cdv A outer s H E B Ξ hr z => ⟨_, (dss_cons (ds_if (dt_lt (de_ix (de_var (i := 0)) de_int) de_int) (dss_cons (ds_setix (de_add (de_ix (de_var (i := 0)) de_int) de_int) (de_var (i := 0)) de_int)
    (dss_cons (ds_set (i := 2) hnd (de_add (de_ix (de_var (i := 0)) de_int) (de_mul (de_ix (de_var (i := 0)) de_int) de_int)))
    (dss_cons (ds_if (dt_le (de_ix (de_var (i := 0)) de_int) (de_len T.n_len (da_cons (de_ix (de_var (i := 0)) de_int) da_nil))) (dss_one (ds_set (i := 2) hnd (de_ix (de_ix (de_var (i := 0)) de_int) (de_sub (de_ix (de_var (i := 0)) de_int) de_int)))) dss_nil)
    (dss_cons (ds_if (dw_or (dt_gt (de_ix (de_var (i := 0)) de_int) (de_len T.n_len (da_cons (de_ix (de_var (i := 0)) de_int) da_nil))) (dw_or1 (dt_lt (de_var (i := 2)) (de_pow de_int de_int)))).pt (dss_cons (ds_set (i := 3) hnd (de_fmod (de_int1 T.n_int (da_cons (de_add (de_add (de_mul (de_var (i := 2)) de_int) (de_mul (de_ix (de_var (i := 0)) de_int) de_int)) (de_ix (de_var (i := 0)) de_int)) da_nil)) de_int))
    (dss_cons (ds_set (i := 4) hnd (de_fmod (de_int1 T.n_int (da_cons (de_add (de_mul (de_var (i := 3)) (de_var (i := 3))) (de_mul (de_ix (de_var (i := 0)) de_int) de_int)) da_nil)) de_int))
    (dss_one (ds_ret (de_fmod (de_fdiv (de_fmod (de_int1 T.n_int (da_cons (de_add (de_mul (de_var (i := 4)) de_int) (de_var (i := 3))) da_nil)) de_int) de_int) (de_var (i := 1))))))) dss_nil)
    (dss_one (ds_setix (de_var (i := 2)) (de_var (i := 0)) de_int)))))) dss_nil)
    (dss_cons (ds_set (i := 5) hnd (de_fmod (de_int1 T.n_int (da_cons (de_ix (de_var (i := 0)) de_int) da_nil)) (de_var (i := 1))))
    (dss_cons (ds_setix (de_fdiv (de_int1 T.n_int (da_cons (de_ix (de_var (i := 0)) de_int) da_nil)) (de_var (i := 1))) (de_var (i := 0)) de_int)
    (dss_one (ds_ret (de_var (i := 5))))))), fun ds Ψ hl hc => ?_⟩
  obtain ⟨p, n, rfl, ⟨h, e0, hcl, hi⟩, n0, n1, q⟩ := hc
  have nz : n ≠ 0 := by omega
  refine ix_ref e0 ?_
  refine bl_c (fun _ => ?_) (fun _ => ?_)
  rotate_left
  · refine ix_ref e0 ?_
    refine ⟨nz, ?_⟩
    refine ix_ref e0 ?_
    refine ⟨dok_b n0 n1, ?_⟩
    refine set_ref e0 rfl ?_
    exact ⟨_, _, .same, q _ _ (fm0 n0) (fm1 n0) ⟨handAt_of updM_same hcl hi, fun b hb => updM_ne hb⟩⟩
  refine ix_ref e0 ?_
  refine set_gen e0 rfl fun M1 e1 f1 => ?_
  have e1 : M1 p = some (hd ⟨h.cs, h.i + 1, h.r, h.m⟩) := e1
  have hi1 : 0 ≤ h.i + 1 := by omega
  refine ix_ref e1 ?_
  refine ix_ref e1 ?_
  refine ⟨IntMulOk.of_right (by decide), ?_⟩
  refine ix_ref e1 ?_
  refine ix_ref e1 ?_
  refine bl_c (fun h1 => ?_) (fun h1 => ?_)
  · refine ix_ref e1 ?_
    refine ix_ref e1 ?_
    have h1' : h.i + 1 ≤ ((h.cs.map D.int).length : Int) := of_decide_eq_true h1
    obtain ⟨d, hd, hm⟩ := at_some (xs := h.cs.map D.int) (i := h.i + 1 - 1) (by omega) (by omega)
    obtain ⟨c, _, rfl⟩ := List.mem_map.mp hm
    refine optK_of (d := .int (h.i + 1)) rfl ?_
    refine optK_of hd ?_
    refine ix_ref e1 ?_
    refine ix_ref e1 ?_
    refine bl_c (fun h2 => ?_) (fun h2 => ?_)
    rotate_left
    · refine ⟨⟨by decide, by decide, by decide⟩, ?_⟩
      refine bl_c (fun h3 => ?_) (fun h3 => ?_)
      rotate_left
      · refine set_ref e1 rfl ?_
        refine ix_ref updM_same ?_
        refine ⟨nz, ?_⟩
        refine ix_ref updM_same ?_
        refine ⟨dok_b n0 n1, ?_⟩
        refine set_ref updM_same rfl ?_
        exact ⟨_, _, .same, q _ _ (fm0 n0) (fm1 n0) ⟨handAt_of updM_same hcl hi1, fun b hb => (updM_ne hb).trans ((updM_ne hb).trans (f1 b hb))⟩⟩
      refine ⟨IntMulOk.of_right (by decide), ?_⟩
      refine ix_ref e1 ?_
      refine ⟨IntMulOk.of_right (by decide), ?_⟩
      refine ix_ref e1 ?_
      refine ⟨by decide, ?_⟩
      refine ⟨mok_s (fm_small (by decide) (by decide)), ?_⟩
      refine ix_ref e1 ?_
      refine ⟨IntMulOk.of_right (by decide), ?_⟩
      refine ⟨by decide, ?_⟩
      refine ⟨IntMulOk.of_right (by decide), by decide, dok_s (by decide) (by decide), nz, ?_⟩
      exact ⟨_, _, .same, q _ _ (fm0 n0) (fm1 n0) ⟨handAt_of e1 hcl hi1, f1⟩⟩
    refine ⟨IntMulOk.of_right (by decide), ?_⟩
    refine ix_ref e1 ?_
    refine ⟨IntMulOk.of_right (by decide), ?_⟩
    refine ix_ref e1 ?_
    refine ⟨by decide, ?_⟩
    refine ⟨mok_s (fm_small (by decide) (by decide)), ?_⟩
    refine ix_ref e1 ?_
    refine ⟨IntMulOk.of_right (by decide), ?_⟩
    refine ⟨by decide, ?_⟩
    refine ⟨IntMulOk.of_right (by decide), by decide, dok_s (by decide) (by decide), nz, ?_⟩
    exact ⟨_, _, .same, q _ _ (fm0 n0) (fm1 n0) ⟨handAt_of e1 hcl hi1, f1⟩⟩
  · refine ix_ref e1 ?_
    refine ix_ref e1 ?_
    refine bl_c (fun h2 => ?_) (fun h2 => ?_)
    rotate_left
    · refine ⟨⟨by decide, by decide, by decide⟩, ?_⟩
      refine bl_c (fun h3 => ?_) (fun h3 => ?_)
      rotate_left
      · refine set_ref e1 rfl ?_
        refine ix_ref updM_same ?_
        refine ⟨nz, ?_⟩
        refine ix_ref updM_same ?_
        refine ⟨dok_b n0 n1, ?_⟩
        refine set_ref updM_same rfl ?_
        exact ⟨_, _, .same, q _ _ (fm0 n0) (fm1 n0) ⟨handAt_of updM_same hcl hi1, fun b hb => (updM_ne hb).trans ((updM_ne hb).trans (f1 b hb))⟩⟩
      refine ⟨IntMulOk.of_right (by decide), ?_⟩
      refine ix_ref e1 ?_
      refine ⟨IntMulOk.of_right (by decide), ?_⟩
      refine ix_ref e1 ?_
      refine ⟨by decide, ?_⟩
      refine ⟨mok_s (fm_small (by decide) (by decide)), ?_⟩
      refine ix_ref e1 ?_
      refine ⟨IntMulOk.of_right (by decide), ?_⟩
      refine ⟨by decide, ?_⟩
      refine ⟨IntMulOk.of_right (by decide), by decide, dok_s (by decide) (by decide), nz, ?_⟩
      exact ⟨_, _, .same, q _ _ (fm0 n0) (fm1 n0) ⟨handAt_of e1 hcl hi1, f1⟩⟩
    refine ⟨IntMulOk.of_right (by decide), ?_⟩
    refine ix_ref e1 ?_
    refine ⟨IntMulOk.of_right (by decide), ?_⟩
    refine ix_ref e1 ?_
    refine ⟨by decide, ?_⟩
    refine ⟨mok_s (fm_small (by decide) (by decide)), ?_⟩
    refine ix_ref e1 ?_
    refine ⟨IntMulOk.of_right (by decide), ?_⟩
    refine ⟨by decide, ?_⟩
    refine ⟨IntMulOk.of_right (by decide), by decide, dok_s (by decide) (by decide), nz, ?_⟩
    exact ⟨_, _, .same, q _ _ (fm0 n0) (fm1 n0) ⟨handAt_of e1 hcl hi1, f1⟩⟩
def c__law_of : Ct := fun ds M Ψ _ => ∃ (p : Addr) (x : D) (l : List D), ds = [.ref p, x] ∧ HandAt M p ∧ itm x = some l ∧ 0 < l.length ∧ l.length ≤ 1000000 ∧ ∀ d M', d ∈ l → Dr p M M' → Ψ d M'
theorem ok__law_of {f : Addr} {fd : FuncData} {dvs : List V} {kws : List (Str × V)} (T : Txt K mg) (h__law_pick : Gf P w K mg base "_law_pick" 2 (c__law_pick) b__law_pick) (F : FnZ K "_law_of" "_law_of" s__law_of dvs kws f fd) : FnOk P w K mg base (L2.CX P w) 3 f fd ["_law_hand_here", "_law_items"] (spC K ["_law_hand_here", "_law_items"].length (c__law_of)) := by
  have hnd := sc__law_of.nd
  refine fnD F sc__law_of (c__law_of) fun cdv A outer s H E B Ξ hr z => ⟨_, (dss_one (ds_ret (de_ix (de_var (i := 1)) (de_call h__law_pick hr z (List.Mem.head _) (da_cons (de_var (i := 0)) (da_cons (de_len T.n_len (da_cons (de_var (i := 1)) da_nil)) da_nil)))))), fun ds Ψ hl hc => ?_⟩
  obtain ⟨p, x, l, rfl, hh, hx, l0, l1, q⟩ := hc
  cases x with
  | str x =>
    cases hx
    rw [signs_len] at l0 l1
    have hz : x.length ≤ sizeLine := Nat.le_trans l1 big_ok
    refine ⟨hz, rfl, rfl, p, _, rfl, hh, (show (0 : Int) < (x.cps.size : Int) by omega), (show (x.cps.size : Int) < 2 ^ 100 by omega), fun k M' k0 k1 dr => ⟨hz, ?_⟩⟩
    obtain ⟨c, hc, hm⟩ := at_some (xs := x.cps.toList) k0 (by rw [Array.length_toList]; exact k1)
    exact optK_of hc ⟨_, _, .same, q _ _ (List.mem_map.mpr ⟨c, hm, rfl⟩) dr⟩
  | tup l =>
    cases hx
    refine ⟨rfl, rfl, p, _, rfl, hh, by omega, by omega, fun k M' k0 k1 dr => ?_⟩
    obtain ⟨c, hc, hm⟩ := at_some k0 k1
    exact optK_of hc ⟨_, _, .same, q _ _ hm dr⟩
  | lst l =>
    cases hx
    refine ⟨rfl, rfl, p, _, rfl, hh, by omega, by omega, fun k M' k0 k1 dr => ?_⟩
    obtain ⟨c, hc, hm⟩ := at_some k0 k1
    exact optK_of hc ⟨_, _, .same, q _ _ hm dr⟩
  | _ => cases hx
def c__law_prod : Ct := fun ds M Ψ _ => ∃ s t n m, ds = [tD s, tD t] ∧ Sm n s ∧ Sm m t ∧ 0 < n ∧ 0 < m ∧ n + m ≤ 1000000 ∧ Ψ (tD (mul4 s t)) M
theorem ok__law_prod {f : Addr} {fd : FuncData} {dvs : List V} {kws : List (Str × V)} (T : Txt K mg)  (F : FnZ K "_law_prod" "_law_prod" s__law_prod dvs kws f fd) : FnOk P w K mg base (L2.CX P w) 2 f fd ["_law_one", "_law_rival"] (spC K ["_law_one", "_law_rival"].length (c__law_prod)) := by
  have hnd := sc__law_prod.nd
  refine fnD F sc__law_prod (c__law_prod) fun cdv A outer s H E B Ξ hr z => ⟨_, (dss_one (ds_ret (de_tup (da_cons (de_add (de_mul (de_ix (de_var (i := 0)) de_int) (de_ix (de_var (i := 1)) de_int)) (de_mul (de_ix (de_var (i := 0)) de_int) (de_ix (de_var (i := 1)) de_int))) (da_cons (de_add (de_mul (de_ix (de_var (i := 0)) de_int) (de_ix (de_var (i := 1)) de_int)) (de_mul (de_ix (de_var (i := 0)) de_int) (de_ix (de_var (i := 1)) de_int))) (da_cons (de_add (de_mul (de_ix (de_var (i := 0)) de_int) (de_ix (de_var (i := 1)) de_int)) (de_mul (de_ix (de_var (i := 0)) de_int) (de_ix (de_var (i := 1)) de_int))) (da_cons (de_add (de_mul (de_ix (de_var (i := 0)) de_int) (de_ix (de_var (i := 1)) de_int)) (de_mul (de_ix (de_var (i := 0)) de_int) (de_ix (de_var (i := 1)) de_int))) da_nil))))))), fun ds Ψ hl hc => ?_⟩
  obtain ⟨s, t, n, m, rfl, hs, ht, h0, h1, hz, q⟩ := hc
  have k : ∀ {i j : Int}, i.natAbs < 2 ^ n → j.natAbs < 2 ^ m → IntMulOk i j := fun a b => mok_of a b h0 h1 hz
  exact ⟨k hs.1 ht.1, k hs.2.1 ht.2.2.1, k hs.1 ht.2.1, k hs.2.1 ht.2.2.2, k hs.2.2.1 ht.1, k hs.2.2.2 ht.2.2.1, k hs.2.2.1 ht.2.1, k hs.2.2.2 ht.2.2.2, ln (n := 4) rfl (by decide), _, _, .same, q⟩
def c__law_grid : Ct := fun ds M Ψ _ => ∃ x, ds = [.str x] ∧ x.cps.size ≤ 400000 ∧ Ψ (tD (wL x.cps.toList)) M
theorem ok__law_grid {f : Addr} {fd : FuncData} {dvs : List V} {kws : List (Str × V)} (T : Txt K mg) (h__law_prod : Gf P w K mg base "_law_prod" 2 (c__law_prod) b__law_prod) (F : FnZ K "_law_grid" "_law_grid" s__law_grid dvs kws f fd) : FnOk P w K mg base (L2.CX P w) 3 f fd ["_law_token"] (spC K ["_law_token"].length (c__law_grid)) := by
  have hnd := sc__law_grid.nd
  refine fnD F sc__law_grid (c__law_grid) fun cdv A outer s H E B Ξ hr z => ⟨_, (dss_cons (ds_set (i := 1) hnd (de_tup (da_cons de_int (da_cons de_int (da_cons de_int (da_cons de_int da_nil))))))
    (dss_cons (ds_for z.po rfl (di_str (de_var (i := 0))) (dg_name (i := 2) hnd) (dss_one (ds_set (i := 1) hnd (de_call h__law_prod hr z (List.Mem.head _) (da_cons (de_var (i := 1)) (da_cons (de_if (dt_eq hr (de_var (i := 2)) de_str) (de_tup (da_cons de_int (da_cons de_int (da_cons de_int (da_cons de_int da_nil))))) (de_tup (da_cons de_int (da_cons de_int (da_cons de_int (da_cons de_int da_nil)))))) da_nil))))))
    (dss_one (ds_ret (de_var (i := 1)))))), fun ds Ψ hl hc => ?_⟩
  obtain ⟨x, rfl, hz, q⟩ := hc
  refine ⟨ln (n := 4) rfl (by decide), ?_⟩
  refine forD_n (xs := Z.signs x) (fun K h => h) (fun i r M' => M' = B.M ∧ ∃ o, r = [some (.str x), some (tD (wL (x.cps.toList.take i))), o]) ⟨rfl, none, rfl⟩ (fun _ _ _ _ => trivial) (fun i d r M' hd h => ?_) (fun r M' h => ?_)
  · obtain ⟨rfl, o, rfl⟩ := h
    obtain ⟨c, hi, rfl⟩ := signs_get hd
    have hl : (x.cps.toList.take i).length ≤ 400000 := by rw [List.length_take, Array.length_toList]; omega
    have fin : c__law_prod [tD (wL (x.cps.toList.take i)), tD (turnT c)] B.M (fun d M' => Cl B.M (fun r M' => M' = B.M ∧ ∃ o, r = [some (.str x), some (tD (wL (x.cps.toList.take (i + 1)))), o]) [some (.str x), some d, some (.str ⟨#[c]⟩)] M') (fun y M' => exF B.M Ξ y [some (.str x), some (tD (wL (x.cps.toList.take i))), some (.str ⟨#[c]⟩)] M') :=
      ⟨_, _, _, _, rfl, sm_wL _, sm_turn c, by omega, by omega, by omega, .of ⟨rfl, _, by rw [wL_take hi]⟩⟩
    unfold turnT at fin
    refine eqS ?_
    refine bl_c (fun e => ?_) (fun e => ?_)
    · rw [if_pos (of_decide_eq_true e)] at fin
      exact ⟨ln (n := 4) rfl (by decide), rfl, rfl, fin⟩
    · rw [if_neg (of_decide_eq_false e)] at fin
      exact ⟨ln (n := 4) rfl (by decide), rfl, rfl, fin⟩
  · obtain ⟨rfl, o, rfl⟩ := h
    refine ⟨_, _, .same, ?_⟩
    rw [signs_len, List.take_of_length_le (by rw [Array.length_toList]; exact Nat.le_refl _)]
    exact q
def c__law_word : Ct := fun ds M Ψ _ => ∃ (p : Addr) (n : Int), ds = [.ref p, .int n] ∧ HandAt M p ∧ 0 ≤ n ∧ n ≤ 100000 ∧ ∀ w M', LR w → (w.length : Int) ≤ n → Dr p M M' → Ψ (.str ⟨w.toArray⟩) M'
theorem ok__law_word {f : Addr} {fd : FuncData} {dvs : List V} {kws : List (Str × V)} (T : Txt K mg) (h__law_pick : Gf P w K mg base "_law_pick" 2 (c__law_pick) b__law_pick) (h__law_of : Gf P w K mg base "_law_of" 3 (c__law_of) b__law_of) (F : FnZ K "_law_word" "_law_word" s__law_word dvs kws f fd) : FnOk P w K mg base (L2.CX P w) 4 f fd ["_law_hand_here", "_law_peak"] (spC K ["_law_hand_here", "_law_peak"].length (c__law_word)) := by
  have hnd := sc__law_word.nd
  refine fnD F sc__law_word (c__law_word) fun cdv A outer s H E B Ξ hr z => ⟨_, (dss_one (ds_ret (de_join de_str (de_lc rfl hnd (di_range1 T.n_range (da_cons (de_call h__law_pick hr z (List.Mem.head _) (da_cons (de_var (i := 0)) (da_cons (de_add (de_var (i := 1)) de_int) da_nil))) da_nil)) (blkOk_by (own := [("_law_k", 2)]) (by rfl)) (tg_name (i := 2) (by decide)) (fun _ _ _ _ _ => (pg_name (i := 2) hnd rfl (by first | exact Or.inl rfl | exact Or.inr rfl) (by first | exact .inl rfl | exact .inr rfl))) (fun _ _ _ _ _ _ => dts_nil) (fun _ _ _ _ _ _ => (de_call h__law_of hr zx_blk (List.Mem.head _) (da_cons (de_var (i := 0)) (da_cons de_str da_nil)))))))), fun ds Ψ hl hc => ?_⟩
  obtain ⟨p, n, rfl, hh, n0, n1, q⟩ := hc
  refine ⟨trivial, ?_⟩
  refine compD_of (fun xs S M1 => ∃ k : Int, 0 ≤ k ∧ k ≤ n ∧ xs = rngD 0 k.toNat ∧ S = (fun _ => True) ∧ Dr p B.M M1) (fun K h => ?_) (fun xs S M1 ⟨k, k0, k1, e1, e2, dr⟩ => ?_)
  · exact ⟨rfl, rfl, p, _, rfl, hh, by omega, by omega, fun k M' k0 k1 dr => ⟨⟨by omega, by omega⟩, h _ _ _ ⟨k, k0, by omega, rfl, rfl, dr⟩⟩⟩
  subst e1 e2
  refine comp_st (Dr p B.M) (fun _ y => ∃ c : Nat, (c = 76 ∨ c = 82) ∧ y = .str ⟨#[c]⟩) dr (fun _ _ => trivial) (by rw [rng_len]; exact Nat.le_trans (by omega) big_ok) (fun d hd M' I Q hQ => ?_) (fun acc M' I hl hy => ?_)
  · refine ⟨rfl, rfl, p, _, _, rfl, I.1, rfl, by decide, by decide, fun d M4 hd dr' => hQ _ _ (I.trans dr') ?_⟩
    obtain ⟨c, hc, rfl⟩ := signs_mem hd
    exact ⟨c, lr_mem.mp hc, rfl⟩
  · have hall : ∀ y ∈ acc, ∃ c : Nat, (c = 76 ∨ c = 82) ∧ y = .str ⟨#[c]⟩ := fun y hm => by
      obtain ⟨i, hi, e⟩ := List.getElem_of_mem hm
      have hi2 : i < (rngD 0 k.toNat).length := hl ▸ hi
      exact hy i _ y (List.getElem?_eq_getElem hi2) (by rw [List.getElem?_eq_getElem hi, e])
    obtain ⟨w, hw, rfl⟩ := chars_of hall
    rw [rng_len, List.length_map] at hl
    refine ⟨_, w.map fun c => (⟨#[c]⟩ : Str), .inl rfl, strsD_chars w, ?_, ?_⟩
    · rw [chars_sum, List.length_map]
      show _ + _ * 0 ≤ _
      omega
    · refine ⟨_, _, .same, ?_⟩
      show Ψ (.str (Txt.join Str.empty _)) M'
      rw [join_chars]
      exact q w M' hw (by omega) I
def c__law_core : Ct := fun ds M Ψ _ => ∃ (p : Addr) (cap : Int), ds = [.ref p, .int cap] ∧ HandAt M p ∧ 0 < cap ∧ cap ≤ 1000 ∧ ∀ t M', Sm 10 t → Nn t → 0 < det4 t → det4 t ≤ cap → Le4 cap t → Dr p M M' → Ψ (tD t) M'
def dvd (s : Int) (d : D) : Bool := match d with
  | .int j => decide (s.fmod j = 0)
  | _ => false
theorem fdiv_dvd {s j : Int} (h : 0 < j) (hd : s.fmod j = 0) : j * s.fdiv j = s := by
  have := Int.mul_fdiv_add_fmod s j
  omega
theorem ok__law_core {f : Addr} {fd : FuncData} {dvs : List V} {kws : List (Str × V)} (T : Txt K mg) (h__law_pick : Gf P w K mg base "_law_pick" 2 (c__law_pick) b__law_pick) (h__law_of : Gf P w K mg base "_law_of" 3 (c__law_of) b__law_of) (F : FnZ K "_law_core" "_law_core" s__law_core dvs kws f fd) : FnOk P w K mg base (L2.CX P w) 4 f fd ["_law_hand_here", "_law_cap"] (spC K ["_law_hand_here", "_law_cap"].length (c__law_core)) := by
  have hnd := sc__law_core.nd
  refine fnD F sc__law_core (c__law_core) fun cdv A outer s H E B Ξ hr z => ⟨_, (dss_cons (ds_set (i := 2) hnd (de_add de_int (de_call h__law_pick hr z (List.Mem.head _) (da_cons (de_var (i := 0)) (da_cons (de_var (i := 1)) da_nil)))))
    (dss_cons (ds_set (i := 3) hnd (de_call h__law_of hr z (List.Mem.head _) (da_cons (de_var (i := 0)) (da_cons (de_lc rfl hnd (di_range2 T.n_range (da_cons de_int (da_cons (de_add (de_var (i := 2)) de_int) da_nil))) (blkOk_by (own := [("_law_part", 4)]) (by rfl)) (tg_name (i := 4) (by decide)) (fun _ _ _ _ _ => (pg_name (i := 4) hnd rfl (by first | exact Or.inl rfl | exact Or.inr rfl) (by first | exact .inl rfl | exact .inr rfl))) (fun _ _ _ _ _ _ => (dts_one (dt_eq hr (de_fmod (de_int1 T.n_int (da_cons (de_var (i := 2)) da_nil)) (de_var (i := 4))) de_int))) (fun _ _ _ _ _ _ => (de_var (i := 4)))) da_nil))))
    (dss_one (ds_ret (de_tup (da_cons (de_var (i := 3)) (da_cons (de_call h__law_pick hr z (List.Mem.head _) (da_cons (de_var (i := 0)) (da_cons (de_fdiv (de_var (i := 2)) (de_var (i := 3))) da_nil))) (da_cons de_int (da_cons (de_fdiv (de_var (i := 2)) (de_var (i := 3))) da_nil))))))))), fun ds Ψ hl hc => ?_⟩
  obtain ⟨p, cap, rfl, hh, c0, c1, q⟩ := hc
  refine ⟨rfl, rfl, p, cap, rfl, hh, c0, by omega, fun k M1 k0 k1 d1 => ?_⟩
  have s0 : 0 < (1 + k) := by omega
  have s1 : (1 + k) ≤ 1000 := by omega
  refine compD_fm (xs := rngD 1 ((1 + k) + 1 - 1).toNat) (S := fun _ => True) (fun K h => ⟨⟨⟨by omega, by omega⟩, ⟨by omega, by omega⟩⟩, h⟩) (dvd (1 + k)) (fun d => d) trivial (by rw [rng_len]; exact Nat.le_trans (by omega) big_ok) (fun d hd Q R h => ?_) ?_
  · obtain ⟨j, hj, rfl⟩ := rng_mem hd
    refine ⟨by omega, ?_⟩
    refine eqI ?_
    refine bl_c (fun e => ?_) (fun e => ?_)
    · rw [if_pos (show dvd (1 + k) (.int (1 + j)) = true from e)] at h
      exact h
    · rw [if_neg (by rw [show dvd (1 + k) (.int (1 + j)) = false from e]; simp)] at h
      exact h
  rw [List.map_id']
  have key : ∀ d ∈ (rngD 1 ((1 + k) + 1 - 1).toNat).filter (dvd (1 + k)), ∃ j : Int, 0 < j ∧ j ≤ (1 + k) ∧ (1 + k).fmod j = 0 ∧ d = .int j := fun d hd => by
    obtain ⟨h1, h2⟩ := List.mem_filter.mp hd
    obtain ⟨j, hj, rfl⟩ := rng_mem h1
    exact ⟨1 + j, by omega, by omega, of_decide_eq_true h2, rfl⟩
  have len0 : 0 < ((rngD 1 ((1 + k) + 1 - 1).toNat).filter (dvd (1 + k))).length := by
    refine List.length_pos_of_mem (a := .int 1) (List.mem_filter.mpr ⟨?_, ?_⟩)
    · exact List.mem_map.mpr ⟨0, List.mem_range.mpr (by omega), rfl⟩
    · exact decide_eq_true (by rw [Int.fmod_eq_emod_of_nonneg _ (by decide)]; omega)
  have len1 : ((rngD 1 ((1 + k) + 1 - 1).toNat).filter (dvd (1 + k))).length ≤ 1000000 := by
    refine Nat.le_trans (List.length_filter_le _ _) ?_
    rw [rng_len]
    omega
  refine ⟨rfl, rfl, p, _, _, rfl, d1.1, rfl, len0, len1, fun d M2 hd d2 => ?_⟩
  obtain ⟨j, j0, j1, jd, rfl⟩ := key d hd
  have em := fdiv_dvd j0 jd
  have f0 : 0 < (1 + k).fdiv j := by
    rcases Int.lt_or_le 0 ((1 + k).fdiv j) with h | h
    · exact h
    · have : j * (1 + k).fdiv j ≤ 0 := Int.mul_nonpos_of_nonneg_of_nonpos (Int.le_of_lt j0) h
      omega
  have f1 : (1 + k).fdiv j ≤ (1 + k) := by
    have : 1 * (1 + k).fdiv j ≤ j * (1 + k).fdiv j := Int.mul_le_mul_of_nonneg_right (by omega) (Int.le_of_lt f0)
    omega
  refine ⟨dok_s j0 (by omega), ?_⟩
  refine ⟨rfl, rfl, p, (1 + k).fdiv j, rfl, d2.1, f0, by omega, fun r M3 r0 r1 d3 => ?_⟩
  refine ⟨dok_s j0 (by omega), ln (n := 4) rfl (by decide), ?_⟩
  refine ⟨_, _, .same, q (j, r, 0, (1 + k).fdiv j) M3 ⟨?_, ?_, ?_, ?_⟩ ⟨?_, ?_, ?_, ?_⟩ ?_ ?_ ⟨?_, ?_, ?_, ?_⟩ ((d1.trans d2).trans d3)⟩
  · show j.natAbs < 1024; omega
  · show r.natAbs < 1024; omega
  · show (0 : Int).natAbs < 1024; decide
  · show ((1 + k).fdiv j).natAbs < 1024; omega
  · show 0 ≤ j; omega
  · exact r0
  · exact Int.le_refl 0
  · show 0 ≤ (1 + k).fdiv j; omega
  · show 0 < j * (1 + k).fdiv j - r * 0
    omega
  · show j * (1 + k).fdiv j - r * 0 ≤ cap
    omega
  · show j ≤ cap; omega
  · show r ≤ cap; omega
  · show (0 : Int) ≤ cap; omega
  · show (1 + k).fdiv j ≤ cap; omega
def c__law_mill : Ct := fun ds M Ψ _ => ∃ (p : Addr) (cap : Nat), ds = [.ref p, .int cap] ∧ HandAt M p ∧ 0 < cap ∧ cap ≤ 60 ∧ ∀ t M', Mil1 cap t → Dr p M M' → Ψ (tD t) M'
def mulB (m : Int) (d : D) : D := match d with
  | .int j => .int (m * j)
  | d => d
theorem ok__law_mill {f : Addr} {fd : FuncData} {dvs : List V} {kws : List (Str × V)} (T : Txt K mg) (h__law_prod : Gf P w K mg base "_law_prod" 2 (c__law_prod) b__law_prod) (h__law_grid : Gf P w K mg base "_law_grid" 3 (c__law_grid) b__law_grid) (h__law_word : Gf P w K mg base "_law_word" 4 (c__law_word) b__law_word) (h__law_core : Gf P w K mg base "_law_core" 4 (c__law_core) b__law_core) (h__law_of : Gf P w K mg base "_law_of" 3 (c__law_of) b__law_of) (h__law_pick : Gf P w K mg base "_law_pick" 2 (c__law_pick) b__law_pick) (F : FnZ K "_law_mill" "_law_mill" s__law_mill dvs kws f fd) : FnOk P w K mg base (L2.CX P w) 5 f fd ["_law_hand_here", "_law_cap"] (spC K ["_law_hand_here", "_law_cap"].length (c__law_mill)) := by
  have hnd := sc__law_mill.nd
  refine fnD F sc__law_mill (c__law_mill) fun cdv A outer s H E B Ξ hr z => ⟨_, (dss_cons (ds_set (i := 2) hnd (de_call h__law_prod hr z (List.Mem.head _) (da_cons (de_call h__law_grid hr z (List.Mem.head _) (da_cons (de_call h__law_word hr z (List.Mem.head _) (da_cons (de_var (i := 0)) (da_cons de_int da_nil))) da_nil)) (da_cons (de_call h__law_prod hr z (List.Mem.head _) (da_cons (de_call h__law_core hr z (List.Mem.head _) (da_cons (de_var (i := 0)) (da_cons (de_var (i := 1)) da_nil))) (da_cons (de_call h__law_grid hr z (List.Mem.head _) (da_cons (de_call h__law_word hr z (List.Mem.head _) (da_cons (de_var (i := 0)) (da_cons de_int da_nil))) da_nil)) da_nil))) da_nil))))
    (dss_cons (ds_set (i := 3) hnd (de_call h__law_of hr z (List.Mem.head _) (da_cons (de_var (i := 0)) (da_cons (de_lst (da_cons de_int (da_cons de_int (da_cons de_int (da_cons de_int (da_cons de_int da_nil)))))) da_nil))))
    (dss_cons (ds_set (i := 2) hnd (de_tuple1 T.n_tuple (da_cons (de_lc rfl hnd (di_tup (de_var (i := 2))) (blkOk_by (own := [("_law_entry", 4)]) (by rfl)) (tg_name (i := 4) (by decide)) (fun _ _ _ _ _ => (pg_name (i := 4) hnd rfl (by first | exact Or.inl rfl | exact Or.inr rfl) (by first | exact .inl rfl | exact .inr rfl))) (fun _ _ _ _ _ _ => dts_nil) (fun _ _ _ _ _ _ => (de_mul (de_var (i := 3)) (de_var (i := 4))))) da_nil)))
    (dss_one (ds_ret (de_if (dt_eq hr (de_call h__law_pick hr z (List.Mem.head _) (da_cons (de_var (i := 0)) (da_cons de_int da_nil))) de_int) (de_tup (da_cons (de_ix (de_var (i := 2)) de_int) (da_cons (de_ix (de_var (i := 2)) de_int) (da_cons (de_ix (de_var (i := 2)) de_int) (da_cons (de_ix (de_var (i := 2)) de_int) da_nil))))) (de_var (i := 2)))))))), fun ds Ψ hl hc => ?_⟩
  obtain ⟨p, cap, rfl, hh, c0, c1, q⟩ := hc
  refine ⟨rfl, rfl, p, 3, rfl, hh, by decide, by decide, fun w1 M1 hw1 hl1 d1 => ?_⟩
  have hz1 : w1.length ≤ 3 := by omega
  refine ⟨rfl, rfl, _, rfl, (show w1.length ≤ 400000 by omega), ?_⟩
  refine ⟨rfl, rfl, p, cap, rfl, d1.1, by omega, by omega, fun t0 M2 sm0 nn0 dt0 dc0 le0 d2 => ?_⟩
  refine ⟨rfl, rfl, p, 3, rfl, d2.1, by decide, by decide, fun w2 M3 hw2 hl2 d3 => ?_⟩
  have hz2 : w2.length ≤ 3 := by omega
  refine ⟨rfl, rfl, _, rfl, (show w2.length ≤ 400000 by omega), ?_⟩
  have sw1 : Sm 7 (wL w1) := (sm_wL w1).mono (by omega)
  have sw2 : Sm 7 (wL w2) := (sm_wL w2).mono (by omega)
  refine ⟨rfl, rfl, t0, wL w2, 10, 7, rfl, sm0, sw2, by decide, by decide, by decide, ?_⟩
  refine ⟨rfl, rfl, wL w1, _, 7, _, rfl, sw1, sm0.mul sw2, by decide, by decide, by decide, ?_⟩
  have smt := sw1.mul (sm0.mul sw2)
  have nnt := (nn_wL w1).mul (nn0.mul (nn_wL w2))
  have dtt : 0 < det4 (mul4 (wL w1) (mul4 t0 (wL w2))) := by
    rw [det_mul, det_mul, det_wL, det_wL, Int.one_mul, Int.mul_one]
    exact dt0
  have hc1 : Le4 ((6 * cap : Nat) : Int) (mul4 t0 (wL w2)) := by
    obtain ⟨b1, b2, b3, b4⟩ := w3_le hw2 hz2
    have k1 : Le4 (2 * cap * 3) (mul4 t0 (wL w2)) := Le4.mul nn0 le0 ⟨b1, b2, b3, b4⟩ (by decide)
    rw [show (2 * (cap : Int) * 3) = ((6 * cap : Nat) : Int) by omega] at k1
    exact k1
  have hc2 := hc1.sum (nn0.mul (nn_wL w2))
  have hdc : det4 (mul4 t0 (wL w2)) = det4 t0 := by rw [det_mul, det_wL, Int.mul_one]
  have ml : ∀ (m : Int) t, 1 ≤ m → m ≤ 3 → (t = sc m (mul4 (wL w1) (mul4 t0 (wL w2))) ∨ t = sw4' (sc m (mul4 (wL w1) (mul4 t0 (wL w2))))) → Mil1 cap t := fun m t a b e => by
    refine mil1_mk hw1 hz1 (nn0.mul (nn_wL w2)) (by omega) (by omega) (by omega) ?_ c1 a b e
    obtain ⟨a1, a2, a3, a4⟩ := w3_le hw1 hz1
    have k2 : Le4 (2 * 3 * ((6 * cap : Nat) : Int)) (mul4 (wL w1) (mul4 t0 (wL w2))) := Le4.mul (nn_wL w1) ⟨a1, a2, a3, a4⟩ hc1 (by omega)
    rw [show (2 * 3 * ((6 * cap : Nat) : Int)) = 36 * cap by omega] at k2
    exact k2
  generalize mul4 (wL w1) (mul4 t0 (wL w2)) = t at smt ml ⊢
  refine ⟨ln (n := 5) rfl (by decide), ?_⟩
  refine ⟨rfl, rfl, p, _, _, rfl, d3.1, rfl, by decide, by decide, fun d M4 hd d4 => ?_⟩
  obtain ⟨m, m0, m1, rfl⟩ : ∃ m : Int, 0 < m ∧ m ≤ 3 ∧ d = .int m := by
    simp only [List.mem_cons, List.not_mem_nil, or_false] at hd
    rcases hd with rfl | rfl | rfl | rfl | rfl
    · exact ⟨1, by decide, by decide, rfl⟩
    · exact ⟨1, by decide, by decide, rfl⟩
    · exact ⟨1, by decide, by decide, rfl⟩
    · exact ⟨2, by decide, by decide, rfl⟩
    · exact ⟨3, by decide, by decide, rfl⟩
  refine compD_map (xs := tL t) (S := fun _ => True) (fun K h => ⟨_, rfl, h⟩) (mulB m) trivial (ln (n := 4) rfl (by decide)) (fun d hd Q h => ?_) ?_
  · unfold tL at hd
    simp only [List.mem_cons, List.not_mem_nil, or_false] at hd
    have hm : m.natAbs < 2 ^ 40 := by omega
    rcases hd with rfl | rfl | rfl | rfl <;> exact ⟨mok_l hm, h⟩
  have e4 : (tL t).map (mulB m) = tL (sc m t) := rfl
  rw [e4]
  have ml1 : Mil1 cap (sc m t) := ml m _ (by omega) m1 (.inl rfl)
  have ml2 : Mil1 cap (sw4' (sc m t)) := ml m _ (by omega) m1 (.inr rfl)
  generalize sc m t = u at ml1 ml2 ⊢
  have dr4 := ((d1.trans d2).trans d3).trans d4
  refine ⟨_, rfl, ?_⟩
  refine ⟨rfl, rfl, p, 3, rfl, d4.1, by decide, by decide, fun k M5 k0 k1 d5 => ?_⟩
  refine eqI ?_
  refine bl_c (fun _ => ?_) (fun _ => ?_)
  · exact ⟨ln (n := 4) rfl (by decide), _, _, .same, q (sw4' u) M5 ml2 (dr4.trans d5)⟩
  · exact ⟨_, _, .same, q u M5 ml1 (dr4.trans d5)⟩
def c__law_some : Ct := fun ds M Ψ _ => ∃ (p : Addr) (n : Int), ds = [.ref p, .int n] ∧ HandAt M p ∧ 1 ≤ n ∧ n ≤ 1000 ∧ ∀ w M', LR w → w ≠ [] → (w.length : Int) ≤ n → Dr p M M' → Ψ (.str ⟨w.toArray⟩) M'
theorem ok__law_some {f : Addr} {fd : FuncData} {dvs : List V} {kws : List (Str × V)} (T : Txt K mg) (h__law_of : Gf P w K mg base "_law_of" 3 (c__law_of) b__law_of) (h__law_word : Gf P w K mg base "_law_word" 4 (c__law_word) b__law_word) (F : FnZ K "_law_some" "_law_some" s__law_some dvs kws f fd) : FnOk P w K mg base (L2.CX P w) 5 f fd ["_law_hand_here", "_law_peak"] (spC K ["_law_hand_here", "_law_peak"].length (c__law_some)) := by
  have hnd := sc__law_some.nd
  refine fnD F sc__law_some (c__law_some) fun cdv A outer s H E B Ξ hr z => ⟨_, (dss_one (ds_ret (de_add (de_call h__law_of hr z (List.Mem.head _) (da_cons (de_var (i := 0)) (da_cons de_str da_nil))) (de_call h__law_word hr z (List.Mem.head _) (da_cons (de_var (i := 0)) (da_cons (de_sub (de_var (i := 1)) de_int) da_nil)))))), fun ds Ψ hl hc => ?_⟩
  obtain ⟨p, n, rfl, hh, n0, n1, q⟩ := hc
  refine ⟨rfl, rfl, p, _, _, rfl, hh, rfl, (by decide), (by decide), fun d M1 hd d1 => ?_⟩
  obtain ⟨c, hc, rfl⟩ := signs_mem hd
  have hc := lr_mem.mp hc
  refine ⟨rfl, rfl, p, n - 1, rfl, d1.1, by omega, by omega, fun w M2 lw hw d2 => ?_⟩
  rw [one_w]
  refine add_w (by show 1 ≤ 400000; decide) (by omega) ?_
  exact ⟨_, _, .same, q _ _ (LR.app (fun x hx => by have : x = c := by simpa using hx
                                                    rw [this]; exact hc) lw) (by simp) (by rw [List.length_append]; show ((1 + w.length : Nat) : Int) ≤ n; omega) (d1.trans d2)⟩
def c__law_leaf : Ct := fun ds M Ψ _ => ∃ (p : Addr) (ks : List Str), ds = [.ref p, .lst (ks.map .str)] ∧ HandAt M p ∧ ks.length ≤ 100 ∧ (∀ x ∈ ks, NameOk x) ∧ ∀ q M', PgOk q → pgIn q = [] → (∀ x ∈ pgU q, x ∈ ks) → Dr p M M' → Ψ (pgD q) M'
theorem ok__law_leaf {f : Addr} {fd : FuncData} {dvs : List V} {kws : List (Str × V)} (T : Txt K mg) (h__law_pick : Gf P w K mg base "_law_pick" 2 (c__law_pick) b__law_pick) (h__law_of : Gf P w K mg base "_law_of" 3 (c__law_of) b__law_of) (h__law_mill : Gf P w K mg base "_law_mill" 5 (c__law_mill) b__law_mill) (h__law_some : Gf P w K mg base "_law_some" 5 (c__law_some) b__law_some) (h__law_core : Gf P w K mg base "_law_core" 4 (c__law_core) b__law_core) (F : FnZ K "_law_leaf" "_law_leaf" s__law_leaf dvs kws f fd) : FnOk P w K mg base (L2.CX P w) 6 f fd ["_law_hand_here", "_law_known"] (spC K ["_law_hand_here", "_law_known"].length (c__law_leaf)) := by
  have hnd := sc__law_leaf.nd
  refine fnD F sc__law_leaf (c__law_leaf) fun cdv A outer s H E B Ξ hr z => ⟨_, (dss_cons (ds_if (dw_and (dt_ne hr (de_var (i := 1)) (de_lst da_nil)) (dw_and1 (dt_eq hr (de_call h__law_pick hr z (List.Mem.head _) (da_cons (de_var (i := 0)) (da_cons de_int da_nil))) de_int))).pt (dss_one (ds_ret (de_tup (da_cons de_str (da_cons (de_call h__law_of hr z (List.Mem.head _) (da_cons (de_var (i := 0)) (da_cons (de_var (i := 1)) da_nil))) da_nil))))) dss_nil)
    (dss_cons (ds_set (i := 2) hnd (de_call h__law_mill hr z (List.Mem.head _) (da_cons (de_var (i := 0)) (da_cons de_int da_nil))))
    (dss_cons (ds_set (i := 2) hnd (de_ifV (dt_lt (de_maxA rfl hr T.n_max (da_cons (de_var (i := 2)) da_nil)) de_int) (de_var (i := 2)) (de_tup (da_cons de_int (da_cons de_int (da_cons de_int (da_cons de_int da_nil)))))))
    (dss_one (ds_ret (de_call h__law_of hr z (List.Mem.head _) (da_cons (de_var (i := 0)) (da_cons (de_lst (da_cons (de_tup (da_cons de_str (da_cons (de_var (i := 2)) da_nil))) (da_cons (de_tup (da_cons de_str (da_cons (de_call h__law_some hr z (List.Mem.head _) (da_cons (de_var (i := 0)) (da_cons de_int da_nil))) da_nil))) (da_cons (de_tup (da_cons de_str da_nil)) (da_cons (de_tup (da_cons de_str (da_cons (de_call h__law_core hr z (List.Mem.head _) (da_cons (de_var (i := 0)) (da_cons de_int da_nil))) da_nil))) da_nil))))) da_nil)))))))), fun ds Ψ hl hc => ?_⟩
  obtain ⟨p, ks, rfl, hh, hl, hks, q⟩ := hc
  rw [show ent (["_law_hand_here", "_law_known", "_law_entries"] : List Str).length [D.ref p, .lst (ks.map .str)] = [some (.ref p), some (.lst (ks.map .str)), none] from rfl]
  try dsimp only [List.set, getS_z, getS_s, bin2, bin2T, ltD, leD, gtD, geD, cmp_i, add_i, sub_i, min2_i, max2_i]
  refine ⟨ln (n := 0) rfl (by decide), nePlL rfl rfl (PlL.of (n := 0) fun d hd => ?_) (PlL.nil (n := 0)) (fun b hb => ?_)⟩
  · obtain ⟨x, hx, rfl⟩ := List.mem_map.mp hd
    exact .str (strOk_of fun c hc => by have := (hks x hx).2.2.2.2 c hc; omega)
  refine bl_c (fun e => ?_) (fun e => ?_)
  · refine ite_t rfl ?_
    refine ⟨rfl, rfl, p, 3, rfl, hh, by decide, by decide, fun k M1 k0 k1 dr => ?_⟩
    refine eqI ?_
    refine bl_c (fun e2 => ?_) (fun e2 => ?_)
    · refine ite_t rfl ?_
      have ks0 : ks ≠ [] := fun z => by
        rw [z] at hb
        rw [hb.mpr rfl] at e
        simp at e
      have kp : 0 < ks.length := List.length_pos_iff.mpr ks0
      refine ⟨rfl, rfl, p, _, _, rfl, dr.1, rfl, by rw [List.length_map]; exact kp, by rw [List.length_map]; omega, fun d M2 hd d2 => ?_⟩
      obtain ⟨x, hx, rfl⟩ := List.mem_map.mp hd
      refine ⟨ln (n := 2) rfl (by decide), _, _, .same, ?_⟩
      have := q (.use x) M2 (hks x hx) rfl (by simp [pgU, hx]) (dr.trans d2)
      rw [pgD] at this
      exact this
    · refine ite_f rfl ?_
      refine ⟨rfl, rfl, p, 3, rfl, dr.1, by decide, by decide, fun t M2 ml d2 => ?_⟩
      obtain ⟨hm, hle⟩ := foldl_max [t.2.1, t.2.2.1, t.2.2.2] t.1
      refine ⟨t.1, [t.2.1, t.2.2.1, t.2.2.2], .inr rfl, ?_⟩
      generalize [t.2.1, t.2.2.1, t.2.2.2].foldl max t.1 = m at *
      have okt : ∃ t' : T4, TabOk t' ∧ (m < 61 → t' = t) ∧ (¬ m < 61 → t' = (2, 1, 0, 1)) := by
        by_cases e : m < 61
        · refine ⟨t, ⟨ml.nn, ?_, ?_, ?_, ?_, ml.det⟩, fun _ => rfl, fun h => absurd e h⟩
          · have := hle t.1 (by simp); omega
          · have := hle t.2.1 (by simp); omega
          · have := hle t.2.2.1 (by simp); omega
          · have := hle t.2.2.2 (by simp); omega
        · exact ⟨(2, 1, 0, 1), ⟨⟨by decide, by decide, by decide, by decide⟩, by decide, by decide, by decide, by decide, by decide⟩, fun h => absurd h e, fun _ => rfl⟩
      obtain ⟨t', ht', et1, et2⟩ := okt
      refine bl_v ?_
      refine ⟨tD t', fun e => ?_, fun e => ?_, ?_⟩
      · rw [et1 (of_decide_eq_true e)]
        exact ⟨rfl, rfl⟩
      · rw [et2 (of_decide_eq_false e)]
        exact ⟨(Nat.le_of_ble_eq_true rfl), rfl, rfl⟩
      refine ⟨ln (n := 2) rfl (by decide), rfl, rfl, p, 4, rfl, d2.1, by decide, by decide, fun w M3 lw wn w4 d3 => ?_⟩
      refine ⟨ln (n := 2) rfl (by decide), ln (n := 1) rfl (by decide), rfl, rfl, p, 4, rfl, d3.1, by decide, by decide, fun c M4 _ cn cd _ cl d4 => ?_⟩
      refine ⟨ln (n := 2) rfl (by decide), ln (n := 4) rfl (by decide), rfl, rfl, p, _, _, rfl, d4.1, rfl, (Nat.le_of_ble_eq_true rfl), (Nat.le_of_ble_eq_true rfl), fun d M5 hd d5 => ?_⟩
      have hdr : Dr p B.M M5 := (((dr.trans d2).trans d3).trans d4).trans d5
      have fin : ∀ pg : Pg, d = pgD pg → PgOk pg → pgIn pg = [] → pgU pg = [] → rtF B.M Ψ d M5 := fun pg e a b c => by
        rw [e]
        exact ⟨_, _, .same, q pg M5 a b (by rw [c]; simp) hdr⟩
      simp only [List.mem_cons, List.not_mem_nil, or_false] at hd
      rcases hd with hd | hd | hd | hd
      · exact fin (.tab t') (by rw [hd, pgD]) ht' rfl (by simp [pgU])
      · refine fin (.trn ⟨w.toArray⟩) (by rw [hd, pgD]) ⟨by simpa using lw, ?_, ?_⟩ rfl (by simp [pgU])
        · have : 0 < w.length := List.length_pos_iff.mpr wn
          show 1 ≤ w.toArray.size
          rw [List.size_toArray]
          omega
        · show w.toArray.size ≤ 60
          rw [List.size_toArray]
          omega
      · exact fin .swp (by rw [hd, pgD]) trivial rfl (by simp [pgU])
      · obtain ⟨c1, c2, c3, c4⟩ := cl
        exact fin (.tab c) (by rw [hd, pgD]) ⟨cn, by omega, by omega, by omega, by omega, by omega⟩ rfl (by simp [pgU])
  · refine ite_f rfl ?_
    have dr : Dr p B.M B.M := Dr.refl hh
    refine ⟨rfl, rfl, p, 3, rfl, dr.1, by decide, by decide, fun t M2 ml d2 => ?_⟩
    obtain ⟨hm, hle⟩ := foldl_max [t.2.1, t.2.2.1, t.2.2.2] t.1
    refine ⟨t.1, [t.2.1, t.2.2.1, t.2.2.2], .inr rfl, ?_⟩
    generalize [t.2.1, t.2.2.1, t.2.2.2].foldl max t.1 = m at *
    have okt : ∃ t' : T4, TabOk t' ∧ (m < 61 → t' = t) ∧ (¬ m < 61 → t' = (2, 1, 0, 1)) := by
      by_cases e : m < 61
      · refine ⟨t, ⟨ml.nn, ?_, ?_, ?_, ?_, ml.det⟩, fun _ => rfl, fun h => absurd e h⟩
        · have := hle t.1 (by simp); omega
        · have := hle t.2.1 (by simp); omega
        · have := hle t.2.2.1 (by simp); omega
        · have := hle t.2.2.2 (by simp); omega
      · exact ⟨(2, 1, 0, 1), ⟨⟨by decide, by decide, by decide, by decide⟩, by decide, by decide, by decide, by decide, by decide⟩, fun h => absurd h e, fun _ => rfl⟩
    obtain ⟨t', ht', et1, et2⟩ := okt
    refine bl_v ?_
    refine ⟨tD t', fun e => ?_, fun e => ?_, ?_⟩
    · rw [et1 (of_decide_eq_true e)]
      exact ⟨rfl, rfl⟩
    · rw [et2 (of_decide_eq_false e)]
      exact ⟨(Nat.le_of_ble_eq_true rfl), rfl, rfl⟩
    refine ⟨ln (n := 2) rfl (by decide), rfl, rfl, p, 4, rfl, d2.1, by decide, by decide, fun w M3 lw wn w4 d3 => ?_⟩
    refine ⟨ln (n := 2) rfl (by decide), ln (n := 1) rfl (by decide), rfl, rfl, p, 4, rfl, d3.1, by decide, by decide, fun c M4 _ cn cd _ cl d4 => ?_⟩
    refine ⟨ln (n := 2) rfl (by decide), ln (n := 4) rfl (by decide), rfl, rfl, p, _, _, rfl, d4.1, rfl, (Nat.le_of_ble_eq_true rfl), (Nat.le_of_ble_eq_true rfl), fun d M5 hd d5 => ?_⟩
    have hdr : Dr p B.M M5 := (((dr.trans d2).trans d3).trans d4).trans d5
    have fin : ∀ pg : Pg, d = pgD pg → PgOk pg → pgIn pg = [] → pgU pg = [] → rtF B.M Ψ d M5 := fun pg e a b c => by
      rw [e]
      exact ⟨_, _, .same, q pg M5 a b (by rw [c]; simp) hdr⟩
    simp only [List.mem_cons, List.not_mem_nil, or_false] at hd
    rcases hd with hd | hd | hd | hd
    · exact fin (.tab t') (by rw [hd, pgD]) ht' rfl (by simp [pgU])
    · refine fin (.trn ⟨w.toArray⟩) (by rw [hd, pgD]) ⟨by simpa using lw, ?_, ?_⟩ rfl (by simp [pgU])
      · have : 0 < w.length := List.length_pos_iff.mpr wn
        show 1 ≤ w.toArray.size
        rw [List.size_toArray]
        omega
      · show w.toArray.size ≤ 60
        rw [List.size_toArray]
        omega
    · exact fin .swp (by rw [hd, pgD]) trivial rfl (by simp [pgU])
    · obtain ⟨c1, c2, c3, c4⟩ := cl
      exact fin (.tab c) (by rw [hd, pgD]) ⟨cn, by omega, by omega, by omega, by omega, by omega⟩ rfl (by simp [pgU])
def c__law_shape (dp : Nat) : Ct := fun ds M Ψ _ => ∃ (p : Addr) (n : Nat) (ks : List Str), ds = [.ref p, .int n, .lst (ks.map .str)] ∧ HandAt M p ∧ n + 1 ≤ dp ∧ n ≤ 8 ∧ ks.length ≤ 100 ∧ (∀ x ∈ ks, NameOk x) ∧ ∀ q M', PgOk q → pgK q ≤ n + 1 → pgN q ≤ shB n → (∀ x ∈ pgU q, x ∈ ks) → Dr p M M' → Ψ (pgD q) M'
theorem no__law_shape : ∀ (ds : List D) (M : Sto) (Ψ : PD) (Ξ : XD → Sto → Prop), ¬ c__law_shape 0 ds M Ψ Ξ := fun _ _ _ _ ⟨_, n, _, _, _, hk, _⟩ => by omega
theorem ok__law_shape {f : Addr} {fd : FuncData} {dvs : List V} {kws : List (Str × V)} (T : Txt K mg) {lv dp : Nat} (hlv : 6 ≤ lv) (h__law_shape : Gf P w K mg base "_law_shape" lv (c__law_shape dp) b__law_shape) (h__law_pick : Gf P w K mg base "_law_pick" 2 (c__law_pick) b__law_pick) (h__law_leaf : Gf P w K mg base "_law_leaf" 6 (c__law_leaf) b__law_leaf) (h__law_of : Gf P w K mg base "_law_of" 3 (c__law_of) b__law_of) (F : FnZ K "_law_shape" "_law_shape" s__law_shape dvs kws f fd) : FnOk P w K mg base (L2.CX P w) (lv + 1) f fd ["_law_hand_here", "_law_deep", "_law_known"] (spC K ["_law_hand_here", "_law_deep", "_law_known"].length (c__law_shape (dp + 1))) := by
  have hnd := sc__law_shape.nd
  refine fnD F sc__law_shape (c__law_shape (dp + 1)) fun cdv A outer s H E B Ξ hr z => ⟨_, (dss_cons (ds_set (i := 3) hnd (de_call (hj := by omega) h__law_pick hr z (List.Mem.head _) (da_cons (de_var (i := 0)) (da_cons de_int da_nil))))
    (dss_cons (ds_if (dw_orV (dt_eq hr (de_var (i := 1)) de_int) (dw_or1 (dt_lt (de_var (i := 3)) de_int))).pt (dss_one (ds_ret (de_call (hj := by omega) h__law_leaf hr z (List.Mem.head _) (da_cons (de_var (i := 0)) (da_cons (de_var (i := 2)) da_nil))))) dss_nil)
    (dss_cons (ds_if (dt_eq hr (de_var (i := 3)) de_int) (dss_one (ds_ret (de_tup (da_cons de_str (da_cons (de_call (hj := by omega) h__law_of hr z (List.Mem.head _) (da_cons (de_var (i := 0)) (da_cons (de_lst (da_cons de_int (da_cons de_int (da_cons de_int (da_cons de_int (da_cons de_int da_nil)))))) da_nil))) (da_cons (de_call (hj := by omega) h__law_shape hr z (List.Mem.head _) (da_cons (de_var (i := 0)) (da_cons (de_sub (de_var (i := 1)) de_int) (da_cons (de_var (i := 2)) da_nil)))) da_nil)))))) dss_nil)
    (dss_one (ds_ret (de_add (de_tup (da_cons de_str da_nil)) (de_tuple1 T.n_tuple (da_cons (de_lc rfl hnd (di_range1 T.n_range (da_cons (de_add de_int (de_call (hj := by omega) h__law_of hr z (List.Mem.head _) (da_cons (de_var (i := 0)) (da_cons (de_lst (da_cons de_int (da_cons de_int (da_cons de_int (da_cons de_int da_nil))))) da_nil)))) da_nil)) (blkOk_by (own := [("_law_k", 4)]) (by rfl)) (tg_name (i := 4) (by decide)) (fun _ _ _ _ _ => (pg_name (i := 4) hnd rfl (by first | exact Or.inl rfl | exact Or.inr rfl) (by first | exact .inl rfl | exact .inr rfl))) (fun _ _ _ _ _ _ => dts_nil) (fun _ _ _ _ _ _ => (de_call (hj := by omega) h__law_shape hr zx_blk (List.Mem.head _) (da_cons (de_var (i := 0)) (da_cons (de_sub (de_var (i := 1)) de_int) (da_cons (de_var (i := 2)) da_nil)))))) da_nil)))))))), fun ds Ψ hl hc => ?_⟩
  obtain ⟨p, n, ks, rfl, hh, hn, hn8, hkl, hks, q⟩ := hc
  rw [show ent (["_law_hand_here", "_law_deep", "_law_known", "_law_way", "_law_k"] : List Str).length [D.ref p, .int n, .lst (ks.map .str)] = [some (.ref p), some (.int n), some (.lst (ks.map .str)), none, none] from rfl]
  try dsimp only [List.set, getS_z, getS_s, bin2, bin2T, ltD, leD, gtD, geD, cmp_i, add_i, sub_i, min2_i, max2_i]
  refine ⟨rfl, rfl, p, 6, rfl, hh, by decide, by decide, fun k M1 k0 k1 dr => ?_⟩
  refine eqI ?_
  refine bl_v ?_
  refine ⟨decide (k < 2), fun e => bl_v ⟨rfl, rfl⟩, ?_⟩
  by_cases e : n = 0 ∨ k < 2
  · refine ite_t (by rcases e with e | e; rw [e]; rfl; rw [decide_eq_true e, Bool.or_true]) ?_
    refine ⟨rfl, rfl, p, ks, rfl, dr.1, hkl, hks, fun pg M2 po pi pu d2 => ⟨_, _, .same, q pg M2 po ?_ ?_ pu (dr.trans d2)⟩⟩
    · have := (leaf_k pi po).1
      omega
    · have := (leaf_k pi po).2
      have := shB_pos n
      omega
  have en : ¬ n = 0 := fun z => e (.inl z)
  refine ite_f (by rw [decide_eq_false (by omega : ¬ (n : Int) = 0), decide_eq_false fun z => e (.inr z)]; rfl) ?_
  obtain ⟨n, rfl⟩ : ∃ m, n = m + 1 := ⟨n - 1, by omega⟩
  have e1 : ((n + 1 : Nat) : Int) - 1 = (n : Int) := by omega
  refine eqI ?_
  refine bl_c (fun e2 => ?_) (fun e2 => ?_)
  · refine ite_t rfl ?_
    refine ⟨ln (n := 5) rfl (by decide), rfl, rfl, p, _, _, rfl, dr.1, rfl, (Nat.le_of_ble_eq_true rfl), (Nat.le_of_ble_eq_true rfl), fun d M2 hd d2 => ?_⟩
    obtain ⟨m, rfl, m0, m1⟩ : ∃ m : Int, d = .int m ∧ 0 ≤ m ∧ m ≤ 12 := by
      simp only [List.mem_cons, List.not_mem_nil, or_false] at hd
      rcases hd with rfl | rfl | rfl | rfl | rfl
      · exact ⟨0, rfl, by decide, by decide⟩
      · exact ⟨1, rfl, by decide, by decide⟩
      · exact ⟨2, rfl, by decide, by decide⟩
      · exact ⟨3, rfl, by decide, by decide⟩
      · exact ⟨12, rfl, by decide, by decide⟩
    rw [e1]
    refine ⟨rfl, rfl, p, n, ks, rfl, d2.1, by omega, by omega, hkl, hks, fun pg M3 po pk pn pu d3 => ⟨ln (n := 3) rfl (by decide), _, _, .same, ?_⟩⟩
    have := q (.tms m pg) M3 ⟨⟨m0, m1⟩, po⟩ (by rw [pgK]; omega) (by rw [pgN, shB]; have := shB_pos n; omega) (by rw [pgU]; exact pu) ((dr.trans d2).trans d3)
    rw [pgD] at this
    exact this
  refine ite_f rfl ?_
  refine ⟨ln (n := 1) rfl (by decide), ?_⟩
  refine compD_of (fun xs S M2 => ∃ j : Nat, 2 ≤ j ∧ j ≤ 6 ∧ xs = rngD 0 j ∧ S = (fun _ => True) ∧ Dr p B.M M2) (fun K h => ?_) (fun xs S M2 ⟨j, j0, j1, ex1, ex2, dr2⟩ => ?_)
  · refine ⟨ln (n := 4) rfl (by decide), rfl, rfl, p, _, _, rfl, dr.1, rfl, (Nat.le_of_ble_eq_true rfl), (Nat.le_of_ble_eq_true rfl), fun d M2 hd d2 => ?_⟩
    have hd : ∃ m : Nat, d = .int (m : Int) ∧ m ≤ 4 := by
      simp only [List.mem_cons, List.not_mem_nil, or_false] at hd
      rcases hd with rfl | rfl | rfl | rfl
      · exact ⟨0, rfl, by decide⟩
      · exact ⟨0, rfl, by decide⟩
      · exact ⟨1, rfl, by decide⟩
      · exact ⟨4, rfl, by decide⟩
    obtain ⟨m, rfl, m1⟩ := hd
    exact ⟨⟨by omega, by omega⟩, h _ _ _ ⟨m + 2, by omega, by omega, by rw [show ((2 : Int) + (m : Int)).toNat = m + 2 by omega], rfl, dr.trans d2⟩⟩
  subst ex1 ex2
  refine comp_st (Dr p B.M) (fun _ y => ∃ pg, y = pgD pg ∧ PgOk pg ∧ pgK pg ≤ n + 1 ∧ pgN pg ≤ shB n ∧ ∀ x ∈ pgU pg, x ∈ ks) dr2 (fun _ _ => trivial) (by rw [rng_len]; exact Nat.le_trans (by omega) big_ok) (fun d hd M' I Q hQ => ?_) (fun acc M' I hl2 hy => ?_)
  · exact ⟨rfl, rfl, p, n, ks, by rw [← e1], I.1, by omega, by omega, hkl, hks, fun pg M3 po pk pn pu d3 => hQ _ _ (I.trans d3) ⟨pg, rfl, po, pk, pn, pu⟩⟩
  · have hall : ∀ y ∈ acc, ∃ pg, y = pgD pg ∧ PgOk pg ∧ pgK pg ≤ n + 1 ∧ pgN pg ≤ shB n ∧ ∀ x ∈ pgU pg, x ∈ ks := fun y hm => by
      obtain ⟨i, hi, e⟩ := List.getElem_of_mem hm
      have hi2 : i < (rngD 0 j).length := hl2 ▸ hi
      exact hy i _ y (List.getElem?_eq_getElem hi2) (by rw [List.getElem?_eq_getElem hi, e])
    obtain ⟨l, rfl, el, hp⟩ := pgDs_of hall
    rw [rng_len] at hl2
    refine ⟨_, rfl, ?_⟩
    refine ⟨Nat.le_trans (show 1 + (pgDs l).length ≤ 1000000 by omega) big_ok, _, _, .same, ?_⟩
    have := q (.thn l) M' ⟨⟨by omega, by omega⟩, pgOks_iff.mpr fun x hx => (hp x hx).1⟩ (by rw [pgK]; have := pgKs_le (l := l) (k := n + 1) fun x hx => (hp x hx).2.1; omega) (by
      rw [pgN, shB]
      have h1 := pgNs_le (l := l) (k := shB n) fun x hx => (hp x hx).2.2.1
      have h2 : l.length * shB n ≤ 6 * shB n := Nat.mul_le_mul_right _ (by omega)
      omega) (by rw [pgU]; exact pgUs_sub fun x hx => (hp x hx).2.2.2) I
    rw [pgD] at this
    exact this
def c__law_bent : Ct := fun ds M Ψ _ => ∃ (p : Addr) (t : List Nat) (x : Str), ds = [.ref p, .str ⟨t.toArray⟩, .str x] ∧ HandAt M p ∧ t.length ≤ 100000 ∧ x.cps.size ≤ 1000 ∧ ∀ (t' : List Nat) (M' : Sto), t'.length ≤ t.length + 1 → Dr p M M' → Ψ (.str ⟨t'.toArray⟩) M'
theorem ok__law_bent {f : Addr} {fd : FuncData} {dvs : List V} {kws : List (Str × V)} (T : Txt K mg) (h__law_pick : Gf P w K mg base "_law_pick" 2 (c__law_pick) b__law_pick) (h__law_of : Gf P w K mg base "_law_of" 3 (c__law_of) b__law_of) (F : FnZ K "_law_bent" "_law_bent" s__law_bent dvs kws f fd) : FnOk P w K mg base (L2.CX P w) 4 f fd ["_law_hand_here", "_law_wording", "_law_marks"] (spC K ["_law_hand_here", "_law_wording", "_law_marks"].length (c__law_bent)) := by
  have hnd := sc__law_bent.nd
  refine fnD F sc__law_bent (c__law_bent) fun cdv A outer s H E B Ξ hr z => ⟨_, (dss_cons (ds_par (i := 3) (j := 4) rfl hnd (da_cons (de_call h__law_pick hr z (List.Mem.head _) (da_cons (de_var (i := 0)) (da_cons (de_add (de_len T.n_len (da_cons (de_var (i := 1)) da_nil)) de_int) da_nil))) (da_cons (de_call h__law_of hr z (List.Mem.head _) (da_cons (de_var (i := 0)) (da_cons (de_add (de_listS rfl T.n_list (da_cons (de_var (i := 2)) da_nil)) (de_lst (da_cons de_str da_nil))) da_nil))) da_nil)))
    (dss_one (ds_ret (de_add (de_add (de_slice (de_var (i := 1)) do_none (do_some (de_var (i := 3)))) (de_var (i := 4))) (de_slice (de_var (i := 1)) (do_some (de_add (de_var (i := 3)) (de_call h__law_pick hr z (List.Mem.head _) (da_cons (de_var (i := 0)) (da_cons de_int da_nil))))) do_none))))), fun ds Ψ hl hc => ?_⟩
  obtain ⟨p, t, x, rfl, hh, ht, hx, q⟩ := hc
  rw [show ent (["_law_hand_here", "_law_wording", "_law_marks", "_law_at", "_law_sign"] : List Str).length [D.ref p, .str ⟨t.toArray⟩, .str x] = [some (.ref p), some (.str ⟨t.toArray⟩), some (.str x), none, none] from rfl]
  try dsimp only [List.set, getS_z, getS_s, bin2, bin2T, ltD, leD, gtD, geD, cmp_i, add_i, sub_i, min2_i, max2_i]
  have lt' : ((⟨t.toArray⟩ : Str).length : Int) = t.length := by show ((t.toArray.size : Nat) : Int) = _; rw [List.size_toArray]
  have ltok : (⟨t.toArray⟩ : Str).length ≤ sizeLine := Nat.le_trans (show t.toArray.size ≤ 1000000 by rw [List.size_toArray]; omega) big_ok
  refine ⟨ltok, ?_⟩
  rw [lt']
  refine ⟨rfl, rfl, p, _, rfl, hh, by omega, by omega, fun n M1 n0 n1 d1 => ?_⟩
  try dsimp only [List.set, getS_z, getS_s, bin2, bin2T, ltD, leD, gtD, geD, cmp_i, add_i, sub_i, min2_i, max2_i]
  refine ⟨Nat.le_trans (show x.cps.size ≤ 1000000 by omega) big_ok, ?_⟩
  refine ⟨ln (n := 1) rfl (by decide), ?_⟩
  refine ⟨_, _, rfl, rfl, ?_, ?_⟩
  · rw [List.length_map]
    refine Nat.le_trans (show x.cps.toList.length + 1 ≤ 1000000 by rw [Array.length_toList]; omega) big_ok
  refine ⟨rfl, rfl, p, _, _, rfl, d1.1, rfl, ?_, ?_, fun d M2 hd2 d2 => ?_⟩
  · rw [List.length_append, List.length_map]
    show 1 ≤ _ + 1
    omega
  · rw [List.length_append, List.length_map, Array.length_toList]
    show x.cps.size + 1 ≤ _
    omega
  obtain ⟨s', rfl, hs'⟩ : ∃ s' : List Nat, d = .str ⟨s'.toArray⟩ ∧ s'.length ≤ 1 := by
    rcases List.mem_append.mp hd2 with h | h
    · obtain ⟨c, _, rfl⟩ := List.mem_map.mp h
      exact ⟨[c], rfl, by simp⟩
    · rw [List.mem_singleton] at h
      exact ⟨[], h, by simp⟩
  try dsimp only [List.set, getS_z, getS_s, bin2, bin2T, ltD, leD, gtD, geD, cmp_i, add_i, sub_i, min2_i, max2_i]
  obtain ⟨n, rfl⟩ : ∃ j : Nat, n = j := ⟨n.toNat, by omega⟩
  refine inKI (sl_take (k := n) (by omega) ?_)
  refine addW rfl rfl (by simp; omega) ?_
  refine ⟨rfl, rfl, p, _, rfl, d2.1, by decide, by decide, fun m M3 m0 m1 d3 => ?_⟩
  obtain ⟨m, rfl⟩ : ∃ j : Nat, m = j := ⟨m.toNat, by omega⟩
  try dsimp only [List.set, getS_z, getS_s, bin2, bin2T, ltD, leD, gtD, geD, cmp_i, add_i, sub_i, min2_i, max2_i]
  rw [show ((n : Nat) : Int) + ((m : Nat) : Int) = ((n + m : Nat) : Int) by omega]
  refine inKI (sl_drop (k := n + m) (by omega) ?_)
  refine addW rfl rfl (by simp; omega) ⟨_, _, .same, q _ _ ?_ ((d1.trans d2).trans d3)⟩
  simp
  omega
def c__law_mark : Ct := fun ds M Ψ _ => ∃ (a : Addr) (t r m : List Nat), ds = [.str ⟨t.toArray⟩, .ref a, .str ⟨m.toArray⟩] ∧ M a = some (sptC t r) ∧ r <:+ t ∧ t.length ≤ 5000 ∧ m.length ≤ 100 ∧ (∀ r', stripP m r = some r' → Ψ (.bl true) (updM M a (sptC t r'))) ∧ (stripP m r = none → Ψ (.bl false) M)
theorem ok__law_mark {f : Addr} {fd : FuncData} {dvs : List V} {kws : List (Str × V)} (T : Txt K mg)  (F : FnZ K "_law_mark" "_law_mark" s__law_mark dvs kws f fd) : FnOk P w K mg base (L2.CX P w) 2 f fd ["_law_wording", "_law_spot", "_law_mark_here"] (spC K ["_law_wording", "_law_spot", "_law_mark_here"].length (c__law_mark)) := by
  have hnd := sc__law_mark.nd
  refine fnD F sc__law_mark (c__law_mark) fun cdv A outer s H E B Ξ hr z => ⟨_, (dss_cons (ds_set (i := 3) hnd (de_smN PySem.F.slot_str_startswith PySem.F.type_str_startswith mt_startswith3 ok_sw3 (de_var (i := 0)) (da_cons (de_var (i := 2)) (da_cons (de_ix (de_var (i := 1)) de_int) da_nil))))
    (dss_cons (ds_setix (de_add (de_ix (de_var (i := 1)) de_int) (de_mul (de_len T.n_len (da_cons (de_var (i := 2)) da_nil)) (de_int1 T.n_int (da_cons (de_var (i := 3)) da_nil)))) (de_var (i := 1)) de_int)
    (dss_one (ds_ret (de_var (i := 3)))))), fun ds Ψ hl hc => ?_⟩
  obtain ⟨a, t, r, m, rfl, ha, hs, ht, hm, q1, q2⟩ := hc
  rw [show ent (["_law_wording", "_law_spot", "_law_mark_here", "_law_here"] : List Str).length [.str ⟨t.toArray⟩, .ref a, .str ⟨m.toArray⟩] = [some (.str ⟨t.toArray⟩), some (.ref a), some (.str ⟨m.toArray⟩), none] from rfl]
  try dsimp only [List.set, getS_z, getS_s, bin2, bin2T, ltD, leD, gtD, geD, cmp_i, add_i, sub_i, min2_i, max2_i]
  refine ⟨trivial, sp_ix ha ?_⟩
  show sw3D B.M _ _ _
  unfold sw3D
  dsimp only
  rw [sw_rdr hs]
  have hlen : ((⟨m.toArray⟩ : Str).length : Int) = m.length := by show ((m.toArray.size : Nat) : Int) = _; rw [List.size_toArray]
  refine sp_ix ha ⟨Nat.le_trans (show m.toArray.size ≤ 1000000 by rw [List.size_toArray]; omega) big_ok, ?_⟩
  rw [hlen]
  show Z.intD _ [.bl (stripP m r).isSome] _
  have hmok : ∀ b : Int, b.natAbs < 2 ^ 2 → IntMulOk (m.length : Int) b := fun b hb => mok_of (a := 200) (b := 2) (show (m.length : Int).natAbs < 2 ^ 200 from Nat.lt_of_le_of_lt (show _ ≤ 100 by omega) (by decide)) hb
  cases hp : stripP m r with
  | none =>
    refine ⟨hmok 0 (by decide), ?_⟩
    refine sp_set (r' := r) ha ?_ ?_
    · rw [show (if (none : Option (List Nat)).isSome then (1 : Int) else 0) = 0 from rfl, Int.mul_zero, Int.add_zero]
    rw [updM_id ha]
    exact ⟨_, _, .same, q2 hp⟩
  | some r' =>
    have hl := stripP_len hp
    have hle := sfx_le hs
    refine ⟨hmok 1 (by decide), ?_⟩
    refine sp_set (r' := r') ha ?_ ⟨_, _, .same, q1 r' hp⟩
    rw [show (((t.length - r.length : Nat) : Int) + (m.length : Int) * (if (some r' : Option (List Nat)).isSome then (1 : Int) else 0)) = ((t.length - r'.length : Nat) : Int) from by
      rw [show (if (some r' : Option (List Nat)).isSome then (1 : Int) else 0) = 1 from rfl, Int.mul_one]
      omega]
def c__law_parsed (dp : Nat) : Ct := fun ds M Ψ _ => ∃ (a : Addr) (t r : List Nat) (k : Nat), ds = [.str ⟨t.toArray⟩, .ref a, .int (k : Nat)] ∧ M a = some (sptC t r) ∧ r <:+ t ∧ t.length ≤ 5000 ∧ k + 1 ≤ dp ∧ (∀ p r', prs k r = some (p, r') → Ψ (pgD p) (updM M a (sptC t r'))) ∧ (prs k r = none → ∀ r', Ψ .non (updM M a (sptC t r')))
theorem no__law_parsed : ∀ (ds : List D) (M : Sto) (Ψ : PD) (Ξ : XD → Sto → Prop), ¬ c__law_parsed 0 ds M Ψ Ξ := fun _ _ _ _ ⟨_, _, _, k, _, _, _, _, hk, _⟩ => by omega
def c__law_row_parsed (dp : Nat) : Ct := fun ds M Ψ _ => ∃ (a : Addr) (t r : List Nat) (k : Nat), ds = [.str ⟨t.toArray⟩, .ref a, .int ((k + 1 : Nat) : Int)] ∧ M a = some (sptC t r) ∧ r <:+ t ∧ r.length < t.length ∧ t.length ≤ 5000 ∧ k + 1 ≤ dp ∧ (∀ l r', rws (prs k) (r.length + 1) r = some (l, r') → Ψ (pgD (.thn l)) (updM M a (sptC t r'))) ∧ (rws (prs k) (r.length + 1) r = none → ∀ r', Ψ .non (updM M a (sptC t r')))
theorem ok__law_row_parsed {f : Addr} {fd : FuncData} {dvs : List V} {kws : List (Str × V)} (T : Txt K mg) {lv dp : Nat} (hlv : 3 ≤ lv) (h__law_parsed : Gf P w K mg base "_law_parsed" lv (c__law_parsed dp) b__law_parsed) (h__law_mark : Gf P w K mg base "_law_mark" 2 (c__law_mark) b__law_mark) (F : FnZ K "_law_row_parsed" "_law_row_parsed" s__law_row_parsed dvs kws f fd) : FnOk P w K mg base (L2.CX P w) (lv + 1) f fd ["_law_wording", "_law_spot", "_law_left"] (spC K ["_law_wording", "_law_spot", "_law_left"].length (c__law_row_parsed dp)) := by
  have hnd := sc__law_row_parsed.nd
  refine fnD F sc__law_row_parsed (c__law_row_parsed dp) fun cdv A outer s H E B Ξ hr z => ⟨_, (dss_cons (ds_set (i := 3) hnd (de_tup (da_cons de_str da_nil)))
    (dss_cons (ds_for z.po rfl (di_range1 T.n_range (da_cons (de_len T.n_len (da_cons (de_var (i := 0)) da_nil)) da_nil)) (dg_name (i := 4) hnd) (dss_cons (ds_set (i := 5) hnd (de_call (hj := by omega) h__law_parsed hr z (List.Mem.head _) (da_cons (de_var (i := 0)) (da_cons (de_var (i := 1)) (da_cons (de_sub (de_var (i := 2)) de_int) da_nil)))))
    (dss_cons (ds_if (dt_is (de_var (i := 5)) de_non) (dss_one (ds_ret de_non)) dss_nil)
    (dss_cons (ds_set (i := 3) hnd (de_add (de_var (i := 3)) (de_tup (da_cons (de_var (i := 5)) da_nil))))
    (dss_cons (ds_if (dt_val (de_call (hj := by omega) h__law_mark hr z (List.Mem.head _) (da_cons (de_var (i := 0)) (da_cons (de_var (i := 1)) (da_cons de_str da_nil))))) (dss_one (ds_ret (de_var (i := 3)))) dss_nil)
    (dss_one (ds_if (dt_not (dt_val (de_call (hj := by omega) h__law_mark hr z (List.Mem.head _) (da_cons (de_var (i := 0)) (da_cons (de_var (i := 1)) (da_cons de_str da_nil)))))) (dss_one (ds_ret de_non)) dss_nil)))))))
    (dss_one (ds_ret de_non)))), fun ds Ψ hl hc => ?_⟩
  obtain ⟨a, t, r, k, rfl, ha, hs, hrt, ht, hk, q1, q2⟩ := hc
  rw [show ent (["_law_wording", "_law_spot", "_law_left", "_law_found", "_law_k", "_law_part"] : List Str).length [.str ⟨t.toArray⟩, .ref a, .int ((k + 1 : Nat) : Int)] = [some (.str ⟨t.toArray⟩), some (.ref a), some (.int ((k + 1 : Nat) : Int)), none, none, none] from rfl]
  try dsimp only [List.set, getS_z, getS_s, bin2, bin2T, ltD, leD, gtD, geD, cmp_i, add_i, sub_i, min2_i, max2_i]
  have ek : ((k + 1 : Nat) : Int) - 1 = (k : Nat) := by omega
  have lr := sfx_le hs
  have lt' : ((⟨t.toArray⟩ : Str).length : Int) = t.length := by show ((t.toArray.size : Nat) : Int) = _; rw [List.size_toArray]
  have ltok : (⟨t.toArray⟩ : Str).length ≤ sizeLine := Nat.le_trans (show t.toArray.size ≤ 1000000 by rw [List.size_toArray]; omega) big_ok
  have et : (" then " : Str) = ⟨thenC.toArray⟩ := by decide +kernel
  have ep : (")" : Str) = ⟨[41].toArray⟩ := by decide +kernel
  refine ⟨ln (n := 1) rfl (by decide), ?_⟩
  refine forD_n (xs := rngD 0 t.length) (fun K h => ⟨ltok, ?_⟩) (fun i e M' => ∃ (o1 o2 : Option D) (acc : List Pg) (r1 : List Nat) (m : Nat), e = [some (.str ⟨t.toArray⟩), some (.ref a), some (.int ((k + 1 : Nat) : Int)), some (.tup (.str "then" :: pgDs acc)), o1, o2] ∧ M' = updM B.M a (sptC t r1) ∧ r1 <:+ t ∧ r1.length + i < t.length ∧ r1.length < m ∧ acc.length = i ∧ rws (prs k) (r.length + 1) r = match rws (prs k) m r1 with
      | none => none
      | some (l, r') => some (acc ++ l, r')) ⟨none, none, [], r, r.length + 1, by rw [pgDs], (updM_id ha).symm, hs, by omega, by omega, rfl, ?_⟩ (fun _ _ _ _ => trivial) (fun i d e M' hd h => ?_) (fun e M' h => ?_)
  · rw [lt']
    exact ⟨⟨by omega, by omega⟩, h⟩
  · cases rws (prs k) (r.length + 1) r with
    | none => rfl
    | some x => rfl
  · obtain ⟨o1, o2, acc, r1, m, rfl, rfl, h1, hi, hm, hacc, hr⟩ := h
    have ll1 := sfx_le h1
    obtain ⟨m, rfl⟩ : ∃ j, m = j + 1 := ⟨m - 1, by omega⟩
    rw [rws_succ (prs k) m r1] at hr
    try dsimp only [List.set, getS_z, getS_s, bin2, bin2T, ltD, leD, gtD, geD, cmp_i, add_i, sub_i, min2_i, max2_i]
    show callD _ _ _ _ _ [.str ⟨t.toArray⟩, .ref a, .int (((k + 1 : Nat) : Int) - 1)] _ _ _ _
    rw [ek]
    refine ⟨rfl, rfl, a, t, r1, k, rfl, updM_same, h1, ht, hk, fun p r2 h2 => ?_, fun h2 r2 => ?_⟩
    rotate_left
    · rw [h2] at hr
      rw [updM_updM]
      try dsimp only [List.set, getS_z, getS_s, bin2, bin2T, ltD, leD, gtD, geD, cmp_i, add_i, sub_i, min2_i, max2_i]
      refine bl_t rfl (ite_t rfl ⟨_, _, .same, q2 hr r2⟩)
    rw [h2] at hr
    dsimp only at hr
    have g2 := prs_got h2 (by omega)
    have pn := pgN_pos p
    have g22 := g2.2.1
    rw [updM_updM]
    try dsimp only [List.set, getS_z, getS_s, bin2, bin2T, ltD, leD, gtD, geD, cmp_i, add_i, sub_i, min2_i, max2_i]
    refine bl_f (pg_not_none p) (ite_f rfl ⟨ln (n := 1) rfl (by decide), ?_⟩)
    refine ⟨?_, ?_⟩
    · rw [List.length_cons, pgDs_map, List.length_map]
      exact Nat.le_trans (show acc.length + 1 + 1 ≤ 10000 by omega) (Nat.le_trans (by decide) big_ok)
    have ea : D.tup (D.str "then" :: pgDs acc ++ [pgD p]) = .tup (.str "then" :: pgDs (acc ++ [p])) := by
      rw [List.cons_append, pgDs_map, pgDs_map, List.map_append]
      rfl
    rw [ea]
    try dsimp only [List.set, getS_z, getS_s, bin2, bin2T, ltD, leD, gtD, geD, cmp_i, add_i, sub_i, min2_i, max2_i]
    refine ⟨rfl, rfl, a, t, r2, [41], by rw [ep], updM_same, g2.1.trans h1, ht, by decide, fun r3 h3 => ?_, fun h3 => ?_⟩
    · refine bl_t rfl (ite_t rfl ?_)
      rw [updM_updM]
      have e1 : stripP thenC r2 = none := by
        rw [stripP_some h3]
        exact stripP_ne (by decide)
      have := q1 (acc ++ [p]) r3 (by
        rw [hr]
        unfold rwt
        rw [e1]
        dsimp only
        rw [h3])
      rw [pgD] at this
      exact ⟨_, _, .same, this⟩
    · refine bl_f rfl (ite_f rfl ?_)
      refine ⟨rfl, rfl, a, t, r2, thenC, by rw [et], updM_same, g2.1.trans h1, ht, by decide, fun r3 h4 => ?_, fun h4 => ?_⟩
      · refine bl_t rfl (ite_f rfl ?_)
        rw [updM_updM]
        have l3 := stripP_len h4
        have l6 : thenC.length = 6 := rfl
        refine .of ⟨_, _, acc ++ [p], r3, m, rfl, rfl, stripP_sfx h4 (g2.1.trans h1), by omega, by omega, by rw [List.length_append, hacc]; rfl, ?_⟩
        rw [hr]
        unfold rwt
        rw [h4]
        dsimp only
        cases rws (prs k) m r3 with
        | none => rfl
        | some x => simp
      · refine bl_f rfl (ite_t rfl ⟨_, _, .same, ?_⟩)
        have := q2 (by
          rw [hr]
          unfold rwt
          rw [h4]
          dsimp only
          rw [h3]) r2
        exact this
  · obtain ⟨o1, o2, acc, r1, m, rfl, rfl, h1, hi, hm, hacc, hr⟩ := h
    rw [rng_len] at hi
    omega
def c__law_figure : Ct := fun ds M Ψ _ => ∃ w : List Nat, ds = [.str ⟨w.toArray⟩] ∧ w.length ≤ 400000 ∧ (∀ c ∈ w, isDg c = true) ∧ Ψ (match numV w with | some n => .int n | none => .non) M
theorem ok__law_figure {f : Addr} {fd : FuncData} {dvs : List V} {kws : List (Str × V)} (T : Txt K mg)  (F : FnZ K "_law_figure" "_law_figure" s__law_figure dvs kws f fd) : FnOk P w K mg base (L2.CX P w) 2 f fd ["_law_token"] (spC K ["_law_token"].length (c__law_figure)) := by
  have hnd := sc__law_figure.nd
  refine fnD F sc__law_figure (c__law_figure) fun cdv A outer s H E B Ξ hr z => ⟨_, (dss_cons (ds_if (dw_orV (dt_eq hr (de_var (i := 0)) de_str) (dw_orV (dt_gt (de_len T.n_len (da_cons (de_var (i := 0)) da_nil)) de_int) (dw_or1 (dt_not (dt_val (de_all1 rfl T.n_all (da_cons (de_lc rfl hnd (di_str (de_var (i := 0))) (blkOk_by (own := [("_law_sign", 1)]) (by rfl)) (tg_name (i := 1) (by decide)) (fun _ _ _ _ _ => (pg_name (i := 1) hnd rfl (by first | exact Or.inl rfl | exact Or.inr rfl) (by first | exact .inl rfl | exact .inr rfl))) (fun _ _ _ _ _ _ => dts_nil) (fun _ _ _ _ _ _ => (de_in hr (de_var (i := 1)) de_str))) da_nil))))))).pt (dss_one (ds_ret de_non)) dss_nil)
    (dss_one (ds_ret (de_ifV (dw_orV (dt_eq hr (de_var (i := 0)) de_str) (dw_or1 (dt_ne hr (de_ix (de_var (i := 0)) de_int) de_str))).pt (de_intS T.n_int (da_cons (de_var (i := 0)) da_nil)) de_non)))), fun ds Ψ hl hc => ?_⟩
  obtain ⟨w', rfl, hl, hw, q⟩ := hc
  rw [show ent (["_law_token", "_law_sign"] : List Str).length [D.str ⟨w'.toArray⟩] = [some (.str ⟨w'.toArray⟩), none] from rfl]
  try dsimp only [List.set, getS_z, getS_s, bin2, bin2T, ltD, leD, gtD, geD, cmp_i, add_i, sub_i, min2_i, max2_i]
  have hlen : ((⟨w'.toArray⟩ : Str).length : Int) = w'.length := by show ((w'.toArray.size : Nat) : Int) = _; rw [List.size_toArray]
  refine eq_emp ?_
  refine bl_v ?_
  refine ⟨decide ((31 : Int) < w'.length), fun _ => ⟨w_sz hl, ?_⟩, ?_⟩
  · rw [hlen]
    refine bl_v ⟨false, fun _ => ?_, by rw [Bool.or_false], rfl⟩
    refine compD_map (xs := Z.signs ⟨w'.toArray⟩) (fun K h => h) (fun d => match d with | .str z => .bl (decide ((z.cps.toList.headD 0) ∈ ("0123456789" : Str).cps.toList)) | _ => .non) trivial (by rw [signs_len]; exact Nat.le_trans (show w'.toArray.size ≤ 1000000 by rw [List.size_toArray]; omega) big_ok) (fun d hd Q q => ?_) ?_
    · obtain ⟨c, _, rfl⟩ := signs_mem hd
      exact ⟨c, rfl, q⟩
    · refine ⟨w'.map fun c => decide (c ∈ ("0123456789" : Str).cps.toList), ?_, ?_⟩
      · show some _ = some _
        unfold Z.signs
        rw [List.map_map, List.map_map]
        rfl
      · have : (w'.map fun c => decide (c ∈ ("0123456789" : Str).cps.toList)).all id = true := by
          rw [List.all_map, List.all_eq_true]
          intro c hc
          exact decide_eq_true (dg_mem.mpr (hw c hc))
        rw [this]
        exact bl_t rfl ⟨rfl, rfl⟩
  have bad : ¬ (1 ≤ w'.length ∧ w'.length ≤ 31) → Ψ .non B.M := fun h => by
    have e : numV w' = none := by
      unfold numV
      exact if_neg fun z => h ⟨z.1, z.2.1⟩
    rw [e] at q
    exact q
  by_cases hb : (decide (w' = []) || decide ((31 : Int) < w'.length)) = true
  · refine ite_t hb ⟨_, _, .same, bad fun z => ?_⟩
    rcases (Bool.or_eq_true _ _).mp hb with h | h
    · have := of_decide_eq_true h
      rw [this] at z
      simp at z
    · have := of_decide_eq_true h
      omega
  have hb := Bool.eq_false_iff.mpr hb
  refine ite_f hb ?_
  obtain ⟨hb1, hb2⟩ := Bool.or_eq_false_iff.mp hb
  have hb1 := of_decide_eq_false hb1
  have hb2 := of_decide_eq_false hb2
  cases w' with
  | nil => exact absurd rfl hb1
  | cons c w' =>
    have hz : ((⟨(c :: w').toArray⟩ : Str) = "0") ↔ c :: w' = [48] := by
      have e0 : ("0" : Str) = ⟨[48].toArray⟩ := by decide +kernel
      rw [e0]
      exact ⟨fun z => by simpa using congrArg (fun x : Str => x.cps.toList) z, fun z => by rw [z]⟩
    refine eqS ?_
    refine bl_v ?_
    have hcond : (decide ((⟨(c :: w').toArray⟩ : Str) = "0") || !decide (c = 48)) = true ↔ (c :: w' = [48] ∨ (c :: w').head? ≠ some 48) := by
      rw [Bool.or_eq_true, decide_eq_true_eq, hz, Bool.not_eq_true', decide_eq_false_iff_not]
      simp
    refine ⟨!decide (c = 48), fun _ => ?_, (match numV (c :: w') with | some n => D.int n | none => D.non), fun h => ?_, fun h => ?_, _, _, .same, q⟩
    · refine ⟨Nat.le_trans (show (c :: w').toArray.size ≤ 1000000 by rw [List.size_toArray]; omega) big_ok, optK_of (show L2.atI (c :: w') 0 = some c from at_zeroN) ?_⟩
      refine neS ?_
      refine bl_v ⟨?_, rfl⟩
      have e1 : ((⟨#[c]⟩ : Str) = "0") ↔ c = 48 := by
        have e0 : ("0" : Str) = ⟨#[48]⟩ := by decide +kernel
        rw [e0]
        exact ⟨fun z => by simpa using congrArg (fun x : Str => x.cps.toList) z, fun z => by rw [z]⟩
      rw [decide_eq_decide.mpr e1]
    · have en : numV (c :: w') = some (PySem.NumText.digitsVal (c :: w') : Nat) := by
        unfold numV
        exact if_pos ⟨by simp, by omega, hcond.mp h⟩
      rw [en]
      refine ⟨_, PySem.intText_digits (fun d hd => ?_) (by simp) ?_, ?_, rfl, rfl⟩
      · have := hw d (by simpa using hd)
        unfold isDg at this
        simpa using this
      · show (c :: w').toArray.size ≤ 4300
        rw [List.size_toArray]
        omega
      · show (c :: w').toArray.size ≤ 640
        rw [List.size_toArray]
        omega
    · have en : numV (c :: w') = none := by
        unfold numV
        refine if_neg fun z => ?_
        rw [hcond.mpr z.2.2] at h
        cases h
      rw [en]
      exact ⟨rfl, rfl⟩
def c__law_taken_signs : Ct := fun ds M Ψ _ => ∃ (a : Addr) (t r : List Nat) (x : Str) (pr : Nat → Bool), ds = [.str ⟨t.toArray⟩, .ref a, .str x] ∧ M a = some (sptC t r) ∧ r <:+ t ∧ t.length ≤ 5000 ∧ (∀ c, c ∈ x.cps.toList ↔ pr c = true) ∧ Ψ (.str ⟨(r.takeWhile pr).toArray⟩) (updM M a (sptC t (r.dropWhile pr)))
theorem ok__law_taken_signs {f : Addr} {fd : FuncData} {dvs : List V} {kws : List (Str × V)} (T : Txt K mg)  (F : FnZ K "_law_taken_signs" "_law_taken_signs" s__law_taken_signs dvs kws f fd) : FnOk P w K mg base (L2.CX P w) 2 f fd ["_law_wording", "_law_spot", "_law_marks"] (spC K ["_law_wording", "_law_spot", "_law_marks"].length (c__law_taken_signs)) := by
  have hnd := sc__law_taken_signs.nd
  refine fnD F sc__law_taken_signs (c__law_taken_signs) fun cdv A outer s H E B Ξ hr z => ⟨_, (dss_cons (ds_set (i := 3) hnd (de_ix (de_var (i := 1)) de_int))
    (dss_cons (ds_while z.po (dw_andV (dt_lt (de_ix (de_var (i := 1)) de_int) (de_len T.n_len (da_cons (de_var (i := 0)) da_nil))) (dw_and1 (dt_in hr (de_ix (de_var (i := 0)) (de_ix (de_var (i := 1)) de_int)) (de_var (i := 2))))).pt (dss_one (ds_setix (de_add (de_ix (de_var (i := 1)) de_int) de_int) (de_var (i := 1)) de_int)))
    (dss_one (ds_ret (de_slice (de_var (i := 0)) (do_some (de_var (i := 3))) (do_some (de_ix (de_var (i := 1)) de_int))))))), fun ds Ψ hl hc => ?_⟩
  obtain ⟨a, t, r, x, pr, rfl, ha, hs, ht, hP, q⟩ := hc
  rw [show ent (["_law_wording", "_law_spot", "_law_marks", "_law_begin"] : List Str).length [.str ⟨t.toArray⟩, .ref a, .str x] = [some (.str ⟨t.toArray⟩), some (.ref a), some (.str x), none] from rfl]
  try dsimp only [List.set, getS_z, getS_s, bin2, bin2T, ltD, leD, gtD, geD, cmp_i, add_i, sub_i, min2_i, max2_i]
  refine sp_ix ha ?_
  have lt' : ((⟨t.toArray⟩ : Str).length : Int) = t.length := by show ((t.toArray.size : Nat) : Int) = _; rw [List.size_toArray]
  have ltok : (⟨t.toArray⟩ : Str).length ≤ sizeLine := Nat.le_trans (show t.toArray.size ≤ 1000000 by rw [List.size_toArray]; omega) big_ok
  refine ⟨fun e M' => ∃ r', e = [some (.str ⟨t.toArray⟩), some (.ref a), some (.str x), some (.int ((t.length - r.length : Nat) : Int))] ∧ M' = updM B.M a (sptC t r') ∧ r' <:+ r ∧ r.takeWhile pr = r.take (r.length - r'.length) ++ r'.takeWhile pr ∧ r.dropWhile pr = r'.dropWhile pr, fun _ M' => match M' a with | some (.lst [.int i]) => (t.length - i).toNat | _ => 0, .of ⟨r, rfl, (updM_id ha).symm, List.suffix_refl _, by simp, rfl⟩, fun e M' h => ?_⟩
  obtain ⟨r', rfl, rfl, h1, h2, h3⟩ := h
  have hs' := h1.trans hs
  have l1 := h1.length_le
  have l2 := hs.length_le
  try dsimp only [List.set, getS_z, getS_s, bin2, bin2T, ltD, leD, gtD, geD, cmp_i, add_i, sub_i, min2_i, max2_i]
  refine sp_ix updM_same ⟨ltok, ?_⟩
  rw [lt']
  refine bl_v ?_
  have fin : r'.takeWhile pr = [] → r'.dropWhile pr = r' → ixD (updM B.M a (sptC t r')) (.ref a) (.int 0) fun z => inK z fun i_1 => slD (updM B.M a (sptC t r')) (.str ⟨t.toArray⟩) (some ((t.length - r.length : Nat) : Int)) (some i_1) fun d => rtF B.M Ψ d (updM B.M a (sptC t r')) := fun e1 e2 => by
    refine sp_ix updM_same ?_
    refine inKI (sl_mid (w := t) (by omega) ?_)
    rw [sfx_drop hs, show t.length - r'.length - (t.length - r.length) = r.length - r'.length by omega]
    refine ⟨_, _, .same, ?_⟩
    rw [h2, h3, e1, e2, List.append_nil] at q
    exact q
  cases r' with
  | nil =>
    refine ⟨false, fun z => ?_, ?_⟩
    · rw [decide_eq_true_eq] at z
      simp at z
    · refine ite_f (by rw [Bool.and_false]) ?_
      exact fin rfl rfl
  | cons c r'' =>
    refine ⟨pr c, fun _ => ?_, ?_⟩
    · refine sp_ix updM_same ⟨ltok, optK_of (atI_sfx hs') ?_⟩
      refine ⟨c, rfl, bl_v ⟨?_, rfl⟩⟩
      rw [Bool.eq_iff_iff, decide_eq_true_eq]
      exact hP c
    · rw [List.length_cons] at l1
      cases hc : pr c with
      | true =>
        refine ite_t (by rw [Bool.and_true]; exact decide_eq_true (by rw [List.length_cons]; omega)) ?_
        refine sp_ix updM_same ?_
        refine sp_set (r' := r'') updM_same (by rw [show (((t.length - (c :: r'').length : Nat) : Int) + 1) = ((t.length - r''.length : Nat) : Int) from by rw [List.length_cons]; omega]) ?_
        rw [updM_updM]
        refine .of ⟨⟨r'', rfl, rfl, (List.suffix_cons c r'').trans h1, ?_, ?_⟩, ?_⟩
        · rw [h2, List.takeWhile_cons, hc, if_pos rfl]
          obtain ⟨pp, rfl⟩ := h1
          simp only [List.length_append, List.length_cons]
          rw [show pp.length + (r''.length + 1) - (r''.length + 1) = pp.length by omega, show pp.length + (r''.length + 1) - r''.length = pp.length + 1 by omega, List.take_left, show pp ++ c :: r'' = (pp ++ [c]) ++ r'' by simp, show pp.length + 1 = (pp ++ [c]).length by simp, List.take_left]
          simp
        · rw [h3, List.dropWhile_cons, hc, if_pos rfl]
        · rw [updM_same, updM_same]
          show (((t.length : Int) - ((t.length - r''.length : Nat) : Int)).toNat) < (((t.length : Int) - ((t.length - (c :: r'').length : Nat) : Int)).toNat)
          rw [List.length_cons]
          omega
      | false =>
        refine ite_f (by rw [Bool.and_false]) ?_
        exact fin (by rw [List.takeWhile_cons, hc]; rfl) (by rw [List.dropWhile_cons, hc]; rfl)
theorem ent_len : ∀ {ms : List (List Nat)} {t r : List Nat} {ns : List Int}, entG ms t = some (ns, r) → ns.length = ms.length := fun h => (entG_got h).2.1
theorem ok__law_parsed {f : Addr} {fd : FuncData} {dvs : List V} {kws : List (Str × V)} (T : Txt K mg) {lv dp : Nat} (hlv : 3 ≤ lv) (h__law_parsed : Gf P w K mg base "_law_parsed" lv (c__law_parsed dp) b__law_parsed) (h__law_row_parsed : Gf P w K mg base "_law_row_parsed" (lv + 1) (c__law_row_parsed dp) b__law_row_parsed) (h__law_mark : Gf P w K mg base "_law_mark" 2 (c__law_mark) b__law_mark) (h__law_figure : Gf P w K mg base "_law_figure" 2 (c__law_figure) b__law_figure) (h__law_taken_signs : Gf P w K mg base "_law_taken_signs" 2 (c__law_taken_signs) b__law_taken_signs) (F : FnZ K "_law_parsed" "_law_parsed" s__law_parsed dvs kws f fd) : FnOk P w K mg base (L2.CX P w) (lv + 2) f fd ["_law_wording", "_law_spot", "_law_left"] (spC K ["_law_wording", "_law_spot", "_law_left"].length (c__law_parsed (dp + 1))) := by
  have hnd := sc__law_parsed.nd
  refine fnD F sc__law_parsed (c__law_parsed (dp + 1)) fun cdv A outer s H E B Ξ hr z => ⟨_, (dss_cons (ds_if (dt_eq hr (de_var (i := 2)) de_int) (dss_one (ds_ret de_non)) dss_nil)
    (dss_cons (ds_if (dt_val (de_call (hj := by omega) h__law_mark hr z (List.Mem.head _) (da_cons (de_var (i := 0)) (da_cons (de_var (i := 1)) (da_cons de_str da_nil))))) (dss_one (ds_ret (de_call (hj := by omega) h__law_row_parsed hr z (List.Mem.head _) (da_cons (de_var (i := 0)) (da_cons (de_var (i := 1)) (da_cons (de_var (i := 2)) da_nil)))))) dss_nil)
    (dss_cons (ds_if (dt_val (de_call (hj := by omega) h__law_mark hr z (List.Mem.head _) (da_cons (de_var (i := 0)) (da_cons (de_var (i := 1)) (da_cons de_str da_nil))))) (dss_cons (ds_set (i := 3) hnd (de_lstM da_nil))
    (dss_cons (ds_for z.po rfl (di_tup (de_tup (da_cons de_str (da_cons de_str (da_cons de_str (da_cons de_str da_nil)))))) (dg_name (i := 4) hnd) (dss_cons (ds_expr (de_append (de_var (i := 3)) (da_cons (de_call (hj := by omega) h__law_figure hr z (List.Mem.head _) (da_cons (de_call (hj := by omega) h__law_taken_signs hr z (List.Mem.head _) (da_cons (de_var (i := 0)) (da_cons (de_var (i := 1)) (da_cons de_str da_nil)))) da_nil)) da_nil)))
    (dss_one (ds_if (dw_or (dt_is (de_ix (de_var (i := 3)) (de_neg de_int)) de_non) (dw_or1 (dt_not (dt_val (de_call (hj := by omega) h__law_mark hr z (List.Mem.head _) (da_cons (de_var (i := 0)) (da_cons (de_var (i := 1)) (da_cons (de_var (i := 4)) da_nil)))))))).pt (dss_one (ds_ret de_non)) dss_nil))))
    (dss_one (ds_ret (de_tup (da_cons de_str (da_cons (de_tuple1 T.n_tuple (da_cons (de_var (i := 3)) da_nil)) da_nil))))))) dss_nil)
    (dss_cons (ds_set (i := 5) hnd (de_call (hj := by omega) h__law_taken_signs hr z (List.Mem.head _) (da_cons (de_var (i := 0)) (da_cons (de_var (i := 1)) (da_cons de_str da_nil)))))
    (dss_cons (ds_if (dt_ne hr (de_var (i := 5)) de_str) (dss_one (ds_ret (de_tup (da_cons de_str (da_cons (de_var (i := 5)) da_nil))))) dss_nil)
    (dss_cons (ds_set (i := 5) hnd (de_call (hj := by omega) h__law_taken_signs hr z (List.Mem.head _) (da_cons (de_var (i := 0)) (da_cons (de_var (i := 1)) (da_cons de_str da_nil)))))
    (dss_cons (ds_if (dt_ne hr (de_var (i := 5)) de_str) (dss_one (ds_ret (de_if (dt_eq hr (de_var (i := 5)) de_str) (de_tup (da_cons de_str da_nil)) (de_tup (da_cons de_str (da_cons (de_var (i := 5)) da_nil)))))) dss_nil)
    (dss_cons (ds_set (i := 6) hnd (de_call (hj := by omega) h__law_figure hr z (List.Mem.head _) (da_cons (de_call (hj := by omega) h__law_taken_signs hr z (List.Mem.head _) (da_cons (de_var (i := 0)) (da_cons (de_var (i := 1)) (da_cons de_str da_nil)))) da_nil)))
    (dss_cons (ds_if (dw_or (dt_is (de_var (i := 6)) de_non) (dw_or1 (dt_not (dt_val (de_call (hj := by omega) h__law_mark hr z (List.Mem.head _) (da_cons (de_var (i := 0)) (da_cons (de_var (i := 1)) (da_cons de_str da_nil)))))))).pt (dss_one (ds_ret de_non)) dss_nil)
    (dss_cons (ds_set (i := 7) hnd (de_call (hj := by omega) h__law_parsed hr z (List.Mem.head _) (da_cons (de_var (i := 0)) (da_cons (de_var (i := 1)) (da_cons (de_sub (de_var (i := 2)) de_int) da_nil)))))
    (dss_one (ds_ret (de_if (dt_is (de_var (i := 7)) de_non) de_non (de_tup (da_cons de_str (da_cons (de_var (i := 6)) (da_cons (de_var (i := 7)) da_nil))))))))))))))))), fun ds Ψ hl hc => ?_⟩
  obtain ⟨a, t, r, k, rfl, ha, hs, ht, hk, q1, q2⟩ := hc
  rw [show ent (["_law_wording", "_law_spot", "_law_left", "_law_figures", "_law_mark_here", "_law_token", "_law_times", "_law_inner_here"] : List Str).length [.str ⟨t.toArray⟩, .ref a, .int (k : Nat)] = [some (.str ⟨t.toArray⟩), some (.ref a), some (.int (k : Nat)), none, none, none, none, none] from rfl]
  try dsimp only [List.set, getS_z, getS_s, bin2, bin2T, ltD, leD, gtD, geD, cmp_i, add_i, sub_i, min2_i, max2_i]
  refine eqI ?_
  cases k with
  | zero =>
    refine bl_t rfl ?_
    refine ite_t rfl ⟨_, _, .same, ?_⟩
    have := q2 (by rw [prs]) r
    rw [updM_id ha] at this
    exact this
  | succ k =>
  refine bl_f (decide_eq_false (by omega)) ?_
  refine ite_f rfl ?_
  rw [prs] at q1 q2
  have e1 : ("(" : Str) = ⟨[40].toArray⟩ := by decide +kernel
  have e2 : ("[" : Str) = ⟨[91].toArray⟩ := by decide +kernel
  have e3 : ("*" : Str) = ⟨[42].toArray⟩ := by decide +kernel
  have lr := sfx_le hs
  refine ⟨rfl, rfl, a, t, r, [40], by rw [e1], ha, hs, ht, by decide, fun r1 h1 => ?_, fun h1 => ?_⟩
  · rw [h1] at q1 q2
    dsimp only at q1 q2
    refine bl_t rfl ?_
    refine ite_t rfl ?_
    have l1 := stripP_len h1
    have l2 : ([40] : List Nat).length = 1 := rfl
    refine ⟨rfl, rfl, a, t, r1, k, rfl, updM_same, stripP_sfx h1 hs, by omega, ht, by omega, fun l r2 h2 => ?_, fun h2 r2 => ⟨_, _, .same, ?_⟩⟩
    · rw [updM_updM]
      exact ⟨_, _, .same, q1 (.thn l) r2 (by rw [h2])⟩
    · rw [updM_updM]
      exact q2 (by rw [h2]) r2
  rw [h1] at q1 q2
  dsimp only at q1 q2
  refine bl_f rfl ?_
  refine ite_f rfl ?_
  refine ⟨rfl, rfl, a, t, r, [91], by rw [e2], ha, hs, ht, by decide, fun r1 h2 => ?_, fun h2 => ?_⟩
  · rw [h2] at q1 q2
    dsimp only at q1 q2
    refine bl_t rfl ?_
    refine ite_t rfl ?_
    refine ⟨ln (n := 0) rfl (by decide), fun pf hpf => ?_⟩
    have npa : pf ≠ a := fun z => by rw [z, updM_same] at hpf; cases hpf
    have hp : B.M pf = none := by rw [updM_ne npa] at hpf; exact hpf
    have s1 := stripP_sfx h2 hs
    have ha0 : B.M a ≠ none := by rw [ha]; simp
    have rsx : ∀ (c : Cell) (r' : List Nat), rs B.M (updM (updM B.M pf c) a (sptC t r')) = updM B.M a (sptC t r') := fun c r' => rs_put ha0 updM_same fun b hb h0 => by
      rw [updM_ne hb, updM_ne (fun z => h0 (by rw [z]; exact hp))]
    refine forD_n (xs := [.str " ", .str "; ", .str " ", .str "]"]) (fun K h => ⟨ln (n := 4) rfl (by decide), _, rfl, h⟩) (fun i e M' => ∃ (o : Option D) (ns : List Int) (r2 : List Nat), e = [some (.str ⟨t.toArray⟩), some (.ref a), some (.int ((k + 1 : Nat) : Int)), some (.ref pf), o, none, none, none] ∧ M' = updM (updM B.M pf (.lst (ns.map D.int))) a (sptC t r2) ∧ r2 <:+ t ∧ ns.length = i ∧ entG marks4 r1 = match entG (marks4.drop i) r2 with
      | none => none
      | some (ms, r') => some (ns ++ ms, r')) ⟨none, [], r1, rfl, ?_, s1, rfl, ?_⟩ (fun _ _ _ _ => trivial) (fun i d e M' hd h => ?_) (fun e M' h => ?_)
    · rw [updM_comm npa.symm]
      rfl
    · rw [List.drop_zero]
      cases entG marks4 r1 with
      | none => rfl
      | some x => rfl
    · obtain ⟨o, ns, r2, rfl, rfl, h3, h4, h5⟩ := h
      obtain ⟨m, hm, rfl, lm⟩ := mark_at hd
      have hi : i < 4 := by
        cases hx : decide (i < 4) with
        | true => exact of_decide_eq_true hx
        | false =>
          have := of_decide_eq_false hx
          rw [List.getElem?_eq_none (by simp; omega)] at hd
          cases hd
      rw [hm] at h5
      have hw : ∀ c ∈ r2.takeWhile isDg, isDg c = true := fun c hc => List.all_eq_true.mp (List.all_takeWhile) c hc
      have hl := wl_len isDg r2
      have hl2 := sfx_le h3
      try dsimp only [List.set, getS_z, getS_s, bin2, bin2T, ltD, leD, gtD, geD, cmp_i, add_i, sub_i, min2_i, max2_i]
      have epl : ∀ x, updM (updM B.M pf (.lst (ns.map D.int))) a (sptC t x) pf = some (.lst (ns.map D.int)) := fun x => by rw [updM_ne npa, updM_same]
      refine ⟨⟨_, lstOf_at (epl r2)⟩, rfl, rfl, a, t, r2, _, isDg, rfl, updM_same, h3, ht, fun c => dg_mem, ?_⟩
      rw [updM_updM]
      refine ⟨rfl, rfl, r2.takeWhile isDg, rfl, by omega, hw, ?_⟩
      refine append_of (epl _) (Nat.lt_of_le_of_lt (by rw [List.length_map, h4]; exact Nat.le_of_lt hi) (Nat.lt_of_lt_of_le (by decide) big_ok)) ?_
      refine ix_ref updM_same ?_
      refine optK_of ((atI_last (by simp)).trans (List.getLast?_concat ..)) ?_
      cases hn : numV (r2.takeWhile isDg) with
      | none =>
        refine bl_t rfl (ite_t rfl ⟨_, _, .drop, ?_⟩)
        have er : rs B.M (updM (updM (updM B.M pf (.lst (ns.map D.int))) a (sptC t (r2.dropWhile isDg))) pf (.lst (ns.map D.int ++ [.non]))) = updM B.M a (sptC t (r2.dropWhile isDg)) := by
          rw [updM_comm npa.symm, updM_updM]
          exact rsx _ _
        rw [er]
        refine q2 ?_ _
        rw [h5, entG, hn]
      | some n =>
        refine bl_f rfl (ite_f rfl ?_)
        have ea : updM (updM (updM B.M pf (.lst (ns.map D.int))) a (sptC t (r2.dropWhile isDg))) pf (.lst (ns.map D.int ++ [.int n])) = updM (updM B.M pf (.lst ((ns ++ [n]).map D.int))) a (sptC t (r2.dropWhile isDg)) := by
          rw [updM_comm npa.symm, updM_updM, List.map_append]
          rfl
        rw [ea]
        refine ⟨rfl, rfl, a, t, r2.dropWhile isDg, m, rfl, updM_same, drop_sfx h3, ht, lm, fun r3 e4 => ?_, fun e4 => ?_⟩
        · refine bl_t rfl (ite_f rfl ?_)
          rw [updM_updM]
          refine .of ⟨_, ns ++ [n], r3, rfl, rfl, stripP_sfx e4 (drop_sfx h3), by rw [List.length_append, h4]; rfl, ?_⟩
          rw [h5, entG, hn]
          dsimp only
          rw [e4]
          dsimp only
          cases entG (marks4.drop (i + 1)) r3 with
          | none => rfl
          | some x => simp
        · refine bl_f rfl (ite_t rfl ⟨_, _, .drop, ?_⟩)
          rw [rsx]
          refine q2 ?_ _
          rw [h5, entG, hn]
          dsimp only
          rw [e4]
    · obtain ⟨o, ns, r2, rfl, rfl, h3, h4, h5⟩ := h
      have h4 : ns.length = 4 := h4
      match ns, h4 with
      | [n1, n2, n3, n4], _ =>
        have e0 : marks4.drop 4 = [] := rfl
        rw [show ([.str " ", .str "; ", .str " ", .str "]"] : List D).length = 4 from rfl, e0, entG] at h5
        have epl : updM (updM B.M pf (.lst (([n1, n2, n3, n4] : List Int).map D.int))) a (sptC t r2) pf = some (.lst ([n1, n2, n3, n4].map D.int)) := by rw [updM_ne npa, updM_same]
        try dsimp only [List.set, getS_z, getS_s, bin2, bin2T, ltD, leD, gtD, geD, cmp_i, add_i, sub_i, min2_i, max2_i]
        refine ⟨_, lstOf_at epl, ln (n := 2) rfl (by decide), _, _, .drop, ?_⟩
        rw [rsx]
        exact q1 (tabOf [n1, n2, n3, n4]) r2 (by rw [h5]; rfl)
  rw [h2] at q1 q2
  dsimp only at q1 q2
  refine bl_f rfl ?_
  refine ite_f rfl ?_
  refine ⟨rfl, rfl, a, t, r, _, isLR, rfl, ha, hs, ht, fun c => lr_memB, ?_⟩
  try dsimp only [List.set, getS_z, getS_s, bin2, bin2T, ltD, leD, gtD, geD, cmp_i, add_i, sub_i, min2_i, max2_i]
  refine ne_emp ?_
  refine bl_c (fun eb => ?_) (fun eb => ?_)
  · have h3 : r.takeWhile isLR ≠ [] := by simpa using eb
    rw [if_pos h3] at q1
    refine ite_t rfl ⟨ln (n := 2) rfl (by decide), _, _, .same, ?_⟩
    have := q1 _ _ rfl
    rw [pgD] at this
    exact this
  have h3 : r.takeWhile isLR = [] := by simpa using eb
  rw [if_neg (fun z => z h3)] at q1 q2
  refine ite_f rfl ?_
  rw [tw_nil h3, updM_id ha]
  refine ⟨rfl, rfl, a, t, r, _, isLo, rfl, ha, hs, ht, fun c => lo_mem, ?_⟩
  try dsimp only [List.set, getS_z, getS_s, bin2, bin2T, ltD, leD, gtD, geD, cmp_i, add_i, sub_i, min2_i, max2_i]
  refine ne_emp ?_
  refine bl_c (fun eb => ?_) (fun eb => ?_)
  · have h4 : r.takeWhile isLo ≠ [] := by simpa using eb
    rw [if_pos h4] at q1
    have q1 := q1 _ _ rfl
    refine ite_t rfl (eqS (bl_c (fun ec => ?_) (fun ec => ?_)))
    · have ec := (sw_w _).mp (of_decide_eq_true ec)
      rw [if_pos ec, pgD] at q1
      exact ite_t rfl ⟨ln (n := 1) rfl (by decide), _, _, .same, q1⟩
    · have ec := fun z => of_decide_eq_false ec ((sw_w _).mpr z)
      rw [if_neg ec, pgD] at q1
      exact ite_f rfl ⟨ln (n := 2) rfl (by decide), _, _, .same, q1⟩
  have h4 : r.takeWhile isLo = [] := by simpa using eb
  rw [if_neg (fun z => z h4)] at q1 q2
  refine ite_f rfl ?_
  rw [tw_nil h4, updM_id ha]
  have hw : ∀ c ∈ r.takeWhile isDg, isDg c = true := fun c hc => List.all_eq_true.mp (List.all_takeWhile) c hc
  have hl := wl_len isDg r
  refine ⟨rfl, rfl, a, t, r, _, isDg, rfl, ha, hs, ht, fun c => dg_mem, ?_⟩
  refine ⟨rfl, rfl, r.takeWhile isDg, rfl, by omega, hw, ?_⟩
  try dsimp only [List.set, getS_z, getS_s, bin2, bin2T, ltD, leD, gtD, geD, cmp_i, add_i, sub_i, min2_i, max2_i]
  cases hn : numV (r.takeWhile isDg) with
  | none =>
    rw [hn] at q1 q2
    dsimp only at q1 q2
    exact bl_t rfl (ite_t rfl (ite_t rfl ⟨_, _, .same, q2 rfl _⟩))
  | some n =>
  rw [hn] at q1 q2
  dsimp only at q1 q2
  dsimp only
  refine bl_f rfl (ite_f rfl ?_)
  refine ⟨rfl, rfl, a, t, _, [42], by rw [e3], updM_same, drop_sfx hs, ht, by decide, fun r1 h5 => ?_, fun h5 => bl_f rfl (ite_t rfl ⟨_, _, .same, q2 (by rw [h5]) _⟩)⟩
  rw [h5] at q1 q2
  dsimp only at q1 q2
  refine bl_t rfl (ite_f rfl ?_)
  rw [updM_updM]
  show callD _ _ _ _ _ [.str ⟨t.toArray⟩, .ref a, .int (((k + 1 : Nat) : Int) - 1)] _ _ _ _
  rw [show ((k + 1 : Nat) : Int) - 1 = (k : Nat) by omega]
  refine ⟨rfl, rfl, a, t, r1, k, rfl, updM_same, stripP_sfx h5 (drop_sfx hs), ht, by omega, fun p r2 h6 => ?_, fun h6 r2 => ?_⟩
  · rw [updM_updM]
    refine bl_f (pg_not_none p) (ite_f rfl ⟨ln (n := 3) rfl (by decide), _, _, .same, ?_⟩)
    have := q1 (.tms n p) r2 (by rw [h6])
    rw [pgD] at this
    exact this
  · rw [updM_updM]
    exact bl_t rfl (ite_t rfl ⟨_, _, .same, q2 (by rw [h6]) r2⟩)
def c__law_det : Ct := fun ds M Ψ _ => ∃ t n, ds = [tD t] ∧ 0 < n ∧ n ≤ 500000 ∧ Sm n t ∧ Ψ (.int (det4 t)) M
theorem ok__law_det {f : Addr} {fd : FuncData} {dvs : List V} {kws : List (Str × V)} (T : Txt K mg)  (F : FnZ K "_law_det" "_law_det" s__law_det dvs kws f fd) : FnOk P w K mg base (L2.CX P w) 2 f fd ["_law_entries"] (spC K ["_law_entries"].length (c__law_det)) := by
  have hnd := sc__law_det.nd
  refine fnD F sc__law_det (c__law_det) fun cdv A outer s H E B Ξ hr z => ⟨_, (dss_one (ds_ret (de_sub (de_mul (de_ix (de_var (i := 0)) de_int) (de_ix (de_var (i := 0)) de_int)) (de_mul (de_ix (de_var (i := 0)) de_int) (de_ix (de_var (i := 0)) de_int))))), fun ds Ψ hl hc => ?_⟩
  obtain ⟨t, n, rfl, h0, hn, hs, q⟩ := hc
  exact ⟨mok_of hs.1 hs.2.2.2 h0 h0 (by omega), mok_of hs.2.1 hs.2.2.1 h0 h0 (by omega), _, _, .same, q⟩
def c__law_is_whole : Ct := fun ds M Ψ _ => ∃ i a b : Int, ds = [.int i, .int a, .int b] ∧ Ψ (.bl (inB (.int i) a b)) M
theorem ok__law_is_whole {f : Addr} {fd : FuncData} {dvs : List V} {kws : List (Str × V)} (T : Txt K mg)  (F : FnZ K "_law_is_whole" "_law_is_whole" s__law_is_whole dvs kws f fd) : FnOk P w K mg base (L2.CX P w) 2 f fd ["_law_item", "_law_low", "_law_high"] (spC K ["_law_item", "_law_low", "_law_high"].length (c__law_is_whole)) := by
  have hnd := sc__law_is_whole.nd
  refine fnD F sc__law_is_whole (c__law_is_whole) fun cdv A outer s H E B Ξ hr z => ⟨_, (dss_one (ds_ret (de_andV (de_isi T.n_isinstance (da_cons (de_var (i := 0)) (da_cons (de_ty (n := "int") T.n_int (by decide +kernel)) da_nil))) (de_andV (de_not (de_isi T.n_isinstance (da_cons (de_var (i := 0)) (da_cons (de_ty (n := "bool") T.n_bool (by decide +kernel)) da_nil)))) (de_and1 (de_chain oc_le oc_le (de_var (i := 1)) (de_var (i := 0)) (de_var (i := 2)))))))), fun ds Ψ hl hc => ?_⟩
  obtain ⟨i, a, b, rfl, q⟩ := hc
  rw [show ent (["_law_item", "_law_low", "_law_high"] : List Str).length [.int i, .int a, .int b] = [some (.int i), some (.int a), some (.int b)] from rfl]
  try dsimp only [List.set, getS_z, getS_s, bin2, bin2T, ltD, leD, gtD, geD, cmp_i, add_i, sub_i, min2_i, max2_i]
  refine ⟨by decide, "int", rfl, bl_v ⟨inB (.int i) a b, fun _ => ⟨by decide, "int", rfl, bl_v (bl_v ⟨inB (.int i) a b, fun _ => ?_, ?_⟩)⟩, _, _, .same, q⟩⟩
  · unfold chainD
    refine bl_c (fun e => ?_) (fun e => ?_)
    · refine ite_t rfl (bl_v ⟨?_, rfl⟩)
      have e : decide (a ≤ i) = true := e
      unfold inB
      dsimp only
      rw [e, Bool.true_and]
    · refine ite_f rfl ⟨?_, rfl⟩
      have e : decide (a ≤ i) = false := e
      unfold inB
      dsimp only
      rw [e, Bool.false_and]
  · exact ⟨rfl, rfl⟩
def c__law_is_name : Ct := fun ds M Ψ _ => ∃ x : Str, ds = [.str x] ∧ x.cps.size ≤ 400000 ∧ Ψ (.bl (nameB x)) M
theorem ok__law_is_name {f : Addr} {fd : FuncData} {dvs : List V} {kws : List (Str × V)} (T : Txt K mg)  (F : FnZ K "_law_is_name" "_law_is_name" s__law_is_name dvs kws f fd) : FnOk P w K mg base (L2.CX P w) 2 f fd ["_law_item"] (spC K ["_law_item"].length (c__law_is_name)) := by
  have hnd := sc__law_is_name.nd
  refine fnD F sc__law_is_name (c__law_is_name) fun cdv A outer s H E B Ξ hr z => ⟨_, (dss_cons (ds_if (dw_orV (dt_not (dt_val (de_isi T.n_isinstance (da_cons (de_var (i := 0)) (da_cons (de_ty (n := "str") T.n_str (by decide +kernel)) da_nil))))) (dw_orV (dt_not (dt_chain oc_lt oc_lt de_int (de_len T.n_len (da_cons (de_var (i := 0)) da_nil)) de_int)) (dw_or1 (dt_in hr (de_var (i := 0)) (de_tup (da_cons de_str (da_cons de_str da_nil))))))).pt (dss_one (ds_ret de_bl)) dss_nil)
    (dss_one (ds_ret (de_all1 rfl T.n_all (da_cons (de_lc rfl hnd (di_str (de_var (i := 0))) (blkOk_by (own := [("_law_sign", 1)]) (by rfl)) (tg_name (i := 1) (by decide)) (fun _ _ _ _ _ => (pg_name (i := 1) hnd rfl (by first | exact Or.inl rfl | exact Or.inr rfl) (by first | exact .inl rfl | exact .inr rfl))) (fun _ _ _ _ _ _ => dts_nil) (fun _ _ _ _ _ _ => (de_in hr (de_var (i := 1)) de_str))) da_nil))))), fun ds Ψ hl hc => ?_⟩
  obtain ⟨x, rfl, hx, q⟩ := hc
  rw [show ent (["_law_item", "_law_sign"] : List Str).length [D.str x] = [some (.str x), none] from rfl]
  try dsimp only [List.set, getS_z, getS_s, bin2, bin2T, ltD, leD, gtD, geD, cmp_i, add_i, sub_i, min2_i, max2_i]
  have hlen : ((x.length : Nat) : Int) = (x.cps.size : Nat) := rfl
  refine ⟨by decide, "str", rfl, ?_⟩
  refine bl_t rfl ?_
  have res : decide (x ∈ ([("swap" : Str), ("then" : Str)] : List Str)) = (decide (x = "swap") || decide (x = "then")) := by
    rw [← Bool.decide_or]
    simp only [List.mem_cons, List.not_mem_nil, or_false]
  refine ⟨!(decide (1 ≤ x.cps.size) && decide (x.cps.size ≤ 8)) || (decide (x = "swap") || decide (x = "then")), ?_, ?_⟩
  · intro _
    unfold chainD
    refine ⟨Nat.le_trans (show x.cps.size ≤ 1000000 by omega) big_ok, ?_⟩
    rw [hlen]
    refine bl_c (fun e => ?_) (fun e => ?_)
    rotate_left
    · have e := of_decide_eq_false e
      refine ite_f rfl ?_
      refine ⟨false, ?_, ?_, rfl⟩
      · intro z
        cases z
      · rw [decide_eq_false (by omega : ¬ 1 ≤ x.cps.size)]
        rfl
    have e := of_decide_eq_true e
    refine ite_t rfl ?_
    refine bl_c (fun e2 => ?_) (fun e2 => ?_)
    rotate_left
    · have e2 := of_decide_eq_false e2
      refine ⟨false, ?_, ?_, rfl⟩
      · intro z
        cases z
      · rw [decide_eq_true (by omega : 1 ≤ x.cps.size), decide_eq_false (by omega : ¬ x.cps.size ≤ 8)]
        rfl
    have e2 := of_decide_eq_true e2
    refine ⟨decide (x = "swap") || decide (x = "then"), ?_, ?_, rfl⟩
    · intro _
      refine ⟨ln (n := 2) rfl (by decide), ?_⟩
      refine inS ["swap", "then"] ?_
      refine bl_v ⟨res, rfl⟩
    · rw [decide_eq_true (by omega : 1 ≤ x.cps.size), decide_eq_true (by omega : x.cps.size ≤ 8)]
      rfl
  by_cases e : (!(decide (1 ≤ x.cps.size) && decide (x.cps.size ≤ 8)) || (decide (x = "swap") || decide (x = "then"))) = true
  · refine ite_t (by rw [e]; rfl) ?_
    refine ⟨_, _, .same, ?_⟩
    have en : nameB x = false := by
      unfold nameB
      revert e
      generalize (decide (1 ≤ x.cps.size) && decide (x.cps.size ≤ 8)) = b1
      generalize (decide (x = ("swap" : Str)) || decide (x = ("then" : Str))) = b2
      cases b1 <;> cases b2 <;> simp
    rw [en] at q
    exact q
  have e := Bool.eq_false_iff.mpr e
  refine ite_f (by rw [e]; rfl) ?_
  refine compD_map (xs := Z.signs x) (fun K h => h) (fun d => match d with | .str z => .bl (decide ((z.cps.toList.headD 0) ∈ ("abcdefghijklmnopqrstuvwxyz" : Str).cps.toList)) | _ => .non) trivial (by rw [signs_len]; exact Nat.le_trans (show x.cps.size ≤ 1000000 by omega) big_ok) (fun d hd Q q => ?_) ?_
  · obtain ⟨c, _, rfl⟩ := signs_mem hd
    exact ⟨c, rfl, q⟩
  · refine ⟨x.cps.toList.map fun c => decide (c ∈ ("abcdefghijklmnopqrstuvwxyz" : Str).cps.toList), ?_, _, _, .same, ?_⟩
    · show some _ = some _
      unfold Z.signs
      rw [List.map_map, List.map_map]
      rfl
    · rw [List.all_map]
      have en : nameB x = x.cps.toList.all isLo := by
        unfold nameB
        revert e
        generalize (decide (1 ≤ x.cps.size) && decide (x.cps.size ≤ 8)) = b1
        generalize (decide (x = ("swap" : Str)) || decide (x = ("then" : Str))) = b2
        cases b1 <;> cases b2 <;> simp
      rw [en] at q
      have ea : (x.cps.toList.all (id ∘ fun c => decide (c ∈ ("abcdefghijklmnopqrstuvwxyz" : Str).cps.toList))) = x.cps.toList.all isLo := by
        congr 1
        funext c
        show decide _ = isLo c
        rw [Bool.eq_iff_iff, decide_eq_true_eq]
        exact lo_mem
      rw [ea]
      exact q
def c__law_is_part : Ct := fun ds M Ψ _ => ∃ p : Pg, ds = [pgD p] ∧ PgZ p ∧ Ψ (.bl (ptB p)) M
theorem ok__law_is_part {f : Addr} {fd : FuncData} {dvs : List V} {kws : List (Str × V)} (T : Txt K mg) (h__law_det : Gf P w K mg base "_law_det" 2 (c__law_det) b__law_det) (h__law_is_whole : Gf P w K mg base "_law_is_whole" 2 (c__law_is_whole) b__law_is_whole) (h__law_is_name : Gf P w K mg base "_law_is_name" 2 (c__law_is_name) b__law_is_name) (F : FnZ K "_law_is_part" "_law_is_part" s__law_is_part dvs kws f fd) : FnOk P w K mg base (L2.CX P w) 3 f fd ["_law_part"] (spC K ["_law_part"].length (c__law_is_part)) := by
  have hnd := sc__law_is_part.nd
  refine fnD F sc__law_is_part (c__law_is_part) fun cdv A outer s H E B Ξ hr z => ⟨_, (dss_cons (ds_par (i := 1) (j := 2) rfl hnd (da_cons (de_ifV (dt_gt (de_len T.n_len (da_cons (de_var (i := 0)) da_nil)) de_int) (de_ix (de_var (i := 0)) de_int) de_non) (da_cons (de_len T.n_len (da_cons (de_var (i := 0)) da_nil)) da_nil)))
    (dss_cons (ds_if (dw_andV (dt_eq hr (de_var (i := 1)) de_str) (dw_andV (dt_eq hr (de_var (i := 2)) de_int) (dw_andV (dt_val (de_isi T.n_isinstance (da_cons (de_ix (de_var (i := 0)) de_int) (da_cons (de_ty (n := "tuple") T.n_tuple (by decide +kernel)) da_nil)))) (dw_and1 (dt_eq hr (de_len T.n_len (da_cons (de_ix (de_var (i := 0)) de_int) da_nil)) de_int))))).pt (dss_one (ds_ret (de_andV (de_all1 rfl T.n_all (da_cons (de_lc rfl hnd (di_tup (de_ix (de_var (i := 0)) de_int)) (blkOk_by (own := [("_law_entry", 3)]) (by rfl)) (tg_name (i := 3) (by decide)) (fun _ _ _ _ _ => (pg_name (i := 3) hnd rfl (by first | exact Or.inl rfl | exact Or.inr rfl) (by first | exact .inl rfl | exact .inr rfl))) (fun _ _ _ _ _ _ => dts_nil) (fun _ _ _ _ _ _ => (de_call h__law_is_whole hr zx_blk (List.Mem.head _) (da_cons (de_var (i := 3)) (da_cons de_int (da_cons de_int da_nil)))))) da_nil)) (de_and1 (de_ne hr (de_call h__law_det hr z (List.Mem.head _) (da_cons (de_ix (de_var (i := 0)) de_int) da_nil)) de_int))))) dss_nil)
    (dss_cons (ds_if (dw_andV (dt_eq hr (de_var (i := 1)) de_str) (dw_andV (dt_eq hr (de_var (i := 2)) de_int) (dw_and1 (dt_val (de_isi T.n_isinstance (da_cons (de_ix (de_var (i := 0)) de_int) (da_cons (de_ty (n := "str") T.n_str (by decide +kernel)) da_nil))))))).pt (dss_one (ds_ret (de_andV (de_chain oc_lt oc_lt de_int (de_len T.n_len (da_cons (de_ix (de_var (i := 0)) de_int) da_nil)) de_int) (de_and1 (de_all1 rfl T.n_all (da_cons (de_lc rfl hnd (di_str (de_ix (de_var (i := 0)) de_int)) (blkOk_by (own := [("_law_side", 4)]) (by rfl)) (tg_name (i := 4) (by decide)) (fun _ _ _ _ _ => (pg_name (i := 4) hnd rfl (by first | exact Or.inl rfl | exact Or.inr rfl) (by first | exact .inl rfl | exact .inr rfl))) (fun _ _ _ _ _ _ => dts_nil) (fun _ _ _ _ _ _ => (de_in hr (de_var (i := 4)) de_str))) da_nil)))))) dss_nil)
    (dss_cons (ds_if (dt_eq hr (de_var (i := 1)) de_str) (dss_one (ds_ret (de_eq hr (de_var (i := 2)) de_int))) dss_nil)
    (dss_cons (ds_if (dt_eq hr (de_var (i := 1)) de_str) (dss_one (ds_ret (de_chain oc_le oc_le de_int (de_var (i := 2)) de_int))) dss_nil)
    (dss_cons (ds_if (dt_eq hr (de_var (i := 1)) de_str) (dss_one (ds_ret (de_andV (de_eq hr (de_var (i := 2)) de_int) (de_and1 (de_call h__law_is_whole hr z (List.Mem.head _) (da_cons (de_ix (de_var (i := 0)) de_int) (da_cons de_int (da_cons de_int da_nil)))))))) dss_nil)
    (dss_one (ds_ret (de_andV (de_eq hr (de_var (i := 1)) de_str) (de_andV (de_eq hr (de_var (i := 2)) de_int) (de_and1 (de_call h__law_is_name hr z (List.Mem.head _) (da_cons (de_ix (de_var (i := 0)) de_int) da_nil))))))))))))), fun ds Ψ hl hc => ?_⟩
  obtain ⟨p, rfl, hz, q⟩ := hc
  rw [show ent (["_law_part", "_law_token", "_law_size", "_law_entry", "_law_side"] : List Str).length [pgD p] = [some (pgD p), none, none, none, none] from rfl]
  try dsimp only [List.set, getS_z, getS_s, bin2, bin2T, ltD, leD, gtD, geD, cmp_i, add_i, sub_i, min2_i, max2_i]
  cases p with
  | tab t =>
    simp only [pgD]
    dsimp only [lenD]
    refine bl_t (decide_eq_true (by simp only [List.length_cons]; omega)) ⟨.str "table", fun _ => ix_t at_zero ⟨rfl, rfl⟩, fun z => (nomatch z), ?_⟩
    refine eqS (bl_t (decide_eq_true rfl) ⟨true, fun _ => eqI (bl_t rfl ⟨true, fun _ => ?_, rfl, trivial⟩), ite_t rfl ?_⟩)
    · refine optK_of rfl ⟨by decide, "tuple", rfl, bl_t rfl ⟨true, fun _ => optK_of rfl ?_, rfl, rfl⟩⟩
      exact eqI (bl_t rfl ⟨rfl, rfl⟩)
    refine compD_map (xs := tL t) (fun K h => optK_of rfl ⟨tL t, rfl, h⟩) (fun d => .bl (inB d 0 60)) trivial (ln (n := 4) rfl (by decide)) (fun d hd Q hQ => ?_) ?_
    · obtain ⟨i, rfl⟩ : ∃ i : Int, d = .int i := by
        simp only [tL, List.mem_cons, List.not_mem_nil, or_false] at hd
        rcases hd with rfl | rfl | rfl | rfl <;> exact ⟨_, rfl⟩
      exact ⟨rfl, rfl, i, 0, 60, rfl, hQ⟩
    refine ⟨[inB (.int t.1) 0 60, inB (.int t.2.1) 0 60, inB (.int t.2.2.1) 0 60, inB (.int t.2.2.2) 0 60], rfl, ?_⟩
    refine bl_v ⟨!decide (det4 t = 0), fun _ => optK_of rfl ⟨rfl, rfl, t, 200, rfl, by decide, by decide, hz, neI ⟨rfl, rfl⟩⟩, _, _, .same, ?_⟩
    have e : ptB (.tab t) = ([inB (.int t.1) 0 60, inB (.int t.2.1) 0 60, inB (.int t.2.2.1) 0 60, inB (.int t.2.2.2) 0 60].all id && !decide (det4 t = 0)) := by
      show entB t = _
      unfold entB
      simp only [List.all_cons, List.all_nil, id, Bool.and_true]
      congr 2
      refine decide_eq_decide.mpr ?_
      unfold det4
      omega
    rw [e] at q
    exact q
  | trn w' =>
    simp only [pgD]
    dsimp only [lenD]
    refine bl_t (decide_eq_true (by simp only [List.length_cons]; omega)) ⟨.str "turns", fun _ => ix_t at_zero ⟨rfl, rfl⟩, fun z => (nomatch z), ?_⟩
    refine eqS (bl_f (show decide (("turns" : Str) = "table") = false from by decide) ⟨false, fun z => (nomatch z), ite_f rfl ?_⟩)
    refine eqS (bl_t (decide_eq_true rfl) ⟨true, fun _ => eqI (bl_t rfl ⟨true, fun _ => optK_of rfl ⟨by decide, "str", rfl, bl_t rfl ⟨rfl, rfl⟩⟩, rfl, trivial⟩), ite_t rfl ?_⟩)
    have hs1 : w'.cps.size ≤ 16000 := hz.1
    have hwB : wB (.str w') = true := by
      unfold wB
      rw [List.all_eq_true]
      intro c hc
      exact decide_eq_true (lr_mem.mpr (hz.2 c hc))
    have q' : Ψ (.bl (decide (1 ≤ w'.cps.size) && decide (w'.cps.size ≤ 60))) B.M := by
      have e : ptB (.trn w') = (decide (1 ≤ w'.cps.size) && decide (w'.cps.size ≤ 60)) := by
        show (wB (.str w') && _) = _
        rw [hwB, Bool.true_and]
      rw [e] at q
      exact q
    have hlen : ((w'.length : Nat) : Int) = (w'.cps.size : Nat) := rfl
    unfold chainD
    refine optK_of rfl ⟨Nat.le_trans (show w'.cps.size ≤ 1000000 by omega) big_ok, ?_⟩
    rw [hlen]
    refine bl_c (fun e => ?_) (fun e => ?_)
    · have e := of_decide_eq_true e
      refine ite_t rfl ?_
      refine bl_v (bl_v ⟨true, fun _ => ?_, _, _, .same, ?_⟩)
      · refine compD_map (xs := Z.signs w') (fun K h => optK_of rfl h) (fun d => match d with | .str z => .bl (decide ((z.cps.toList.headD 0) ∈ ("LR" : Str).cps.toList)) | _ => .non) trivial (by rw [signs_len]; exact Nat.le_trans (show w'.cps.size ≤ 1000000 by omega) big_ok) (fun d hd Q q => ?_) ?_
        · obtain ⟨c, _, rfl⟩ := signs_mem hd
          exact ⟨c, rfl, q⟩
        · refine ⟨w'.cps.toList.map fun c => decide (c ∈ ("LR" : Str).cps.toList), ?_, ?_, rfl⟩
          · show some _ = some _
            unfold Z.signs
            rw [List.map_map, List.map_map]
            rfl
          · rw [List.all_map]
            have : w'.cps.toList.all (id ∘ fun c => decide (c ∈ ("LR" : Str).cps.toList)) = true := hwB
            rw [this]
      · rw [decide_eq_true (by omega : 1 ≤ w'.cps.size), Bool.true_and] at q'
        rw [Bool.and_true]
        show Ψ (.bl (decide ((w'.cps.size : Int) < 61))) B.M
        rw [show decide ((w'.cps.size : Int) < 61) = decide (w'.cps.size ≤ 60) from decide_eq_decide.mpr (by omega)]
        exact q'
    · have e := of_decide_eq_false e
      refine ite_f rfl ?_
      refine bl_v ⟨true, fun _ => ?_, _, _, .same, ?_⟩
      · refine compD_map (xs := Z.signs w') (fun K h => optK_of rfl h) (fun d => match d with | .str z => .bl (decide ((z.cps.toList.headD 0) ∈ ("LR" : Str).cps.toList)) | _ => .non) trivial (by rw [signs_len]; exact Nat.le_trans (show w'.cps.size ≤ 1000000 by omega) big_ok) (fun d hd Q q => ?_) ?_
        · obtain ⟨c, _, rfl⟩ := signs_mem hd
          exact ⟨c, rfl, q⟩
        · refine ⟨w'.cps.toList.map fun c => decide (c ∈ ("LR" : Str).cps.toList), ?_, ?_, rfl⟩
          · show some _ = some _
            unfold Z.signs
            rw [List.map_map, List.map_map]
            rfl
          · rw [List.all_map]
            have : w'.cps.toList.all (id ∘ fun c => decide (c ∈ ("LR" : Str).cps.toList)) = true := hwB
            rw [this]
      · rw [decide_eq_false (by omega : ¬ 1 ≤ w'.cps.size), Bool.false_and] at q'
        exact q'
  | swp =>
    simp only [pgD]
    dsimp only [lenD]
    refine bl_t (decide_eq_true (by simp only [List.length_cons]; omega)) ⟨.str "swap", fun _ => ix_t at_zero ⟨rfl, rfl⟩, fun z => (nomatch z), ?_⟩
    refine eqS (bl_f (show decide (("swap" : Str) = "table") = false from by decide) ⟨false, fun z => (nomatch z), ite_f rfl ?_⟩)
    refine eqS (bl_f (show decide (("swap" : Str) = "turns") = false from by decide) ⟨false, fun z => (nomatch z), ite_f rfl ?_⟩)
    refine eqS (bl_t (decide_eq_true rfl) (ite_t rfl ?_))
    refine eqI ⟨_, _, .same, q⟩
  | thn l =>
    simp only [pgD]
    dsimp only [lenD]
    refine bl_t (decide_eq_true (by simp only [List.length_cons]; omega)) ⟨.str "then", fun _ => ix_t at_zero ⟨rfl, rfl⟩, fun z => (nomatch z), ?_⟩
    refine eqS (bl_f (show decide (("then" : Str) = "table") = false from by decide) ⟨false, fun z => (nomatch z), ite_f rfl ?_⟩)
    refine eqS (bl_f (show decide (("then" : Str) = "turns") = false from by decide) ⟨false, fun z => (nomatch z), ite_f rfl ?_⟩)
    refine eqS (bl_f (show decide (("then" : Str) = "swap") = false from by decide) (ite_f rfl ?_))
    refine eqS (bl_t (decide_eq_true rfl) (ite_t rfl ?_))
    have ll : (((D.str "then" :: pgDs l).length : Nat) : Int) = (l.length : Int) + 1 := by rw [List.length_cons, pgDs_map, List.length_map]; omega
    have q' : Ψ (.bl (decide (2 ≤ l.length) && decide (l.length ≤ 6))) B.M := q
    unfold chainD
    try dsimp only [List.set, getS_z, getS_s, bin2, bin2T, ltD, leD, gtD, geD, cmp_i, add_i, sub_i, min2_i, max2_i]
    rw [ll]
    refine bl_c (fun e => ?_) (fun e => ?_)
    · have e := of_decide_eq_true e
      refine ite_t rfl (bl_v ⟨_, _, .same, ?_⟩)
      rw [decide_eq_true (by omega : 2 ≤ l.length), Bool.true_and] at q'
      show Ψ (.bl (decide ((l.length : Int) + 1 ≤ 7))) B.M
      rw [show decide ((l.length : Int) + 1 ≤ 7) = decide (l.length ≤ 6) from decide_eq_decide.mpr (by omega)]
      exact q'
    · have e := of_decide_eq_false e
      refine ite_f rfl ⟨_, _, .same, ?_⟩
      rw [decide_eq_false (by omega : ¬ 2 ≤ l.length), Bool.false_and] at q'
      exact q'
  | tms n p =>
    simp only [pgD]
    dsimp only [lenD]
    refine bl_t (decide_eq_true (by simp only [List.length_cons]; omega)) ⟨.str "times", fun _ => ix_t at_zero ⟨rfl, rfl⟩, fun z => (nomatch z), ?_⟩
    refine eqS (bl_f (show decide (("times" : Str) = "table") = false from by decide) ⟨false, fun z => (nomatch z), ite_f rfl ?_⟩)
    refine eqS (bl_f (show decide (("times" : Str) = "turns") = false from by decide) ⟨false, fun z => (nomatch z), ite_f rfl ?_⟩)
    refine eqS (bl_f (show decide (("times" : Str) = "swap") = false from by decide) (ite_f rfl ?_))
    refine eqS (bl_f (show decide (("times" : Str) = "then") = false from by decide) (ite_f rfl ?_))
    refine eqS (bl_t (decide_eq_true rfl) (ite_t rfl ?_))
    refine eqI (bl_v ⟨inB (.int n) 0 12, fun _ => optK_of rfl ⟨rfl, rfl, n, 0, 12, rfl, rfl, rfl⟩, _, _, .same, q⟩)
  | use x =>
    simp only [pgD]
    dsimp only [lenD]
    refine bl_t (decide_eq_true (by simp only [List.length_cons]; omega)) ⟨.str "use", fun _ => ix_t at_zero ⟨rfl, rfl⟩, fun z => (nomatch z), ?_⟩
    refine eqS (bl_f (show decide (("use" : Str) = "table") = false from by decide) ⟨false, fun z => (nomatch z), ite_f rfl ?_⟩)
    refine eqS (bl_f (show decide (("use" : Str) = "turns") = false from by decide) ⟨false, fun z => (nomatch z), ite_f rfl ?_⟩)
    refine eqS (bl_f (show decide (("use" : Str) = "swap") = false from by decide) (ite_f rfl ?_))
    refine eqS (bl_f (show decide (("use" : Str) = "then") = false from by decide) (ite_f rfl ?_))
    refine eqS (bl_f (show decide (("use" : Str) = "times") = false from by decide) (ite_f rfl ?_))
    refine eqS (bl_v ⟨nameB x, fun _ => eqI (bl_v ⟨nameB x, fun _ => optK_of rfl ⟨rfl, rfl, x, rfl, Nat.le_trans hz.1 (by decide), rfl, rfl⟩, rfl, rfl⟩), _, _, .same, q⟩)
def c__law_inner : Ct := fun ds M Ψ _ => ∃ p : Pg, ds = [pgD p] ∧ Ψ (.lst (pgDs (pgIn p))) M
theorem ok__law_inner {f : Addr} {fd : FuncData} {dvs : List V} {kws : List (Str × V)} (T : Txt K mg)  (F : FnZ K "_law_inner" "_law_inner" s__law_inner dvs kws f fd) : FnOk P w K mg base (L2.CX P w) 2 f fd ["_law_plan"] (spC K ["_law_plan"].length (c__law_inner)) := by
  have hnd := sc__law_inner.nd
  refine fnD F sc__law_inner (c__law_inner) fun cdv A outer s H E B Ξ hr z => ⟨_, (dss_cons (ds_if (dt_eq hr (de_ix (de_var (i := 0)) de_int) de_str) (dss_one (ds_ret (de_list1 T.n_list (da_cons (de_slice (de_var (i := 0)) (do_some de_int) do_none) da_nil)))) dss_nil)
    (dss_one (ds_ret (de_if (dt_eq hr (de_ix (de_var (i := 0)) de_int) de_str) (de_lst (da_cons (de_ix (de_var (i := 0)) de_int) da_nil)) (de_lst da_nil))))), fun ds Ψ hl hc => ?_⟩
  obtain ⟨p, rfl, q⟩ := hc
  rw [show ent (["_law_plan"] : List Str).length [pgD p] = [some (pgD p)] from rfl]
  try dsimp only [List.set, getS_z, getS_s, bin2, bin2T, ltD, leD, gtD, geD, cmp_i, add_i, sub_i, min2_i, max2_i]
  refine ix_tag ?_
  refine eqS ?_
  cases p with
  | thn l =>
    refine bl_t (decide_eq_true rfl) ?_
    refine ite_t rfl ?_
    simp only [pgD]
    show rtF B.M Ψ (.lst (cutD (.str "then" :: pgDs l) (some 1) none)) B.M
    rw [cutD_tail]
    exact ⟨_, _, .same, q⟩
  | tms n p =>
    refine bl_f (show decide (("times" : Str) = "then") = false from by decide) ?_
    refine ite_f rfl ?_
    refine ix_tag ?_
    refine eqS ?_
    refine bl_t (decide_eq_true rfl) ?_
    refine ite_t rfl ?_
    simp only [pgD]
    refine optK_of rfl ?_
    have q' : Ψ (.lst [pgD p]) B.M := by simpa only [pgIn, pgDs] using q
    exact ⟨ln (n := 1) rfl (by decide), _, _, .same, q'⟩
  | tab t =>
    refine bl_f (show decide (("table" : Str) = "then") = false from by decide) ?_
    refine ite_f rfl ?_
    refine ix_tag ?_
    refine eqS ?_
    refine bl_f (show decide (("table" : Str) = "times") = false from by decide) ?_
    refine ite_f rfl ?_
    exact ⟨ln (n := 0) rfl (by decide), _, _, .same, q⟩
  | trn t =>
    refine bl_f (show decide (("turns" : Str) = "then") = false from by decide) ?_
    refine ite_f rfl ?_
    refine ix_tag ?_
    refine eqS ?_
    refine bl_f (show decide (("turns" : Str) = "times") = false from by decide) ?_
    refine ite_f rfl ?_
    exact ⟨ln (n := 0) rfl (by decide), _, _, .same, q⟩
  | use t =>
    refine bl_f (show decide (("use" : Str) = "then") = false from by decide) ?_
    refine ite_f rfl ?_
    refine ix_tag ?_
    refine eqS ?_
    refine bl_f (show decide (("use" : Str) = "times") = false from by decide) ?_
    refine ite_f rfl ?_
    exact ⟨ln (n := 0) rfl (by decide), _, _, .same, q⟩
  | swp =>
    refine bl_f (show decide (("swap" : Str) = "then") = false from by decide) ?_
    refine ite_f rfl ?_
    refine ix_tag ?_
    refine eqS ?_
    refine bl_f (show decide (("swap" : Str) = "times") = false from by decide) ?_
    refine ite_f rfl ?_
    exact ⟨ln (n := 0) rfl (by decide), _, _, .same, q⟩
def c__law_wrong : Ct := fun ds M Ψ _ => ∃ p : Pg, ds = [pgD p] ∧ PgZs p ∧ pgK p ≤ 20 ∧ pgN p ≤ 5000 ∧ (PgOk p ∧ pgK p ≤ 8 → Ψ .non M) ∧ (¬ (PgOk p ∧ pgK p ≤ 8) → ∀ l, Ψ (.tup l) M)
theorem ok__law_wrong {f : Addr} {fd : FuncData} {dvs : List V} {kws : List (Str × V)} (T : Txt K mg) (h__law_is_part : Gf P w K mg base "_law_is_part" 3 (c__law_is_part) b__law_is_part) (h__law_inner : Gf P w K mg base "_law_inner" 2 (c__law_inner) b__law_inner) (F : FnZ K "_law_wrong" "_law_wrong" s__law_wrong dvs kws f fd) : FnOk P w K mg base (L2.CX P w) 4 f fd ["_law_item"] (spC K ["_law_item"].length (c__law_wrong)) := by
  have hnd := sc__law_wrong.nd
  refine fnD F sc__law_wrong (c__law_wrong) fun cdv A outer s H E B Ξ hr z => ⟨_, (dss_cons (ds_set (i := 1) hnd (de_lstM (da_cons (de_tup (da_cons (de_var (i := 0)) (da_cons (de_tup da_nil) da_nil))) da_nil)))
    (dss_cons (ds_while z.po (dt_ne hr (de_var (i := 1)) (de_lst da_nil)) (dss_cons (ds_asg (de_pop0 (de_var (i := 1))) (dg_tup (n := 2) rfl (dgs_cons (dg_name (i := 2) hnd) (dgs_cons (dg_name (i := 3) hnd) dgs_nil))))
    (dss_cons (ds_if (dw_orV (dt_gt (de_len T.n_len (da_cons (de_var (i := 3)) da_nil)) de_int) (dw_orV (dt_not (dt_val (de_isi T.n_isinstance (da_cons (de_var (i := 2)) (da_cons (de_ty (n := "tuple") T.n_tuple (by decide +kernel)) da_nil))))) (dw_or1 (dt_not (dt_val (de_call h__law_is_part hr z (List.Mem.head _) (da_cons (de_var (i := 2)) da_nil))))))).pt (dss_one (ds_ret (de_var (i := 3)))) dss_nil)
    (dss_cons (ds_set (i := 4) hnd (de_call h__law_inner hr z (List.Mem.head _) (da_cons (de_var (i := 2)) da_nil)))
    (dss_one (ds_set (i := 1) hnd (de_addM (de_var (i := 1)) (de_revL (de_lc rfl hnd (di_range1 T.n_range (da_cons (de_len T.n_len (da_cons (de_var (i := 4)) da_nil)) da_nil)) (blkOk_by (own := [("_law_at", 5)]) (by rfl)) (tg_name (i := 5) (by decide)) (fun _ _ _ _ _ => (pg_name (i := 5) hnd rfl (by first | exact Or.inl rfl | exact Or.inr rfl) (by first | exact .inl rfl | exact .inr rfl))) (fun _ _ _ _ _ _ => dts_nil) (fun _ _ _ _ _ _ => (de_tup (da_cons (de_ix (de_var (i := 4)) (de_var (i := 5))) (da_cons (de_add (de_var (i := 3)) (de_tup (da_cons (de_var (i := 5)) da_nil))) da_nil)))))))))))))
    (dss_one (ds_ret de_non)))), fun ds Ψ hl hc => ?_⟩
  obtain ⟨p, rfl, hz, hk, hn, q1, q2⟩ := hc
  rw [show ent (["_law_item", "_law_left", "_law_part", "_law_path", "_law_inner_here", "_law_at"] : List Str).length [pgD p] = [some (pgD p), none, none, none, none, none] from rfl]
  try dsimp only [List.set, getS_z, getS_s, bin2, bin2T, ltD, leD, gtD, geD, cmp_i, add_i, sub_i, min2_i, max2_i]
  refine ⟨ln (n := 0) rfl (by decide), ln (n := 2) rfl (by decide), ln (n := 1) rfl (by decide), fun pw ew => ?_⟩
  try dsimp only [List.set, getS_z, getS_s, bin2, bin2T, ltD, leD, gtD, geD, cmp_i, add_i, sub_i, min2_i, max2_i]
  let J : Nat → En → Sto → Prop := fun n r M' => ∃ (st : List (Pg × List Nat)) (pw : Addr) (o2 o3 o4 : Option D), n = pgNs (st.map (·.1)) ∧ B.M pw = none ∧ (∀ a, B.M a ≠ none → M' a = B.M a) ∧ M' pw = some (.lst (st.reverse.map wtD)) ∧ r = [some (pgD p), some (.ref pw), o2, o3, o4, none] ∧ pgNs (st.map (·.1)) ≤ 5000 ∧ (∀ x ∈ st, PgZs x.1 ∧ pgK x.1 ≤ 20 ∧ x.2.length ≤ 8) ∧ ((PgOk p ∧ pgK p ≤ 8) ↔ ∀ x ∈ st, chk (8 - x.2.length) x.1)
  refine ⟨fun r M' => ∃ n, J n r M', muJ J, .of ⟨_, [(p, [])], pw, none, none, none, rfl, ew, fun a ha => ?_, updM_same, rfl, by simpa [pgNs] using hn, fun x hx => ?_, ?_⟩, fun r M' h => ?_⟩
  · rw [updM_ne (show a ≠ _ from fun z => ha (by rw [z]; exact ew))]
  · rw [List.mem_singleton] at hx
    subst hx
    exact ⟨hz, hk, Nat.zero_le _⟩
  · rw [← chk_iff 8 p]
    simp
  obtain ⟨n, ⟨st, pw, o2, o3, o4, rfl, ew, hB, h2, rfl, hs, hks, hiff⟩, hmu⟩ := muJ_at h
  generalize hmM : muJ J [some (pgD p), some (.ref pw), o2, o3, o4, none] M' = mm at *
  try dsimp only [List.set, getS_z, getS_s, bin2, bin2T, ltD, leD, gtD, geD, cmp_i, add_i, sub_i, min2_i, max2_i]
  refine ⟨ln (n := 0) rfl (by decide), nePlL (lstOf_at h2) rfl (PlL.of (n := 24) fun d hd => ?_) (PlL.nil (n := 0)) (fun b hb => ?_)⟩
  · obtain ⟨x, hx, rfl⟩ := List.mem_map.mp hd
    have hx := hks x (List.mem_reverse.mp hx)
    exact pl_wt (k := 22) hx.1 (by omega)
  refine bl_c (fun e => ?_) (fun e => ?_)
  rotate_left
  · obtain rfl : st = [] := by
      cases st with
      | nil => rfl
      | cons x st =>
        have e2 := hb.mp (by simpa using e)
        simp at e2
    refine ite_f rfl ?_
    refine ⟨_, _, .drop, ?_⟩
    rw [rs_same hB]
    exact q1 (hiff.mpr fun x hx => nomatch hx)
  obtain ⟨x, st, rfl⟩ : ∃ x st', st = x :: st' := by
    cases st with
    | cons x st => exact ⟨x, st, rfl⟩
    | nil =>
      have e2 := hb.mpr rfl
      rw [e2] at e
      simp at e
  refine ite_t rfl ?_
  refine ⟨⟨_, lstOf_at h2⟩, pop_at h2 (d := wtD x) (by simp) ?_⟩
  rw [List.reverse_cons, List.map_append, List.map_singleton, List.dropLast_concat]
  obtain ⟨q, pth⟩ := x
  have hq := hks _ List.mem_cons_self
  dsimp only at hq
  have hst := fun x hx => hks x (List.mem_cons_of_mem _ hx)
  have hz' := (pgZs_iff q).mp hq.1
  have lpth : (List.map (fun i => D.int (i : Nat)) pth).length = pth.length := List.length_map ..
  have hB2 : ∀ a, B.M a ≠ none → updM M' pw (.lst (st.reverse.map wtD)) a = B.M a := fun a ha => by
    rw [updM_ne (show a ≠ _ from fun z => ha (by rw [z]; exact ew))]
    exact hB a ha
  refine ⟨rfl, ?_⟩
  try dsimp only [List.set, getS_z, getS_s, bin2, bin2T, ltD, leD, gtD, geD, cmp_i, add_i, sub_i, min2_i, max2_i]
  refine ⟨rfl, ?_⟩
  try dsimp only [List.set, getS_z, getS_s, bin2, bin2T, ltD, leD, gtD, geD, cmp_i, add_i, sub_i, min2_i, max2_i]
  dsimp only [lenD]
  rw [lpth]
  refine bl_v ?_
  refine ⟨!ptB q, fun _ => ?_, ?_⟩
  · refine ⟨by decide, "tuple", by rw [pgD_tag]; rfl, ?_⟩
    refine bl_v ⟨!ptB q, fun _ => ?_, rfl, rfl⟩
    exact ⟨rfl, rfl, q, rfl, hz'.1, bl_v ⟨rfl, rfl⟩⟩
  by_cases hbad : (decide ((7 : Int) < (pth.length : Nat)) || !ptB q) = true
  · refine ite_t hbad ?_
    refine ⟨_, _, .drop, ?_⟩
    rw [rs_same hB2]
    refine q2 (fun hok => ?_) _
    have hc := hiff.mp hok (q, pth) List.mem_cons_self
    dsimp only at hc
    rcases Bool.or_eq_true _ _ |>.mp hbad with h8 | hb
    · have h8 := of_decide_eq_true h8
      rw [show 8 - pth.length = 0 by omega] at hc
      exact hc
    · obtain ⟨k, hk⟩ : ∃ k, 8 - pth.length = k + 1 := by
        cases h : 8 - pth.length with
        | zero => rw [h] at hc; exact hc.elim
        | succ k => exact ⟨k, rfl⟩
      rw [hk] at hc
      rw [(pt_iff hz'.1).mpr hc.1] at hb
      cases hb
  have hbad := Bool.eq_false_iff.mpr hbad
  refine ite_f hbad ?_
  obtain ⟨hb1, hb2⟩ := Bool.or_eq_false_iff.mp hbad
  have hb1 := of_decide_eq_false hb1
  have hpt : PtOk q := (pt_iff hz'.1).mp (by simpa using hb2)
  have lin := pgN_in q
  rw [List.map_cons, pgNs] at hs
  dsimp only at hs
  have lin2 := pgNs_len (pgIn q)
  refine ⟨rfl, rfl, q, rfl, ?_⟩
  try dsimp only [List.set, getS_z, getS_s, bin2, bin2T, ltD, leD, gtD, geD, cmp_i, add_i, sub_i, min2_i, max2_i]
  try dsimp only [lenD]
  have hli : (pgDs (pgIn q)).length = (pgIn q).length := by rw [pgDs_map, List.length_map]
  refine compD_map (xs := rngD 0 (pgIn q).length) (S := fun _ => True) (fun K h => ?_) (rngN (pgDs (pgIn q)) (pth.map fun i => .int (i : Nat))) trivial ?_ (fun d hd Q hQ => ?_) ?_
  · show fitR (((pgDs (pgIn q)).length : Nat) : Int) ∧ K (rngD 0 (((pgDs (pgIn q)).length : Nat) : Int).toNat) (fun _ => True) _
    rw [hli]
    exact ⟨⟨by omega, by omega⟩, h⟩
  · rw [rng_len]
    exact Nat.le_trans (show _ ≤ 1000000 by omega) big_ok
  · obtain ⟨i, hi⟩ := List.getElem?_of_mem hd
    obtain ⟨hi2, rfl⟩ := rng_at hi
    have hg : (pgDs (pgIn q))[i]? = some (pgD ((pgIn q)[i])) := by
      rw [pgDs_map, List.getElem?_map, List.getElem?_eq_getElem hi2]
      rfl
    dsimp only [wipeD, asN, List.map, List.set]
    try dsimp only [List.set, getS_z, getS_s, bin2, bin2T, ltD, leD, gtD, geD, cmp_i, add_i, sub_i, min2_i, max2_i]
    unfold rngN at hQ
    dsimp only at hQ
    rw [show ((0 : Int) + (i : Nat)).toNat = i by omega, show ((0 : Int) + (i : Nat)) = (i : Nat) by omega, hg] at hQ
    rw [show ((0 : Int) + (i : Nat)) = (i : Nat) by omega]
    refine ix_l (at_nat rfl hg) ?_
    refine ⟨ln (n := 1) rfl (by decide), ?_⟩
    refine ⟨?_, ln (n := 2) rfl (by decide), hQ⟩
    rw [List.length_map]
    exact Nat.le_trans (show pth.length + 1 ≤ 1000000 by omega) big_ok
  rw [← hli, rng_new, newW_D]
  have ln : ((newW pth (pgIn q)).map wtD).length = (pgIn q).length := by rw [List.length_map, ← List.length_map (f := fun x : Pg × List Nat => x.1), newW_fst]
  refine ⟨_, rfl, ⟨_, _, lstOf_at updM_same, rfl, ?_, fun pn en => ?_⟩⟩
  · have a1 := pgNs_len (pgIn q)
    have a2 := pgNs_len (st.map (·.1))
    rw [List.length_map] at a2
    rw [List.length_map, List.length_reverse, List.length_reverse, ln]
    exact Nat.le_trans (show st.length + (pgIn q).length ≤ 1000000 by omega) big_ok
  have nn2 : pn ≠ pw := fun z => by rw [z, updM_same] at en; cases en
  have nB : B.M pn = none := by
    rw [updM_ne nn2] at en
    cases eb : B.M pn with
    | none => rfl
    | some c => rw [hB pn (by rw [eb]; simp), eb] at en; cases en
  have ecat : List.map wtD st.reverse ++ ((newW pth (pgIn q)).map wtD).reverse = (newW pth (pgIn q) ++ st).reverse.map wtD := by
    rw [List.reverse_append, List.map_append, List.map_reverse, List.map_reverse]
  rw [ecat]
  have em : (newW pth (pgIn q) ++ st).map (·.1) = pgIn q ++ st.map (·.1) := by rw [List.map_append, newW_fst]
  try dsimp only [List.set, getS_z, getS_s, bin2, bin2T, ltD, leD, gtD, geD, cmp_i, add_i, sub_i, min2_i, max2_i]
  have hJ : J (pgNs ((newW pth (pgIn q) ++ st).map (·.1))) [some (pgD p), some (.ref pn), some (pgD q), some (.tup (pth.map fun i => .int (i : Nat))), some (.lst (pgDs (pgIn q))), none] (updM (updM M' pw (.lst (st.reverse.map wtD))) pn (.lst ((newW pth (pgIn q) ++ st).reverse.map wtD))) := by
    refine ⟨_, pn, _, _, _, rfl, nB, fun a ha => ?_, updM_same, rfl, ?_, fun x hx => ?_, ?_⟩
    · rw [updM_ne (show a ≠ _ from fun z => ha (by rw [z]; exact nB))]
      exact hB2 a ha
    · rw [em, pgNs_app]; omega
    · rcases List.mem_append.mp hx with hx | hx
      · have hm := newW_mem hx
        have := pgK_in hm.1
        exact ⟨hz'.2 _ hm.1, by omega, by omega⟩
      · exact hst x hx
    · rw [hiff]
      constructor
      · intro h x hx
        rcases List.mem_append.mp hx with hx | hx
        · have hc := h (q, pth) List.mem_cons_self
          dsimp only at hc
          obtain ⟨hm, hl⟩ := newW_mem hx
          rw [show 8 - pth.length = (8 - x.2.length) + 1 by omega] at hc
          exact hc.2 _ hm
        · exact h x (List.mem_cons_of_mem _ hx)
      · intro h x hx
        rcases List.mem_cons.mp hx with rfl | hx
        · dsimp only
          rw [show 8 - pth.length = (7 - pth.length) + 1 by omega]
          refine ⟨hpt, fun y hy => ?_⟩
          rw [← newW_fst pth (pgIn q)] at hy
          obtain ⟨x, hx, rfl⟩ := List.mem_map.mp hy
          have := h x (List.mem_append_left _ hx)
          rw [(newW_mem hx).2, show 8 - (pth.length + 1) = 7 - pth.length by omega] at this
          exact this
        · exact h x (List.mem_append_right _ hx)
  refine .of ⟨⟨_, hJ⟩, Nat.lt_of_le_of_lt (muJ_le hJ) ?_⟩
  rw [hmu, em, pgNs_app, List.map_cons, pgNs]
  dsimp only
  omega
def c__law_reading : Ct := fun ds M Ψ _ => ∃ (d : D) (ty : String), ds = [d] ∧ tyN M d = some ty ∧ (∀ x, d = .str x → x.cps.size ≤ 5000) ∧ Ψ (match rdO d with | some p => pgD p | none => .non) M
theorem ok__law_reading {f : Addr} {fd : FuncData} {dvs : List V} {kws : List (Str × V)} (T : Txt K mg) (h__law_parsed : Gf P w K mg base "_law_parsed" 23 (c__law_parsed 10) b__law_parsed) (h__law_wrong : Gf P w K mg base "_law_wrong" 4 (c__law_wrong) b__law_wrong) (h__law_text : Gf P w K mg base "_law_text" 9 (c__law_text 8) b__law_text) (F : FnZ K "_law_reading" "_law_reading" s__law_reading dvs kws f fd) : FnOk P w K mg base (L2.CX P w) 24 f fd ["_law_wording"] (spC K ["_law_wording"].length (c__law_reading)) := by
  have hnd := sc__law_reading.nd
  refine fnD F sc__law_reading (c__law_reading) fun cdv A outer s H E B Ξ hr z => ⟨_, (dss_cons (ds_if (dt_not (dt_val (de_isi T.n_isinstance (da_cons (de_var (i := 0)) (da_cons (de_ty (n := "str") T.n_str (by decide +kernel)) da_nil))))) (dss_one (ds_ret de_non)) dss_nil)
    (dss_cons (ds_set (i := 1) hnd (de_lstM (da_cons de_int da_nil)))
    (dss_cons (ds_set (i := 2) hnd (de_call h__law_parsed hr z (List.Mem.head _) (da_cons (de_var (i := 0)) (da_cons (de_var (i := 1)) (da_cons de_int da_nil)))))
    (dss_cons (ds_if (dw_orV (dt_is (de_var (i := 2)) de_non) (dw_orV (dt_ne hr (de_ix (de_var (i := 1)) de_int) (de_len T.n_len (da_cons (de_var (i := 0)) da_nil))) (dw_or1 (dt_isnt (de_call h__law_wrong hr z (List.Mem.head _) (da_cons (de_var (i := 2)) da_nil)) de_non)))).pt (dss_one (ds_ret de_non)) dss_nil)
    (dss_one (ds_ret (de_ifV (dt_eq hr (de_call h__law_text hr z (List.Mem.head _) (da_cons (de_var (i := 2)) da_nil)) (de_var (i := 0))) (de_var (i := 2)) de_non))))))), fun ds Ψ hl hc => ?_⟩
  obtain ⟨d, ty, rfl, hty, ht, q⟩ := hc
  rw [show ent (["_law_wording", "_law_spot", "_law_found"] : List Str).length [d] = [some d, none, none] from rfl]
  try dsimp only [List.set, getS_z, getS_s, bin2, bin2T, ltD, leD, gtD, geD, cmp_i, add_i, sub_i, min2_i, max2_i]
  refine ⟨by decide, ty, hty, ?_⟩
  by_cases e : ty = "str"
  rotate_left
  · have e0 : isB ty "str" = false := by
      have h7 := tyN_ok hty
      simp only [okTy, List.mem_cons, List.not_mem_nil, or_false] at h7
      rcases h7 with rfl | rfl | rfl | rfl | rfl | rfl | rfl
      all_goals first
        | rfl
        | exact absurd rfl e
    have e1 : rdO d = none := by cases d <;> first | rfl | (cases hty; exact absurd rfl e)
    rw [e1] at q
    refine bl_f e0 ?_
    exact ite_t rfl ⟨_, _, .same, q⟩
  subst e
  obtain ⟨x, rfl⟩ := ty_str hty
  have ht := ht x rfl
  obtain ⟨t, rfl⟩ : ∃ t : List Nat, x = ⟨t.toArray⟩ := ⟨strC x, wS x⟩
  have ht : t.length ≤ 5000 := by simpa using ht
  have q : Ψ (match rdP t with | some p => pgD p | none => .non) B.M := q
  have ltok : (⟨t.toArray⟩ : Str).length ≤ sizeLine := w_sz (by omega)
  have lt' : ((⟨t.toArray⟩ : Str).length : Int) = t.length := by show ((t.toArray.size : Nat) : Int) = _; rw [List.size_toArray]
  refine bl_t rfl ?_
  refine ite_f rfl ?_
  refine ⟨ln (n := 1) rfl (by decide), fun a ha => ?_⟩
  have e0 : Cell.lst [.int 0] = sptC t t := by unfold sptC; rw [Nat.sub_self]; rfl
  rw [e0]
  refine ⟨rfl, rfl, a, t, t, 9, rfl, updM_same, List.suffix_refl _, ht, by decide, fun p r' h1 => ?_, fun h1 r' => ?_⟩
  rotate_left
  · rw [rdP_none' h1] at q
    rw [updM_updM]
    refine bl_v ⟨true, fun z => (nomatch z), ite_t rfl ⟨_, _, .drop, ?_⟩⟩
    rw [rs_upd ha]
    exact q
  have g0 := prs_got h1 (by omega)
  have g1 := g0.2.1
  rw [updM_updM]
  refine bl_v ?_
  rw [pg_not_none]
  have hne : (decide (((t.length - r'.length : Nat) : Int) ≠ (t.length : Int))) = decide (r' ≠ []) := by
    have := sfx_le g0.1
    refine decide_eq_decide.mpr ?_
    rw [← List.length_pos_iff]
    omega
  by_cases hok : PgOk p ∧ pgK p ≤ 8
  · refine ⟨!decide (((t.length - r'.length : Nat) : Int) = (t.length : Int)), fun _ => sp_ix updM_same ⟨ltok, ?_⟩, ?_⟩
    · rw [lt']
      refine neI (bl_v ⟨false, fun _ => ?_, by rw [Bool.or_false], rfl⟩)
      exact ⟨rfl, rfl, p, rfl, g0.2.2.1, by have := g0.2.2.2; omega, by omega, fun _ => bl_f rfl ⟨rfl, rfl⟩, fun z => absurd hok z⟩
    by_cases hr : r' = []
    · subst hr
      refine ite_f (by simp) ?_
      refine ⟨rfl, rfl, p, rfl, hok.1, hok.2, by have := g0.2.1; omega, eqS ?_⟩
      refine bl_v ?_
      refine ⟨match rdP t with | some p => pgD p | none => .non, fun z => ⟨?_, rfl⟩, fun z => ⟨?_, rfl⟩, _, _, .drop, ?_⟩
      · rw [rdP_iff.mpr ⟨hok.1, hok.2, w_eq.mp (of_decide_eq_true z)⟩]
      · rw [rdP_none h1 fun y => of_decide_eq_false z (w_eq.mpr y.2.2)]
      · rw [rs_upd ha]
        exact q
    · have hl := List.length_pos_iff.mpr hr
      refine ite_t ?_ ⟨_, _, .drop, ?_⟩
      · have := sfx_le g0.1
        rw [decide_eq_false (by omega)]
        rfl
      rw [rs_upd ha]
      have : rdP t = none := by
        rw [rdP_none h1]
        rintro ⟨a1, a2, a3⟩
        have := prs_text p 9 [] a1 (by omega) (.inl rfl)
        rw [List.append_nil, a3, h1] at this
        cases this
        exact hr rfl
      rw [this] at q
      exact q
  · rw [rdP_none h1 fun z => hok ⟨z.1, z.2.1⟩] at q
    refine ⟨true, fun _ => sp_ix updM_same ⟨ltok, ?_⟩, ite_t rfl ⟨_, _, .drop, by rw [rs_upd ha]; exact q⟩⟩
    rw [lt']
    refine neI (bl_v ⟨true, fun _ => ?_, by rw [Bool.or_true], rfl⟩)
    exact ⟨rfl, rfl, p, rfl, g0.2.2.1, by have := g0.2.2.2; omega, by omega, fun z => absurd z hok, fun _ l => bl_t rfl ⟨rfl, rfl⟩⟩
def c__law_same (n : Nat) : Ct := fun ds M Ψ _ => ∃ x y, ds = [x, y] ∧ Same M n x y ∧ Ψ (.bl true) M
theorem no__law_same : ∀ ds M Ψ Ξ, ¬ c__law_same 0 ds M Ψ Ξ := fun ds M Ψ Ξ ⟨_, _, _, h, _⟩ => h
theorem ok__law_same {f : Addr} {fd : FuncData} {dvs : List V} {kws : List (Str × V)} (T : Txt K mg) {lv dp : Nat} (hlv : 1 ≤ lv) (h__law_same : Gf P w K mg base "_law_same" lv (c__law_same dp) b__law_same) (F : FnZ K "_law_same" "_law_same" s__law_same dvs kws f fd) : FnOk P w K mg base (L2.CX P w) (lv + 1) f fd ["_law_found", "_law_due"] (spC K ["_law_found", "_law_due"].length (c__law_same (dp + 1))) := by
  have hnd := sc__law_same.nd
  refine fnD F sc__law_same (c__law_same (dp + 1)) fun cdv A outer s H E B Ξ hr z => ⟨_, (dss_cons (ds_if (dt_is (de_var (i := 1)) de_non) (dss_one (ds_ret (de_is (de_var (i := 0)) de_non))) dss_nil)
    (dss_cons (ds_if (dw_or (dt_val (de_isi T.n_isinstance (da_cons (de_var (i := 1)) (da_cons (de_ty (n := "bool") T.n_bool (by decide +kernel)) da_nil)))) (dw_or1 (dt_val (de_isi T.n_isinstance (da_cons (de_var (i := 0)) (da_cons (de_ty (n := "bool") T.n_bool (by decide +kernel)) da_nil)))))).pt (dss_one (ds_ret (de_and (de_isi T.n_isinstance (da_cons (de_var (i := 1)) (da_cons (de_ty (n := "bool") T.n_bool (by decide +kernel)) da_nil))) (de_and (de_isi T.n_isinstance (da_cons (de_var (i := 0)) (da_cons (de_ty (n := "bool") T.n_bool (by decide +kernel)) da_nil))) (de_and1 (de_eq hr (de_var (i := 0)) (de_var (i := 1)))))))) dss_nil)
    (dss_cons (ds_if (dt_val (de_isi T.n_isinstance (da_cons (de_var (i := 1)) (da_cons (de_tup (da_cons (de_ty (n := "int") T.n_int (by decide +kernel)) (da_cons (de_ty (n := "str") T.n_str (by decide +kernel)) da_nil))) da_nil)))) (dss_one (ds_ret (de_and (de_isi T.n_isinstance (da_cons (de_var (i := 0)) (da_cons (de_tup (da_cons (de_ty (n := "int") T.n_int (by decide +kernel)) (da_cons (de_ty (n := "str") T.n_str (by decide +kernel)) da_nil))) da_nil))) (de_and (de_eq hr (de_isi T.n_isinstance (da_cons (de_var (i := 0)) (da_cons (de_ty (n := "int") T.n_int (by decide +kernel)) da_nil))) (de_isi T.n_isinstance (da_cons (de_var (i := 1)) (da_cons (de_ty (n := "int") T.n_int (by decide +kernel)) da_nil)))) (de_and1 (de_eq hr (de_var (i := 0)) (de_var (i := 1)))))))) dss_nil)
    (dss_cons (ds_if (dw_or (dt_ne hr (de_isi T.n_isinstance (da_cons (de_var (i := 1)) (da_cons (de_ty (n := "list") T.n_list (by decide +kernel)) da_nil))) (de_isi T.n_isinstance (da_cons (de_var (i := 0)) (da_cons (de_ty (n := "list") T.n_list (by decide +kernel)) da_nil)))) (dw_or1 (dt_ne hr (de_isi T.n_isinstance (da_cons (de_var (i := 1)) (da_cons (de_ty (n := "tuple") T.n_tuple (by decide +kernel)) da_nil))) (de_isi T.n_isinstance (da_cons (de_var (i := 0)) (da_cons (de_ty (n := "tuple") T.n_tuple (by decide +kernel)) da_nil)))))).pt (dss_one (ds_ret de_bl)) dss_nil)
    (dss_one (ds_ret (de_and (de_eq hr (de_len T.n_len (da_cons (de_var (i := 0)) da_nil)) (de_len T.n_len (da_cons (de_var (i := 1)) da_nil))) (de_and1 (de_all1 rfl T.n_all (da_cons (de_lc rfl hnd (di_zip T.n_zip (da_cons (de_var (i := 0)) (da_cons (de_var (i := 1)) da_nil))) (blkOk_by (own := [("_law_one", 2), ("_law_two", 3)]) (by rfl)) (tg_tup2 (by decide) (by decide)) (fun _ _ _ _ _ => (pg_tup rfl (pgs_cons (pg_name (i := 2) hnd rfl (by first | exact Or.inl rfl | exact Or.inr rfl) (by first | exact .inl rfl | exact .inr rfl)) (pgs_cons (pg_name (i := 3) hnd rfl (by first | exact Or.inl rfl | exact Or.inr rfl) (by first | exact .inl rfl | exact .inr rfl)) pgs_nil)))) (fun _ _ _ _ _ _ => dts_nil) (fun _ _ _ _ _ _ => (de_call (hj := by omega) h__law_same hr zx_blk (List.Mem.head _) (da_cons (de_var (i := 2)) (da_cons (de_var (i := 3)) da_nil))))) da_nil)))))))))), fun ds Ψ hl hc => ?_⟩
  obtain ⟨x, y, rfl, hs, q⟩ := hc
  rcases hs with ⟨rfl, rfl⟩ | ⟨b, rfl, rfl⟩ | ⟨i, rfl, rfl⟩ | ⟨s, rfl, rfl⟩ | ⟨xs, ys, hxy, hl, hl2, hs⟩
  · refine bl_t rfl ?_
    exact ⟨_, _, .same, q⟩
  · refine bl_f rfl ?_
    refine ⟨by decide, "bool", rfl, ?_⟩
    refine bl_t rfl ?_
    refine ⟨by decide, "bool", rfl, ?_⟩
    refine bl_t rfl ?_
    refine ⟨by decide, "bool", rfl, ?_⟩
    refine bl_t rfl ?_
    refine eqB ?_
    refine ⟨_, _, .same, ?_⟩
    rw [decide_eq_true rfl]
    exact q
  · refine bl_f rfl ?_
    refine ⟨by decide, "int", rfl, ?_⟩
    refine bl_f rfl ?_
    refine ⟨by decide, "int", rfl, ?_⟩
    refine bl_f rfl ?_
    refine ⟨ln (n := 2) rfl (by decide), ?_⟩
    refine ⟨["int", "str"], rfl, by decide, "int", rfl, ?_⟩
    refine bl_t rfl ?_
    refine ⟨ln (n := 2) rfl (by decide), ?_⟩
    refine ⟨["int", "str"], rfl, by decide, "int", rfl, ?_⟩
    refine bl_t rfl ?_
    refine ⟨by decide, "int", rfl, ?_⟩
    refine ⟨by decide, "int", rfl, ?_⟩
    refine eqB ?_
    refine bl_t rfl ?_
    refine eqI ?_
    refine ⟨_, _, .same, ?_⟩
    rw [decide_eq_true rfl]
    exact q
  · refine bl_f rfl ?_
    refine ⟨by decide, "str", rfl, ?_⟩
    refine bl_f rfl ?_
    refine ⟨by decide, "str", rfl, ?_⟩
    refine bl_f rfl ?_
    refine ⟨ln (n := 2) rfl (by decide), ?_⟩
    refine ⟨["int", "str"], rfl, by decide, "str", rfl, ?_⟩
    refine bl_t rfl ?_
    refine ⟨ln (n := 2) rfl (by decide), ?_⟩
    refine ⟨["int", "str"], rfl, by decide, "str", rfl, ?_⟩
    refine bl_t rfl ?_
    refine ⟨by decide, "str", rfl, ?_⟩
    refine ⟨by decide, "str", rfl, ?_⟩
    refine eqB ?_
    refine bl_t rfl ?_
    refine eqS ?_
    refine ⟨_, _, .same, ?_⟩
    rw [decide_eq_true rfl]
    exact q
  · rcases hxy with ⟨hx, hy⟩ | ⟨rfl, rfl⟩
    · have tx := lst_ty hx
      have ty := lst_ty hy
      have ny : isN y = false := by rcases lst_cs hy with rfl | ⟨p, rfl, _⟩ <;> rfl
      refine bl_f ny ?_
      refine ⟨by decide, _, ty, ?_⟩
      refine bl_f rfl ?_
      refine ⟨by decide, _, tx, ?_⟩
      refine bl_f rfl ?_
      refine ⟨ln (n := 2) rfl (by decide), ?_⟩
      refine ⟨["int", "str"], rfl, by decide, _, ty, ?_⟩
      refine bl_f rfl ?_
      refine ⟨by decide, _, ty, ?_⟩
      refine ⟨by decide, _, tx, ?_⟩
      refine neB ?_
      refine bl_f rfl ?_
      refine ⟨by decide, _, ty, ?_⟩
      refine ⟨by decide, _, tx, ?_⟩
      refine neB ?_
      refine bl_f rfl ?_
      rcases lst_cs hx with rfl | ⟨p, rfl, hp⟩
      · rcases lst_cs hy with rfl | ⟨p', rfl, hp'⟩
        · refine eqI ?_
          refine bl_t (decide_eq_true (by omega)) ?_
          refine compD_map (xs := zipD xs ys) (S := fun M => lstOf M _ = some xs ∧ lstOf M _ = some ys) (fun K h => ⟨_, _, hx, hy, h⟩) (fun _ => .bl true) ⟨hx, hy⟩ (by rw [zip_len]; exact Nat.le_trans (by omega) big_ok) (fun d hd Q h => ?_) ?_
          · obtain ⟨i, a, b, e1, e2, rfl⟩ := zip_mem hd
            exact ⟨rfl, rfl, a, b, rfl, hs i a b e1 e2, h⟩
          · rw [all_bl]
            refine ⟨_, rfl, ?_⟩
            rw [all_tt]
            exact ⟨_, _, .same, q⟩
        · refine ⟨_, hy, ?_⟩
          refine eqI ?_
          refine bl_t (decide_eq_true (by omega)) ?_
          refine compD_map (xs := zipD xs ys) (S := fun M => lstOf M _ = some xs ∧ lstOf M _ = some ys) (fun K h => ⟨_, _, hx, hy, h⟩) (fun _ => .bl true) ⟨hx, hy⟩ (by rw [zip_len]; exact Nat.le_trans (by omega) big_ok) (fun d hd Q h => ?_) ?_
          · obtain ⟨i, a, b, e1, e2, rfl⟩ := zip_mem hd
            exact ⟨rfl, rfl, a, b, rfl, hs i a b e1 e2, h⟩
          · rw [all_bl]
            refine ⟨_, rfl, ?_⟩
            rw [all_tt]
            exact ⟨_, _, .same, q⟩
      · rcases lst_cs hy with rfl | ⟨p', rfl, hp'⟩
        · refine ⟨_, hx, ?_⟩
          refine eqI ?_
          refine bl_t (decide_eq_true (by omega)) ?_
          refine compD_map (xs := zipD xs ys) (S := fun M => lstOf M _ = some xs ∧ lstOf M _ = some ys) (fun K h => ⟨_, _, hx, hy, h⟩) (fun _ => .bl true) ⟨hx, hy⟩ (by rw [zip_len]; exact Nat.le_trans (by omega) big_ok) (fun d hd Q h => ?_) ?_
          · obtain ⟨i, a, b, e1, e2, rfl⟩ := zip_mem hd
            exact ⟨rfl, rfl, a, b, rfl, hs i a b e1 e2, h⟩
          · rw [all_bl]
            refine ⟨_, rfl, ?_⟩
            rw [all_tt]
            exact ⟨_, _, .same, q⟩
        · refine ⟨_, hx, _, hy, ?_⟩
          refine eqI ?_
          refine bl_t (decide_eq_true (by omega)) ?_
          refine compD_map (xs := zipD xs ys) (S := fun M => lstOf M _ = some xs ∧ lstOf M _ = some ys) (fun K h => ⟨_, _, hx, hy, h⟩) (fun _ => .bl true) ⟨hx, hy⟩ (by rw [zip_len]; exact Nat.le_trans (by omega) big_ok) (fun d hd Q h => ?_) ?_
          · obtain ⟨i, a, b, e1, e2, rfl⟩ := zip_mem hd
            exact ⟨rfl, rfl, a, b, rfl, hs i a b e1 e2, h⟩
          · rw [all_bl]
            refine ⟨_, rfl, ?_⟩
            rw [all_tt]
            exact ⟨_, _, .same, q⟩
    · refine bl_f rfl ?_
      refine ⟨by decide, "tuple", rfl, ?_⟩
      refine bl_f rfl ?_
      refine ⟨by decide, "tuple", rfl, ?_⟩
      refine bl_f rfl ?_
      refine ⟨ln (n := 2) rfl (by decide), ?_⟩
      refine ⟨["int", "str"], rfl, by decide, "tuple", rfl, ?_⟩
      refine bl_f rfl ?_
      refine ⟨by decide, "tuple", rfl, ?_⟩
      refine ⟨by decide, "tuple", rfl, ?_⟩
      refine neB ?_
      refine bl_f rfl ?_
      refine ⟨by decide, "tuple", rfl, ?_⟩
      refine ⟨by decide, "tuple", rfl, ?_⟩
      refine neB ?_
      refine bl_f rfl ?_
      refine eqI ?_
      refine bl_t (decide_eq_true (by omega)) ?_
      refine compD_map (xs := zipD xs ys) (S := fun _ => True) (fun K h => h) (fun _ => .bl true) trivial (by rw [zip_len]; exact Nat.le_trans (by omega) big_ok) (fun d hd Q h => ?_) ?_
      · obtain ⟨i, a, b, e1, e2, rfl⟩ := zip_mem hd
        exact ⟨rfl, rfl, a, b, rfl, hs i a b e1 e2, h⟩
      · rw [all_bl]
        refine ⟨_, rfl, ?_⟩
        rw [all_tt]
        exact ⟨_, _, .same, q⟩
def c_Readerd_initd (C : Addr) : Ct := fun ds M Ψ _ => ∃ (a : Addr) (t : List Nat), ds = [.ref a, .str ⟨t.toArray⟩] ∧ M a = some (.ins C []) ∧ Ψ .non (updM M a (rdr C t t))
theorem ok_Readerd_initd {f : Addr} {fd : FuncData} {dvs : List V} {kws : List (Str × V)} (T : Txt K mg)  (F : FnZ K "__init__" "Reader.__init__" s_Readerd_initd dvs kws f fd) : FnOk P w K mg base (L2.CX P w) 2 f fd ["self", "text"] (spC K ["self", "text"].length (c_Readerd_initd (He.ga K "Reader"))) := by
  have hnd := sc_Readerd_initd.nd
  refine fnD F sc_Readerd_initd (c_Readerd_initd (He.ga K "Reader")) fun cdv A outer s H E B Ξ hr z => ⟨_, (dss_cons (ds_fld T.cl_Reader T.na_Reader_signs (de_var (i := 1)) (de_var (i := 0)))
    (dss_one (ds_fld T.cl_Reader T.na_Reader_at de_int (de_var (i := 0))))), fun ds Ψ hl hc => ?_⟩
  obtain ⟨a, t, rfl, ha, q⟩ := hc
  rw [show ent (["self", "text"] : List Str).length [.ref a, .str ⟨t.toArray⟩] = [some (.ref a), some (.str ⟨t.toArray⟩)] from rfl]
  try dsimp only [List.set, getS_z, getS_s, bin2, bin2T, ltD, leD, gtD, geD, cmp_i, add_i, sub_i, min2_i, max2_i]
  rw [ha]
  refine ⟨rfl, (show 0 < 1000 by decide), ?_⟩
  try dsimp only
  rw [updM_same]
  refine ⟨rfl, (show 1 < 1000 by decide), ?_⟩
  rw [updM_updM]
  refine ⟨_, _, .same, ?_⟩
  have e : rdr (He.ga K "Reader") t t = .ins (He.ga K "Reader") (putD "at" (.int 0) (putD "signs" (.str ⟨t.toArray⟩) [])) := by
    unfold rdr
    rw [Nat.sub_self]
    rfl
  rw [e] at q
  exact q
def c_Reader_take (C : Addr) : Ct := fun ds M Ψ _ => ∃ (a : Addr) (t r m : List Nat), ds = [.ref a, .str ⟨m.toArray⟩] ∧ M a = some (rdr C t r) ∧ r <:+ t ∧ t.length ≤ 5000 ∧ m.length ≤ 100 ∧ (∀ r', stripP m r = some r' → Ψ (.bl true) (updM M a (rdr C t r'))) ∧ (stripP m r = none → Ψ (.bl false) M)
theorem ok_Reader_take {f : Addr} {fd : FuncData} {dvs : List V} {kws : List (Str × V)} (T : Txt K mg)  (F : FnZ K "take" "Reader.take" s_Reader_take dvs kws f fd) : FnOk P w K mg base (L2.CX P w) 2 f fd ["self", "mark"] (spC K ["self", "mark"].length (c_Reader_take (He.ga K "Reader"))) := by
  have hnd := sc_Reader_take.nd
  refine fnD F sc_Reader_take (c_Reader_take (He.ga K "Reader")) fun cdv A outer s H E B Ξ hr z => ⟨_, (dss_cons (ds_set (i := 2) hnd (de_smN PySem.F.slot_str_startswith PySem.F.type_str_startswith mt_startswith3 ok_sw3 (de_fld T.cl_Reader T.na_Reader_signs (de_var (i := 0))) (da_cons (de_var (i := 1)) (da_cons (de_fld T.cl_Reader T.na_Reader_at (de_var (i := 0))) da_nil))))
    (dss_cons (ds_fldadd T.cl_Reader T.na_Reader_at (de_var (i := 0)) (de_mul (de_len T.n_len (da_cons (de_var (i := 1)) da_nil)) (de_int1 T.n_int (da_cons (de_var (i := 2)) da_nil))))
    (dss_one (ds_ret (de_var (i := 2)))))), fun ds Ψ hl hc => ?_⟩
  obtain ⟨a, t, r, m, rfl, ha, hs, ht, hm, q1, q2⟩ := hc
  rw [show ent (["self", "mark", "is_here"] : List Str).length [.ref a, .str ⟨m.toArray⟩] = [some (.ref a), some (.str ⟨m.toArray⟩), none] from rfl]
  try dsimp only [List.set, getS_z, getS_s, bin2, bin2T, ltD, leD, gtD, geD, cmp_i, add_i, sub_i, min2_i, max2_i]
  refine isO_in ha (optK_of rfl ⟨trivial, isO_in ha (optK_of rfl ?_)⟩)
  show sw3D B.M _ _ _
  unfold sw3D
  dsimp only
  rw [sw_rdr hs, ha]
  have hlen : ((⟨m.toArray⟩ : Str).length : Int) = m.length := by show ((m.toArray.size : Nat) : Int) = _; rw [List.size_toArray]
  refine ⟨rfl, _, rfl, ⟨Nat.le_trans (show m.toArray.size ≤ 1000000 by rw [List.size_toArray]; omega) big_ok, ?_⟩⟩
  rw [hlen]
  show Z.intD _ [.bl (stripP m r).isSome] _
  cases hp : stripP m r with
  | none =>
    refine ⟨mok_of (a := 200) (b := 2) (show (m.length : Int).natAbs < 2 ^ 200 from Nat.lt_of_le_of_lt (show _ ≤ 100 by omega) (by decide)) (by first | decide | (show (1 : Int).natAbs < 2 ^ 2; decide)), ?_⟩
    dsimp only
    rw [ha]
    refine ⟨rfl, (show 2 < 1000 by decide), _, _, rfl, rfl, _, _, .same, ?_⟩
    have e : updM B.M a (.ins (He.ga K "Reader") (putD "at" (.int (((t.length - r.length : Nat) : Int) + (m.length : Int) * 0)) [("signs", .str ⟨t.toArray⟩), ("at", .int ((t.length - r.length : Nat) : Int))])) = B.M := by
      rw [Int.mul_zero, Int.add_zero]
      show updM B.M a (rdr (He.ga K "Reader") t r) = B.M
      exact updM_id ha
    rw [show (if (none : Option (List Nat)).isSome then (1 : Int) else 0) = 0 from rfl]
    rw [e]
    exact q2 hp
  | some r' =>
    have hl := stripP_len hp
    have hle := sfx_le hs
    refine ⟨mok_of (a := 200) (b := 2) (show (m.length : Int).natAbs < 2 ^ 200 from Nat.lt_of_le_of_lt (show _ ≤ 100 by omega) (by decide)) (by first | decide | (show (1 : Int).natAbs < 2 ^ 2; decide)), ?_⟩
    dsimp only
    rw [ha]
    refine ⟨rfl, (show 2 < 1000 by decide), _, _, rfl, rfl, _, _, .same, ?_⟩
    have e : Cell.ins (He.ga K "Reader") (putD "at" (.int (((t.length - r.length : Nat) : Int) + (m.length : Int) * (if (some r' : Option (List Nat)).isSome then (1 : Int) else 0))) [("signs", .str ⟨t.toArray⟩), ("at", .int ((t.length - r.length : Nat) : Int))]) = rdr (He.ga K "Reader") t r' := by
      rw [show (((t.length - r.length : Nat) : Int) + (m.length : Int) * (if (some r' : Option (List Nat)).isSome then (1 : Int) else 0)) = ((t.length - r'.length : Nat) : Int) from by
        rw [show (if (some r' : Option (List Nat)).isSome then (1 : Int) else 0) = 1 from rfl, Int.mul_one]
        omega]
      rfl
    rw [e]
    exact q1 r' hp
def c_Reader_need (C CP : Addr) : Ct := fun ds M Ψ Ξ => ∃ (a : Addr) (t r m : List Nat), ds = [.ref a, .str ⟨m.toArray⟩] ∧ M a = some (rdr C t r) ∧ r <:+ t ∧ t.length ≤ 5000 ∧ m.length ≤ 100 ∧ (∀ r', stripP m r = some r' → Ψ .non (updM M a (rdr C t r'))) ∧ (stripP m r = none → Ξ (PE0 CP) M)
theorem ok_Reader_need {f : Addr} {fd : FuncData} {dvs : List V} {kws : List (Str × V)} (T : Txt K mg) (h_Reader_take : Mf P w K mg base (He.ga K "Reader") "take" 2 (c_Reader_take (He.ga K "Reader")) b_Reader_take) (x_ParseError : Xf P w K mg base "ParseError" (He.ga K "ParseError") 1 (tag2 "ParseError" "line")) (F : FnZ K "need" "Reader.need" s_Reader_need dvs kws f fd) : FnOk P w K mg base (L2.CX P w) 3 f fd ["self", "mark"] (spC K ["self", "mark"].length (c_Reader_need (He.ga K "Reader") (He.ga K "ParseError"))) := by
  have hnd := sc_Reader_need.nd
  refine fnD F sc_Reader_need (c_Reader_need (He.ga K "Reader") (He.ga K "ParseError")) fun cdv A outer s H E B Ξ hr z => ⟨_, (dss_one (ds_if (dt_not (dt_val (de_meth h_Reader_take T.cl_Reader hr z (List.Mem.head _) (de_var (i := 0)) (da_cons (de_var (i := 1)) da_nil)))) (dss_one (ds_raise1 x_ParseError hr z rfl (da_cons de_int da_nil))) dss_nil)), fun ds Ψ hl hc => ?_⟩
  obtain ⟨a, t, r, m, rfl, ha, hs, ht, hm, q1, q2⟩ := hc
  rw [show ent (["self", "mark"] : List Str).length [.ref a, .str ⟨m.toArray⟩] = [some (.ref a), some (.str ⟨m.toArray⟩)] from rfl]
  try dsimp only [List.set, getS_z, getS_s, bin2, bin2T, ltD, leD, gtD, geD, cmp_i, add_i, sub_i, min2_i, max2_i]
  refine isO_in ha ⟨rfl, rfl, rfl, a, t, r, m, rfl, ha, hs, ht, hm, fun r' e => ?_, fun e => ?_⟩
  · refine bl_t rfl ?_
    exact ite_f rfl ⟨_, _, .same, q1 r' e⟩
  · refine bl_f rfl ?_
    exact ite_t rfl ⟨_, .same, q2 e⟩
def c_Reader_program (dp : Nat) (C CP : Addr) : Ct := fun ds M Ψ Ξ => ∃ (a : Addr) (t r : List Nat) (k : Nat), ds = [.ref a, .int (k : Nat)] ∧ M a = some (rdr C t r) ∧ r <:+ t ∧ t.length ≤ 5000 ∧ k + 1 ≤ dp ∧ (∀ p r', prs k r = some (p, r') → Ψ (pgD p) (updM M a (rdr C t r'))) ∧ (prs k r = none → ∀ r', Ξ (PE0 CP) (updM M a (rdr C t r')))
theorem no_Reader_program {C CP : Addr} : ∀ (ds : List D) (M : Sto) (Ψ : PD) (Ξ : XD → Sto → Prop), ¬ c_Reader_program 0 C CP ds M Ψ Ξ := fun _ _ _ _ ⟨_, _, _, k, _, _, _, _, hk, _⟩ => by omega
def c_Reader_row_of_parts (dp : Nat) (C CP : Addr) : Ct := fun ds M Ψ Ξ => ∃ (a : Addr) (t r : List Nat) (k : Nat), ds = [.ref a, .int ((k + 1 : Nat) : Int)] ∧ M a = some (rdr C t r) ∧ r <:+ t ∧ t.length ≤ 5000 ∧ k + 1 ≤ dp ∧ (∀ l r', rws (prs k) (r.length + 1) r = some (l, r') → Ψ (pgD (.thn l)) (updM M a (rdr C t r'))) ∧ (rws (prs k) (r.length + 1) r = none → ∀ r', Ξ (PE0 CP) (updM M a (rdr C t r')))
theorem ok_Reader_row_of_parts {f : Addr} {fd : FuncData} {dvs : List V} {kws : List (Str × V)} (T : Txt K mg) {lv dp : Nat} (hlv : 4 ≤ lv) (h_Reader_program : Mf P w K mg base (He.ga K "Reader") "program" lv (c_Reader_program dp (He.ga K "Reader") (He.ga K "ParseError")) b_Reader_program) (h_Reader_take : Mf P w K mg base (He.ga K "Reader") "take" 2 (c_Reader_take (He.ga K "Reader")) b_Reader_take) (h_Reader_need : Mf P w K mg base (He.ga K "Reader") "need" 3 (c_Reader_need (He.ga K "Reader") (He.ga K "ParseError")) b_Reader_need) (F : FnZ K "row_of_parts" "Reader.row_of_parts" s_Reader_row_of_parts dvs kws f fd) : FnOk P w K mg base (L2.CX P w) (lv + 1) f fd ["self", "left"] (spC K ["self", "left"].length (c_Reader_row_of_parts dp (He.ga K "Reader") (He.ga K "ParseError"))) := by
  have hnd := sc_Reader_row_of_parts.nd
  refine fnD F sc_Reader_row_of_parts (c_Reader_row_of_parts dp (He.ga K "Reader") (He.ga K "ParseError")) fun cdv A outer s H E B Ξ hr z => ⟨_, (dss_cons (ds_set (i := 2) hnd (de_lstM (da_cons (de_meth (hj := by omega) h_Reader_program T.cl_Reader hr z (List.Mem.head _) (de_var (i := 0)) (da_cons (de_sub (de_var (i := 1)) de_int) da_nil)) da_nil)))
    (dss_cons (ds_while z.po (dt_val (de_meth (hj := by omega) h_Reader_take T.cl_Reader hr z (List.Mem.head _) (de_var (i := 0)) (da_cons de_str da_nil))) (dss_one (ds_expr (de_append (de_var (i := 2)) (da_cons (de_meth (hj := by omega) h_Reader_program T.cl_Reader hr z (List.Mem.head _) (de_var (i := 0)) (da_cons (de_sub (de_var (i := 1)) de_int) da_nil)) da_nil)))))
    (dss_cons (ds_expr (de_meth (hj := by omega) h_Reader_need T.cl_Reader hr z (List.Mem.head _) (de_var (i := 0)) (da_cons de_str da_nil)))
    (dss_one (ds_ret (de_tup (da_cons de_str (da_star (de_var (i := 2)) da_nil)))))))), fun ds Ψ hl hc => ?_⟩
  obtain ⟨a, t, r, k, rfl, ha, hs, ht, hk, q1, q2⟩ := hc
  rw [show ent (["self", "left", "found"] : List Str).length [.ref a, .int ((k + 1 : Nat) : Int)] = [some (.ref a), some (.int ((k + 1 : Nat) : Int)), none] from rfl]
  try dsimp only [List.set, getS_z, getS_s, bin2, bin2T, ltD, leD, gtD, geD, cmp_i, add_i, sub_i, min2_i, max2_i]
  have ek : ((k + 1 : Nat) : Int) - 1 = (k : Nat) := by omega
  have ha0 : B.M a ≠ none := by rw [ha]; simp
  have lr := sfx_le hs
  refine isO_in ha ⟨rfl, rfl, rfl, a, t, r, k, by rw [ek], ha, hs, ht, hk, fun p0 r0 e0 => ?_, fun e0 r' => ⟨_, .same, q2 (by rw [rws, e0]) r'⟩⟩
  have g0 := prs_got e0 (by omega)
  refine ⟨ln (n := 1) rfl (by decide), fun pl hp => ?_⟩
  have npa : pl ≠ a := fun z => by rw [z, updM_same] at hp; cases hp
  have hp : B.M pl = none := by rw [updM_ne npa] at hp; exact hp
  have rsx : ∀ (c : Cell) (r' : List Nat), rs B.M (updM (updM B.M pl c) a (rdr (He.ga K "Reader") t r')) = updM B.M a (rdr (He.ga K "Reader") t r') := fun c r' => rs_put ha0 updM_same fun b hb h0 => by
    rw [updM_ne hb, updM_ne (fun z => h0 (by rw [z]; exact hp))]
  try dsimp only [List.set, getS_z, getS_s, bin2, bin2T, ltD, leD, gtD, geD, cmp_i, add_i, sub_i, min2_i, max2_i]
  let J : Nat → En → Sto → Prop := fun n e M' => ∃ (acc : List Pg) (r1 : List Nat) (m : Nat), n = r1.length ∧ e = [some (.ref a), some (.int ((k + 1 : Nat) : Int)), some (.ref pl)] ∧ M' = updM (updM B.M pl (.lst (pgDs acc))) a (rdr (He.ga K "Reader") t r1) ∧ r1 <:+ t ∧ r1.length < m ∧ acc.length + r1.length ≤ t.length + 1 ∧ rws (prs k) (r.length + 1) r = match rwt (prs k) m r1 with
      | none => none
      | some (l, r') => some (acc ++ l, r')
  refine ⟨fun e M' => ∃ n, J n e M', muJ J, .of ⟨_, [p0], r0, r.length, rfl, rfl, ?_, g0.1.trans hs, ?_, ?_, ?_⟩, fun e M' h => ?_⟩
  · rw [updM_comm npa.symm]
    rw [pgDs, pgDs]
  · have := pgN_pos p0; have := g0.2.1; omega
  · have := pgN_pos p0; have := g0.2.1
    show 1 + r0.length ≤ t.length + 1
    omega
  · rw [rws_succ, e0]
    dsimp only
    cases rwt (prs k) r.length r0 with
    | none => rfl
    | some x => rfl
  obtain ⟨n, ⟨acc, r1, m, rfl, rfl, rfl, h1, hm, hl, hr⟩, hmu⟩ := muJ_at h
  generalize hmM : muJ J [some (.ref a), some (.int ((k + 1 : Nat) : Int)), some (.ref pl)] (updM (updM B.M pl (.lst (pgDs acc))) a (rdr (He.ga K "Reader") t r1)) = mm at *
  try dsimp only [List.set, getS_z, getS_s, bin2, bin2T, ltD, leD, gtD, geD, cmp_i, add_i, sub_i, min2_i, max2_i]
  have ll1 := sfx_le h1
  have epl : ∀ x, updM (updM B.M pl (.lst (pgDs acc))) a (rdr (He.ga K "Reader") t x) pl = some (.lst (pgDs acc)) := fun x => by rw [updM_ne npa, updM_same]
  have et : (" then " : Str) = ⟨thenC.toArray⟩ := by decide +kernel
  refine isO_in updM_same ⟨rfl, rfl, rfl, a, t, r1, thenC, by rw [et], updM_same, h1, ht, by decide, fun r2 e2 => ?_, fun e2 => ?_⟩
  · refine bl_t rfl ?_
    refine ite_t rfl ?_
    rw [updM_updM]
    have s2 := stripP_sfx e2 h1
    have l2 := stripP_len e2
    have l6 : thenC.length = 6 := rfl
    obtain ⟨m, rfl⟩ : ∃ j, m = j + 1 := ⟨m - 1, by omega⟩
    refine ⟨⟨_, lstOf_at (epl r2)⟩, isO_in updM_same ⟨rfl, ?_⟩⟩
    show callD _ _ _ _ _ [.ref a, .int (((k + 1 : Nat) : Int) - 1)] _ _ _ _
    rw [ek]
    have hrw : rwt (prs k) (m + 1) r1 = match prs k r2 with
      | none => none
      | some (p, r) => match rwt (prs k) m r with
        | none => none
        | some (l, r) => some (p :: l, r) := by
      unfold rwt
      rw [e2]
      dsimp only
      rw [rws_succ]
      rfl
    refine ⟨rfl, rfl, a, t, r2, k, rfl, updM_same, s2, ht, hk, fun p3 r3 e3 => ?_, fun e3 r' => ⟨_, .drop, ?_⟩⟩
    · have g3 := prs_got e3 (by omega)
      have p3n := pgN_pos p3
      have g32 := g3.2.1
      rw [updM_updM]
      refine append_of (epl r3) ?_ ?_
      · rw [pgDs_map, List.length_map]
        exact Nat.lt_of_le_of_lt (show acc.length ≤ 10000 by omega) (Nat.lt_of_lt_of_le (by decide) big_ok)
      have ea : updM (updM (updM B.M pl (.lst (pgDs acc))) a (rdr (He.ga K "Reader") t r3)) pl (.lst (pgDs acc ++ [pgD p3])) = updM (updM B.M pl (.lst (pgDs (acc ++ [p3])))) a (rdr (He.ga K "Reader") t r3) := by
        rw [updM_comm npa.symm, updM_updM, pgDs_map, pgDs_map, List.map_append]
        rfl
      rw [ea]
      have hJ : J r3.length [some (.ref a), some (.int ((k + 1 : Nat) : Int)), some (.ref pl)] (updM (updM B.M pl (.lst (pgDs (acc ++ [p3])))) a (rdr (He.ga K "Reader") t r3)) := by
        refine ⟨acc ++ [p3], r3, m, rfl, rfl, rfl, g3.1.trans s2, by omega, by rw [List.length_append]; show acc.length + 1 + _ ≤ _; omega, ?_⟩
        rw [hr, hrw, e3]
        dsimp only
        cases rwt (prs k) m r3 with
        | none => rfl
        | some x => simp
      refine .of ⟨⟨_, hJ⟩, Nat.lt_of_le_of_lt (muJ_le hJ) ?_⟩
      rw [hmu]
      omega
    · rw [updM_updM, rsx]
      exact q2 (by rw [hr, hrw, e3]) _
  · refine bl_f rfl ?_
    refine ite_f rfl ?_
    have hrw : rwt (prs k) m r1 = match stripP [41] r1 with
      | none => none
      | some r => some ([], r) := by
      unfold rwt
      first
      | (rw [e2]; done)
      | (rw [e2]; rfl)
    have ep : (")" : Str) = ⟨[41].toArray⟩ := by decide +kernel
    refine isO_in updM_same ⟨rfl, rfl, rfl, a, t, r1, [41], by rw [ep], updM_same, h1, ht, by decide, fun r2 e3 => ?_, fun e3 => ⟨_, .drop, ?_⟩⟩
    · rw [updM_updM]
      refine ⟨pgDs acc, by unfold seqOf; exact lstOf_at (epl r2), ?_, _, _, .drop, ?_⟩
      · rw [List.append_nil, List.length_cons, pgDs_map, List.length_map]
        exact Nat.le_trans (show acc.length + 1 ≤ 10002 by omega) (Nat.le_trans (by decide) big_ok)
      rw [rsx, List.append_nil]
      have := q1 acc r2 (by rw [hr, hrw, e3]; simp)
      rw [pgD] at this
      exact this
    · rw [rsx]
      exact q2 (by rw [hr, hrw, e3]) _
def c_number_in : Ct := fun ds M Ψ _ => ∃ w : List Nat, ds = [.str ⟨w.toArray⟩] ∧ w.length ≤ 400000 ∧ (∀ c ∈ w, isDg c = true) ∧ Ψ (match numV w with | some n => .int n | none => .non) M
theorem ok_number_in {f : Addr} {fd : FuncData} {dvs : List V} {kws : List (Str × V)} (T : Txt K mg)  (F : FnZ K "number_in" "number_in" s_number_in dvs kws f fd) : FnOk P w K mg base (L2.CX P w) 2 f fd ["text"] (spC K ["text"].length (c_number_in)) := by
  have hnd := sc_number_in.nd
  refine fnD F sc_number_in (c_number_in) fun cdv A outer s H E B Ξ hr z => ⟨_, (dss_cons (ds_if (dw_orV (dt_not (dt_chain oc_le oc_le de_int (de_len T.n_len (da_cons (de_var (i := 0)) da_nil)) de_int)) (dw_or1 (dt_not (dt_val (de_all1 rfl T.n_all (da_cons (de_lc rfl hnd (di_str (de_var (i := 0))) (blkOk_by (own := [("sign", 1)]) (by rfl)) (tg_name (i := 1) (by decide)) (fun _ _ _ _ _ => (pg_name (i := 1) hnd rfl (by first | exact Or.inl rfl | exact Or.inr rfl) (by first | exact .inl rfl | exact .inr rfl))) (fun _ _ _ _ _ _ => dts_nil) (fun _ _ _ _ _ _ => (de_in hr (de_var (i := 1)) (de_gstr T.k_DIGITS)))) da_nil)))))).pt (dss_one (ds_ret de_non)) dss_nil)
    (dss_one (ds_ret (de_ifV (dw_orV (dt_eq hr (de_var (i := 0)) de_str) (dw_or1 (dt_ne hr (de_ix (de_var (i := 0)) de_int) de_str))).pt (de_intS T.n_int (da_cons (de_var (i := 0)) da_nil)) de_non)))), fun ds Ψ hl hc => ?_⟩
  obtain ⟨w, rfl, hl, hw, q⟩ := hc
  rw [show ent (["text", "sign"] : List Str).length [D.str ⟨w.toArray⟩] = [some (.str ⟨w.toArray⟩), none] from rfl]
  try dsimp only [List.set, getS_z, getS_s, bin2, bin2T, ltD, leD, gtD, geD, cmp_i, add_i, sub_i, min2_i, max2_i]
  unfold chainD
  refine ⟨Nat.le_trans (show w.toArray.size ≤ 1000000 by rw [List.size_toArray]; omega) big_ok, ?_⟩
  have hlen : ((⟨w.toArray⟩ : Str).length : Int) = w.length := by show ((w.toArray.size : Nat) : Int) = _; rw [List.size_toArray]
  rw [hlen]
  have bad : ¬ (1 ≤ w.length ∧ w.length ≤ 31) → Ψ .non B.M := fun h => by
    have e : numV w = none := by
      unfold numV
      exact if_neg fun z => h ⟨z.1, z.2.1⟩
    rw [e] at q
    exact q
  refine bl_c (fun e => ?_) (fun e => ?_)
  rotate_left
  · have e := of_decide_eq_false e
    refine ite_f rfl ?_
    refine ⟨false, ?_, ?_⟩
    · intro z
      cases z
    · exact ite_t rfl ⟨_, _, .same, bad fun z => e (by omega)⟩
  have e := of_decide_eq_true e
  refine ite_t rfl ?_
  refine bl_c (fun e2 => ?_) (fun e2 => ?_)
  rotate_left
  · have e2 := of_decide_eq_false e2
    refine ⟨false, ?_, ?_⟩
    · intro z
      cases z
    · exact ite_t rfl ⟨_, _, .same, bad fun z => e2 (by omega)⟩
  have e2 := of_decide_eq_true e2
  refine ⟨false, ?_, ?_⟩
  · intro _
    refine compD_map (xs := Z.signs ⟨w.toArray⟩) (fun K h => h) (fun d => match d with | .str z => .bl (decide ((z.cps.toList.headD 0) ∈ ("0123456789" : Str).cps.toList)) | _ => .non) trivial (by rw [signs_len]; exact Nat.le_trans (show w.toArray.size ≤ 1000000 by rw [List.size_toArray]; omega) big_ok) (fun d hd Q q => ?_) ?_
    · obtain ⟨c, _, rfl⟩ := signs_mem hd
      exact ⟨c, rfl, q⟩
    · refine ⟨w.map fun c => decide (c ∈ ("0123456789" : Str).cps.toList), ?_, ?_⟩
      · show some _ = some _
        unfold Z.signs
        rw [List.map_map, List.map_map]
        rfl
      · have : (w.map fun c => decide (c ∈ ("0123456789" : Str).cps.toList)).all id = true := by
          rw [List.all_map, List.all_eq_true]
          intro c hc
          exact decide_eq_true (dg_mem.mpr (hw c hc))
        rw [this]
        exact bl_t rfl ⟨rfl, rfl⟩
  refine ite_f rfl ?_
  cases w with
  | nil => exact absurd e (by simp)
  | cons c w =>
    have hz : ((⟨(c :: w).toArray⟩ : Str) = "0") ↔ c :: w = [48] := by
      have e0 : ("0" : Str) = ⟨[48].toArray⟩ := by decide +kernel
      rw [e0]
      exact ⟨fun z => by simpa using congrArg (fun x : Str => x.cps.toList) z, fun z => by rw [z]⟩
    refine eqS ?_
    refine bl_v ?_
    have hcond : (decide ((⟨(c :: w).toArray⟩ : Str) = "0") || !decide (c = 48)) = true ↔ (c :: w = [48] ∨ (c :: w).head? ≠ some 48) := by
      rw [Bool.or_eq_true, decide_eq_true_eq, hz, Bool.not_eq_true', decide_eq_false_iff_not]
      simp
    refine ⟨!decide (c = 48), fun _ => ?_, (match numV (c :: w) with | some n => D.int n | none => D.non), fun h => ?_, fun h => ?_, _, _, .same, q⟩
    · refine ⟨Nat.le_trans (show (c :: w).toArray.size ≤ 1000000 by rw [List.size_toArray]; omega) big_ok, optK_of (show L2.atI (c :: w) 0 = some c from at_zeroN) ?_⟩
      refine neS ?_
      refine bl_v ⟨?_, rfl⟩
      have e1 : ((⟨#[c]⟩ : Str) = "0") ↔ c = 48 := by
        have e0 : ("0" : Str) = ⟨#[48]⟩ := by decide +kernel
        rw [e0]
        exact ⟨fun z => by simpa using congrArg (fun x : Str => x.cps.toList) z, fun z => by rw [z]⟩
      rw [decide_eq_decide.mpr e1]
    · have en : numV (c :: w) = some (PySem.NumText.digitsVal (c :: w) : Nat) := by
        unfold numV
        exact if_pos ⟨by omega, by omega, hcond.mp h⟩
      rw [en]
      refine ⟨_, PySem.intText_digits (fun d hd => ?_) (by simp) ?_, ?_, rfl, rfl⟩
      · have := hw d (by simpa using hd)
        unfold isDg at this
        simpa using this
      · show (c :: w).toArray.size ≤ 4300
        rw [List.size_toArray]
        omega
      · show (c :: w).toArray.size ≤ 640
        rw [List.size_toArray]
        omega
    · have en : numV (c :: w) = none := by
        unfold numV
        refine if_neg fun z => ?_
        rw [hcond.mpr z.2.2] at h
        cases h
      rw [en]
      exact ⟨rfl, rfl⟩
def c_Reader_taken (C : Addr) : Ct := fun ds M Ψ _ => ∃ (a : Addr) (t r : List Nat) (x : Str) (pr : Nat → Bool), ds = [.ref a, .str x] ∧ M a = some (rdr C t r) ∧ r <:+ t ∧ t.length ≤ 5000 ∧ (∀ c, c ∈ x.cps.toList ↔ pr c = true) ∧ Ψ (.str ⟨(r.takeWhile pr).toArray⟩) (updM M a (rdr C t (r.dropWhile pr)))
theorem ok_Reader_taken {f : Addr} {fd : FuncData} {dvs : List V} {kws : List (Str × V)} (T : Txt K mg)  (F : FnZ K "taken" "Reader.taken" s_Reader_taken dvs kws f fd) : FnOk P w K mg base (L2.CX P w) 2 f fd ["self", "signs"] (spC K ["self", "signs"].length (c_Reader_taken (He.ga K "Reader"))) := by
  have hnd := sc_Reader_taken.nd
  refine fnD F sc_Reader_taken (c_Reader_taken (He.ga K "Reader")) fun cdv A outer s H E B Ξ hr z => ⟨_, (dss_cons (ds_set (i := 2) hnd (de_fld T.cl_Reader T.na_Reader_at (de_var (i := 0))))
    (dss_cons (ds_while z.po (dw_andV (dt_lt (de_fld T.cl_Reader T.na_Reader_at (de_var (i := 0))) (de_len T.n_len (da_cons (de_fld T.cl_Reader T.na_Reader_signs (de_var (i := 0))) da_nil))) (dw_and1 (dt_in hr (de_ix (de_fld T.cl_Reader T.na_Reader_signs (de_var (i := 0))) (de_fld T.cl_Reader T.na_Reader_at (de_var (i := 0)))) (de_var (i := 1))))).pt (dss_one (ds_fldadd T.cl_Reader T.na_Reader_at (de_var (i := 0)) de_int)))
    (dss_one (ds_ret (de_slice (de_fld T.cl_Reader T.na_Reader_signs (de_var (i := 0))) (do_some (de_var (i := 2))) (do_some (de_fld T.cl_Reader T.na_Reader_at (de_var (i := 0))))))))), fun ds Ψ hl hc => ?_⟩
  obtain ⟨a, t, r, x, pr, rfl, ha, hs, ht, hP, q⟩ := hc
  rw [show ent (["self", "signs", "begin"] : List Str).length [.ref a, .str x] = [some (.ref a), some (.str x), none] from rfl]
  try dsimp only [List.set, getS_z, getS_s, bin2, bin2T, ltD, leD, gtD, geD, cmp_i, add_i, sub_i, min2_i, max2_i]
  refine isO_in ha (optK_of rfl ?_)
  have lt' : ((⟨t.toArray⟩ : Str).length : Int) = t.length := by show ((t.toArray.size : Nat) : Int) = _; rw [List.size_toArray]
  have ltok : (⟨t.toArray⟩ : Str).length ≤ sizeLine := Nat.le_trans (show t.toArray.size ≤ 1000000 by rw [List.size_toArray]; omega) big_ok
  refine ⟨fun e M' => ∃ r', e = [some (.ref a), some (.str x), some (.int ((t.length - r.length : Nat) : Int))] ∧ M' = updM B.M a (rdr (He.ga K "Reader") t r') ∧ r' <:+ r ∧ r.takeWhile pr = r.take (r.length - r'.length) ++ r'.takeWhile pr ∧ r.dropWhile pr = r'.dropWhile pr, fun _ M' => match M' a with | some (.ins _ [_, (_, .int i)]) => (t.length - i).toNat | _ => 0, .of ⟨r, rfl, (updM_id ha).symm, List.suffix_refl _, by simp, rfl⟩, fun e M' h => ?_⟩
  obtain ⟨r', rfl, rfl, h1, h2, h3⟩ := h
  have hs' := h1.trans hs
  have l1 := h1.length_le
  have l2 := hs.length_le
  try dsimp only [List.set, getS_z, getS_s, bin2, bin2T, ltD, leD, gtD, geD, cmp_i, add_i, sub_i, min2_i, max2_i]
  refine isO_in updM_same (optK_of rfl (isO_in updM_same (optK_of rfl ⟨ltok, ?_⟩)))
  rw [lt']
  refine bl_v ?_
  have fin : r'.takeWhile pr = [] → r'.dropWhile pr = r' → slD (updM B.M a (rdr (He.ga K "Reader") t r')) (.str ⟨t.toArray⟩) (some ((t.length - r.length : Nat) : Int)) (some ((t.length - r'.length : Nat) : Int)) fun d => rtF B.M Ψ d (updM B.M a (rdr (He.ga K "Reader") t r')) := fun e1 e2 => by
    refine sl_mid (by omega) ?_
    rw [sfx_drop hs, show t.length - r'.length - (t.length - r.length) = r.length - r'.length by omega]
    refine ⟨_, _, .same, ?_⟩
    rw [h2, h3, e1, e2, List.append_nil] at q
    exact q
  cases r' with
  | nil =>
    refine ⟨false, fun z => ?_, ?_⟩
    · rw [decide_eq_true_eq] at z
      simp at z
    · refine ite_f (by rw [Bool.and_false]) ?_
      exact isO_in updM_same (optK_of rfl (isO_in updM_same (optK_of rfl (fin rfl rfl))))
  | cons c r'' =>
    refine ⟨pr c, fun _ => ?_, ?_⟩
    · refine isO_in updM_same (optK_of rfl (isO_in updM_same (optK_of rfl ⟨ltok, optK_of (atI_sfx hs') ?_⟩)))
      refine ⟨c, rfl, bl_v ⟨?_, rfl⟩⟩
      rw [Bool.eq_iff_iff, decide_eq_true_eq]
      exact hP c
    · rw [List.length_cons] at l1 
      cases hc : pr c with
      | true =>
        refine ite_t (by rw [Bool.and_true]; exact decide_eq_true (by rw [List.length_cons]; omega)) ?_
        rw [updM_same]
        refine ⟨rfl, _, rfl, ?_⟩
        try dsimp only
        refine ⟨rfl, (show 2 < 1000 by decide), _, _, rfl, rfl, ?_⟩
        rw [updM_updM]
        have e : Cell.ins (He.ga K "Reader") (putD "at" (.int (((t.length - (c :: r'').length : Nat) : Int) + 1)) [("signs", .str ⟨t.toArray⟩), ("at", .int ((t.length - (c :: r'').length : Nat) : Int))]) = rdr (He.ga K "Reader") t r'' := by
          rw [show (((t.length - (c :: r'').length : Nat) : Int) + 1) = ((t.length - r''.length : Nat) : Int) from by rw [List.length_cons]; omega]
          rfl
        rw [e]
        refine .of ⟨⟨r'', rfl, rfl, (List.suffix_cons c r'').trans h1, ?_, ?_⟩, ?_⟩
        · rw [h2, List.takeWhile_cons, hc, if_pos rfl]
          obtain ⟨pp, rfl⟩ := h1
          simp only [List.length_append, List.length_cons]
          rw [show pp.length + (r''.length + 1) - (r''.length + 1) = pp.length by omega, show pp.length + (r''.length + 1) - r''.length = pp.length + 1 by omega, List.take_left, show pp ++ c :: r'' = (pp ++ [c]) ++ r'' by simp, show pp.length + 1 = (pp ++ [c]).length by simp, List.take_left]
          simp
        · rw [h3, List.dropWhile_cons, hc, if_pos rfl]
        · rw [updM_same]
          show (((t.length : Int) - ((t.length - r''.length : Nat) : Int)).toNat) < (((t.length : Int) - ((t.length - (c :: r'').length : Nat) : Int)).toNat)
          rw [List.length_cons]
          omega
      | false =>
        refine ite_f (by rw [Bool.and_false]) ?_
        refine isO_in updM_same (optK_of rfl (isO_in updM_same (optK_of rfl ?_)))
        exact fin (by rw [List.takeWhile_cons, hc]; rfl) (by rw [List.dropWhile_cons, hc]; rfl)
def c_Reader_numeral (C CP : Addr) : Ct := fun ds M Ψ Ξ => ∃ (a : Addr) (t r : List Nat), ds = [.ref a] ∧ M a = some (rdr C t r) ∧ r <:+ t ∧ t.length ≤ 5000 ∧ (∀ n, numV (r.takeWhile isDg) = some n → Ψ (.int n) (updM M a (rdr C t (r.dropWhile isDg)))) ∧ (numV (r.takeWhile isDg) = none → Ξ (PE0 CP) (updM M a (rdr C t (r.dropWhile isDg))))
theorem ok_Reader_numeral {f : Addr} {fd : FuncData} {dvs : List V} {kws : List (Str × V)} (T : Txt K mg) (h_number_in : Gf P w K mg base "number_in" 2 (c_number_in) b_number_in) (h_Reader_taken : Mf P w K mg base (He.ga K "Reader") "taken" 2 (c_Reader_taken (He.ga K "Reader")) b_Reader_taken) (x_ParseError : Xf P w K mg base "ParseError" (He.ga K "ParseError") 1 (tag2 "ParseError" "line")) (F : FnZ K "numeral" "Reader.numeral" s_Reader_numeral dvs kws f fd) : FnOk P w K mg base (L2.CX P w) 3 f fd ["self"] (spC K ["self"].length (c_Reader_numeral (He.ga K "Reader") (He.ga K "ParseError"))) := by
  have hnd := sc_Reader_numeral.nd
  refine fnD F sc_Reader_numeral (c_Reader_numeral (He.ga K "Reader") (He.ga K "ParseError")) fun cdv A outer s H E B Ξ hr z => ⟨_, (dss_cons (ds_set (i := 1) hnd (de_call h_number_in hr z (List.Mem.head _) (da_cons (de_meth h_Reader_taken T.cl_Reader hr z (List.Mem.head _) (de_var (i := 0)) (da_cons (de_gstr T.k_DIGITS) da_nil)) da_nil)))
    (dss_cons (ds_if (dt_is (de_var (i := 1)) de_non) (dss_one (ds_raise1 x_ParseError hr z rfl (da_cons de_int da_nil))) dss_nil)
    (dss_one (ds_ret (de_var (i := 1)))))), fun ds Ψ hl hc => ?_⟩
  obtain ⟨a, t, r, rfl, ha, hs, ht, q1, q2⟩ := hc
  rw [show ent (["self", "found"] : List Str).length [.ref a] = [some (.ref a), none] from rfl]
  try dsimp only [List.set, getS_z, getS_s, bin2, bin2T, ltD, leD, gtD, geD, cmp_i, add_i, sub_i, min2_i, max2_i]
  have hw : ∀ c ∈ r.takeWhile isDg, isDg c = true := fun c hc => List.all_eq_true.mp (List.all_takeWhile) c hc
  have hl := wl_len isDg r
  have hl2 := sfx_le hs
  refine isO_in ha ⟨rfl, rfl, rfl, a, t, r, _, isDg, rfl, ha, hs, ht, fun c => dg_mem, ?_⟩
  refine ⟨rfl, rfl, r.takeWhile isDg, rfl, by omega, hw, ?_⟩
  try dsimp only [List.set, getS_z, getS_s, bin2, bin2T, ltD, leD, gtD, geD, cmp_i, add_i, sub_i, min2_i, max2_i]
  cases hn : numV (r.takeWhile isDg) with
  | none =>
    refine bl_t rfl ?_
    exact ite_t rfl ⟨_, .same, q2 hn⟩
  | some n =>
    refine bl_f rfl ?_
    exact ite_f rfl ⟨_, _, .same, q1 n hn⟩
def c_Reader_entries (C CP : Addr) : Ct := fun ds M Ψ Ξ => ∃ (a : Addr) (t r : List Nat), ds = [.ref a] ∧ M a = some (rdr C t r) ∧ r <:+ t ∧ t.length ≤ 5000 ∧ (∀ ns r', entG marks4 r = some (ns, r') → Ψ (pgD (tabOf ns)) (updM M a (rdr C t r'))) ∧ (entG marks4 r = none → ∀ r', Ξ (PE0 CP) (updM M a (rdr C t r')))
theorem ok_Reader_entries {f : Addr} {fd : FuncData} {dvs : List V} {kws : List (Str × V)} (T : Txt K mg) (h_Reader_numeral : Mf P w K mg base (He.ga K "Reader") "numeral" 3 (c_Reader_numeral (He.ga K "Reader") (He.ga K "ParseError")) b_Reader_numeral) (h_Reader_need : Mf P w K mg base (He.ga K "Reader") "need" 3 (c_Reader_need (He.ga K "Reader") (He.ga K "ParseError")) b_Reader_need) (F : FnZ K "entries" "Reader.entries" s_Reader_entries dvs kws f fd) : FnOk P w K mg base (L2.CX P w) 4 f fd ["self"] (spC K ["self"].length (c_Reader_entries (He.ga K "Reader") (He.ga K "ParseError"))) := by
  have hnd := sc_Reader_entries.nd
  refine fnD F sc_Reader_entries (c_Reader_entries (He.ga K "Reader") (He.ga K "ParseError")) fun cdv A outer s H E B Ξ hr z => ⟨_, (dss_cons (ds_set (i := 1) hnd (de_lstM da_nil))
    (dss_cons (ds_for z.po rfl (di_tup (de_tup (da_cons de_str (da_cons de_str (da_cons de_str (da_cons de_str da_nil)))))) (dg_name (i := 2) hnd) (dss_cons (ds_expr (de_append (de_var (i := 1)) (da_cons (de_meth0 h_Reader_numeral T.cl_Reader hr z (List.Mem.head _) (de_var (i := 0))) da_nil)))
    (dss_one (ds_expr (de_meth h_Reader_need T.cl_Reader hr z (List.Mem.head _) (de_var (i := 0)) (da_cons (de_var (i := 2)) da_nil))))))
    (dss_one (ds_ret (de_tup (da_cons de_str (da_cons (de_tuple1 T.n_tuple (da_cons (de_var (i := 1)) da_nil)) da_nil))))))), fun ds Ψ hl hc => ?_⟩
  obtain ⟨a, t, r, rfl, ha, hs, ht, q1, q2⟩ := hc
  rw [show ent (["self", "found", "mark"] : List Str).length [.ref a] = [some (.ref a), none, none] from rfl]
  try dsimp only [List.set, getS_z, getS_s, bin2, bin2T, ltD, leD, gtD, geD, cmp_i, add_i, sub_i, min2_i, max2_i]
  refine ⟨ln (n := 0) rfl (by decide), fun p hp => ?_⟩
  have npa : p ≠ a := fun z => by rw [z, ha] at hp; cases hp
  have ha0 : B.M a ≠ none := by rw [ha]; simp
  have rsx : ∀ (c : Cell) (r' : List Nat), rs B.M (updM (updM B.M p c) a (rdr (He.ga K "Reader") t r')) = updM B.M a (rdr (He.ga K "Reader") t r') := fun c r' => rs_put ha0 updM_same fun b hb h0 => by
    rw [updM_ne hb, updM_ne (fun z => h0 (by rw [z]; exact hp))]
  refine forD_n (xs := [.str " ", .str "; ", .str " ", .str "]"]) (fun K h => ⟨ln (n := 4) rfl (by decide), _, rfl, h⟩) (fun i e M' => ∃ (o : Option D) (ns : List Int) (r1 : List Nat), e = [some (.ref a), some (.ref p), o] ∧ M' = updM (updM B.M p (.lst (ns.map D.int))) a (rdr (He.ga K "Reader") t r1) ∧ r1 <:+ t ∧ ns.length = i ∧ entG marks4 r = match entG (marks4.drop i) r1 with
      | none => none
      | some (ms, r') => some (ns ++ ms, r')) ⟨none, [], r, rfl, ?_, hs, rfl, ?_⟩ (fun _ _ _ _ => trivial) (fun i d e M' hd h => ?_) (fun e M' h => ?_)
  · rw [updM_comm npa, updM_id ha]
    rfl
  · rw [List.drop_zero]
    cases entG marks4 r with
    | none => rfl
    | some x => rfl
  · obtain ⟨o, ns, r1, rfl, rfl, h1, h2, h3⟩ := h
    obtain ⟨m, hm, rfl, lm⟩ := mark_at hd
    have hi : i < 4 := by
      cases hx : decide (i < 4) with
      | true => exact of_decide_eq_true hx
      | false =>
        have := of_decide_eq_false hx
        rw [List.getElem?_eq_none (by simp; omega)] at hd
        cases hd
    rw [hm] at h3
    try dsimp only [List.set, getS_z, getS_s, bin2, bin2T, ltD, leD, gtD, geD, cmp_i, add_i, sub_i, min2_i, max2_i]
    have epl : updM (updM B.M p (.lst (ns.map D.int))) a (rdr (He.ga K "Reader") t r1) p = some (.lst (ns.map D.int)) := by rw [updM_ne npa, updM_same]
    refine ⟨⟨_, lstOf_at epl⟩, isO_in updM_same ⟨rfl, rfl, rfl, a, t, r1, rfl, updM_same, h1, ht, fun n hn => ?_, fun hn => ⟨_, .drop, ?_⟩⟩⟩
    · rw [updM_updM]
      have epl : updM (updM B.M p (.lst (ns.map D.int))) a (rdr (He.ga K "Reader") t (r1.dropWhile isDg)) p = some (.lst (ns.map D.int)) := by rw [updM_ne npa, updM_same]
      refine append_of epl (Nat.lt_of_le_of_lt (by rw [List.length_map, h2]; exact Nat.le_of_lt hi) (Nat.lt_of_lt_of_le (by decide) big_ok)) ?_
      have ea : updM (updM (updM B.M p (.lst (ns.map D.int))) a (rdr (He.ga K "Reader") t (r1.dropWhile isDg))) p (.lst (ns.map D.int ++ [.int n])) = updM (updM B.M p (.lst ((ns ++ [n]).map D.int))) a (rdr (He.ga K "Reader") t (r1.dropWhile isDg)) := by
        rw [updM_comm npa.symm, updM_updM, List.map_append]
        rfl
      rw [ea]
      refine isO_in updM_same ⟨rfl, ?_⟩
      refine ⟨rfl, rfl, a, t, r1.dropWhile isDg, m, rfl, updM_same, drop_sfx h1, ht, lm, fun r2 e2 => ?_, fun e2 => ⟨_, .drop, ?_⟩⟩
      · rw [updM_updM]
        refine .of ⟨_, ns ++ [n], r2, rfl, rfl, stripP_sfx e2 (drop_sfx h1), by rw [List.length_append, h2]; rfl, ?_⟩
        rw [h3, entG, hn]
        dsimp only
        rw [e2]
        dsimp only
        cases entG (marks4.drop (i + 1)) r2 with
        | none => rfl
        | some x => simp
      · rw [rsx]
        refine q2 ?_ _
        rw [h3, entG, hn]
        dsimp only
        rw [e2]
    · rw [updM_updM, rsx]
      refine q2 ?_ _
      rw [h3, entG, hn]
  · obtain ⟨o, ns, r1, rfl, rfl, h1, h2, h3⟩ := h
    have h2 : ns.length = 4 := h2
    match ns, h2 with
    | [n1, n2, n3, n4], _ =>
      have e0 : marks4.drop 4 = [] := rfl
      rw [show ([.str " ", .str "; ", .str " ", .str "]"] : List D).length = 4 from rfl, e0, entG] at h3
      have epl : updM (updM B.M p (.lst (([n1, n2, n3, n4] : List Int).map D.int))) a (rdr (He.ga K "Reader") t r1) p = some (.lst ([n1, n2, n3, n4].map D.int)) := by rw [updM_ne npa, updM_same]
      try dsimp only [List.set, getS_z, getS_s, bin2, bin2T, ltD, leD, gtD, geD, cmp_i, add_i, sub_i, min2_i, max2_i]
      refine ⟨_, lstOf_at epl, ln (n := 2) rfl (by decide), _, _, .drop, ?_⟩
      rw [rsx]
      exact q1 _ _ h3

theorem ok_Reader_program {f : Addr} {fd : FuncData} {dvs : List V} {kws : List (Str × V)} (T : Txt K mg) {lv dp : Nat} (hlv : 4 ≤ lv) (h_Reader_program : Mf P w K mg base (He.ga K "Reader") "program" lv (c_Reader_program dp (He.ga K "Reader") (He.ga K "ParseError")) b_Reader_program) (h_Reader_row_of_parts : Mf P w K mg base (He.ga K "Reader") "row_of_parts" (lv + 1) (c_Reader_row_of_parts dp (He.ga K "Reader") (He.ga K "ParseError")) b_Reader_row_of_parts) (h_Reader_take : Mf P w K mg base (He.ga K "Reader") "take" 2 (c_Reader_take (He.ga K "Reader")) b_Reader_take) (h_Reader_entries : Mf P w K mg base (He.ga K "Reader") "entries" 4 (c_Reader_entries (He.ga K "Reader") (He.ga K "ParseError")) b_Reader_entries) (h_Reader_taken : Mf P w K mg base (He.ga K "Reader") "taken" 2 (c_Reader_taken (He.ga K "Reader")) b_Reader_taken) (h_Reader_numeral : Mf P w K mg base (He.ga K "Reader") "numeral" 3 (c_Reader_numeral (He.ga K "Reader") (He.ga K "ParseError")) b_Reader_numeral) (h_Reader_need : Mf P w K mg base (He.ga K "Reader") "need" 3 (c_Reader_need (He.ga K "Reader") (He.ga K "ParseError")) b_Reader_need) (x_ParseError : Xf P w K mg base "ParseError" (He.ga K "ParseError") 1 (tag2 "ParseError" "line")) (F : FnZ K "program" "Reader.program" s_Reader_program dvs kws f fd) : FnOk P w K mg base (L2.CX P w) (lv + 2) f fd ["self", "left"] (spC K ["self", "left"].length (c_Reader_program (dp + 1) (He.ga K "Reader") (He.ga K "ParseError"))) := by
  have hnd := sc_Reader_program.nd
  refine fnD F sc_Reader_program (c_Reader_program (dp + 1) (He.ga K "Reader") (He.ga K "ParseError")) fun cdv A outer s H E B Ξ hr z => ⟨_, (dss_cons (ds_if (dt_eq hr (de_var (i := 1)) de_int) (dss_one (ds_raise1 (hk := by omega) x_ParseError hr z rfl (da_cons de_int da_nil))) dss_nil)
    (dss_cons (ds_if (dt_val (de_meth (hj := by omega) h_Reader_take T.cl_Reader hr z (List.Mem.head _) (de_var (i := 0)) (da_cons de_str da_nil))) (dss_one (ds_ret (de_meth (hj := by omega) h_Reader_row_of_parts T.cl_Reader hr z (List.Mem.head _) (de_var (i := 0)) (da_cons (de_var (i := 1)) da_nil)))) dss_nil)
    (dss_cons (ds_if (dt_val (de_meth (hj := by omega) h_Reader_take T.cl_Reader hr z (List.Mem.head _) (de_var (i := 0)) (da_cons de_str da_nil))) (dss_one (ds_ret (de_meth0 (hj := by omega) h_Reader_entries T.cl_Reader hr z (List.Mem.head _) (de_var (i := 0))))) dss_nil)
    (dss_cons (ds_set (i := 2) hnd (de_meth (hj := by omega) h_Reader_taken T.cl_Reader hr z (List.Mem.head _) (de_var (i := 0)) (da_cons de_str da_nil)))
    (dss_cons (ds_if (dt_ne hr (de_var (i := 2)) de_str) (dss_one (ds_ret (de_tup (da_cons de_str (da_cons (de_var (i := 2)) da_nil))))) dss_nil)
    (dss_cons (ds_set (i := 3) hnd (de_meth (hj := by omega) h_Reader_taken T.cl_Reader hr z (List.Mem.head _) (de_var (i := 0)) (da_cons (de_gstr T.k_SMALL) da_nil)))
    (dss_cons (ds_if (dt_ne hr (de_var (i := 3)) de_str) (dss_one (ds_ret (de_if (dt_eq hr (de_var (i := 3)) de_str) (de_tup (da_cons de_str da_nil)) (de_tup (da_cons de_str (da_cons (de_var (i := 3)) da_nil)))))) dss_nil)
    (dss_cons (ds_set (i := 4) hnd (de_meth0 (hj := by omega) h_Reader_numeral T.cl_Reader hr z (List.Mem.head _) (de_var (i := 0))))
    (dss_cons (ds_expr (de_meth (hj := by omega) h_Reader_need T.cl_Reader hr z (List.Mem.head _) (de_var (i := 0)) (da_cons de_str da_nil)))
    (dss_one (ds_ret (de_tup (da_cons de_str (da_cons (de_var (i := 4)) (da_cons (de_meth (hj := by omega) h_Reader_program T.cl_Reader hr z (List.Mem.head _) (de_var (i := 0)) (da_cons (de_sub (de_var (i := 1)) de_int) da_nil)) da_nil))))))))))))))), fun ds Ψ hl hc => ?_⟩
  obtain ⟨a, t, r, k, rfl, ha, hs, ht, hk, q1, q2⟩ := hc
  rw [show ent (["self", "left", "word", "name", "count"] : List Str).length [.ref a, .int (k : Nat)] = [some (.ref a), some (.int (k : Nat)), none, none, none] from rfl]
  try dsimp only [List.set, getS_z, getS_s, bin2, bin2T, ltD, leD, gtD, geD, cmp_i, add_i, sub_i, min2_i, max2_i]
  refine eqI ?_
  cases k with
  | zero =>
    refine bl_t rfl ?_
    refine ite_t rfl ⟨_, .same, ?_⟩
    have := q2 (by rw [prs]) r
    rw [updM_id ha] at this
    exact this
  | succ k =>
  refine bl_f (decide_eq_false (by omega)) ?_
  refine ite_f rfl ?_
  rw [prs] at q1 q2
  have e1 : ("(" : Str) = ⟨[40].toArray⟩ := by decide +kernel
  have e2 : ("[" : Str) = ⟨[91].toArray⟩ := by decide +kernel
  have e3 : ("*" : Str) = ⟨[42].toArray⟩ := by decide +kernel
  have lr := sfx_le hs
  refine isO_in ha ⟨rfl, rfl, rfl, a, t, r, [40], by rw [e1], ha, hs, ht, by decide, fun r1 h1 => ?_, fun h1 => ?_⟩
  · rw [h1] at q1 q2
    dsimp only at q1 q2
    refine bl_t rfl ?_
    refine ite_t rfl ?_
    refine isO_in updM_same ⟨rfl, rfl, rfl, a, t, r1, k, rfl, updM_same, stripP_sfx h1 hs, ht, by omega, fun l r2 h2 => ?_, fun h2 r2 => ⟨_, .same, ?_⟩⟩
    · rw [updM_updM]
      exact ⟨_, _, .same, q1 (.thn l) r2 (by rw [h2])⟩
    · rw [updM_updM]
      exact q2 (by rw [h2]) r2
  rw [h1] at q1 q2
  dsimp only at q1 q2
  refine bl_f rfl ?_
  refine ite_f rfl ?_
  refine isO_in ha ⟨rfl, rfl, rfl, a, t, r, [91], by rw [e2], ha, hs, ht, by decide, fun r1 h2 => ?_, fun h2 => ?_⟩
  · rw [h2] at q1 q2
    dsimp only at q1 q2
    refine bl_t rfl ?_
    refine ite_t rfl ?_
    refine isO_in updM_same ⟨rfl, rfl, rfl, a, t, r1, rfl, updM_same, stripP_sfx h2 hs, ht, fun ns r2 h3 => ?_, fun h3 r2 => ⟨_, .same, ?_⟩⟩
    · rw [updM_updM]
      exact ⟨_, _, .same, q1 (tabOf ns) r2 (by rw [h3])⟩
    · rw [updM_updM]
      exact q2 (by rw [h3]) r2
  rw [h2] at q1 q2
  dsimp only at q1 q2
  refine bl_f rfl ?_
  refine ite_f rfl ?_
  refine isO_in ha ⟨rfl, rfl, rfl, a, t, r, _, isLR, rfl, ha, hs, ht, fun c => lr_memB, ?_⟩
  try dsimp only [List.set, getS_z, getS_s, bin2, bin2T, ltD, leD, gtD, geD, cmp_i, add_i, sub_i, min2_i, max2_i]
  refine ne_emp ?_
  refine bl_c (fun eb => ?_) (fun eb => ?_)
  · have h3 : r.takeWhile isLR ≠ [] := by simpa using eb
    rw [if_pos h3] at q1
    refine ite_t rfl ⟨ln (n := 2) rfl (by decide), _, _, .same, ?_⟩
    have := q1 _ _ rfl
    rw [pgD] at this
    exact this
  have h3 : r.takeWhile isLR = [] := by simpa using eb
  rw [if_neg (fun z => z h3)] at q1 q2
  refine ite_f rfl ?_
  rw [tw_nil h3, updM_id ha]
  refine isO_in ha ⟨rfl, rfl, rfl, a, t, r, _, isLo, rfl, ha, hs, ht, fun c => lo_mem, ?_⟩
  try dsimp only [List.set, getS_z, getS_s, bin2, bin2T, ltD, leD, gtD, geD, cmp_i, add_i, sub_i, min2_i, max2_i]
  refine ne_emp ?_
  refine bl_c (fun eb => ?_) (fun eb => ?_)
  · have h4 : r.takeWhile isLo ≠ [] := by simpa using eb
    rw [if_pos h4] at q1
    have q1 := q1 _ _ rfl
    refine ite_t rfl (eqS (bl_c (fun ec => ?_) (fun ec => ?_)))
    · have ec := (sw_w _).mp (of_decide_eq_true ec)
      rw [if_pos ec, pgD] at q1
      exact ite_t rfl ⟨ln (n := 1) rfl (by decide), _, _, .same, q1⟩
    · have ec := fun z => of_decide_eq_false ec ((sw_w _).mpr z)
      rw [if_neg ec, pgD] at q1
      exact ite_f rfl ⟨ln (n := 2) rfl (by decide), _, _, .same, q1⟩
  have h4 : r.takeWhile isLo = [] := by simpa using eb
  rw [if_neg (fun z => z h4)] at q1 q2
  refine ite_f rfl ?_
  rw [tw_nil h4, updM_id ha]
  refine isO_in ha ⟨rfl, rfl, rfl, a, t, r, rfl, ha, hs, ht, fun n hn => ?_, fun hn => ⟨_, .same, q2 (by rw [hn]) _⟩⟩
  rw [hn] at q1 q2
  dsimp only at q1 q2
  refine isO_in updM_same ⟨rfl, rfl, rfl, a, t, _, [42], by rw [e3], updM_same, drop_sfx hs, ht, by decide, fun r1 h5 => ?_, fun h5 => ⟨_, .same, q2 (by rw [h5]) _⟩⟩
  rw [h5] at q1 q2
  dsimp only at q1 q2
  rw [updM_updM]
  refine isO_in updM_same ⟨rfl, ?_⟩
  show callD _ _ _ _ _ [.ref a, .int (((k + 1 : Nat) : Int) - 1)] _ _ _ _
  rw [show ((k + 1 : Nat) : Int) - 1 = (k : Nat) by omega]
  refine ⟨rfl, rfl, a, t, r1, k, rfl, updM_same, stripP_sfx h5 (drop_sfx hs), ht, by omega, fun p r2 h6 => ?_, fun h6 r2 => ⟨_, .same, ?_⟩⟩
  · rw [updM_updM]
    refine ⟨ln (n := 3) rfl (by decide), _, _, .same, ?_⟩
    have := q1 (.tms n p) r2 (by rw [h6])
    rw [pgD] at this
    exact this
  · rw [updM_updM]
    exact q2 (by rw [h6]) r2
def c_is_name : Ct := fun ds M Ψ _ => ∃ x : Str, ds = [.str x] ∧ x.cps.size ≤ 400000 ∧ Ψ (.bl (nameB x)) M
theorem ok_is_name {f : Addr} {fd : FuncData} {dvs : List V} {kws : List (Str × V)} (T : Txt K mg)  (F : FnZ K "is_name" "is_name" s_is_name dvs kws f fd) : FnOk P w K mg base (L2.CX P w) 2 f fd ["value"] (spC K ["value"].length (c_is_name)) := by
  have hnd := sc_is_name.nd
  refine fnD F sc_is_name (c_is_name) fun cdv A outer s H E B Ξ hr z => ⟨_, (dss_cons (ds_if (dw_orV (dt_not (dt_val (de_isi T.n_isinstance (da_cons (de_var (i := 0)) (da_cons (de_ty (n := "str") T.n_str (by decide +kernel)) da_nil))))) (dw_orV (dt_not (dt_chain oc_le oc_le de_int (de_len T.n_len (da_cons (de_var (i := 0)) da_nil)) (de_gint T.k_MOST_SIGNS))) (dw_or1 (dt_in hr (de_var (i := 0)) (de_gtup T.k_RESERVED))))).pt (dss_one (ds_ret de_bl)) dss_nil)
    (dss_one (ds_ret (de_all1 rfl T.n_all (da_cons (de_lc rfl hnd (di_str (de_var (i := 0))) (blkOk_by (own := [("sign", 1)]) (by rfl)) (tg_name (i := 1) (by decide)) (fun _ _ _ _ _ => (pg_name (i := 1) hnd rfl (by first | exact Or.inl rfl | exact Or.inr rfl) (by first | exact .inl rfl | exact .inr rfl))) (fun _ _ _ _ _ _ => dts_nil) (fun _ _ _ _ _ _ => (de_in hr (de_var (i := 1)) (de_gstr T.k_SMALL)))) da_nil))))), fun ds Ψ hl hc => ?_⟩
  obtain ⟨x, rfl, hx, q⟩ := hc
  rw [show ent (["value", "sign"] : List Str).length [D.str x] = [some (.str x), none] from rfl]
  try dsimp only [List.set, getS_z, getS_s, bin2, bin2T, ltD, leD, gtD, geD, cmp_i, add_i, sub_i, min2_i, max2_i]
  have hlen : ((x.length : Nat) : Int) = (x.cps.size : Nat) := rfl
  refine ⟨by decide, "str", rfl, ?_⟩
  refine bl_t rfl ?_
  have res : decide (x ∈ ([("swap" : Str), ("then" : Str)] : List Str)) = (decide (x = "swap") || decide (x = "then")) := by
    rw [← Bool.decide_or]
    simp only [List.mem_cons, List.not_mem_nil, or_false]
  refine ⟨!(decide (1 ≤ x.cps.size) && decide (x.cps.size ≤ 8)) || (decide (x = "swap") || decide (x = "then")), ?_, ?_⟩
  · intro _
    unfold chainD
    refine ⟨Nat.le_trans (show x.cps.size ≤ 1000000 by omega) big_ok, ?_⟩
    rw [hlen]
    refine bl_c (fun e => ?_) (fun e => ?_)
    rotate_left
    · have e := of_decide_eq_false e
      refine ite_f rfl ?_
      refine ⟨false, ?_, ?_, rfl⟩
      · intro z
        cases z
      · rw [decide_eq_false (by omega : ¬ 1 ≤ x.cps.size)]
        rfl
    have e := of_decide_eq_true e
    refine ite_t rfl ?_
    refine bl_c (fun e2 => ?_) (fun e2 => ?_)
    rotate_left
    · have e2 := of_decide_eq_false e2
      refine ⟨false, ?_, ?_, rfl⟩
      · intro z
        cases z
      · rw [decide_eq_true (by omega : 1 ≤ x.cps.size), decide_eq_false (by omega : ¬ x.cps.size ≤ 8)]
        rfl
    have e2 := of_decide_eq_true e2
    refine ⟨decide (x = "swap") || decide (x = "then"), ?_, ?_, rfl⟩
    · intro _
      refine inS ["swap", "then"] ?_
      refine bl_v ⟨res, rfl⟩
    · rw [decide_eq_true (by omega : 1 ≤ x.cps.size), decide_eq_true (by omega : x.cps.size ≤ 8)]
      rfl
  by_cases e : (!(decide (1 ≤ x.cps.size) && decide (x.cps.size ≤ 8)) || (decide (x = "swap") || decide (x = "then"))) = true
  · refine ite_t (by rw [e]; rfl) ?_
    refine ⟨_, _, .same, ?_⟩
    have en : nameB x = false := by
      unfold nameB
      revert e
      generalize (decide (1 ≤ x.cps.size) && decide (x.cps.size ≤ 8)) = b1
      generalize (decide (x = ("swap" : Str)) || decide (x = ("then" : Str))) = b2
      cases b1 <;> cases b2 <;> simp
    rw [en] at q
    exact q
  have e := Bool.eq_false_iff.mpr e
  refine ite_f (by rw [e]; rfl) ?_
  refine compD_map (xs := Z.signs x) (fun K h => h) (fun d => match d with | .str z => .bl (decide ((z.cps.toList.headD 0) ∈ ("abcdefghijklmnopqrstuvwxyz" : Str).cps.toList)) | _ => .non) trivial (by rw [signs_len]; exact Nat.le_trans (show x.cps.size ≤ 1000000 by omega) big_ok) (fun d hd Q q => ?_) ?_
  · obtain ⟨c, _, rfl⟩ := signs_mem hd
    exact ⟨c, rfl, q⟩
  · refine ⟨x.cps.toList.map fun c => decide (c ∈ ("abcdefghijklmnopqrstuvwxyz" : Str).cps.toList), ?_, _, _, .same, ?_⟩
    · show some _ = some _
      unfold Z.signs
      rw [List.map_map, List.map_map]
      rfl
    · rw [List.all_map]
      have en : nameB x = x.cps.toList.all isLo := by
        unfold nameB
        revert e
        generalize (decide (1 ≤ x.cps.size) && decide (x.cps.size ≤ 8)) = b1
        generalize (decide (x = ("swap" : Str)) || decide (x = ("then" : Str))) = b2
        cases b1 <;> cases b2 <;> simp
      rw [en] at q
      have ea : (x.cps.toList.all (id ∘ fun c => decide (c ∈ ("abcdefghijklmnopqrstuvwxyz" : Str).cps.toList))) = x.cps.toList.all isLo := by
        congr 1
        funext c
        show decide _ = isLo c
        rw [Bool.eq_iff_iff, decide_eq_true_eq]
        exact lo_mem
      rw [ea]
      exact q
def c_is_integer : Ct := fun ds M Ψ _ => ∃ d t, ds = [d] ∧ tyN M d = some t ∧ Ψ (.bl (isIn M d)) M
theorem ok_is_integer {f : Addr} {fd : FuncData} {dvs : List V} {kws : List (Str × V)} (T : Txt K mg)  (F : FnZ K "is_integer" "is_integer" s_is_integer dvs kws f fd) : FnOk P w K mg base (L2.CX P w) 2 f fd ["value"] (spC K ["value"].length (c_is_integer)) := by
  have hnd := sc_is_integer.nd
  refine fnD F sc_is_integer (c_is_integer) fun cdv A outer s H E B Ξ hr z => ⟨_, (dss_one (ds_ret (de_and (de_isi T.n_isinstance (da_cons (de_var (i := 0)) (da_cons (de_ty (n := "int") T.n_int (by decide +kernel)) da_nil))) (de_and1 (de_not (de_isi T.n_isinstance (da_cons (de_var (i := 0)) (da_cons (de_ty (n := "bool") T.n_bool (by decide +kernel)) da_nil)))))))), fun ds Ψ hl hc => ?_⟩
  obtain ⟨d, t, rfl, ht, q⟩ := hc
  refine ⟨by decide, t, ht, ?_⟩
  unfold isIn at q
  rw [ht] at q
  have h7 := tyN_ok ht
  simp only [okTy, List.mem_cons, List.not_mem_nil, or_false] at h7
  rcases h7 with rfl | rfl | rfl | rfl | rfl | rfl | rfl
  all_goals first
    | exact bl_f rfl ⟨_, _, .same, q⟩
    | exact bl_t rfl ⟨by decide, _, ht, bl_t rfl ⟨_, _, .same, q⟩⟩
    | exact bl_t rfl ⟨by decide, _, ht, bl_f rfl ⟨_, _, .same, q⟩⟩
def c_is_within : Ct := fun ds M Ψ _ => ∃ d t a b, ds = [d, .int a, .int b] ∧ tyN M d = some t ∧ Ψ (.bl (inB d a b)) M
theorem ok_is_within {f : Addr} {fd : FuncData} {dvs : List V} {kws : List (Str × V)} (T : Txt K mg) (h_is_integer : Gf P w K mg base "is_integer" 2 (c_is_integer) b_is_integer) (F : FnZ K "is_within" "is_within" s_is_within dvs kws f fd) : FnOk P w K mg base (L2.CX P w) 3 f fd ["value", "least", "most"] (spC K ["value", "least", "most"].length (c_is_within)) := by
  have hnd := sc_is_within.nd
  refine fnD F sc_is_within (c_is_within) fun cdv A outer s H E B Ξ hr z => ⟨_, (dss_one (ds_ret (de_and (de_call h_is_integer hr z (List.Mem.head _) (da_cons (de_var (i := 0)) da_nil)) (de_and1 (de_chain oc_le oc_le (de_var (i := 1)) (de_var (i := 0)) (de_var (i := 2))))))), fun ds Ψ hl hc => ?_⟩
  obtain ⟨d, t, a, b, rfl, ht, q⟩ := hc
  refine ⟨rfl, rfl, d, t, rfl, ht, ?_⟩
  by_cases e : t = "int"
  · subst e
    obtain ⟨i, rfl⟩ := ty_int ht
    refine bl_t (decide_eq_true ht) ?_
    by_cases h1 : a ≤ i
    · have e : inB (.int i) a b = decide (i ≤ b) := by show (decide (a ≤ i) && decide (i ≤ b)) = _; rw [decide_eq_true h1]; rfl
      refine bl_t (decide_eq_true h1) ?_
      refine bl_c (fun h2 => ?_) (fun h2 => ?_)
      · rw [e, show decide (i ≤ b) = true from h2] at q
        exact ⟨_, _, .same, q⟩
      · rw [e, show decide (i ≤ b) = false from h2] at q
        exact ⟨_, _, .same, q⟩
    · refine bl_f (decide_eq_false h1) ?_
      refine ⟨_, _, .same, ?_⟩
      have e : inB (.int i) a b = false := by show (decide (a ≤ i) && decide (i ≤ b)) = _; rw [decide_eq_false h1]; rfl
      rw [e] at q
      exact q
  · have e0 : isIn B.M d = false := decide_eq_false (by rw [ht]; simp [e])
    refine bl_f e0 ?_
    refine ⟨_, _, .same, ?_⟩
    have e2 : inB d a b = false := by
      cases d <;> first | rfl | (cases ht; exact absurd rfl e)
    rw [e2] at q
    exact q
def c_is_word : Ct := fun ds M Ψ _ => ∃ d t, ds = [d] ∧ tyN M d = some t ∧ (∀ x, d = .str x → x.cps.size ≤ 1000000) ∧ Ψ (.bl (wB d)) M
theorem ok_is_word {f : Addr} {fd : FuncData} {dvs : List V} {kws : List (Str × V)} (T : Txt K mg)  (F : FnZ K "is_word" "is_word" s_is_word dvs kws f fd) : FnOk P w K mg base (L2.CX P w) 2 f fd ["value"] (spC K ["value"].length (c_is_word)) := by
  have hnd := sc_is_word.nd
  refine fnD F sc_is_word (c_is_word) fun cdv A outer s H E B Ξ hr z => ⟨_, (dss_one (ds_ret (de_and (de_isi T.n_isinstance (da_cons (de_var (i := 0)) (da_cons (de_ty (n := "str") T.n_str (by decide +kernel)) da_nil))) (de_and1 (de_all1 rfl T.n_all (da_cons (de_lc rfl hnd (di_str (de_var (i := 0))) (blkOk_by (own := [("turn", 1)]) (by rfl)) (tg_name (i := 1) (by decide)) (fun _ _ _ _ _ => (pg_name (i := 1) hnd rfl (by first | exact Or.inl rfl | exact Or.inr rfl) (by first | exact .inl rfl | exact .inr rfl))) (fun _ _ _ _ _ _ => dts_nil) (fun _ _ _ _ _ _ => (de_in hr (de_var (i := 1)) (de_gstr T.k_TURNS)))) da_nil)))))), fun ds Ψ hl hc => ?_⟩
  obtain ⟨d, t, rfl, ht, hz, q⟩ := hc
  refine ⟨by decide, t, ht, ?_⟩
  by_cases e : t = "str"
  · subst e
    obtain ⟨x, rfl⟩ := ty_str ht
    refine bl_t (by rfl) ?_
    refine compD_map (xs := Z.signs x) (fun K h => h) (fun d => match d with | .str z => .bl (decide ((z.cps.toList.headD 0) ∈ ("LR" : Str).cps.toList)) | _ => .non) trivial (by rw [signs_len]; exact Nat.le_trans (hz x rfl) big_ok) (fun d hd Q q => ?_) ?_
    · obtain ⟨c, _, rfl⟩ := signs_mem hd
      exact ⟨c, rfl, q⟩
    · refine ⟨x.cps.toList.map fun c => decide (c ∈ ("LR" : Str).cps.toList), ?_, _, _, .same, ?_⟩
      · show some _ = some _
        unfold Z.signs
        rw [List.map_map, List.map_map]
        rfl
      · rw [List.all_map]
        exact q
  · have e0 : isB t "str" = false := by
      have h7 := tyN_ok ht
      simp only [okTy, List.mem_cons, List.not_mem_nil, or_false] at h7
      rcases h7 with rfl | rfl | rfl | rfl | rfl | rfl | rfl
      all_goals first
        | rfl
        | exact absurd rfl e
    refine bl_f e0 ?_
    refine ⟨_, _, .same, ?_⟩
    have e2 : wB d = false := by
      cases d <;> first | rfl | (cases ht; exact absurd rfl e)
    rw [e2] at q
    exact q
def c_are_entries : Ct := fun ds M Ψ _ => ∃ t : T4, ds = [tD t] ∧ Sm 200 t ∧ Ψ (.bl (entB t)) M
theorem ok_are_entries {f : Addr} {fd : FuncData} {dvs : List V} {kws : List (Str × V)} (T : Txt K mg) (h_is_within : Gf P w K mg base "is_within" 3 (c_is_within) b_is_within) (F : FnZ K "are_entries" "are_entries" s_are_entries dvs kws f fd) : FnOk P w K mg base (L2.CX P w) 4 f fd ["value"] (spC K ["value"].length (c_are_entries)) := by
  have hnd := sc_are_entries.nd
  refine fnD F sc_are_entries (c_are_entries) fun cdv A outer s H E B Ξ hr z => ⟨_, (dss_cons (ds_if (dw_orV (dt_not (dt_val (de_isi T.n_isinstance (da_cons (de_var (i := 0)) (da_cons (de_ty (n := "tuple") T.n_tuple (by decide +kernel)) da_nil))))) (dw_orV (dt_ne hr (de_len T.n_len (da_cons (de_var (i := 0)) da_nil)) de_int) (dw_or1 (dt_not (dt_val (de_all1 rfl T.n_all (da_cons (de_lc rfl hnd (di_tup (de_var (i := 0))) (blkOk_by (own := [("one", 5)]) (by rfl)) (tg_name (i := 5) (by decide)) (fun _ _ _ _ _ => (pg_name (i := 5) hnd rfl (by first | exact Or.inl rfl | exact Or.inr rfl) (by first | exact .inl rfl | exact .inr rfl))) (fun _ _ _ _ _ _ => dts_nil) (fun _ _ _ _ _ _ => (de_call h_is_within hr zx_blk (List.Mem.head _) (da_cons (de_var (i := 5)) (da_cons de_int (da_cons (de_gint T.k_MOST_ENTRY) da_nil)))))) da_nil))))))).pt (dss_one (ds_ret de_bl)) dss_nil)
    (dss_cons (ds_asg (de_var (i := 0)) (dg_tup (n := 4) rfl (dgs_cons (dg_name (i := 1) hnd) (dgs_cons (dg_name (i := 2) hnd) (dgs_cons (dg_name (i := 3) hnd) (dgs_cons (dg_name (i := 4) hnd) dgs_nil))))))
    (dss_one (ds_ret (de_ne hr (de_mul (de_var (i := 1)) (de_var (i := 4))) (de_mul (de_var (i := 2)) (de_var (i := 3)))))))), fun ds Ψ hl hc => ?_⟩
  obtain ⟨t, rfl, hs, q⟩ := hc
  rw [show ent (["value", "a", "b", "c", "d", "one"] : List Str).length [tD t] = [some (tD t), none, none, none, none, none] from rfl]
  try dsimp only [List.set, getS_z, getS_s, bin2, bin2T, ltD, leD, gtD, geD, cmp_i, add_i, sub_i, min2_i, max2_i]
  refine ⟨by decide, "tuple", rfl, ?_⟩
  refine bl_t rfl ?_
  have hall : ∀ y : D, y ∈ tL t → ∃ i : Int, y = .int i := fun y hy => by
    simp only [tL, List.mem_cons, List.not_mem_nil, or_false] at hy
    rcases hy with rfl | rfl | rfl | rfl <;> exact ⟨_, rfl⟩
  refine ⟨!(inB (.int t.1) 0 60 && (inB (.int t.2.1) 0 60 && (inB (.int t.2.2.1) 0 60 && inB (.int t.2.2.2) 0 60))), ?_, ?_⟩
  · intro _
    refine neI ?_
    refine bl_f rfl ?_
    refine ⟨!(inB (.int t.1) 0 60 && (inB (.int t.2.1) 0 60 && (inB (.int t.2.2.1) 0 60 && inB (.int t.2.2.2) 0 60))), ?_, rfl, rfl⟩
    intro _
    refine compD_map (xs := tL t) (fun K h => ⟨tL t, rfl, h⟩) (fun d => .bl (inB d 0 60)) trivial (ln (n := 4) rfl (by decide)) (fun d hd Q q => ?_) ?_
    · obtain ⟨i, rfl⟩ := hall d hd
      exact ⟨rfl, rfl, .int i, "int", 0, 60, rfl, rfl, q⟩
    · refine ⟨[inB (.int t.1) 0 60, inB (.int t.2.1) 0 60, inB (.int t.2.2.1) 0 60, inB (.int t.2.2.2) 0 60], rfl, ?_⟩
      refine bl_v ⟨?_, rfl⟩
      simp [List.all_cons]
  unfold entB at q
  cases hb : (inB (.int t.1) 0 60 && (inB (.int t.2.1) 0 60 && (inB (.int t.2.2.1) 0 60 && inB (.int t.2.2.2) 0 60))) with
  | false =>
    rw [hb, Bool.false_and] at q
    exact ite_t rfl ⟨_, _, .same, q⟩
  | true =>
    rw [hb, Bool.true_and] at q
    refine ite_f rfl ?_
    refine ⟨rfl, ?_⟩
    try dsimp only [List.set, getS_z, getS_s, bin2, bin2T, ltD, leD, gtD, geD, cmp_i, add_i, sub_i, min2_i, max2_i]
    have m1 : IntMulOk t.1 t.2.2.2 := mok_of (a := 200) (b := 200) hs.1 hs.2.2.2
    have m2 : IntMulOk t.2.1 t.2.2.1 := mok_of (a := 200) (b := 200) hs.2.1 hs.2.2.1
    refine ⟨rfl, m1, m2, neI ⟨_, _, .same, ?_⟩⟩
    have e : ∀ (i1 i2 : Decidable (t.1 * t.2.2.2 = t.2.1 * t.2.2.1)), @decide _ i1 = @decide _ i2 := fun i1 i2 => by congr
    rw [e _ _] at q
    exact q
def c_is_part : Ct := fun ds M Ψ _ => ∃ p : Pg, ds = [pgD p] ∧ PgZ p ∧ Ψ (.bl (ptB p)) M
theorem ok_is_part {f : Addr} {fd : FuncData} {dvs : List V} {kws : List (Str × V)} (T : Txt K mg) (h_is_name : Gf P w K mg base "is_name" 2 (c_is_name) b_is_name) (h_is_within : Gf P w K mg base "is_within" 3 (c_is_within) b_is_within) (h_is_word : Gf P w K mg base "is_word" 2 (c_is_word) b_is_word) (h_are_entries : Gf P w K mg base "are_entries" 4 (c_are_entries) b_are_entries) (F : FnZ K "is_part" "is_part" s_is_part dvs kws f fd) : FnOk P w K mg base (L2.CX P w) 5 f fd ["value"] (spC K ["value"].length (c_is_part)) := by
  have hnd := sc_is_part.nd
  refine fnD F sc_is_part (c_is_part) fun cdv A outer s H E B Ξ hr z => ⟨_, (dss_cons (ds_match (de_var (i := 0)) (dc_cons hnd (dp_seq (n := 2) rfl (dps_cons (dp_lit hr) (dps_cons (dp_cap (i := 1)) dps_nil))) (dss_one (ds_ret (de_call h_are_entries hr z (List.Mem.head _) (da_cons (de_var (i := 1)) da_nil)))) (dc_cons hnd (dp_seq (n := 2) rfl (dps_cons (dp_lit hr) (dps_cons (dp_cap (i := 2)) dps_nil))) (dss_one (ds_ret (de_andV (de_call h_is_word hr z (List.Mem.head _) (da_cons (de_var (i := 2)) da_nil)) (de_and1 (de_chain oc_le oc_le de_int (de_len T.n_len (da_cons (de_var (i := 2)) da_nil)) (de_gint T.k_MOST_WORD)))))) (dc_cons hnd (dp_seq (n := 1) rfl (dps_cons (dp_lit hr) dps_nil)) (dss_one (ds_ret de_bl)) (dc_cons hnd (dp_seqS (k := 1) rfl (dps_cons (dp_lit hr) (dps_star (i := 3)))) (dss_one (ds_ret (de_chain oc_le oc_le de_int (de_len T.n_len (da_cons (de_var (i := 3)) da_nil)) (de_gint T.k_MOST_PARTS)))) (dc_cons hnd (dp_seq (n := 3) rfl (dps_cons (dp_lit hr) (dps_cons (dp_cap (i := 4)) (dps_cons dp_wild dps_nil)))) (dss_one (ds_ret (de_call h_is_within hr z (List.Mem.head _) (da_cons (de_var (i := 4)) (da_cons de_int (da_cons (de_gint T.k_MOST_REPEATS) da_nil)))))) (dc_cons hnd (dp_seq (n := 2) rfl (dps_cons (dp_lit hr) (dps_cons (dp_cap (i := 5)) dps_nil))) (dss_one (ds_ret (de_call h_is_name hr z (List.Mem.head _) (da_cons (de_var (i := 5)) da_nil)))) dc_nil (.cons (i := 5) rfl (by first | exact Or.inl rfl | exact Or.inr rfl) (by first | exact .inl rfl | exact .inr rfl | assumption) .nil)) (.cons (i := 4) rfl (by first | exact Or.inl rfl | exact Or.inr rfl) (by first | exact .inl rfl | exact .inr rfl | assumption) .nil)) (.cons (i := 3) rfl (by first | exact Or.inl rfl | exact Or.inr rfl) (by first | exact .inl rfl | exact .inr rfl | assumption) .nil)) .nil) (.cons (i := 2) rfl (by first | exact Or.inl rfl | exact Or.inr rfl) (by first | exact .inl rfl | exact .inr rfl | assumption) .nil)) (.cons (i := 1) rfl (by first | exact Or.inl rfl | exact Or.inr rfl) (by first | exact .inl rfl | exact .inr rfl | assumption) .nil)))
    (dss_one (ds_ret de_bl))), fun ds Ψ hl hc => ?_⟩
  obtain ⟨p, rfl, hz, q⟩ := hc
  rw [show ent (["value", "entries", "word", "parts", "count", "name"] : List Str).length [pgD p] = [some (pgD p), none, none, none, none, none] from rfl]
  refine gs0 ?_
  cases p with
  | tab t =>
    simp only [pgD]
    refine caseHit (by decide) rfl ?_
    exact ⟨rfl, rfl, t, rfl, hz, _, _, .same, q⟩
  | trn w =>
    simp only [pgD]
    refine caseTag (by decide) rfl ?_
    refine caseHit (by decide) rfl ?_
    dsimp only [consP, capP, nilP, setL, List.nil_append, List.cons_append]
    try dsimp only [List.set, getS_z, getS_s, bin2, bin2T, ltD, leD, gtD, geD, cmp_i, add_i, sub_i, min2_i, max2_i]
    refine ⟨rfl, rfl, .str w, "str", rfl, rfl, fun x e => by cases e; exact Nat.le_trans hz.1 (by decide), ?_⟩
    refine bl_v ?_
    refine ⟨decide (1 ≤ w.cps.size) && decide (w.cps.size ≤ 60), fun _ => ?_, _, _, .same, q⟩
    unfold chainD
    refine ⟨Nat.le_trans (show w.cps.size ≤ 1000000 by have : w.cps.size ≤ 16000 := hz.1; omega) big_ok, ?_⟩
    rw [show ((w.length : Nat) : Int) = (w.cps.size : Nat) from rfl]
    refine bl_c (fun e => ?_) (fun e => ?_)
    · have e := of_decide_eq_true e
      refine ite_t rfl ?_
      refine bl_v ⟨?_, rfl⟩
      rw [decide_eq_true (by omega : 1 ≤ w.cps.size), Bool.true_and]
      exact congrArg D.bl (decide_eq_decide.mpr (by omega))
    · have e := of_decide_eq_false e
      refine ite_f rfl ⟨?_, rfl⟩
      rw [decide_eq_false (by omega : ¬ 1 ≤ w.cps.size), Bool.false_and]
  | swp =>
    simp only [pgD]
    refine caseLen (by simp) ?_
    refine caseLen (by simp) ?_
    refine caseHit (by decide) rfl ?_
    exact ⟨_, _, .same, q⟩
  | thn l =>
    simp only [pgD]
    refine caseNo (by decide) ?_
    refine caseNo (by decide) ?_
    refine caseNo (by decide) ?_
    refine caseSHit (by decide) (Nat.zero_le _) (by rw [List.length_cons, pgDs_map, List.length_map]; exact hz) ?_
    dsimp only [consP, capP, nilP, starP, setL, List.nil_append, List.cons_append, List.take_zero, List.drop_zero]
    try dsimp only [List.set, getS_z, getS_s, bin2, bin2T, ltD, leD, gtD, geD, cmp_i, add_i, sub_i, min2_i, max2_i]
    have hl2 : (List.drop 0 (pgDs l)).length = l.length := by rw [List.drop_zero, pgDs_map, List.length_map]
    unfold chainD
    try dsimp only [List.set, getS_z, getS_s, bin2, bin2T, ltD, leD, gtD, geD, cmp_i, add_i, sub_i, min2_i, max2_i]
    dsimp only [lenD]
    rw [hl2]
    have q' : Ψ (.bl (decide (2 ≤ l.length) && decide (l.length ≤ 6))) B.M := q
    refine bl_c (fun e => ?_) (fun e => ?_)
    · have e := of_decide_eq_true e
      refine ite_t rfl ?_
      rw [decide_eq_true (by omega : 2 ≤ l.length), Bool.true_and] at q'
      refine bl_v ⟨_, _, .same, ?_⟩
      show Ψ (.bl (decide (((l.length : Nat) : Int) ≤ 6))) B.M
      rw [show decide (((l.length : Nat) : Int) ≤ 6) = decide (l.length ≤ 6) from decide_eq_decide.mpr (by omega)]
      exact q'
    · have e := of_decide_eq_false e
      refine ite_f rfl ⟨_, _, .same, ?_⟩
      rw [decide_eq_false (by omega : ¬ 2 ≤ l.length), Bool.false_and] at q'
      exact q'
  | tms n p =>
    simp only [pgD]
    refine caseLen (by simp) ?_
    refine caseLen (by simp) ?_
    refine caseLen (by simp) ?_
    refine caseSTag (by decide) (Nat.le_of_ble_eq_true rfl) (Nat.le_of_ble_eq_true rfl) ?_
    refine caseHit (by decide) rfl ?_
    exact ⟨rfl, rfl, .int n, "int", 0, 12, rfl, rfl, _, _, .same, q⟩
  | use x =>
    simp only [pgD]
    refine caseTag (by decide) rfl ?_
    refine caseTag (by decide) rfl ?_
    refine caseLen (by simp) ?_
    refine caseSTag (by decide) (Nat.le_of_ble_eq_true rfl) (Nat.le_of_ble_eq_true rfl) ?_
    refine caseLen (by simp) ?_
    refine caseHit (by decide) rfl ?_
    exact ⟨rfl, rfl, x, rfl, Nat.le_trans hz.1 (by decide), _, _, .same, q⟩
def c_inner_parts : Ct := fun ds M Ψ _ => ∃ p : Pg, ds = [pgD p] ∧ PgS p ∧ Ψ (.lst (pgDs (pgIn p))) M
theorem ok_inner_parts {f : Addr} {fd : FuncData} {dvs : List V} {kws : List (Str × V)} (T : Txt K mg)  (F : FnZ K "inner_parts" "inner_parts" s_inner_parts dvs kws f fd) : FnOk P w K mg base (L2.CX P w) 2 f fd ["program"] (spC K ["program"].length (c_inner_parts)) := by
  have hnd := sc_inner_parts.nd
  refine fnD F sc_inner_parts (c_inner_parts) fun cdv A outer s H E B Ξ hr z => ⟨_, (dss_cons (ds_match (de_var (i := 0)) (dc_cons hnd (dp_seqS (k := 1) rfl (dps_cons (dp_lit hr) (dps_star (i := 1)))) (dss_one (ds_ret (de_var (i := 1)))) (dc_cons hnd (dp_seq (n := 3) rfl (dps_cons (dp_lit hr) (dps_cons dp_wild (dps_cons (dp_cap (i := 2)) dps_nil)))) (dss_one (ds_ret (de_lst (da_cons (de_var (i := 2)) da_nil)))) dc_nil (.cons (i := 2) rfl (by first | exact Or.inl rfl | exact Or.inr rfl) (by first | exact .inl rfl | exact .inr rfl | assumption) .nil)) (.cons (i := 1) rfl (by first | exact Or.inl rfl | exact Or.inr rfl) (by first | exact .inl rfl | exact .inr rfl | assumption) .nil)))
    (dss_one (ds_ret (de_lst da_nil)))), fun ds Ψ hl hc => ?_⟩
  obtain ⟨p, rfl, hs, q⟩ := hc
  rw [show ent (["program", "parts", "last"] : List Str).length [pgD p] = [some (pgD p), none, none] from rfl]
  refine gs0 ?_
  cases p with
  | thn l =>
    simp only [pgD]
    refine caseSHit (by decide) (Nat.zero_le _) (by rw [List.length_cons, pgDs_map, List.length_map]; exact hs) ?_
    exact ⟨_, _, .same, q⟩
  | tms n p =>
    simp only [pgD]
    refine caseSTag (by decide) (Nat.le_of_ble_eq_true rfl) (Nat.le_of_ble_eq_true rfl) ?_
    refine caseHit (by decide) rfl ?_
    refine ⟨(Nat.le_of_ble_eq_true rfl), ?_⟩
    have q' : Ψ (.lst [pgD p]) B.M := by simpa only [pgIn, pgDs] using q
    exact ⟨_, _, .same, q'⟩
  | tab t =>
    simp only [pgD]
    refine caseSTag (by decide) (Nat.le_of_ble_eq_true rfl) (Nat.le_of_ble_eq_true rfl) ?_
    refine caseLen (by simp) ?_
    exact ⟨(Nat.le_of_ble_eq_true rfl), _, _, .same, q⟩
  | trn t =>
    simp only [pgD]
    refine caseSTag (by decide) (Nat.le_of_ble_eq_true rfl) (Nat.le_of_ble_eq_true rfl) ?_
    refine caseLen (by simp) ?_
    exact ⟨(Nat.le_of_ble_eq_true rfl), _, _, .same, q⟩
  | use t =>
    simp only [pgD]
    refine caseSTag (by decide) (Nat.le_of_ble_eq_true rfl) (Nat.le_of_ble_eq_true rfl) ?_
    refine caseLen (by simp) ?_
    exact ⟨(Nat.le_of_ble_eq_true rfl), _, _, .same, q⟩
  | swp =>
    simp only [pgD]
    refine caseSTag (by decide) (Nat.le_of_ble_eq_true rfl) (Nat.le_of_ble_eq_true rfl) ?_
    refine caseLen (by simp) ?_
    exact ⟨(Nat.le_of_ble_eq_true rfl), _, _, .same, q⟩
def c_check_program (CI : Addr) : Ct := fun ds M Ψ Ξ => ∃ p : Pg, ds = [pgD p] ∧ PgZs p ∧ pgK p ≤ 20 ∧ pgN p ≤ 16000 ∧ (PgOk p ∧ pgK p ≤ 8 → Ψ .non M) ∧ (¬ (PgOk p ∧ pgK p ≤ 8) → ∀ x, Ξ (CI, [("path", x), ("tag", .str "InvalidProgram")]) M)
theorem ok_check_program {f : Addr} {fd : FuncData} {dvs : List V} {kws : List (Str × V)} (T : Txt K mg) (h_is_part : Gf P w K mg base "is_part" 5 (c_is_part) b_is_part) (h_inner_parts : Gf P w K mg base "inner_parts" 2 (c_inner_parts) b_inner_parts) (x_InvalidProgram : Xf P w K mg base "InvalidProgram" (He.ga K "InvalidProgram") 1 (tag2 "InvalidProgram" "path")) (F : FnZ K "check_program" "check_program" s_check_program dvs kws f fd) : FnOk P w K mg base (L2N.CX P w) 6 f fd ["value"] (spC K ["value"].length (c_check_program (He.ga K "InvalidProgram"))) := by
  have hnd := sc_check_program.nd
  refine fnDN F sc_check_program (c_check_program (He.ga K "InvalidProgram")) fun cdv A outer s H E B Ξ hr z => ?_
  have z0 := z.z0
  refine ⟨_, (dss_cons (ds_set (i := 1) hnd (de_lstM (da_cons (de_tup (da_cons (de_var (i := 0)) (da_cons (de_tup da_nil) da_nil))) da_nil)))
    (dss_one (ds_while z.po (dt_ne hr (de_var (i := 1)) (de_lst da_nil)) (dss_cons (ds_asg (de_pop0 (de_var (i := 1))) (dg_tup (n := 2) rfl (dgs_cons (dg_name (i := 2) hnd) (dgs_cons (dg_name (i := 3) hnd) dgs_nil))))
    (dss_cons (ds_if (dw_orV (dt_ge (de_len T.n_len (da_cons (de_var (i := 3)) da_nil)) (de_gint T.k_MOST_DEPTH)) (dw_orV (dt_not (dt_val (de_isi T.n_isinstance (da_cons (de_var (i := 2)) (da_cons (de_ty (n := "tuple") T.n_tuple (by decide +kernel)) da_nil))))) (dw_or1 (dt_not (dt_val (de_call h_is_part hr z0 (List.Mem.head _) (da_cons (de_var (i := 2)) da_nil))))))).pt (dss_one (ds_raise1N x_InvalidProgram hr z rfl (da_cons (de_var (i := 3)) da_nil))) dss_nil)
    (dss_one (ds_expr (de_extend (de_var (i := 1)) (da_cons (de_revL (de_lc rfl hnd (di_enum T.n_enumerate (da_cons (de_call h_inner_parts hr z0 (List.Mem.head _) (da_cons (de_var (i := 2)) da_nil)) da_nil)) (blkOk_by (own := [("at", 4), ("one", 5)]) (by rfl)) (tg_tup2 (by decide) (by decide)) (fun _ _ _ _ _ => (pg_tup rfl (pgs_cons (pg_name (i := 4) hnd rfl (by first | exact Or.inl rfl | exact Or.inr rfl) (by first | exact .inl rfl | exact .inr rfl)) (pgs_cons (pg_name (i := 5) hnd rfl (by first | exact Or.inl rfl | exact Or.inr rfl) (by first | exact .inl rfl | exact .inr rfl)) pgs_nil)))) (fun _ _ _ _ _ _ => dts_nil) (fun _ _ _ _ _ _ => (de_tup (da_cons (de_var (i := 5)) (da_cons (de_tup (da_star (de_var (i := 3)) (da_cons (de_var (i := 4)) da_nil))) da_nil)))))) da_nil))))))))), fun ds Ψ hl hc => ?_⟩
  obtain ⟨p, rfl, hz, hk, hn, q1, q2⟩ := hc
  rw [show ent (["value", "waiting", "part", "path", "at", "one"] : List Str).length [pgD p] = [some (pgD p), none, none, none, none, none] from rfl]
  try dsimp only [List.set, getS_z, getS_s, bin2, bin2T, ltD, leD, gtD, geD, cmp_i, add_i, sub_i, min2_i, max2_i]
  refine ⟨ln (n := 0) rfl (by decide), ln (n := 2) rfl (by decide), ln (n := 1) rfl (by decide), fun pw ew => ?_⟩
  try dsimp only [List.set, getS_z, getS_s, bin2, bin2T, ltD, leD, gtD, geD, cmp_i, add_i, sub_i, min2_i, max2_i]
  let J : Nat → En → Sto → Prop := fun n r M' => ∃ (st : List (Pg × List Nat)) (o2 o3 : Option D), n = pgNs (st.map (·.1)) ∧ M' = updM B.M pw (.lst (st.reverse.map wtD)) ∧ r = [some (pgD p), some (.ref pw), o2, o3, none, none] ∧ pgNs (st.map (·.1)) ≤ 16000 ∧ (∀ x ∈ st, PgZs x.1 ∧ pgK x.1 ≤ 20) ∧ ((PgOk p ∧ pgK p ≤ 8) ↔ ∀ x ∈ st, chk (8 - x.2.length) x.1)
  refine ⟨fun r M' => ∃ n, J n r M', muJ J, .of ⟨_, [(p, [])], none, none, rfl, rfl, rfl, by simpa [pgNs] using hn, fun x hx => ?_, ?_⟩, fun r M' h => ?_⟩
  · rw [List.mem_singleton] at hx
    subst hx
    exact ⟨hz, hk⟩
  · rw [← chk_iff 8 p]
    simp
  obtain ⟨n, ⟨st, o2, o3, rfl, rfl, rfl, hs, hks, hiff⟩, hmu⟩ := muJ_at h
  generalize hmM : muJ J [some (pgD p), some (.ref pw), o2, o3, none, none] (updM B.M pw (.lst (st.reverse.map wtD))) = mm at *
  try dsimp only [List.set, getS_z, getS_s, bin2, bin2T, ltD, leD, gtD, geD, cmp_i, add_i, sub_i, min2_i, max2_i]
  refine ⟨ln (n := 0) rfl (by decide), nePlL (lstOf_at updM_same) rfl (PlL.of (n := 24) fun d hd => ?_) (PlL.nil (n := 0)) (fun b hb => ?_)⟩
  · obtain ⟨x, hx, rfl⟩ := List.mem_map.mp hd
    have hx := hks x (List.mem_reverse.mp hx)
    exact pl_wt (k := 22) hx.1 (by omega)
  refine bl_c (fun e => ?_) (fun e => ?_)
  rotate_left
  · obtain rfl : st = [] := by
      cases st with
      | nil => rfl
      | cons x st =>
        have e2 := hb.mp (by simpa using e)
        simp at e2
    refine ite_f rfl ?_
    refine ⟨_, _, .drop, ?_⟩
    rw [rs_upd ew]
    exact q1 (hiff.mpr fun x hx => nomatch hx)
  obtain ⟨x, st, rfl⟩ : ∃ x st', st = x :: st' := by
    cases st with
    | cons x st => exact ⟨x, st, rfl⟩
    | nil =>
      have e2 := hb.mpr rfl
      rw [e2] at e
      simp at e
  refine ite_t rfl ?_
  refine ⟨⟨_, lstOf_at updM_same⟩, pop_at updM_same (d := wtD x) (by simp) ?_⟩
  rw [List.reverse_cons, List.map_append, List.map_singleton, List.dropLast_concat, updM_updM]
  obtain ⟨q, pth⟩ := x
  have hq := hks _ List.mem_cons_self
  dsimp only at hq
  have hst := fun x hx => hks x (List.mem_cons_of_mem _ hx)
  have hz' := (pgZs_iff q).mp hq.1
  have lpth : (List.map (fun i => D.int (i : Nat)) pth).length = pth.length := List.length_map ..
  refine ⟨rfl, ?_⟩
  try dsimp only [List.set, getS_z, getS_s, bin2, bin2T, ltD, leD, gtD, geD, cmp_i, add_i, sub_i, min2_i, max2_i]
  refine ⟨rfl, ?_⟩
  try dsimp only [List.set, getS_z, getS_s, bin2, bin2T, ltD, leD, gtD, geD, cmp_i, add_i, sub_i, min2_i, max2_i]
  dsimp only [lenD]
  rw [lpth]
  refine bl_v ?_
  refine ⟨!ptB q, fun _ => ?_, ?_⟩
  · refine ⟨by decide, "tuple", by rw [pgD_tag]; rfl, ?_⟩
    refine bl_v ⟨!ptB q, fun _ => ?_, rfl, rfl⟩
    exact ⟨rfl, rfl, q, rfl, hz'.1, bl_v ⟨rfl, rfl⟩⟩
  by_cases hbad : (decide ((8 : Int) ≤ (pth.length : Nat)) || !ptB q) = true
  · refine ite_t hbad ?_
    refine ⟨_, .drop, ?_⟩
    rw [rs_upd ew]
    refine q2 (fun hok => ?_) _
    have hc := hiff.mp hok (q, pth) List.mem_cons_self
    dsimp only at hc
    rcases Bool.or_eq_true _ _ |>.mp hbad with h8 | hb
    · have h8 := of_decide_eq_true h8
      rw [show 8 - pth.length = 0 by omega] at hc
      exact hc
    · obtain ⟨k, hk⟩ : ∃ k, 8 - pth.length = k + 1 := by
        cases h : 8 - pth.length with
        | zero => rw [h] at hc; exact hc.elim
        | succ k => exact ⟨k, rfl⟩
      rw [hk] at hc
      rw [(pt_iff hz'.1).mpr hc.1] at hb
      cases hb
  have hbad := Bool.eq_false_iff.mpr hbad
  refine ite_f hbad ?_
  obtain ⟨hb1, hb2⟩ := Bool.or_eq_false_iff.mp hbad
  have hb1 := of_decide_eq_false hb1
  have hpt : PtOk q := (pt_iff hz'.1).mp (by simpa using hb2)
  have lin := pgN_in q
  rw [List.map_cons, pgNs] at hs
  dsimp only at hs
  refine ⟨⟨_, lstOf_at updM_same⟩, ?_⟩
  refine compD_map (xs := enumD (pgDs (pgIn q))) (S := fun M => lstOf M (.lst (pgDs (pgIn q))) = some (pgDs (pgIn q))) (fun K h => ⟨rfl, rfl, q, rfl, ?_, _, rfl, h⟩) (newG (pth.map fun i => .int (i : Nat))) rfl ?_ (fun d hd Q hQ => ?_) ?_
  · cases q with
    | thn l => exact hz'.1
    | _ => trivial
  · have := pgNs_len (pgIn q)
    rw [show (enumD (pgDs (pgIn q))).length = ((enumD (pgDs (pgIn q))).map (newG (pth.map fun i => .int (i : Nat)))).length by rw [List.length_map], newW_D, List.length_map, ← List.length_map (f := fun x : Pg × List Nat => x.1), newW_fst]
    exact Nat.le_trans (show _ ≤ 1000000 by omega) big_ok
  · unfold enumD zipD rngD at hd
    obtain ⟨⟨i, y⟩, hy, rfl⟩ := List.mem_map.mp hd
    show (∃ l, seqOf _ _ = some l ∧ _)
    refine ⟨pth.map fun i => .int (i : Nat), rfl, ?_⟩
    have lx : (List.map (fun i => D.int (i : Nat)) pth ++ [i]).length ≤ sizeLine := by
      rw [List.length_append, lpth]
      exact Nat.le_trans (show pth.length + 1 ≤ 1000000 by omega) big_ok
    exact ⟨lx, ln (n := 2) rfl (by decide), hQ⟩
  rw [newW_D]
  have ln : ((newW pth (pgIn q)).map wtD).length = (pgIn q).length := by rw [List.length_map, ← List.length_map (f := fun x : Pg × List Nat => x.1), newW_fst]
  refine ⟨_, rfl, extend_at updM_same rfl ?_ ?_⟩
  · have a1 := pgNs_len (pgIn q)
    have a2 := pgNs_len (st.map (·.1))
    rw [List.length_map] at a2
    rw [List.length_map, List.length_reverse, List.length_reverse, ln]
    exact Nat.le_trans (show st.length + (pgIn q).length ≤ 1000000 by omega) big_ok
  rw [updM_updM]
  have ecat : List.map wtD st.reverse ++ ((newW pth (pgIn q)).map wtD).reverse = (newW pth (pgIn q) ++ st).reverse.map wtD := by
    rw [List.reverse_append, List.map_append, List.map_reverse, List.map_reverse]
  rw [ecat]
  have em : (newW pth (pgIn q) ++ st).map (·.1) = pgIn q ++ st.map (·.1) := by rw [List.map_append, newW_fst]
  have hJ : J (pgNs ((newW pth (pgIn q) ++ st).map (·.1))) [some (pgD p), some (.ref pw), some (pgD q), some (.tup (pth.map fun i => .int (i : Nat))), none, none] (updM B.M pw (.lst ((newW pth (pgIn q) ++ st).reverse.map wtD))) := by
    refine ⟨_, _, _, rfl, rfl, rfl, ?_, fun x hx => ?_, ?_⟩
    · rw [em, pgNs_app]; omega
    · rcases List.mem_append.mp hx with hx | hx
      · have hm := (newW_mem hx).1
        have := pgK_in hm
        exact ⟨hz'.2 _ hm, by omega⟩
      · exact hst x hx
    · rw [hiff]
      constructor
      · intro h x hx
        rcases List.mem_append.mp hx with hx | hx
        · have hc := h (q, pth) List.mem_cons_self
          dsimp only at hc
          obtain ⟨hm, hl⟩ := newW_mem hx
          rw [show 8 - pth.length = (8 - x.2.length) + 1 by omega] at hc
          exact hc.2 _ hm
        · exact h x (List.mem_cons_of_mem _ hx)
      · intro h x hx
        rcases List.mem_cons.mp hx with rfl | hx
        · dsimp only
          rw [show 8 - pth.length = (7 - pth.length) + 1 by omega]
          refine ⟨hpt, fun y hy => ?_⟩
          rw [← newW_fst pth (pgIn q)] at hy
          obtain ⟨x, hx, rfl⟩ := List.mem_map.mp hy
          have := h x (List.mem_append_left _ hx)
          rw [(newW_mem hx).2, show 8 - (pth.length + 1) = 7 - pth.length by omega] at this
          exact this
        · exact h x (List.mem_append_right _ hx)
  refine .of ⟨⟨_, hJ⟩, Nat.lt_of_le_of_lt (muJ_le hJ) ?_⟩
  rw [hmu, em, pgNs_app, List.map_cons, pgNs]
  have := pgN_in q
  dsimp only
  omega
def c_program_text (dp : Nat) : Ct := fun ds M Ψ _ => ∃ p : Pg, ds = [pgD p] ∧ PgOk p ∧ pgK p ≤ dp ∧ pgN p ≤ 5000 ∧ Ψ (.str ⟨(pgC p).toArray⟩) M
theorem no_program_text : ∀ (ds : List D) (M : Sto) (Ψ : PD) (Ξ : XD → Sto → Prop), ¬ c_program_text 0 ds M Ψ Ξ := fun _ _ _ _ ⟨p, _, _, hk, _⟩ => by
  have := pgK_pos p
  omega
theorem ok_program_text {f : Addr} {fd : FuncData} {dvs : List V} {kws : List (Str × V)} (T : Txt K mg) {lv dp : Nat} (hlv : 1 ≤ lv) (h_program_text : Gf P w K mg base "program_text" lv (c_program_text dp) b_program_text) (F : FnZ K "program_text" "program_text" s_program_text dvs kws f fd) : FnOk P w K mg base (L2.CX P w) (lv + 1) f fd ["program"] (spC K ["program"].length (c_program_text (dp + 1))) := by
  have hnd := sc_program_text.nd
  refine fnD F sc_program_text (c_program_text (dp + 1)) fun cdv A outer s H E B Ξ hr z => ⟨_, (dss_cons (ds_match (de_var (i := 0)) (dc_cons hnd (dp_seq (n := 2) rfl (dps_cons (dp_lit hr) (dps_cons (dp_seq (n := 4) rfl (dps_cons (dp_cap (i := 1)) (dps_cons (dp_cap (i := 2)) (dps_cons (dp_cap (i := 3)) (dps_cons (dp_cap (i := 4)) dps_nil))))) dps_nil))) (dss_one (ds_ret (de_joined (.cons de_str (.cons (de_fmt (de_var (i := 1))) (.cons de_str (.cons (de_fmt (de_var (i := 2))) (.cons de_str (.cons (de_fmt (de_var (i := 3))) (.cons de_str (.cons (de_fmt (de_var (i := 4))) (.cons de_str .nil)))))))))))) (dc_cons hnd (dp_seqS (k := 1) rfl (dps_cons (dp_lit hr) (dps_star (i := 5)))) (dss_one (ds_ret (de_joined (.cons de_str (.cons (de_fmt (de_join de_str (de_lc rfl hnd (di_list (de_var (i := 5))) (blkOk_by (own := [("one", 8)]) (by rfl)) (tg_name (i := 8) (by decide)) (fun _ _ _ _ _ => (pg_name (i := 8) hnd rfl (by first | exact Or.inl rfl | exact Or.inr rfl) (by first | exact .inl rfl | exact .inr rfl))) (fun _ _ _ _ _ _ => dts_nil) (fun _ _ _ _ _ _ => (de_call (hj := by omega) h_program_text hr zx_blk (List.Mem.head _) (da_cons (de_var (i := 8)) da_nil)))))) (.cons de_str .nil)))))) (dc_cons hnd (dp_seq (n := 3) rfl (dps_cons (dp_lit hr) (dps_cons (dp_cap (i := 6)) (dps_cons (dp_cap (i := 7)) dps_nil)))) (dss_one (ds_ret (de_joined (.cons (de_fmt (de_var (i := 6))) (.cons de_str (.cons (de_fmt (de_call (hj := by omega) h_program_text hr z (List.Mem.head _) (da_cons (de_var (i := 7)) da_nil))) .nil)))))) (dc_cons hnd (dp_seq (n := 1) rfl (dps_cons (dp_lit hr) dps_nil)) (dss_one (ds_ret de_str)) dc_nil .nil) (.cons (i := 6) rfl (by first | exact Or.inl rfl | exact Or.inr rfl) (by first | exact .inl rfl | exact .inr rfl | assumption) (.cons (i := 7) rfl (by first | exact Or.inl rfl | exact Or.inr rfl) (by first | exact .inl rfl | exact .inr rfl | assumption) .nil))) (.cons (i := 5) rfl (by first | exact Or.inl rfl | exact Or.inr rfl) (by first | exact .inl rfl | exact .inr rfl | assumption) .nil)) (.cons (i := 1) rfl (by first | exact Or.inl rfl | exact Or.inr rfl) (by first | exact .inl rfl | exact .inr rfl | assumption) (.cons (i := 2) rfl (by first | exact Or.inl rfl | exact Or.inr rfl) (by first | exact .inl rfl | exact .inr rfl | assumption) (.cons (i := 3) rfl (by first | exact Or.inl rfl | exact Or.inr rfl) (by first | exact .inl rfl | exact .inr rfl | assumption) (.cons (i := 4) rfl (by first | exact Or.inl rfl | exact Or.inr rfl) (by first | exact .inl rfl | exact .inr rfl | assumption) .nil))))))
    (dss_one (ds_ret (de_ix (de_var (i := 0)) de_int)))), fun ds Ψ hl hc => ?_⟩
  obtain ⟨p, rfl, ho, hk, hn, q⟩ := hc
  have hlen := pgC_len p ho
  rw [show ent (["program", "a", "b", "c", "d", "parts", "count", "inner", "one"] : List Str).length [pgD p] = [some (pgD p), none, none, none, none, none, none, none, none] from rfl]
  refine gs0 ?_
  cases p with
  | tab t =>
    obtain ⟨⟨n1, n2, n3, n4⟩, a1, a2, a3, a4, _⟩ := ho
    have l1 := dec_len2 n1 a1
    have l2 := dec_len2 n2 a2
    have l3 := dec_len2 n3 a3
    have l4 := dec_len2 n4 a4
    simp only [pgD]
    refine caseHit (by decide) rfl ?_
    refine ⟨_, rfl, ?_⟩
    rw [if_pos (show (tL t).length = 4 from rfl)]
    dsimp only [consP, capP, nilP, setL, List.nil_append, List.cons_append]
    try dsimp only [List.set, getS_z, getS_s, bin2, bin2T, ltD, leD, gtD, geD, cmp_i, add_i, sub_i, min2_i, max2_i]
    rw [empty_w]
    refine js_s (w := [91]) (by decide +kernel) (by simp) (js_i rfl (log_60 n1 a1) (by simp; omega) (js_s (w := [32]) (by decide +kernel) (by simp; omega) (js_i rfl (log_60 n2 a2) (by simp; omega) (js_s (w := [59, 32]) (by decide +kernel) (by simp; omega) (js_i rfl (log_60 n3 a3) (by simp; omega) (js_s (w := [32]) (by decide +kernel) (by simp; omega) (js_i rfl (log_60 n4 a4) (by simp; omega) (js_s (w := [93]) (by decide +kernel) (by simp; omega) ?_))))))))
    exact ⟨_, _, .same, q⟩
  | trn w' =>
    simp only [pgD]
    refine caseTag (by decide) rfl ?_
    refine caseSTag (by decide) (Nat.le_of_ble_eq_true rfl) (Nat.le_of_ble_eq_true rfl) ?_
    refine caseLen (by simp) ?_
    refine caseLen (by simp) ?_
    try dsimp only [List.set, getS_z, getS_s, bin2, bin2T, ltD, leD, gtD, geD, cmp_i, add_i, sub_i, min2_i, max2_i]
    exact optK_of rfl ⟨_, _, .same, q⟩
  | swp =>
    simp only [pgD]
    refine caseLen (by simp) ?_
    refine caseSTag (by decide) (Nat.le_of_ble_eq_true rfl) (Nat.le_of_ble_eq_true rfl) ?_
    refine caseLen (by simp) ?_
    refine caseHit (by decide) rfl ?_
    exact ⟨_, _, .same, q⟩
  | use x =>
    simp only [pgD]
    refine caseTag (by decide) rfl ?_
    refine caseSTag (by decide) (Nat.le_of_ble_eq_true rfl) (Nat.le_of_ble_eq_true rfl) ?_
    refine caseLen (by simp) ?_
    refine caseLen (by simp) ?_
    try dsimp only [List.set, getS_z, getS_s, bin2, bin2T, ltD, leD, gtD, geD, cmp_i, add_i, sub_i, min2_i, max2_i]
    exact optK_of rfl ⟨_, _, .same, q⟩
  | tms n p =>
    simp only [pgD]
    refine caseLen (by simp) ?_
    refine caseSTag (by decide) (Nat.le_of_ble_eq_true rfl) (Nat.le_of_ble_eq_true rfl) ?_
    refine caseHit (by decide) rfl ?_
    dsimp only [consP, capP, nilP, setL, List.nil_append, List.cons_append]
    try dsimp only [List.set, getS_z, getS_s, bin2, bin2T, ltD, leD, gtD, geD, cmp_i, add_i, sub_i, min2_i, max2_i]
    rw [pgK] at hk
    rw [pgN] at hn
    have h0 := ho.1.1
    have h1 : n ≤ 60 := by have := ho.1.2; omega
    have l1 := dec_len2 h0 h1
    have l2 := pgC_len p ho.2
    rw [empty_w]
    refine js_i rfl (log_60 h0 h1) (by simp; omega) (js_s (w := [42]) (by decide +kernel) (by simp; omega) ?_)
    refine ⟨rfl, rfl, p, rfl, ho.2, by omega, by omega, ?_⟩
    refine fmt_w (by omega) ?_
    refine js_k (by simp; omega) ?_
    exact ⟨_, _, .same, q⟩
  | thn l =>
    simp only [pgD]
    refine caseNo (by decide) ?_
    refine caseSHit (by decide) (Nat.zero_le _) (by rw [List.length_cons, pgDs_map, List.length_map]; have := ho.1.2; omega) ?_
    dsimp only [consP, capP, nilP, starP, setL, List.nil_append, List.cons_append, List.take_zero, List.drop_zero]
    try dsimp only [List.set, getS_z, getS_s, bin2, bin2T, ltD, leD, gtD, geD, cmp_i, add_i, sub_i, min2_i, max2_i]
    rw [List.drop_zero] at *
    rw [pgK] at hk
    rw [pgN] at hn
    have h1 := pgCs_len l ho.2
    have h2 := joinC_le thenC (pgCs l)
    have h3 : thenC.length = 6 := rfl
    rw [h3] at h2
    rw [empty_w]
    refine js_s (w := [40]) (by decide +kernel) (by simp) ?_
    refine ⟨trivial, ?_⟩
    refine compD_of (fun xs S M1 => xs = pgDs l ∧ S = (fun M => lstOf M (.lst (pgDs l)) = some (pgDs l)) ∧ M1 = B.M) (fun K h => ⟨pgDs l, rfl, h _ _ _ ⟨rfl, rfl, rfl⟩⟩) (fun xs S M1 ⟨ex1, ex2, ex3⟩ => ?_)
    subst ex1 ex2 ex3
    have ll := ho.1.2
    refine ⟨fun i acc M' => M' = B.M ∧ acc = ((pgCs l).map fun x => D.str ⟨x.toArray⟩).take i, ⟨rfl, by simp⟩, fun _ _ _ _ => rfl, fun i d acc M' hd h => ?_, fun acc M' h => ?_⟩
    · obtain ⟨rfl, rfl⟩ := h
      rw [pgDs_map, List.getElem?_map] at hd
      obtain ⟨pi, hpi, rfl⟩ := Option.map_eq_some_iff.mp hd
      have mem := List.mem_of_getElem? hpi
      have hpn : pgN pi ≤ pgNs l := pgNs_mem mem
      refine ⟨rfl, rfl, pi, rfl, pgOks_iff.mp ho.2 pi mem, by have := pgKs_mem mem; omega, by omega, ?_, rfl, ?_⟩
      · rw [List.length_take]
        exact Nat.lt_of_le_of_lt (Nat.min_le_right _ _) (by rw [List.length_map, pgCs_map, List.length_map]; exact Nat.lt_of_le_of_lt ll (Nat.lt_of_lt_of_le (by decide) big_ok))
      · rw [List.take_add_one, List.getElem?_map, pgCs_map, List.getElem?_map, hpi]
        rfl
    obtain ⟨rfl, rfl⟩ := h
    rw [show (pgDs l).length = ((pgCs l).map fun x => D.str ⟨x.toArray⟩).length by rw [pgDs_map, List.length_map, List.length_map, pgCs_map, List.length_map], List.take_length]
    refine ⟨_, _, .inl rfl, strs_ws _, ?_, ?_⟩
    · rw [ws_sum, List.length_map, pgCs_map, List.length_map]
      have h4 : ((pgCs l).flatten).length ≤ ((pgCs l).map fun x => x.length + 6).sum := by
        generalize pgCs l = L
        induction L with
        | nil => simp
        | cons x L ih => rw [List.flatten_cons, List.length_append, List.map_cons, List.sum_cons]; omega
      rw [pgCs_map] at h4
      have h5 : (" then " : Str).length = 6 := by decide +kernel
      rw [h5]
      rw [pgCs_map] at h1
      omega
    · have e : Txt.join (" then " : Str) ((pgCs l).map fun p => (⟨p.toArray⟩ : Str)) = ⟨(joinC thenC (pgCs l)).toArray⟩ := by
        rw [← join_C]
        rfl
      rw [e]
      refine fmt_w (by omega) (js_k (by simp; omega) (js_s (w := [41]) (by decide +kernel) (by simp; omega) ?_))
      exact ⟨_, _, .same, q⟩
def c_read_program (CP : Addr) : Ct := fun ds M Ψ Ξ => ∃ (d : D) (ty : String), ds = [d] ∧ tyN M d = some ty ∧ (∀ x, d = .str x → x.cps.size ≤ 5000) ∧ (∀ p, rdO d = some p → Ψ (pgD p) M) ∧ (rdO d = none → Ξ (PE0 CP) M)
theorem ok_read_program {f : Addr} {fd : FuncData} {dvs : List V} {kws : List (Str × V)} (T : Txt K mg) (c_Reader : Cf P w K mg base "Reader" (He.ga K "Reader") 2 (c_Readerd_initd (He.ga K "Reader")) b_Readerd_initd) (h_Reader_program : Mf P w K mg base (He.ga K "Reader") "program" 24 (c_Reader_program 10 (He.ga K "Reader") (He.ga K "ParseError")) b_Reader_program) (h_check_program : Gf P w K mg base "check_program" 6 (c_check_program (He.ga K "InvalidProgram")) b_check_program) (h_program_text : Gf P w K mg base "program_text" 9 (c_program_text 8) b_program_text) (x_ParseError : Xf P w K mg base "ParseError" (He.ga K "ParseError") 1 (tag2 "ParseError" "line")) (hN_check_program : GfN P w K mg base "check_program" 6 (c_check_program (He.ga K "InvalidProgram")) b_check_program) (xH_ParseError : XfH P w K mg base "ParseError" (He.ga K "ParseError") 1 (tag2 "ParseError" "line")) (F : FnZ K "read_program" "read_program" s_read_program dvs kws f fd) : FnOk P w K mg base (L2.CX P w) 25 f fd ["text"] (spC K ["text"].length (c_read_program (He.ga K "ParseError"))) := by
  have hnd := sc_read_program.nd
  refine fnD F sc_read_program (c_read_program (He.ga K "ParseError")) fun cdv A outer s H E B Ξ hr z => ⟨_, (dss_cons (ds_if (dt_not (dt_val (de_isi T.n_isinstance (da_cons (de_var (i := 0)) (da_cons (de_ty (n := "str") T.n_str (by decide +kernel)) da_nil))))) (dss_one (ds_raise1 x_ParseError hr z rfl (da_cons de_int da_nil))) dss_nil)
    (dss_cons (ds_set (i := 1) hnd (de_makeM c_Reader hr z (List.Mem.head _) (da_cons (de_var (i := 0)) da_nil)))
    (dss_cons (ds_set (i := 2) hnd (de_meth h_Reader_program T.cl_Reader hr z (List.Mem.head _) (de_var (i := 1)) (da_cons (de_add (de_gint T.k_MOST_DEPTH) de_int) da_nil)))
    (dss_cons (ds_tryR (cv := .ref (He.ga K "InvalidProgram")) rfl rfl ⟨rfl, rfl, .inl T.gl_InvalidProgram⟩ (fun hd => L2H.passesAt_of rfl hd) z (fun B1 pn xe Ξ' hS z => (dss_one (ds_expr (de_callN hN_check_program hr z (List.Mem.head _) (da_cons (de_var (i := 2)) da_nil))))) (fun a oe pn tk hot => (dss_one (ds_raiseFN xH_ParseError (L2H.roomH_mark hr _) tk hot (da_cons de_int da_nil)))))
    (dss_cons (ds_if (dt_ne hr (de_call h_program_text hr z (List.Mem.head _) (da_cons (de_var (i := 2)) da_nil)) (de_var (i := 0))) (dss_one (ds_raise1 x_ParseError hr z rfl (da_cons de_int da_nil))) dss_nil)
    (dss_one (ds_ret (de_var (i := 2))))))))), fun ds Ψ hl hc => ?_⟩
  obtain ⟨d, ty, rfl, hty, ht, q1, q2⟩ := hc
  rw [show ent (["text", "reader", "found"] : List Str).length [d] = [some d, none, none] from rfl]
  try dsimp only [List.set, getS_z, getS_s, bin2, bin2T, ltD, leD, gtD, geD, cmp_i, add_i, sub_i, min2_i, max2_i]
  refine ⟨by decide, ty, hty, ?_⟩
  by_cases e : ty = "str"
  rotate_left
  · have e0 : isB ty "str" = false := by
      have h7 := tyN_ok hty
      simp only [okTy, List.mem_cons, List.not_mem_nil, or_false] at h7
      rcases h7 with rfl | rfl | rfl | rfl | rfl | rfl | rfl
      all_goals first
        | rfl
        | exact absurd rfl e
    refine bl_f e0 ?_
    refine ite_t rfl ⟨_, .same, q2 ?_⟩
    cases d <;> first | rfl | (cases hty; exact absurd rfl e)
  subst e
  obtain ⟨x, rfl⟩ := ty_str hty
  have ht := ht x rfl
  obtain ⟨t, rfl⟩ : ∃ t : List Nat, x = ⟨t.toArray⟩ := ⟨strC x, wS x⟩
  have ht : t.length ≤ 5000 := by simpa using ht
  have q1 : ∀ p, rdP t = some p → Ψ (pgD p) B.M := q1
  have q2 : rdP t = none → Ξ (PE0 (He.ga K "ParseError")) B.M := q2
  refine bl_t rfl ?_
  refine ite_f rfl ?_
  refine ⟨rfl, rfl, fun a ha => ⟨a, t, rfl, updM_same, ⟨rfl, ?_⟩⟩⟩
  rw [updM_updM]
  refine isO_in updM_same ⟨rfl, rfl, rfl, a, t, t, 9, rfl, updM_same, List.suffix_refl _, ht, by decide, fun p r' e => ?_, fun e r' => ⟨_, .drop, ?_⟩⟩
  rotate_left
  · rw [updM_updM, rs_upd ha]
    exact q2 (rdP_none' e)
  have g0 := prs_got e (by omega)
  have g1 := g0.2.1
  rw [updM_updM]
  try dsimp only [List.set, getS_z, getS_s, bin2, bin2T, ltD, leD, gtD, geD, cmp_i, add_i, sub_i, min2_i, max2_i]
  refine ⟨rfl, rfl, p, rfl, g0.2.2.1, by have := g0.2.2.2; omega, by omega, fun hok => ?_, fun hno x => ⟨true, T.ex_InvalidProgram, fun _ => ⟨_, .drop, ?_⟩, fun z => nomatch z⟩⟩
  rotate_left
  · rw [rs_upd ha]
    exact q2 (rdP_none e fun z => hno ⟨z.1, z.2.1⟩)
  refine ⟨rfl, rfl, p, rfl, hok.1, hok.2, by omega, ?_⟩
  try dsimp only [List.set, getS_z, getS_s, bin2, bin2T, ltD, leD, gtD, geD, cmp_i, add_i, sub_i, min2_i, max2_i]
  refine neS ?_
  refine bl_c (fun eb => ?_) (fun eb => ?_)
  · refine ite_t rfl ⟨_, .drop, ?_⟩
    rw [rs_upd ha]
    refine q2 (rdP_none e fun z => ?_)
    rw [decide_eq_true (w_eq.mpr z.2.2)] at eb
    cases eb
  · refine ite_f rfl ⟨_, _, .drop, ?_⟩
    rw [rs_upd ha]
    refine q1 p (rdP_iff.mpr ⟨hok.1, hok.2, ?_⟩)
    rw [Bool.not_eq_false', decide_eq_true_eq] at eb
    exact w_eq.mp eb
def c__law_field (K : PySem.W.Frag) (a : Addr) (x : XD) : Ct := fun ds M Ψ _ => ds = [.ref a] ∧ wfX K x fun _ v => Ψ v M
theorem ok__law_field {f : Addr} {fd : FuncData} {dvs : List V} {kws : List (Str × V)} (T : Txt K mg)  (F : FnZ K "_law_field" "_law_field" s__law_field dvs kws f fd) : FnP P w K mg base 1 f fd ["_law_e"] (c__law_field K) := by
  have hnd := sc__law_field.nd
  refine fnP F sc__law_field (c__law_field K) fun cdv A outer s H p y cls d B hu hz hf hx => ⟨_, (dss_cons (ds_if (dt_inU hu (de_xf (List.Mem.head _) hz hf hx (de_var (i := 0))) (de_tup (da_cons de_str (da_cons de_str (da_cons de_str (da_cons de_str (da_cons de_str (da_cons de_str (da_cons de_str da_nil))))))))) (dss_one (ds_ret (de_xf (List.Mem.head _) hz hf hx (de_var (i := 0))))) dss_nil)
    (dss_cons (ds_if (dt_inU hu (de_xf (List.Mem.head _) hz hf hx (de_var (i := 0))) (de_tup (da_cons de_str (da_cons de_str (da_cons de_str da_nil))))) (dss_one (ds_ret (de_xf (List.Mem.head _) hz hf hx (de_var (i := 0))))) dss_nil)
    (dss_cons (ds_if (dt_inU hu (de_xf (List.Mem.head _) hz hf hx (de_var (i := 0))) (de_tup (da_cons de_str (da_cons de_str (da_cons de_str da_nil))))) (dss_one (ds_ret (de_xf (List.Mem.head _) hz hf hx (de_var (i := 0))))) dss_nil)
    (dss_cons (ds_if (dt_inU hu (de_xf (List.Mem.head _) hz hf hx (de_var (i := 0))) (de_tup (da_cons de_str (da_cons de_str da_nil)))) (dss_one (ds_ret (de_if (dt_eqU hu (de_xf (List.Mem.head _) hz hf hx (de_var (i := 0))) de_str) (de_xf (List.Mem.head _) hz hf hx (de_var (i := 0))) (de_xf (List.Mem.head _) hz hf hx (de_var (i := 0)))))) dss_nil)
    (dss_cons (ds_if (dt_inU hu (de_xf (List.Mem.head _) hz hf hx (de_var (i := 0))) (de_tup (da_cons de_str (da_cons de_str da_nil)))) (dss_one (ds_ret (de_if (dt_eqU hu (de_xf (List.Mem.head _) hz hf hx (de_var (i := 0))) de_str) (de_xf (List.Mem.head _) hz hf hx (de_var (i := 0))) (de_xf (List.Mem.head _) hz hf hx (de_var (i := 0)))))) dss_nil)
    (dss_one (ds_ret (de_if (dt_eqU hu (de_xf (List.Mem.head _) hz hf hx (de_var (i := 0))) de_str) (de_xf (List.Mem.head _) hz hf hx (de_var (i := 0))) de_non)))))))), fun ds Ψ hl hc => ?_⟩
  obtain ⟨rfl, t, ht, hX, hT, hm⟩ := hc
  have tg : ∀ {φ : D → Prop}, φ (.str t) → (D.ref p.1 = .ref p.1 ∧ XfC K y.1 ∧ NoAttr K y.1 "tag" ∧ optK (y.2.lookup ("tag" : Str)) φ) := fun h => ⟨rfl, hX, hT, optK_of ht h⟩
  unfold fldN at hm
  refine tg ?_
  refine ⟨ln (n := 7) rfl (by decide), inS ["InvalidWord", "InvalidRing", "InvalidRoom", "InvalidCount", "InvalidIndex", "InvalidBound", "InvalidLimit"] ?_⟩
  refine bl_c (fun e => ?_) (fun e => ?_)
  · rw [if_pos (of_decide_eq_true e)] at hm
    obtain ⟨h1, v, h2, q⟩ := hm
    exact ⟨rfl, hX, h1, optK_of h2 ⟨_, _, .same, q⟩⟩
  rw [if_neg (of_decide_eq_false e)] at hm
  refine ite_f rfl ?_
  refine tg ?_
  refine ⟨ln (n := 3) rfl (by decide), inS ["TooLong", "TooGreat", "TooManyRooms"] ?_⟩
  refine bl_c (fun e => ?_) (fun e => ?_)
  · rw [if_pos (of_decide_eq_true e)] at hm
    obtain ⟨h1, v, h2, q⟩ := hm
    exact ⟨rfl, hX, h1, optK_of h2 ⟨_, _, .same, q⟩⟩
  rw [if_neg (of_decide_eq_false e)] at hm
  refine ite_f rfl ?_
  refine tg ?_
  refine ⟨ln (n := 3) rfl (by decide), inS ["InvalidName", "DuplicateName", "UnknownName"] ?_⟩
  refine bl_c (fun e => ?_) (fun e => ?_)
  · rw [if_pos (of_decide_eq_true e)] at hm
    obtain ⟨h1, v, h2, q⟩ := hm
    exact ⟨rfl, hX, h1, optK_of h2 ⟨_, _, .same, q⟩⟩
  rw [if_neg (of_decide_eq_false e)] at hm
  refine ite_f rfl ?_
  refine tg ?_
  refine ⟨ln (n := 2) rfl (by decide), inS ["InvalidProgram", "CapacityExceeded"] ?_⟩
  refine bl_c (fun e => ?_) (fun e => ?_)
  · refine ite_t rfl ?_
    refine tg (eqS ?_)
    refine bl_c (fun e2 => ?_) (fun e2 => ?_)
    · rw [if_pos (of_decide_eq_true e2)] at hm
      obtain ⟨h1, v, h2, q⟩ := hm
      exact ⟨rfl, hX, h1, optK_of h2 ⟨_, _, .same, q⟩⟩
    · have e2 := of_decide_eq_false e2
      have e3 : t = "CapacityExceeded" := by
        have := of_decide_eq_true e
        simp only [List.mem_cons, List.not_mem_nil, or_false] at this
        exact this.resolve_left e2
      rw [if_neg e2, if_pos e3] at hm
      obtain ⟨h1, v, h2, q⟩ := hm
      exact ⟨rfl, hX, h1, optK_of h2 ⟨_, _, .same, q⟩⟩
  have e1 := of_decide_eq_false e
  simp only [List.mem_cons, List.not_mem_nil, or_false, not_or] at e1
  rw [if_neg e1.1, if_neg e1.2] at hm
  refine ite_f rfl ?_
  refine tg ?_
  refine ⟨ln (n := 2) rfl (by decide), inS ["InvalidCommand", "InUse"] ?_⟩
  refine bl_c (fun e => ?_) (fun e => ?_)
  · refine ite_t rfl ?_
    refine tg (eqS ?_)
    refine bl_c (fun e2 => ?_) (fun e2 => ?_)
    · rw [if_pos (of_decide_eq_true e2)] at hm
      obtain ⟨h1, v, h2, q⟩ := hm
      exact ⟨rfl, hX, h1, optK_of h2 ⟨_, _, .same, q⟩⟩
    · have e2 := of_decide_eq_false e2
      have e3 : t = "InUse" := by
        have := of_decide_eq_true e
        simp only [List.mem_cons, List.not_mem_nil, or_false] at this
        exact this.resolve_left e2
      rw [if_neg e2, if_pos e3] at hm
      obtain ⟨h1, v, h2, q⟩ := hm
      exact ⟨rfl, hX, h1, optK_of h2 ⟨_, _, .same, q⟩⟩
  have e1 := of_decide_eq_false e
  simp only [List.mem_cons, List.not_mem_nil, or_false, not_or] at e1
  rw [if_neg e1.1, if_neg e1.2] at hm
  refine ite_f rfl ?_
  refine tg (eqS ?_)
  refine bl_c (fun e2 => ?_) (fun e2 => ?_)
  · rw [if_pos (of_decide_eq_true e2)] at hm
    obtain ⟨h1, v, h2, q⟩ := hm
    exact ⟨rfl, hX, h1, optK_of h2 ⟨_, _, .same, q⟩⟩
  · rw [if_neg (of_decide_eq_false e2)] at hm
    exact ⟨_, _, .same, hm⟩

theorem wk__law_why {f : Addr} {fd : FuncData} {k : Nat} (T : Txt K mg) (h__law_field : Hf P w K mg base "_law_field" (c__law_field K)) (hm : mg "_law_why" = some (.ref f)) (F : FnZ K "_law_why" "_law_why" s__law_why [] [] f fd) (hb : BindD K fd ["_law_ask"] (Z.pos 1)) (hk : 1 ≤ k) : WhyOk P w K mg base "_law_why" k := by
  have hnd := sc__law_why.nd
  refine ⟨f, fd, _, "_law_ask", "_law_why", s__law_why, hm, F.kp, F, sc__law_why, hb, fun cdv A outer s H E B q beh hr z act => ⟨_, (dss_cons (ds_set (i := 1) hnd (de_tup (da_cons de_str (da_cons de_non da_nil))))
    (dss_cons (ds_tryN rfl rfl hnd z (fun B1 pn xe Ξ' hS z => (dss_one (ds_set (i := 1) hnd (de_tup (da_cons de_str (da_cons (act _ _ _ _ _ _ _ rfl (.inl rfl) rfl rfl hS z) da_nil)))))) (.cons (i := 2) (test2 ⟨rfl, rfl, .inl T.gl_MillError⟩ ⟨rfl, rfl, .inl T.gl_Missing⟩) rfl rfl (fun a oe cls d pn B y hz hf hx => (dss_one (ds_set (i := 1) hnd (de_tup (da_cons (de_xf (List.Mem.head _) hz hf hx (de_var (i := 2))) (da_cons (de_callP h__law_field (L2H.roomH_of (hr.mono hk)) hz hf hx (da_cons (de_var (i := 2)) da_nil)) da_nil)))))) (.cons (i := 2) (test1 ⟨rfl, rfl, .inl T.gl_NothingLeft⟩) rfl rfl (fun a oe cls d pn B y hz hf hx => (dss_one (ds_set (i := 1) hnd (de_tup (da_cons (de_xf (List.Mem.head _) hz hf hx (de_var (i := 2))) (da_cons de_non da_nil)))))) .nil)))
    (dss_one (ds_ret (de_var (i := 1)))))), fun Ψ hc => ?_⟩⟩
  refine ⟨ln (n := 2) rfl (by decide), ?_⟩
  try dsimp only [List.set, getS_z, getS_s, bin2, bin2T, ltD, leD, gtD, geD, cmp_i, add_i, sub_i, min2_i, max2_i]
  refine ⟨rfl, whyΨ Ψ, whyΞ K Ψ, hc, fun d M' q => ⟨ln (n := 2) rfl (by decide), ?_⟩, fun x M' q => ?_⟩
  · try dsimp only [List.set, getS_z, getS_s, bin2, bin2T, ltD, leD, gtD, geD, cmp_i, add_i, sub_i, min2_i, max2_i]
    exact ⟨_, _, .same, q⟩
  · obtain ⟨b, hb, yes, no⟩ := q
    refine ⟨b, hb, fun e a na => ?_, fun e => ?_⟩
    · obtain ⟨t, ht, hX, hT, hm⟩ := yes e
      refine ⟨rfl, hX, hT, optK_of ht ⟨rfl, rfl, t, ht, hX, hT, ?_⟩⟩
      generalize fldN t = o at hm ⊢
      cases o with
      | none => exact ⟨ln (n := 2) rfl (by decide), _, _, .same, hm⟩
      | some n =>
        obtain ⟨h1, v, h2, q⟩ := hm
        exact ⟨h1, v, h2, ln (n := 2) rfl (by decide), _, _, .same, q⟩
    · obtain ⟨h1, t, ht, hX, hT, hm⟩ := no e
      refine ⟨true, h1, fun _ a na => ?_, fun z => nomatch z⟩
      exact ⟨rfl, hX, hT, optK_of ht ⟨ln (n := 2) rfl (by decide), _, _, .same, hm⟩⟩
def tx (d : D) : Prop := (∃ t : List Nat, d = .str ⟨t.toArray⟩ ∧ t.length ≤ 400000) ∨ d = .non ∨ d = .int 3 ∨ d = .lst [.str "L"]
def txs : List D → Prop
  | [] => True
  | d :: l => tx d ∧ txs l
theorem txs_mem : ∀ {l : List D} {d : D}, txs l → d ∈ l → tx d
  | x :: l, d, h, hd => by
    rcases List.mem_cons.mp hd with rfl | hd
    · exact h.1
    · exact txs_mem h.2 hd
theorem txs_app : ∀ {l m : List D}, txs l → txs m → txs (l ++ m)
  | [], m, _, h => h
  | x :: l, m, h, h' => ⟨h.1, txs_app h.2 h'⟩
theorem tx_s {x : Str} (h : decide (x.cps.size ≤ 400000) = true) : tx (.str x) := .inl ⟨strC x, rfl, by
  have : (strC x).length = x.cps.size := Array.length_toList
  have := of_decide_eq_true h
  omega⟩
theorem tx_w {t : List Nat} (h : t.length ≤ 400000) : tx (.str ⟨t.toArray⟩) := .inl ⟨t, rfl, h⟩
theorem txs_two {a b : D} (h : tx a) (h' : tx b) : txs [a, b] := ⟨h, h', trivial⟩
theorem rep_len (k : Nat) (l : List Nat) : (List.replicate k l).flatten.length = k * l.length := by
  simp
def c_law (P : Addr) : Ct := fun ds M Ψ _ => ∃ ns, ds = [scr ns] ∧ ns.length ≤ 63 ∧ M P = some (.tab "law.<locals>.<lambda>") ∧ ∀ M', Ψ (.bl true) M'
theorem ok_law {f : Addr} {fd : FuncData} {dvs : List V} {kws : List (Str × V)} (T : Txt K mg) (h__law_hand : Gf P w K mg base "_law_hand" 2 (c__law_hand) b__law_hand) (h__law_text : Gf P w K mg base "_law_text" 9 (c__law_text 8) b__law_text) (h__law_shape : Gf P w K mg base "_law_shape" 10 (c__law_shape 4) b__law_shape) (h__law_pick : Gf P w K mg base "_law_pick" 2 (c__law_pick) b__law_pick) (h__law_bent : Gf P w K mg base "_law_bent" 4 (c__law_bent) b__law_bent) (h__law_reading : Gf P w K mg base "_law_reading" 24 (c__law_reading) b__law_reading) (h__law_same : Gf P w K mg base "_law_same" 13 (c__law_same 12) b__law_same) (h_read_program : Gf P w K mg base "read_program" 25 (c_read_program (He.ga K "ParseError")) b_read_program) (W__law_why : WhyOk P w K mg base "_law_why" 25) (TB : LamX.TabB base mg (codA K f) (tabA K f)) (F : FnZ K "law" "law" s_law dvs kws f fd) : FnOk P w K mg base (L2.CX P w) 28 f fd ["_law_script"] (spC K ["_law_script"].length (c_law (tabA K f))) := by
  have hnd := sc_law.nd
  refine fnDT F sc_law (c_law (tabA K f)) fun cdv A outer s H E B Ξ hcd hr z => ⟨_, (dss_cons (ds_set (i := 1) hnd (de_call h__law_hand hr z (List.Mem.head _) (da_cons (de_var (i := 0)) da_nil)))
    (dss_cons (ds_set (i := 2) hnd (de_lst (da_cons de_str (da_cons de_str (da_cons de_str (da_cons de_str (da_cons de_str (da_cons de_str (da_cons de_str (da_cons de_str (da_cons de_str (da_cons de_str (da_cons de_str (da_cons de_str (da_cons de_str (da_cons de_str da_nil))))))))))))))))
    (dss_cons (ds_set (i := 2) hnd (de_add (de_var (i := 2)) (de_lst (da_cons de_str (da_cons de_str (da_cons de_str (da_cons de_str (da_cons de_str (da_cons de_str (da_cons de_str (da_cons de_str (da_cons de_str (da_cons de_str (da_cons de_str (da_cons (de_mulS de_str de_int) (da_cons (de_mulS de_str de_int) (da_cons de_str (da_cons de_str (da_cons de_str (da_cons de_str da_nil))))))))))))))))))))
    (dss_cons (ds_set (i := 2) hnd (de_addM (de_var (i := 2)) (de_lst (da_cons de_str (da_cons de_str (da_cons de_str (da_cons de_str (da_cons de_non (da_cons de_int (da_cons (de_lst (da_cons de_str da_nil)) (da_cons de_str (da_cons de_str da_nil))))))))))))
    (dss_cons (ds_for z.po rfl (di_range1 T.n_range (da_cons de_int da_nil)) (dg_name (i := 3) hnd) (dss_cons (ds_set (i := 4) hnd (de_call h__law_text hr z (List.Mem.head _) (da_cons (de_call h__law_shape hr z (List.Mem.head _) (da_cons (de_var (i := 1)) (da_cons de_int (da_cons (de_lst (da_cons de_str (da_cons de_str da_nil))) da_nil)))) da_nil)))
    (dss_cons (ds_for z.po rfl (di_range1 T.n_range (da_cons (de_add de_int (de_call h__law_pick hr z (List.Mem.head _) (da_cons (de_var (i := 1)) (da_cons de_int da_nil)))) da_nil)) (dg_name (i := 5) hnd) (dss_one (ds_set (i := 4) hnd (de_call h__law_bent hr z (List.Mem.head _) (da_cons (de_var (i := 1)) (da_cons (de_var (i := 4)) (da_cons de_str da_nil)))))))
    (dss_one (ds_expr (de_append (de_var (i := 2)) (da_cons (de_var (i := 4)) da_nil)))))))
    (dss_cons (ds_for z.po rfl (di_tup (de_tup (da_cons de_int (da_cons de_int (da_cons de_int da_nil))))) (dg_name (i := 6) hnd) (dss_one (ds_set (i := 2) hnd (de_add (de_var (i := 2)) (de_lst (da_cons (de_add (de_mulS de_str (de_var (i := 6))) de_str) (da_cons (de_add (de_add (de_mulS de_str (de_var (i := 6))) de_str) (de_mulS de_str (de_var (i := 6)))) da_nil)))))))
    (dss_cons (ds_for z.po rfl (di_list (de_var (i := 2))) (dg_name (i := 4) hnd) (dss_one (ds_if (dw_orV (dt_not (dt_val (de_isi T.n_isinstance (da_cons (de_var (i := 4)) (da_cons (de_ty (n := "str") T.n_str (by decide +kernel)) da_nil))))) (dw_or1 (dt_lt (de_len T.n_len (da_cons (de_var (i := 4)) da_nil)) de_int))).pt (dss_cons (ds_set (i := 7) hnd (de_call h__law_reading hr z (List.Mem.head _) (da_cons (de_var (i := 4)) da_nil)))
    (dss_cons (ds_set (i := 8) hnd (de_whyL (q := "law.<locals>.<lambda>") W__law_why hr TB hcd ⟨rfl, rfl, lamF_by rfl⟩ rfl (lamT_by rfl (.inl ⟨rfl, fun _ _ _ => rfl⟩)) (fun A outer s H E f c' B Ξ hr z => (de_call h_read_program hr z (List.Mem.head _) (da_cons (de_var (i := 4)) da_nil)))))
    (dss_one (ds_if (dt_not (dt_val (de_call h__law_same hr z (List.Mem.head _) (da_cons (de_var (i := 8)) (da_cons (de_ifV (dt_is (de_var (i := 7)) de_non) (de_tup (da_cons de_str (da_cons de_int da_nil))) (de_tup (da_cons de_str (da_cons (de_var (i := 7)) da_nil)))) da_nil))))) (dss_one (ds_ret de_bl)) dss_nil)))) dss_nil)))
    (dss_one (ds_ret de_bl))))))))), fun ds Ψ hl hc => ?_⟩
  obtain ⟨ns, rfl, hl, hM, q⟩ := hc
  rw [show ent (["_law_script", "_law_hand_here", "_law_texts", "_law_step", "_law_wording", "_law_change", "_law_many", "_law_due", "_law_told"] : List Str).length [scr ns] = [some (scr ns), none, none, none, none, none, none, none, none] from rfl]
  refine ⟨rfl, rfl, ns, rfl, hl, fun p h hp hc0 hi0 => ?_⟩
  have nP : tabA K f ≠ p := fun z => by rw [z, hp] at hM; cases hM
  have t0 : updM B.M p (hd h) (tabA K f) = some (.tab "law.<locals>.<lambda>") := by rw [updM_ne nP]; exact hM
  have h0 : HandAt (updM B.M p (hd h)) p := ⟨h, updM_same, hc0, hi0⟩
  try dsimp only [List.set, getS_z, getS_s, bin2, bin2T, ltD, leD, gtD, geD, cmp_i, add_i, sub_i, min2_i, max2_i]
  refine ⟨ln (n := 14) rfl (by decide), ?_⟩
  try dsimp only [List.set, getS_z, getS_s, bin2, bin2T, ltD, leD, gtD, geD, cmp_i, add_i, sub_i, min2_i, max2_i]
  have eL : ("L" : Str) = ⟨([76] : List Nat).toArray⟩ := by decide +kernel
  rw [eL]
  refine mul_w (k := 60) (by decide) (by decide) (by decide) ?_
  refine mul_w (k := 61) (by decide) (by decide) (by decide) ?_
  refine ⟨ln (n := 17) rfl (by decide), ?_⟩
  refine ⟨_, _, rfl, rfl, Nat.le_trans (by decide : (14 + 17 : Nat) ≤ 1000000) big_ok, ?_⟩
  refine ⟨ln (n := 1) rfl (by decide), ln (n := 9) rfl (by decide), _, _, rfl, rfl, Nat.le_trans (by decide : (31 + 9 : Nat) ≤ 1000000) big_ok, fun pt ept => ?_⟩
  obtain ⟨L0, hL0⟩ : ∃ L0, L0 = (([.str "", .str "(", .str ")", .str "()", .str "(L)", .str "(L then )", .str "L then R", .str "(L thenR)", .str "[1 0; 0 0]", .str "[61 0; 0 1]", .str "[1 0;0 1]", .str "[1 0; 0 1", .str "[01 0; 0 1]", .str "[-1 0; 0 1]"] ++ [.str "13*L", .str "012*L", .str "2*", .str "*L", .str "2L", .str "swap", .str "then", .str "swapx", .str "swaps", .str "Lx", .str "lR", .str ⟨(List.replicate 60 [76]).flatten.toArray⟩, .str ⟨(List.replicate 61 [76]).flatten.toArray⟩, .str "toolongname", .str "longname", .str "a1", .str "((L then R))"]) ++ [.str "[1 0; 0 1] ", .str " L", .str "2*2*2*coin", .str "(coin then coin then coin then coin then coin then coin then coin)", .non, .int 3, .lst [.str ⟨([76] : List Nat).toArray⟩], .str "0*L", .str "00*L"] : List D) := ⟨_, rfl⟩
  have tx0 : txs L0 := by
    rw [hL0]
    refine txs_app (txs_app ?_ ?_) ?_
    · exact ⟨tx_s (by decide +kernel), tx_s (by decide +kernel), tx_s (by decide +kernel), tx_s (by decide +kernel), tx_s (by decide +kernel), tx_s (by decide +kernel), tx_s (by decide +kernel), tx_s (by decide +kernel), tx_s (by decide +kernel), tx_s (by decide +kernel), tx_s (by decide +kernel), tx_s (by decide +kernel), tx_s (by decide +kernel), tx_s (by decide +kernel), trivial⟩
    · exact ⟨tx_s (by decide +kernel), tx_s (by decide +kernel), tx_s (by decide +kernel), tx_s (by decide +kernel), tx_s (by decide +kernel), tx_s (by decide +kernel), tx_s (by decide +kernel), tx_s (by decide +kernel), tx_s (by decide +kernel), tx_s (by decide +kernel), tx_s (by decide +kernel), tx_w (by decide), tx_w (by decide), tx_s (by decide +kernel), tx_s (by decide +kernel), tx_s (by decide +kernel), tx_s (by decide +kernel), trivial⟩
    · exact ⟨tx_s (by decide +kernel), tx_s (by decide +kernel), tx_s (by decide +kernel), tx_s (by decide +kernel), .inr (.inl rfl), .inr (.inr (.inl rfl)), .inr (.inr (.inr (by rw [eL]))), tx_s (by decide +kernel), tx_s (by decide +kernel), trivial⟩
  have len0 : L0.length = 40 := by rw [hL0]; rfl
  rw [← hL0]
  clear hL0
  have ptp : pt ≠ p := fun z => by rw [z, updM_same] at ept; cases ept
  have ptP : tabA K f ≠ pt := fun z => by rw [← z, t0] at ept; cases ept
  try dsimp only [List.set, getS_z, getS_s, bin2, bin2T, ltD, leD, gtD, geD, cmp_i, add_i, sub_i, min2_i, max2_i]
  refine forD_n (xs := rngD 0 9) (S := fun _ => True) (fun K h => ⟨⟨by decide, by decide⟩, h⟩) (fun i r M' => HandAt M' p ∧ M' (tabA K f) = some (.tab "law.<locals>.<lambda>") ∧ (∃ L, M' pt = some (.lst L) ∧ txs L ∧ L.length = 40 + i) ∧ ∃ o3 o4 o5 o6 o7 o8, r = [some (scr ns), some (.ref p), some (.ref pt), o3, o4, o5, o6, o7, o8]) ⟨?_, ?_, ⟨L0, updM_same, tx0, len0⟩, _, _, _, _, _, _, rfl⟩ (fun _ _ _ _ => trivial) (fun i d r M' hd' hI => ?_) (fun r M' hI => ?_)
  · obtain ⟨x, e, r⟩ := h0
    exact ⟨x, by rw [updM_ne ptp.symm]; exact e, r⟩
  · rw [updM_ne ptP]
    exact t0
  · obtain ⟨hh, tM, ⟨L, hLp, htx, hLl⟩, o3, o4, o5, o6, o7, o8, rfl⟩ := hI
    have hi9 : i < 9 := (rng_at hd').1
    try dsimp only [List.set, getS_z, getS_s, bin2, bin2T, ltD, leD, gtD, geD, cmp_i, add_i, sub_i, min2_i, max2_i]
    refine ⟨ln (n := 2) rfl (by decide), rfl, rfl, p, 2, ["coin", "far"], rfl, hh, by decide, by decide, (Nat.le_of_ble_eq_true rfl), nm_cf, fun pg M1 po pk pn pu d1 => ?_⟩
    have hlen := pgC_len pg po
    have hpn : shB 2 = 43 := by decide
    rw [hpn] at pn
    refine ⟨rfl, rfl, pg, rfl, po, by omega, by omega, ?_⟩
    try dsimp only [List.set, getS_z, getS_s, bin2, bin2T, ltD, leD, gtD, geD, cmp_i, add_i, sub_i, min2_i, max2_i]
    refine forD_of (fun xs S M2 => ∃ j : Nat, j ≤ 3 ∧ xs = rngD 0 j ∧ S = (fun _ => True) ∧ Dr p M1 M2) (fun K h => ?_) (fun xs S M2 ⟨j, j3, ex1, ex2, d2⟩ => ?_)
    · refine ⟨rfl, rfl, p, 2, rfl, d1.1, by decide, by decide, fun k M2 k0 k1 d2 => ⟨⟨by omega, by omega⟩, h _ _ _ ⟨(1 + k).toNat, by omega, rfl, rfl, d2⟩⟩⟩
    subst ex1 ex2
    refine ⟨fun i' e M3 => Dr p M' M3 ∧ ∃ (o5 : Option D) (t : List Nat), t.length ≤ 4000 + i' ∧ e = [some (scr ns), some (.ref p), some (.ref pt), some d, some (.str ⟨t.toArray⟩), o5, o6, o7, o8], .of ⟨d1.trans d2, _, pgC pg, by omega, rfl⟩, fun _ _ _ _ => trivial, fun i' d' e M3 hd3 h3 => ?_, fun e M3 h3 => ?_⟩
    · obtain ⟨d3, o5, t, ht, rfl⟩ := h3
      have hi3 : i' < j := (rng_at hd3).1
      try dsimp only [List.set, getS_z, getS_s, bin2, bin2T, ltD, leD, gtD, geD, cmp_i, add_i, sub_i, min2_i, max2_i]
      refine ⟨rfl, rfl, p, t, _, rfl, d3.1, by omega, by decide +kernel, fun t' M4 ht' d4 => ?_⟩
      exact .of ⟨d3.trans d4, _, t', by omega, rfl⟩
    · obtain ⟨d3, o5, t, ht, rfl⟩ := h3
      rw [rng_len] at ht
      try dsimp only [List.set, getS_z, getS_s, bin2, bin2T, ltD, leD, gtD, geD, cmp_i, add_i, sub_i, min2_i, max2_i]
      have e3 : M3 pt = some (.lst L) := by rw [d3.2 pt ptp]; exact hLp
      refine ⟨⟨_, lstOf_at e3⟩, append_of e3 ?_ ?_⟩
      · exact Nat.lt_of_lt_of_le (show L.length < 1000000 by omega) big_ok
      refine .of ⟨?_, ?_, ⟨L ++ [.str ⟨t.toArray⟩], updM_same, txs_app htx ⟨tx_w (by omega), trivial⟩, ?_⟩, _, _, _, _, _, _, rfl⟩
      · obtain ⟨x, e, r⟩ := d3.1
        exact ⟨x, by rw [updM_ne ptp.symm]; exact e, r⟩
      · rw [updM_ne ptP, d3.2 _ nP]
        exact tM
      · rw [List.length_append, hLl]
        rfl
  obtain ⟨hh, tM, ⟨L, hLp, htx, hLl⟩, o3, o4, o5, o6, o7, o8, rfl⟩ := hI
  rw [rng_len] at hLl
  try dsimp only [List.set, getS_z, getS_s, bin2, bin2T, ltD, leD, gtD, geD, cmp_i, add_i, sub_i, min2_i, max2_i]
  refine forD_n (xs := [.int 6, .int 7, .int 8]) (S := fun _ => True) (fun K h => ⟨ln (n := 3) rfl (by decide), _, rfl, h⟩) (fun i r M1 => M1 = M' ∧ ∃ (dl : D) (L : List D) (o6 o7 o8 : Option D), (dl = .ref pt ∨ ∃ l, dl = .lst l) ∧ lstOf M' dl = some L ∧ txs L ∧ L.length ≤ 49 + 2 * i ∧ r = [some (scr ns), some (.ref p), some dl, o3, o4, o5, o6, o7, o8]) ⟨rfl, .ref pt, L, _, _, _, .inl rfl, lstOf_at hLp, htx, by omega, rfl⟩ (fun _ _ _ _ => trivial) (fun i d r M1 hd' hI => ?_) (fun r M1 hI => ?_)
  · obtain ⟨rfl, dl, L, o6, o7, o8, hdk, hdl, htx, hLl, rfl⟩ := hI
    have hi3 : i < 3 := by
      cases hx : decide (i < 3) with
      | true => exact of_decide_eq_true hx
      | false =>
        have := of_decide_eq_false hx
        rw [List.getElem?_eq_none (by simp; omega)] at hd'
        cases hd'
    obtain ⟨m, hm, rfl⟩ : ∃ m : Nat, m ≤ 8 ∧ d = .int (m : Nat) := by
      match i, hd' with
      | 0, h => cases h; exact ⟨6, by decide, rfl⟩
      | 1, h => cases h; exact ⟨7, by decide, rfl⟩
      | 2, h => cases h; exact ⟨8, by decide, rfl⟩
    try dsimp only [List.set, getS_z, getS_s, bin2, bin2T, ltD, leD, gtD, geD, cmp_i, add_i, sub_i, min2_i, max2_i]
    have e1 : ("2*" : Str) = ⟨([50, 42] : List Nat).toArray⟩ := by decide +kernel
    have e2 : ("(L then " : Str) = ⟨([40, 76, 32, 116, 104, 101, 110, 32] : List Nat).toArray⟩ := by decide +kernel
    have e3 : ("R" : Str) = ⟨([82] : List Nat).toArray⟩ := by decide +kernel
    have e4 : (")" : Str) = ⟨([41] : List Nat).toArray⟩ := by decide +kernel
    rw [e1, e2, e3, e4]
    refine mul_w (k := m) (by omega) (by simp; omega) (by decide) ?_
    refine addW rfl rfl (by rw [rep_len]; simp; omega) ?_
    refine mul_w (k := m) (by omega) (by simp; omega) (by decide) ?_
    refine addW rfl rfl (by rw [rep_len]; simp; omega) ?_
    refine mul_w (k := m) (by omega) (by simp; omega) (by decide) ?_
    refine addW rfl rfl (by rw [List.length_append, rep_len, rep_len]; simp; omega) ?_
    refine ⟨ln (n := 2) rfl (by decide), ?_⟩
    refine add_lst hdk hdl ?_ ?_
    · exact Nat.le_trans (show L.length + 2 ≤ 1000000 by omega) big_ok
    exact .of ⟨rfl, _, _, _, _, _, .inr ⟨_, rfl⟩, rfl, txs_app htx (txs_two (tx_w (by rw [List.length_append, rep_len]; simp; omega)) (tx_w (by rw [List.length_append, List.length_append, rep_len, rep_len]; simp; omega))), by rw [List.length_append]; show L.length + 2 ≤ _; omega, rfl⟩
  obtain ⟨rfl, dl, L, o6, o7, o8, hdk, hdl, htx, hLl, rfl⟩ := hI
  try dsimp only [List.set, getS_z, getS_s, bin2, bin2T, ltD, leD, gtD, geD, cmp_i, add_i, sub_i, min2_i, max2_i]
  refine forD_n (xs := L) (S := fun M => lstOf M dl = some L) (fun K h => ⟨_, hdl, h⟩) (fun i r M2 => M2 = M1 ∧ ∃ (o4 o5 o6 o7 o8 : Option D), r = [some (scr ns), some (.ref p), some dl, o3, o4, o5, o6, o7, o8]) ⟨rfl, _, _, _, _, _, rfl⟩ (fun _ _ _ h => by obtain ⟨rfl, _⟩ := h; exact hdl) (fun i d r M2 hd' hI => ?_) (fun r M2 hI => ?_)
  rotate_left
  · obtain ⟨rfl, o4, o5, o6, o7, o8, rfl⟩ := hI
    exact ⟨_, _, .drop, q _⟩
  obtain ⟨rfl, o4, o5, o6, o7, o8, rfl⟩ := hI
  have htd := txs_mem htx (List.mem_of_getElem? hd')
  try dsimp only [List.set, getS_z, getS_s, bin2, bin2T, ltD, leD, gtD, geD, cmp_i, add_i, sub_i, min2_i, max2_i]
  have hdone : ∀ a4 a7 a8 : Option D, Z.Cl B.M (fun r' M3 => M3 = M2 ∧ ∃ (o4 o5 o6 o7 o8 : Option D), r' = [some (scr ns), some (.ref p), some dl, o3, o4, o5, o6, o7, o8]) [some (scr ns), some (.ref p), some dl, o3, a4, o5, o6, a7, a8] M2 := fun a4 a7 a8 => .of ⟨rfl, _, _, _, _, _, rfl⟩
  obtain ⟨ty, hty⟩ : ∃ ty, tyN M2 d = some ty := by
    rcases htd with ⟨t, rfl, _⟩ | rfl | rfl | rfl
    · exact ⟨_, rfl⟩
    · exact ⟨_, rfl⟩
    · exact ⟨_, rfl⟩
    · exact ⟨_, rfl⟩
  refine ⟨by decide, ty, hty, bl_v ?_⟩
  refine ⟨match d with | .str x => decide ((x.length : Int) < 2000) | _ => false, fun hb => ?_, ?_⟩
  · rcases htd with ⟨t, rfl, ht⟩ | rfl | rfl | rfl
    · exact ⟨w_sz ht, bl_v ⟨rfl, rfl⟩⟩
    · cases hty; cases hb
    · cases hty; cases hb
    · cases hty; cases hb
  by_cases hb : (!isB ty "str" || (match d with | .str x => decide ((x.length : Int) < 2000) | _ => false)) = true
  rotate_left
  · exact ite_f (Bool.eq_false_iff.mpr hb) (hdone _ _ _)
  refine ite_t hb ?_
  have hsz : ∀ x, d = .str x → x.cps.size ≤ 5000 := fun x e => by
    subst e
    cases hty
    have hb : decide ((x.length : Int) < 2000) = true := hb
    have hb := of_decide_eq_true hb
    have : (x.length : Int) = (x.cps.size : Nat) := rfl
    omega
  clear hb
  refine ⟨rfl, rfl, d, ty, rfl, hty, hsz, tM, ?_⟩
  refine ⟨rfl, rfl, d, ty, rfl, hty, hsz, fun pg hpg => ?_, fun hpg => ?_⟩
  · rw [hpg]
    dsimp only
    refine bl_v ?_
    rw [pg_not_none]
    obtain ⟨x, rfl⟩ : ∃ x, d = .str x := by
      cases d with
      | str x => exact ⟨x, rfl⟩
      | _ => cases hpg
    obtain ⟨po, pk, _⟩ := rdP_iff.mp (show rdP (strC x) = some pg from hpg)
    refine ⟨.tup [.str "", pgD pg], fun z => (nomatch z), fun _ => ⟨ln (n := 2) rfl (by decide), rfl, rfl⟩, ?_⟩
    refine ⟨rfl, rfl, _, _, rfl, Same.t (.cons (.s _) (.cons (same_pg pg 11 po (by omega)) .nil)) (by decide : 2 ≤ 1000000), ?_⟩
    exact bl_t rfl (ite_f rfl (hdone _ _ _))
  · rw [hpg]
    refine why_of (t := "ParseError") T.wy_ParseError rfl (by decide) rfl ?_
    refine bl_v ?_
    refine ⟨.tup [.str "ParseError", .int 0], fun _ => ⟨ln (n := 2) rfl (by decide), rfl, rfl⟩, fun z => (nomatch z), ?_⟩
    refine ⟨rfl, rfl, _, _, rfl, Same.t (.cons (.s _) (.cons (.i _) .nil)) (by decide : 2 ≤ 1000000), ?_⟩
    exact bl_t rfl (ite_f rfl (hdone _ _ _))
end
def fn : List DefZ := [⟨.g "_law_hand", "_law_hand", "_law_hand", s__law_hand, [], []⟩,
  ⟨.g "_law_text", "_law_text", "_law_text", s__law_text, [], []⟩,
  ⟨.g "_law_pick", "_law_pick", "_law_pick", s__law_pick, [], []⟩,
  ⟨.g "_law_of", "_law_of", "_law_of", s__law_of, [], []⟩,
  ⟨.g "_law_prod", "_law_prod", "_law_prod", s__law_prod, [], []⟩,
  ⟨.g "_law_grid", "_law_grid", "_law_grid", s__law_grid, [], []⟩,
  ⟨.g "_law_word", "_law_word", "_law_word", s__law_word, [], []⟩,
  ⟨.g "_law_core", "_law_core", "_law_core", s__law_core, [], []⟩,
  ⟨.g "_law_mill", "_law_mill", "_law_mill", s__law_mill, [], []⟩,
  ⟨.g "_law_some", "_law_some", "_law_some", s__law_some, [], []⟩,
  ⟨.g "_law_leaf", "_law_leaf", "_law_leaf", s__law_leaf, [], []⟩,
  ⟨.g "_law_shape", "_law_shape", "_law_shape", s__law_shape, [], []⟩,
  ⟨.g "_law_bent", "_law_bent", "_law_bent", s__law_bent, [], []⟩,
  ⟨.g "_law_mark", "_law_mark", "_law_mark", s__law_mark, [], []⟩,
  ⟨.g "_law_row_parsed", "_law_row_parsed", "_law_row_parsed", s__law_row_parsed, [], []⟩,
  ⟨.g "_law_figure", "_law_figure", "_law_figure", s__law_figure, [], []⟩,
  ⟨.g "_law_taken_signs", "_law_taken_signs", "_law_taken_signs", s__law_taken_signs, [], []⟩,
  ⟨.g "_law_parsed", "_law_parsed", "_law_parsed", s__law_parsed, [], []⟩,
  ⟨.g "_law_det", "_law_det", "_law_det", s__law_det, [], []⟩,
  ⟨.g "_law_is_whole", "_law_is_whole", "_law_is_whole", s__law_is_whole, [], []⟩,
  ⟨.g "_law_is_name", "_law_is_name", "_law_is_name", s__law_is_name, [], []⟩,
  ⟨.g "_law_is_part", "_law_is_part", "_law_is_part", s__law_is_part, [], []⟩,
  ⟨.g "_law_inner", "_law_inner", "_law_inner", s__law_inner, [], []⟩,
  ⟨.g "_law_wrong", "_law_wrong", "_law_wrong", s__law_wrong, [], []⟩,
  ⟨.g "_law_reading", "_law_reading", "_law_reading", s__law_reading, [], []⟩,
  ⟨.g "_law_same", "_law_same", "_law_same", s__law_same, [], []⟩,
  ⟨.mt "Reader" "__init__", "__init__", "Reader.__init__", s_Readerd_initd, [], []⟩,
  ⟨.mt "Reader" "take", "take", "Reader.take", s_Reader_take, [], []⟩,
  ⟨.mt "Reader" "need", "need", "Reader.need", s_Reader_need, [], []⟩,
  ⟨.mt "Reader" "row_of_parts", "row_of_parts", "Reader.row_of_parts", s_Reader_row_of_parts, [], []⟩,
  ⟨.g "number_in", "number_in", "number_in", s_number_in, [], []⟩,
  ⟨.mt "Reader" "taken", "taken", "Reader.taken", s_Reader_taken, [], []⟩,
  ⟨.mt "Reader" "numeral", "numeral", "Reader.numeral", s_Reader_numeral, [], []⟩,
  ⟨.mt "Reader" "entries", "entries", "Reader.entries", s_Reader_entries, [], []⟩,
  ⟨.mt "Reader" "program", "program", "Reader.program", s_Reader_program, [], []⟩,
  ⟨.g "is_name", "is_name", "is_name", s_is_name, [], []⟩,
  ⟨.g "is_integer", "is_integer", "is_integer", s_is_integer, [], []⟩,
  ⟨.g "is_within", "is_within", "is_within", s_is_within, [], []⟩,
  ⟨.g "is_word", "is_word", "is_word", s_is_word, [], []⟩,
  ⟨.g "are_entries", "are_entries", "are_entries", s_are_entries, [], []⟩,
  ⟨.g "is_part", "is_part", "is_part", s_is_part, [], []⟩,
  ⟨.g "inner_parts", "inner_parts", "inner_parts", s_inner_parts, [], []⟩,
  ⟨.g "check_program", "check_program", "check_program", s_check_program, [], []⟩,
  ⟨.g "program_text", "program_text", "program_text", s_program_text, [], []⟩,
  ⟨.g "read_program", "read_program", "read_program", s_read_program, [], []⟩,
  ⟨.g "_law_field", "_law_field", "_law_field", s__law_field, [], []⟩,
  ⟨.g "_law_why", "_law_why", "_law_why", s__law_why, [], []⟩,
  ⟨.g "law", "law", "law", s_law, [], []⟩,
  ⟨.mt "InvalidProgram" "__init__", "__init__", "InvalidProgram.__init__", s_InvalidProgram, [], []⟩,
  ⟨.mt "ParseError" "__init__", "__init__", "ParseError.__init__", s_ParseError, [], []⟩]
def fa : List FF := [isF (.free "range"),
  isF (.free "len"),
  isF (.free "isinstance"),
  isF (.free "str"),
  isF (.glo "NothingLeft"),
  isF (.glo "MillError"),
  isF (.glo "Missing"),
  isF (.cls "Reader"),
  isF (.int "MOST_DEPTH" 8),
  exmF "InvalidProgram" "InvalidProgram" true,
  isF (.glo "InvalidProgram"),
  isF (.free "tuple"),
  isF (.free "enumerate"),
  isF (.int "MOST_REPEATS" 12),
  isF (.int "MOST_PARTS" 6),
  isF (.int "MOST_WORD" 60),
  isF (.free "all"),
  isF (.int "MOST_ENTRY" 60),
  isF (.free "bool"),
  isF (.free "int"),
  isF (.str "TURNS" "LR"),
  tupF "RESERVED" [.str "swap",.str "then"],
  isF (.int "MOST_SIGNS" 8),
  isF (.str "SMALL" "abcdefghijklmnopqrstuvwxyz"),
  isF (.noat "Reader" "signs"),
  isF (.noat "Reader" "at"),
  isF (.str "DIGITS" "0123456789"),
  isF (.free "list"),
  isF (.free "zip"),
  isF (.free "max"),
  whyF "ParseError" (some "line"),
  isF (.glo "law"),
  excF "InvalidProgram",
  isF (.meth "InvalidProgram" "__init__"),
  isF (.noat "InvalidProgram" "tag"),
  isF (.noat "InvalidProgram" "path"),
  excF "ParseError",
  isF (.glo "ParseError"),
  isF (.meth "ParseError" "__init__"),
  isF (.noat "ParseError" "tag"),
  isF (.noat "ParseError" "line"),
  isF (.glo "_law_hand"),
  isF (.glo "_law_text"),
  isF (.glo "_law_pick"),
  isF (.glo "_law_of"),
  isF (.glo "_law_prod"),
  isF (.glo "_law_grid"),
  isF (.glo "_law_word"),
  isF (.glo "_law_core"),
  isF (.glo "_law_mill"),
  isF (.glo "_law_some"),
  isF (.glo "_law_leaf"),
  isF (.glo "_law_shape"),
  isF (.glo "_law_bent"),
  isF (.glo "_law_mark"),
  isF (.glo "_law_figure"),
  isF (.glo "_law_taken_signs"),
  isF (.glo "_law_parsed"),
  isF (.glo "_law_row_parsed"),
  isF (.glo "_law_det"),
  isF (.glo "_law_is_whole"),
  isF (.glo "_law_is_name"),
  isF (.glo "_law_is_part"),
  isF (.glo "_law_inner"),
  isF (.glo "_law_wrong"),
  isF (.glo "_law_reading"),
  isF (.glo "_law_same"),
  isF (.glo "Reader"),
  isF (.mkr "Reader"),
  isF (.meth "Reader" "take"),
  isF (.meth "Reader" "need"),
  isF (.glo "number_in"),
  isF (.meth "Reader" "taken"),
  isF (.meth "Reader" "numeral"),
  isF (.meth "Reader" "entries"),
  isF (.meth "Reader" "program"),
  isF (.meth "Reader" "row_of_parts"),
  isF (.glo "is_name"),
  isF (.glo "is_integer"),
  isF (.glo "is_within"),
  isF (.glo "is_word"),
  isF (.glo "are_entries"),
  isF (.glo "is_part"),
  isF (.glo "inner_parts"),
  isF (.glo "check_program"),
  isF (.glo "program_text"),
  isF (.glo "read_program"),
  isF (.glo "_law_field"),
  isF (.glo "_law_why")]
def ts : Tbs := [(.g "law", "law.<locals>.<lambda>")]
theorem all {l : PySem.W.OpenLaw} {w : World} {K : PySem.W.Frag} {h : Heap} {mg : Str → Option Value} {f : Addr} (KX : K.In h) (G : h.Ns mainGlobals mg) (hfa : mg ("law" : Str) = some (.ref f)) (c : SaysZ fa fn K) (TZ : TabZ ts K h) : LamX.LawAtS l w K (L2.CX l.prog w) 28 63 "_law_script" mg f h := by
  have T : Txt K mg := {n_range := He.free_ok KX G (c.fact 0), n_len := He.free_ok KX G (c.fact 1), n_isinstance := He.free_ok KX G (c.fact 2), n_str := He.free_ok KX G (c.fact 3), gl_NothingLeft := He.glo_ok KX G (c.fact 4), gl_MillError := He.glo_ok KX G (c.fact 5), gl_Missing := He.glo_ok KX G (c.fact 6), cl_Reader := He.cls_ok (c.fact 7), k_MOST_DEPTH := He.int_ok KX G (c.fact 8), ex_InvalidProgram := exmF_ok (c.fact 9), gl_InvalidProgram := He.glo_ok KX G (c.fact 10), n_tuple := He.free_ok KX G (c.fact 11), n_enumerate := He.free_ok KX G (c.fact 12), k_MOST_REPEATS := He.int_ok KX G (c.fact 13), k_MOST_PARTS := He.int_ok KX G (c.fact 14), k_MOST_WORD := He.int_ok KX G (c.fact 15), n_all := He.free_ok KX G (c.fact 16), k_MOST_ENTRY := He.int_ok KX G (c.fact 17), n_bool := He.free_ok KX G (c.fact 18), n_int := He.free_ok KX G (c.fact 19), k_TURNS := He.str_ok KX G (c.fact 20), k_RESERVED := tupF_ok KX G (c.fact 21) (.cons .str (.cons .str .nil)), k_MOST_SIGNS := He.int_ok KX G (c.fact 22), k_SMALL := He.str_ok KX G (c.fact 23), na_Reader_signs := He.noat_ok (c.fact 24), na_Reader_at := He.noat_ok (c.fact 25), k_DIGITS := He.str_ok KX G (c.fact 26), n_list := He.free_ok KX G (c.fact 27), n_zip := He.free_ok KX G (c.fact 28), n_max := He.free_ok KX G (c.fact 29), wy_ParseError := whyF_ok (c.fact 30)}
  obtain ⟨fd__law_hand, F__law_hand⟩ := c.def_ 0 (by rfl)
  obtain ⟨fd__law_text, F__law_text⟩ := c.def_ 1 (by rfl)
  obtain ⟨fd__law_pick, F__law_pick⟩ := c.def_ 2 (by rfl)
  obtain ⟨fd__law_of, F__law_of⟩ := c.def_ 3 (by rfl)
  obtain ⟨fd__law_prod, F__law_prod⟩ := c.def_ 4 (by rfl)
  obtain ⟨fd__law_grid, F__law_grid⟩ := c.def_ 5 (by rfl)
  obtain ⟨fd__law_word, F__law_word⟩ := c.def_ 6 (by rfl)
  obtain ⟨fd__law_core, F__law_core⟩ := c.def_ 7 (by rfl)
  obtain ⟨fd__law_mill, F__law_mill⟩ := c.def_ 8 (by rfl)
  obtain ⟨fd__law_some, F__law_some⟩ := c.def_ 9 (by rfl)
  obtain ⟨fd__law_leaf, F__law_leaf⟩ := c.def_ 10 (by rfl)
  obtain ⟨fd__law_shape, F__law_shape⟩ := c.def_ 11 (by rfl)
  obtain ⟨fd__law_bent, F__law_bent⟩ := c.def_ 12 (by rfl)
  obtain ⟨fd__law_mark, F__law_mark⟩ := c.def_ 13 (by rfl)
  obtain ⟨fd__law_row_parsed, F__law_row_parsed⟩ := c.def_ 14 (by rfl)
  obtain ⟨fd__law_figure, F__law_figure⟩ := c.def_ 15 (by rfl)
  obtain ⟨fd__law_taken_signs, F__law_taken_signs⟩ := c.def_ 16 (by rfl)
  obtain ⟨fd__law_parsed, F__law_parsed⟩ := c.def_ 17 (by rfl)
  obtain ⟨fd__law_det, F__law_det⟩ := c.def_ 18 (by rfl)
  obtain ⟨fd__law_is_whole, F__law_is_whole⟩ := c.def_ 19 (by rfl)
  obtain ⟨fd__law_is_name, F__law_is_name⟩ := c.def_ 20 (by rfl)
  obtain ⟨fd__law_is_part, F__law_is_part⟩ := c.def_ 21 (by rfl)
  obtain ⟨fd__law_inner, F__law_inner⟩ := c.def_ 22 (by rfl)
  obtain ⟨fd__law_wrong, F__law_wrong⟩ := c.def_ 23 (by rfl)
  obtain ⟨fd__law_reading, F__law_reading⟩ := c.def_ 24 (by rfl)
  obtain ⟨fd__law_same, F__law_same⟩ := c.def_ 25 (by rfl)
  obtain ⟨fd_Readerd_initd, F_Readerd_initd⟩ := c.def_ 26 (by rfl)
  obtain ⟨fd_Reader_take, F_Reader_take⟩ := c.def_ 27 (by rfl)
  obtain ⟨fd_Reader_need, F_Reader_need⟩ := c.def_ 28 (by rfl)
  obtain ⟨fd_Reader_row_of_parts, F_Reader_row_of_parts⟩ := c.def_ 29 (by rfl)
  obtain ⟨fd_number_in, F_number_in⟩ := c.def_ 30 (by rfl)
  obtain ⟨fd_Reader_taken, F_Reader_taken⟩ := c.def_ 31 (by rfl)
  obtain ⟨fd_Reader_numeral, F_Reader_numeral⟩ := c.def_ 32 (by rfl)
  obtain ⟨fd_Reader_entries, F_Reader_entries⟩ := c.def_ 33 (by rfl)
  obtain ⟨fd_Reader_program, F_Reader_program⟩ := c.def_ 34 (by rfl)
  obtain ⟨fd_is_name, F_is_name⟩ := c.def_ 35 (by rfl)
  obtain ⟨fd_is_integer, F_is_integer⟩ := c.def_ 36 (by rfl)
  obtain ⟨fd_is_within, F_is_within⟩ := c.def_ 37 (by rfl)
  obtain ⟨fd_is_word, F_is_word⟩ := c.def_ 38 (by rfl)
  obtain ⟨fd_are_entries, F_are_entries⟩ := c.def_ 39 (by rfl)
  obtain ⟨fd_is_part, F_is_part⟩ := c.def_ 40 (by rfl)
  obtain ⟨fd_inner_parts, F_inner_parts⟩ := c.def_ 41 (by rfl)
  obtain ⟨fd_check_program, F_check_program⟩ := c.def_ 42 (by rfl)
  obtain ⟨fd_program_text, F_program_text⟩ := c.def_ 43 (by rfl)
  obtain ⟨fd_read_program, F_read_program⟩ := c.def_ 44 (by rfl)
  obtain ⟨fd__law_field, F__law_field⟩ := c.def_ 45 (by rfl)
  obtain ⟨fd__law_why, F__law_why⟩ := c.def_ 46 (by rfl)
  obtain ⟨fd_law, F_law⟩ := c.def_ 47 (by rfl)
  obtain ⟨fd_InvalidProgram, F_InvalidProgram⟩ := c.def_ 48 (by rfl)
  obtain ⟨fd_ParseError, F_ParseError⟩ := c.def_ 49 (by rfl)
  have e0 := hfa.symm.trans (He.glo_ok KX G (c.fact 31))
  cases e0
  refine law_atT (c := c_law (tabA K (He.ga K "law"))) (fd := fd_law) (ts := ts) KX TZ (fun s u => FunD.bindsA (ps := ["_law_script"]) F_law (fun _ _ _ _ _ _ us h => match us, h with | [_], _ => rfl) s [u] rfl) (fun base _ _ TBs => ?_) (fun ns hl _ => ⟨ns, rfl, hl, tabM_at TZ.nd (t := (.g "law", "law.<locals>.<lambda>")) (by simp [ts]), fun _ => rfl⟩)
  have m_InvalidProgram := methF_ok (c.fact 33)
  have x_InvalidProgram : Xf l.prog w K mg base "InvalidProgram" (He.ga K "InvalidProgram") 1 (tag2 "InvalidProgram" "path") := ⟨excF_ok (c.fact 32), He.glo_ok KX G (c.fact 10), _, fd_InvalidProgram, _, m_InvalidProgram.at_, beq_iff_eq.mp m_InvalidProgram.fn, (x1_ok (fun_of F_InvalidProgram) (excF_ok (c.fact 32)) (He.noat_ok (c.fact 34)) (He.noat_ok (c.fact 35)) rfl rfl sc_InvalidProgram rfl rfl (by decide) (by decide)), (FunD.bindsN F_InvalidProgram (fun _ _ _ _ _ _ us h => match us, h with | [_, _], _ => rfl)), rfl⟩
  have m_ParseError := methF_ok (c.fact 38)
  have x_ParseError : Xf l.prog w K mg base "ParseError" (He.ga K "ParseError") 1 (tag2 "ParseError" "line") := ⟨excF_ok (c.fact 36), He.glo_ok KX G (c.fact 37), _, fd_ParseError, _, m_ParseError.at_, beq_iff_eq.mp m_ParseError.fn, (x1_ok (fun_of F_ParseError) (excF_ok (c.fact 36)) (He.noat_ok (c.fact 39)) (He.noat_ok (c.fact 40)) rfl rfl sc_ParseError rfl rfl (by decide) (by decide)), (FunD.bindsN F_ParseError (fun _ _ _ _ _ _ us h => match us, h with | [_, _], _ => rfl)), rfl⟩
  have xH_ParseError : XfH l.prog w K mg base "ParseError" (He.ga K "ParseError") 1 (tag2 "ParseError" "line") := ⟨excF_ok (c.fact 36), He.glo_ok KX G (c.fact 37), _, fd_ParseError, _, m_ParseError.at_, beq_iff_eq.mp m_ParseError.fn, (x1_okH (fun_of F_ParseError) (excF_ok (c.fact 36)) (He.noat_ok (c.fact 39)) (He.noat_ok (c.fact 40)) rfl rfl sc_ParseError rfl rfl (by decide) (by decide)), (FunD.bindsN F_ParseError (fun _ _ _ _ _ _ us h => match us, h with | [_, _], _ => rfl)), rfl⟩
  have h__law_hand : Gf l.prog w K mg base "_law_hand" 2 (c__law_hand) b__law_hand := gf_mk (He.glo_ok KX G (c.fact 41)) F__law_hand (ok__law_hand T F__law_hand) (all_cons (bind0 F__law_hand 1 rfl (fun _ _ _ _ _ _ us h => match us, h with | [_], _ => rfl)) all_nil)
  have h__law_text_0 : Gf l.prog w K mg base "_law_text" 1 (c__law_text 0) b__law_text := gf_mk (ps := ["_law_plan"]) (He.glo_ok KX G (c.fact 42)) F__law_text (fn_no no__law_text) (all_cons (bind0 F__law_text 1 rfl (fun _ _ _ _ _ _ us h => match us, h with | [_], _ => rfl)) all_nil)
  have h__law_text_1 : Gf l.prog w K mg base "_law_text" 2 (c__law_text 1) b__law_text := gf_mk (ps := ["_law_plan"]) (He.glo_ok KX G (c.fact 42)) F__law_text (ok__law_text T (by decide) h__law_text_0 F__law_text) (all_cons (bind0 F__law_text 1 rfl (fun _ _ _ _ _ _ us h => match us, h with | [_], _ => rfl)) all_nil)
  have h__law_text_2 : Gf l.prog w K mg base "_law_text" 3 (c__law_text 2) b__law_text := gf_mk (ps := ["_law_plan"]) (He.glo_ok KX G (c.fact 42)) F__law_text (ok__law_text T (by decide) h__law_text_1 F__law_text) (all_cons (bind0 F__law_text 1 rfl (fun _ _ _ _ _ _ us h => match us, h with | [_], _ => rfl)) all_nil)
  have h__law_text_3 : Gf l.prog w K mg base "_law_text" 4 (c__law_text 3) b__law_text := gf_mk (ps := ["_law_plan"]) (He.glo_ok KX G (c.fact 42)) F__law_text (ok__law_text T (by decide) h__law_text_2 F__law_text) (all_cons (bind0 F__law_text 1 rfl (fun _ _ _ _ _ _ us h => match us, h with | [_], _ => rfl)) all_nil)
  have h__law_text_4 : Gf l.prog w K mg base "_law_text" 5 (c__law_text 4) b__law_text := gf_mk (ps := ["_law_plan"]) (He.glo_ok KX G (c.fact 42)) F__law_text (ok__law_text T (by decide) h__law_text_3 F__law_text) (all_cons (bind0 F__law_text 1 rfl (fun _ _ _ _ _ _ us h => match us, h with | [_], _ => rfl)) all_nil)
  have h__law_text_5 : Gf l.prog w K mg base "_law_text" 6 (c__law_text 5) b__law_text := gf_mk (ps := ["_law_plan"]) (He.glo_ok KX G (c.fact 42)) F__law_text (ok__law_text T (by decide) h__law_text_4 F__law_text) (all_cons (bind0 F__law_text 1 rfl (fun _ _ _ _ _ _ us h => match us, h with | [_], _ => rfl)) all_nil)
  have h__law_text_6 : Gf l.prog w K mg base "_law_text" 7 (c__law_text 6) b__law_text := gf_mk (ps := ["_law_plan"]) (He.glo_ok KX G (c.fact 42)) F__law_text (ok__law_text T (by decide) h__law_text_5 F__law_text) (all_cons (bind0 F__law_text 1 rfl (fun _ _ _ _ _ _ us h => match us, h with | [_], _ => rfl)) all_nil)
  have h__law_text_7 : Gf l.prog w K mg base "_law_text" 8 (c__law_text 7) b__law_text := gf_mk (ps := ["_law_plan"]) (He.glo_ok KX G (c.fact 42)) F__law_text (ok__law_text T (by decide) h__law_text_6 F__law_text) (all_cons (bind0 F__law_text 1 rfl (fun _ _ _ _ _ _ us h => match us, h with | [_], _ => rfl)) all_nil)
  have h__law_text_8 : Gf l.prog w K mg base "_law_text" 9 (c__law_text 8) b__law_text := gf_mk (ps := ["_law_plan"]) (He.glo_ok KX G (c.fact 42)) F__law_text (ok__law_text T (by decide) h__law_text_7 F__law_text) (all_cons (bind0 F__law_text 1 rfl (fun _ _ _ _ _ _ us h => match us, h with | [_], _ => rfl)) all_nil)
  have h__law_text := h__law_text_8
  have h__law_pick : Gf l.prog w K mg base "_law_pick" 2 (c__law_pick) b__law_pick := gf_mk (He.glo_ok KX G (c.fact 43)) F__law_pick (ok__law_pick T F__law_pick) (all_cons (bind0 F__law_pick 2 rfl (fun _ _ _ _ _ _ us h => match us, h with | [_, _], _ => rfl)) all_nil)
  have h__law_of : Gf l.prog w K mg base "_law_of" 3 (c__law_of) b__law_of := gf_mk (He.glo_ok KX G (c.fact 44)) F__law_of (ok__law_of T h__law_pick F__law_of) (all_cons (bind0 F__law_of 2 rfl (fun _ _ _ _ _ _ us h => match us, h with | [_, _], _ => rfl)) all_nil)
  have h__law_prod : Gf l.prog w K mg base "_law_prod" 2 (c__law_prod) b__law_prod := gf_mk (He.glo_ok KX G (c.fact 45)) F__law_prod (ok__law_prod T F__law_prod) (all_cons (bind0 F__law_prod 2 rfl (fun _ _ _ _ _ _ us h => match us, h with | [_, _], _ => rfl)) all_nil)
  have h__law_grid : Gf l.prog w K mg base "_law_grid" 3 (c__law_grid) b__law_grid := gf_mk (He.glo_ok KX G (c.fact 46)) F__law_grid (ok__law_grid T h__law_prod F__law_grid) (all_cons (bind0 F__law_grid 1 rfl (fun _ _ _ _ _ _ us h => match us, h with | [_], _ => rfl)) all_nil)
  have h__law_word : Gf l.prog w K mg base "_law_word" 4 (c__law_word) b__law_word := gf_mk (He.glo_ok KX G (c.fact 47)) F__law_word (ok__law_word T h__law_pick h__law_of F__law_word) (all_cons (bind0 F__law_word 2 rfl (fun _ _ _ _ _ _ us h => match us, h with | [_, _], _ => rfl)) all_nil)
  have h__law_core : Gf l.prog w K mg base "_law_core" 4 (c__law_core) b__law_core := gf_mk (He.glo_ok KX G (c.fact 48)) F__law_core (ok__law_core T h__law_pick h__law_of F__law_core) (all_cons (bind0 F__law_core 2 rfl (fun _ _ _ _ _ _ us h => match us, h with | [_, _], _ => rfl)) all_nil)
  have h__law_mill : Gf l.prog w K mg base "_law_mill" 5 (c__law_mill) b__law_mill := gf_mk (He.glo_ok KX G (c.fact 49)) F__law_mill (ok__law_mill T h__law_prod h__law_grid h__law_word h__law_core h__law_of h__law_pick F__law_mill) (all_cons (bind0 F__law_mill 2 rfl (fun _ _ _ _ _ _ us h => match us, h with | [_, _], _ => rfl)) all_nil)
  have h__law_some : Gf l.prog w K mg base "_law_some" 5 (c__law_some) b__law_some := gf_mk (He.glo_ok KX G (c.fact 50)) F__law_some (ok__law_some T h__law_of h__law_word F__law_some) (all_cons (bind0 F__law_some 2 rfl (fun _ _ _ _ _ _ us h => match us, h with | [_, _], _ => rfl)) all_nil)
  have h__law_leaf : Gf l.prog w K mg base "_law_leaf" 6 (c__law_leaf) b__law_leaf := gf_mk (He.glo_ok KX G (c.fact 51)) F__law_leaf (ok__law_leaf T h__law_pick h__law_of h__law_mill h__law_some h__law_core F__law_leaf) (all_cons (bind0 F__law_leaf 2 rfl (fun _ _ _ _ _ _ us h => match us, h with | [_, _], _ => rfl)) all_nil)
  have h__law_shape_0 : Gf l.prog w K mg base "_law_shape" 6 (c__law_shape 0) b__law_shape := gf_mk (ps := ["_law_hand_here", "_law_deep", "_law_known"]) (He.glo_ok KX G (c.fact 52)) F__law_shape (fn_no no__law_shape) (all_cons (bind0 F__law_shape 3 rfl (fun _ _ _ _ _ _ us h => match us, h with | [_, _, _], _ => rfl)) all_nil)
  have h__law_shape_1 : Gf l.prog w K mg base "_law_shape" 7 (c__law_shape 1) b__law_shape := gf_mk (ps := ["_law_hand_here", "_law_deep", "_law_known"]) (He.glo_ok KX G (c.fact 52)) F__law_shape (ok__law_shape T (by decide) h__law_shape_0 h__law_pick h__law_leaf h__law_of F__law_shape) (all_cons (bind0 F__law_shape 3 rfl (fun _ _ _ _ _ _ us h => match us, h with | [_, _, _], _ => rfl)) all_nil)
  have h__law_shape_2 : Gf l.prog w K mg base "_law_shape" 8 (c__law_shape 2) b__law_shape := gf_mk (ps := ["_law_hand_here", "_law_deep", "_law_known"]) (He.glo_ok KX G (c.fact 52)) F__law_shape (ok__law_shape T (by decide) h__law_shape_1 h__law_pick h__law_leaf h__law_of F__law_shape) (all_cons (bind0 F__law_shape 3 rfl (fun _ _ _ _ _ _ us h => match us, h with | [_, _, _], _ => rfl)) all_nil)
  have h__law_shape_3 : Gf l.prog w K mg base "_law_shape" 9 (c__law_shape 3) b__law_shape := gf_mk (ps := ["_law_hand_here", "_law_deep", "_law_known"]) (He.glo_ok KX G (c.fact 52)) F__law_shape (ok__law_shape T (by decide) h__law_shape_2 h__law_pick h__law_leaf h__law_of F__law_shape) (all_cons (bind0 F__law_shape 3 rfl (fun _ _ _ _ _ _ us h => match us, h with | [_, _, _], _ => rfl)) all_nil)
  have h__law_shape_4 : Gf l.prog w K mg base "_law_shape" 10 (c__law_shape 4) b__law_shape := gf_mk (ps := ["_law_hand_here", "_law_deep", "_law_known"]) (He.glo_ok KX G (c.fact 52)) F__law_shape (ok__law_shape T (by decide) h__law_shape_3 h__law_pick h__law_leaf h__law_of F__law_shape) (all_cons (bind0 F__law_shape 3 rfl (fun _ _ _ _ _ _ us h => match us, h with | [_, _, _], _ => rfl)) all_nil)
  have h__law_shape := h__law_shape_4
  have h__law_bent : Gf l.prog w K mg base "_law_bent" 4 (c__law_bent) b__law_bent := gf_mk (He.glo_ok KX G (c.fact 53)) F__law_bent (ok__law_bent T h__law_pick h__law_of F__law_bent) (all_cons (bind0 F__law_bent 3 rfl (fun _ _ _ _ _ _ us h => match us, h with | [_, _, _], _ => rfl)) all_nil)
  have h__law_mark : Gf l.prog w K mg base "_law_mark" 2 (c__law_mark) b__law_mark := gf_mk (He.glo_ok KX G (c.fact 54)) F__law_mark (ok__law_mark T F__law_mark) (all_cons (bind0 F__law_mark 3 rfl (fun _ _ _ _ _ _ us h => match us, h with | [_, _, _], _ => rfl)) all_nil)
  have h__law_figure : Gf l.prog w K mg base "_law_figure" 2 (c__law_figure) b__law_figure := gf_mk (He.glo_ok KX G (c.fact 55)) F__law_figure (ok__law_figure T F__law_figure) (all_cons (bind0 F__law_figure 1 rfl (fun _ _ _ _ _ _ us h => match us, h with | [_], _ => rfl)) all_nil)
  have h__law_taken_signs : Gf l.prog w K mg base "_law_taken_signs" 2 (c__law_taken_signs) b__law_taken_signs := gf_mk (He.glo_ok KX G (c.fact 56)) F__law_taken_signs (ok__law_taken_signs T F__law_taken_signs) (all_cons (bind0 F__law_taken_signs 3 rfl (fun _ _ _ _ _ _ us h => match us, h with | [_, _, _], _ => rfl)) all_nil)
  have h__law_parsed_0 : Gf l.prog w K mg base "_law_parsed" 3 (c__law_parsed 0) b__law_parsed := gf_mk (ps := ["_law_wording", "_law_spot", "_law_left"]) (He.glo_ok KX G (c.fact 57)) F__law_parsed (fn_no no__law_parsed) (all_cons (bind0 F__law_parsed 3 rfl (fun _ _ _ _ _ _ us h => match us, h with | [_, _, _], _ => rfl)) all_nil)
  have h__law_row_parsed_0 : Gf l.prog w K mg base "_law_row_parsed" 4 (c__law_row_parsed 0) b__law_row_parsed := gf_mk (ps := ["_law_wording", "_law_spot", "_law_left"]) (He.glo_ok KX G (c.fact 58)) F__law_row_parsed (ok__law_row_parsed T (by decide) h__law_parsed_0 h__law_mark F__law_row_parsed) (all_cons (bind0 F__law_row_parsed 3 rfl (fun _ _ _ _ _ _ us h => match us, h with | [_, _, _], _ => rfl)) all_nil)
  have h__law_parsed_1 : Gf l.prog w K mg base "_law_parsed" 5 (c__law_parsed 1) b__law_parsed := gf_mk (ps := ["_law_wording", "_law_spot", "_law_left"]) (He.glo_ok KX G (c.fact 57)) F__law_parsed (ok__law_parsed T (by decide) h__law_parsed_0 h__law_row_parsed_0 h__law_mark h__law_figure h__law_taken_signs F__law_parsed) (all_cons (bind0 F__law_parsed 3 rfl (fun _ _ _ _ _ _ us h => match us, h with | [_, _, _], _ => rfl)) all_nil)
  have h__law_row_parsed_1 : Gf l.prog w K mg base "_law_row_parsed" 6 (c__law_row_parsed 1) b__law_row_parsed := gf_mk (ps := ["_law_wording", "_law_spot", "_law_left"]) (He.glo_ok KX G (c.fact 58)) F__law_row_parsed (ok__law_row_parsed T (by decide) h__law_parsed_1 h__law_mark F__law_row_parsed) (all_cons (bind0 F__law_row_parsed 3 rfl (fun _ _ _ _ _ _ us h => match us, h with | [_, _, _], _ => rfl)) all_nil)
  have h__law_parsed_2 : Gf l.prog w K mg base "_law_parsed" 7 (c__law_parsed 2) b__law_parsed := gf_mk (ps := ["_law_wording", "_law_spot", "_law_left"]) (He.glo_ok KX G (c.fact 57)) F__law_parsed (ok__law_parsed T (by decide) h__law_parsed_1 h__law_row_parsed_1 h__law_mark h__law_figure h__law_taken_signs F__law_parsed) (all_cons (bind0 F__law_parsed 3 rfl (fun _ _ _ _ _ _ us h => match us, h with | [_, _, _], _ => rfl)) all_nil)
  have h__law_row_parsed_2 : Gf l.prog w K mg base "_law_row_parsed" 8 (c__law_row_parsed 2) b__law_row_parsed := gf_mk (ps := ["_law_wording", "_law_spot", "_law_left"]) (He.glo_ok KX G (c.fact 58)) F__law_row_parsed (ok__law_row_parsed T (by decide) h__law_parsed_2 h__law_mark F__law_row_parsed) (all_cons (bind0 F__law_row_parsed 3 rfl (fun _ _ _ _ _ _ us h => match us, h with | [_, _, _], _ => rfl)) all_nil)
  have h__law_parsed_3 : Gf l.prog w K mg base "_law_parsed" 9 (c__law_parsed 3) b__law_parsed := gf_mk (ps := ["_law_wording", "_law_spot", "_law_left"]) (He.glo_ok KX G (c.fact 57)) F__law_parsed (ok__law_parsed T (by decide) h__law_parsed_2 h__law_row_parsed_2 h__law_mark h__law_figure h__law_taken_signs F__law_parsed) (all_cons (bind0 F__law_parsed 3 rfl (fun _ _ _ _ _ _ us h => match us, h with | [_, _, _], _ => rfl)) all_nil)
  have h__law_row_parsed_3 : Gf l.prog w K mg base "_law_row_parsed" 10 (c__law_row_parsed 3) b__law_row_parsed := gf_mk (ps := ["_law_wording", "_law_spot", "_law_left"]) (He.glo_ok KX G (c.fact 58)) F__law_row_parsed (ok__law_row_parsed T (by decide) h__law_parsed_3 h__law_mark F__law_row_parsed) (all_cons (bind0 F__law_row_parsed 3 rfl (fun _ _ _ _ _ _ us h => match us, h with | [_, _, _], _ => rfl)) all_nil)
  have h__law_parsed_4 : Gf l.prog w K mg base "_law_parsed" 11 (c__law_parsed 4) b__law_parsed := gf_mk (ps := ["_law_wording", "_law_spot", "_law_left"]) (He.glo_ok KX G (c.fact 57)) F__law_parsed (ok__law_parsed T (by decide) h__law_parsed_3 h__law_row_parsed_3 h__law_mark h__law_figure h__law_taken_signs F__law_parsed) (all_cons (bind0 F__law_parsed 3 rfl (fun _ _ _ _ _ _ us h => match us, h with | [_, _, _], _ => rfl)) all_nil)
  have h__law_row_parsed_4 : Gf l.prog w K mg base "_law_row_parsed" 12 (c__law_row_parsed 4) b__law_row_parsed := gf_mk (ps := ["_law_wording", "_law_spot", "_law_left"]) (He.glo_ok KX G (c.fact 58)) F__law_row_parsed (ok__law_row_parsed T (by decide) h__law_parsed_4 h__law_mark F__law_row_parsed) (all_cons (bind0 F__law_row_parsed 3 rfl (fun _ _ _ _ _ _ us h => match us, h with | [_, _, _], _ => rfl)) all_nil)
  have h__law_parsed_5 : Gf l.prog w K mg base "_law_parsed" 13 (c__law_parsed 5) b__law_parsed := gf_mk (ps := ["_law_wording", "_law_spot", "_law_left"]) (He.glo_ok KX G (c.fact 57)) F__law_parsed (ok__law_parsed T (by decide) h__law_parsed_4 h__law_row_parsed_4 h__law_mark h__law_figure h__law_taken_signs F__law_parsed) (all_cons (bind0 F__law_parsed 3 rfl (fun _ _ _ _ _ _ us h => match us, h with | [_, _, _], _ => rfl)) all_nil)
  have h__law_row_parsed_5 : Gf l.prog w K mg base "_law_row_parsed" 14 (c__law_row_parsed 5) b__law_row_parsed := gf_mk (ps := ["_law_wording", "_law_spot", "_law_left"]) (He.glo_ok KX G (c.fact 58)) F__law_row_parsed (ok__law_row_parsed T (by decide) h__law_parsed_5 h__law_mark F__law_row_parsed) (all_cons (bind0 F__law_row_parsed 3 rfl (fun _ _ _ _ _ _ us h => match us, h with | [_, _, _], _ => rfl)) all_nil)
  have h__law_parsed_6 : Gf l.prog w K mg base "_law_parsed" 15 (c__law_parsed 6) b__law_parsed := gf_mk (ps := ["_law_wording", "_law_spot", "_law_left"]) (He.glo_ok KX G (c.fact 57)) F__law_parsed (ok__law_parsed T (by decide) h__law_parsed_5 h__law_row_parsed_5 h__law_mark h__law_figure h__law_taken_signs F__law_parsed) (all_cons (bind0 F__law_parsed 3 rfl (fun _ _ _ _ _ _ us h => match us, h with | [_, _, _], _ => rfl)) all_nil)
  have h__law_row_parsed_6 : Gf l.prog w K mg base "_law_row_parsed" 16 (c__law_row_parsed 6) b__law_row_parsed := gf_mk (ps := ["_law_wording", "_law_spot", "_law_left"]) (He.glo_ok KX G (c.fact 58)) F__law_row_parsed (ok__law_row_parsed T (by decide) h__law_parsed_6 h__law_mark F__law_row_parsed) (all_cons (bind0 F__law_row_parsed 3 rfl (fun _ _ _ _ _ _ us h => match us, h with | [_, _, _], _ => rfl)) all_nil)
  have h__law_parsed_7 : Gf l.prog w K mg base "_law_parsed" 17 (c__law_parsed 7) b__law_parsed := gf_mk (ps := ["_law_wording", "_law_spot", "_law_left"]) (He.glo_ok KX G (c.fact 57)) F__law_parsed (ok__law_parsed T (by decide) h__law_parsed_6 h__law_row_parsed_6 h__law_mark h__law_figure h__law_taken_signs F__law_parsed) (all_cons (bind0 F__law_parsed 3 rfl (fun _ _ _ _ _ _ us h => match us, h with | [_, _, _], _ => rfl)) all_nil)
  have h__law_row_parsed_7 : Gf l.prog w K mg base "_law_row_parsed" 18 (c__law_row_parsed 7) b__law_row_parsed := gf_mk (ps := ["_law_wording", "_law_spot", "_law_left"]) (He.glo_ok KX G (c.fact 58)) F__law_row_parsed (ok__law_row_parsed T (by decide) h__law_parsed_7 h__law_mark F__law_row_parsed) (all_cons (bind0 F__law_row_parsed 3 rfl (fun _ _ _ _ _ _ us h => match us, h with | [_, _, _], _ => rfl)) all_nil)
  have h__law_parsed_8 : Gf l.prog w K mg base "_law_parsed" 19 (c__law_parsed 8) b__law_parsed := gf_mk (ps := ["_law_wording", "_law_spot", "_law_left"]) (He.glo_ok KX G (c.fact 57)) F__law_parsed (ok__law_parsed T (by decide) h__law_parsed_7 h__law_row_parsed_7 h__law_mark h__law_figure h__law_taken_signs F__law_parsed) (all_cons (bind0 F__law_parsed 3 rfl (fun _ _ _ _ _ _ us h => match us, h with | [_, _, _], _ => rfl)) all_nil)
  have h__law_row_parsed_8 : Gf l.prog w K mg base "_law_row_parsed" 20 (c__law_row_parsed 8) b__law_row_parsed := gf_mk (ps := ["_law_wording", "_law_spot", "_law_left"]) (He.glo_ok KX G (c.fact 58)) F__law_row_parsed (ok__law_row_parsed T (by decide) h__law_parsed_8 h__law_mark F__law_row_parsed) (all_cons (bind0 F__law_row_parsed 3 rfl (fun _ _ _ _ _ _ us h => match us, h with | [_, _, _], _ => rfl)) all_nil)
  have h__law_parsed_9 : Gf l.prog w K mg base "_law_parsed" 21 (c__law_parsed 9) b__law_parsed := gf_mk (ps := ["_law_wording", "_law_spot", "_law_left"]) (He.glo_ok KX G (c.fact 57)) F__law_parsed (ok__law_parsed T (by decide) h__law_parsed_8 h__law_row_parsed_8 h__law_mark h__law_figure h__law_taken_signs F__law_parsed) (all_cons (bind0 F__law_parsed 3 rfl (fun _ _ _ _ _ _ us h => match us, h with | [_, _, _], _ => rfl)) all_nil)
  have h__law_row_parsed_9 : Gf l.prog w K mg base "_law_row_parsed" 22 (c__law_row_parsed 9) b__law_row_parsed := gf_mk (ps := ["_law_wording", "_law_spot", "_law_left"]) (He.glo_ok KX G (c.fact 58)) F__law_row_parsed (ok__law_row_parsed T (by decide) h__law_parsed_9 h__law_mark F__law_row_parsed) (all_cons (bind0 F__law_row_parsed 3 rfl (fun _ _ _ _ _ _ us h => match us, h with | [_, _, _], _ => rfl)) all_nil)
  have h__law_parsed_10 : Gf l.prog w K mg base "_law_parsed" 23 (c__law_parsed 10) b__law_parsed := gf_mk (ps := ["_law_wording", "_law_spot", "_law_left"]) (He.glo_ok KX G (c.fact 57)) F__law_parsed (ok__law_parsed T (by decide) h__law_parsed_9 h__law_row_parsed_9 h__law_mark h__law_figure h__law_taken_signs F__law_parsed) (all_cons (bind0 F__law_parsed 3 rfl (fun _ _ _ _ _ _ us h => match us, h with | [_, _, _], _ => rfl)) all_nil)
  have h__law_parsed := h__law_parsed_10
  have h__law_det : Gf l.prog w K mg base "_law_det" 2 (c__law_det) b__law_det := gf_mk (He.glo_ok KX G (c.fact 59)) F__law_det (ok__law_det T F__law_det) (all_cons (bind0 F__law_det 1 rfl (fun _ _ _ _ _ _ us h => match us, h with | [_], _ => rfl)) all_nil)
  have h__law_is_whole : Gf l.prog w K mg base "_law_is_whole" 2 (c__law_is_whole) b__law_is_whole := gf_mk (He.glo_ok KX G (c.fact 60)) F__law_is_whole (ok__law_is_whole T F__law_is_whole) (all_cons (bind0 F__law_is_whole 3 rfl (fun _ _ _ _ _ _ us h => match us, h with | [_, _, _], _ => rfl)) all_nil)
  have h__law_is_name : Gf l.prog w K mg base "_law_is_name" 2 (c__law_is_name) b__law_is_name := gf_mk (He.glo_ok KX G (c.fact 61)) F__law_is_name (ok__law_is_name T F__law_is_name) (all_cons (bind0 F__law_is_name 1 rfl (fun _ _ _ _ _ _ us h => match us, h with | [_], _ => rfl)) all_nil)
  have h__law_is_part : Gf l.prog w K mg base "_law_is_part" 3 (c__law_is_part) b__law_is_part := gf_mk (He.glo_ok KX G (c.fact 62)) F__law_is_part (ok__law_is_part T h__law_det h__law_is_whole h__law_is_name F__law_is_part) (all_cons (bind0 F__law_is_part 1 rfl (fun _ _ _ _ _ _ us h => match us, h with | [_], _ => rfl)) all_nil)
  have h__law_inner : Gf l.prog w K mg base "_law_inner" 2 (c__law_inner) b__law_inner := gf_mk (He.glo_ok KX G (c.fact 63)) F__law_inner (ok__law_inner T F__law_inner) (all_cons (bind0 F__law_inner 1 rfl (fun _ _ _ _ _ _ us h => match us, h with | [_], _ => rfl)) all_nil)
  have h__law_wrong : Gf l.prog w K mg base "_law_wrong" 4 (c__law_wrong) b__law_wrong := gf_mk (He.glo_ok KX G (c.fact 64)) F__law_wrong (ok__law_wrong T h__law_is_part h__law_inner F__law_wrong) (all_cons (bind0 F__law_wrong 1 rfl (fun _ _ _ _ _ _ us h => match us, h with | [_], _ => rfl)) all_nil)
  have h__law_reading : Gf l.prog w K mg base "_law_reading" 24 (c__law_reading) b__law_reading := gf_mk (He.glo_ok KX G (c.fact 65)) F__law_reading (ok__law_reading T h__law_parsed h__law_wrong h__law_text F__law_reading) (all_cons (bind0 F__law_reading 1 rfl (fun _ _ _ _ _ _ us h => match us, h with | [_], _ => rfl)) all_nil)
  have h__law_same_0 : Gf l.prog w K mg base "_law_same" 1 (c__law_same 0) b__law_same := gf_mk (ps := ["_law_found", "_law_due"]) (He.glo_ok KX G (c.fact 66)) F__law_same (fn_no no__law_same) (all_cons (bind0 F__law_same 2 rfl (fun _ _ _ _ _ _ us h => match us, h with | [_, _], _ => rfl)) all_nil)
  have h__law_same_1 : Gf l.prog w K mg base "_law_same" 2 (c__law_same 1) b__law_same := gf_mk (ps := ["_law_found", "_law_due"]) (He.glo_ok KX G (c.fact 66)) F__law_same (ok__law_same T (by decide) h__law_same_0 F__law_same) (all_cons (bind0 F__law_same 2 rfl (fun _ _ _ _ _ _ us h => match us, h with | [_, _], _ => rfl)) all_nil)
  have h__law_same_2 : Gf l.prog w K mg base "_law_same" 3 (c__law_same 2) b__law_same := gf_mk (ps := ["_law_found", "_law_due"]) (He.glo_ok KX G (c.fact 66)) F__law_same (ok__law_same T (by decide) h__law_same_1 F__law_same) (all_cons (bind0 F__law_same 2 rfl (fun _ _ _ _ _ _ us h => match us, h with | [_, _], _ => rfl)) all_nil)
  have h__law_same_3 : Gf l.prog w K mg base "_law_same" 4 (c__law_same 3) b__law_same := gf_mk (ps := ["_law_found", "_law_due"]) (He.glo_ok KX G (c.fact 66)) F__law_same (ok__law_same T (by decide) h__law_same_2 F__law_same) (all_cons (bind0 F__law_same 2 rfl (fun _ _ _ _ _ _ us h => match us, h with | [_, _], _ => rfl)) all_nil)
  have h__law_same_4 : Gf l.prog w K mg base "_law_same" 5 (c__law_same 4) b__law_same := gf_mk (ps := ["_law_found", "_law_due"]) (He.glo_ok KX G (c.fact 66)) F__law_same (ok__law_same T (by decide) h__law_same_3 F__law_same) (all_cons (bind0 F__law_same 2 rfl (fun _ _ _ _ _ _ us h => match us, h with | [_, _], _ => rfl)) all_nil)
  have h__law_same_5 : Gf l.prog w K mg base "_law_same" 6 (c__law_same 5) b__law_same := gf_mk (ps := ["_law_found", "_law_due"]) (He.glo_ok KX G (c.fact 66)) F__law_same (ok__law_same T (by decide) h__law_same_4 F__law_same) (all_cons (bind0 F__law_same 2 rfl (fun _ _ _ _ _ _ us h => match us, h with | [_, _], _ => rfl)) all_nil)
  have h__law_same_6 : Gf l.prog w K mg base "_law_same" 7 (c__law_same 6) b__law_same := gf_mk (ps := ["_law_found", "_law_due"]) (He.glo_ok KX G (c.fact 66)) F__law_same (ok__law_same T (by decide) h__law_same_5 F__law_same) (all_cons (bind0 F__law_same 2 rfl (fun _ _ _ _ _ _ us h => match us, h with | [_, _], _ => rfl)) all_nil)
  have h__law_same_7 : Gf l.prog w K mg base "_law_same" 8 (c__law_same 7) b__law_same := gf_mk (ps := ["_law_found", "_law_due"]) (He.glo_ok KX G (c.fact 66)) F__law_same (ok__law_same T (by decide) h__law_same_6 F__law_same) (all_cons (bind0 F__law_same 2 rfl (fun _ _ _ _ _ _ us h => match us, h with | [_, _], _ => rfl)) all_nil)
  have h__law_same_8 : Gf l.prog w K mg base "_law_same" 9 (c__law_same 8) b__law_same := gf_mk (ps := ["_law_found", "_law_due"]) (He.glo_ok KX G (c.fact 66)) F__law_same (ok__law_same T (by decide) h__law_same_7 F__law_same) (all_cons (bind0 F__law_same 2 rfl (fun _ _ _ _ _ _ us h => match us, h with | [_, _], _ => rfl)) all_nil)
  have h__law_same_9 : Gf l.prog w K mg base "_law_same" 10 (c__law_same 9) b__law_same := gf_mk (ps := ["_law_found", "_law_due"]) (He.glo_ok KX G (c.fact 66)) F__law_same (ok__law_same T (by decide) h__law_same_8 F__law_same) (all_cons (bind0 F__law_same 2 rfl (fun _ _ _ _ _ _ us h => match us, h with | [_, _], _ => rfl)) all_nil)
  have h__law_same_10 : Gf l.prog w K mg base "_law_same" 11 (c__law_same 10) b__law_same := gf_mk (ps := ["_law_found", "_law_due"]) (He.glo_ok KX G (c.fact 66)) F__law_same (ok__law_same T (by decide) h__law_same_9 F__law_same) (all_cons (bind0 F__law_same 2 rfl (fun _ _ _ _ _ _ us h => match us, h with | [_, _], _ => rfl)) all_nil)
  have h__law_same_11 : Gf l.prog w K mg base "_law_same" 12 (c__law_same 11) b__law_same := gf_mk (ps := ["_law_found", "_law_due"]) (He.glo_ok KX G (c.fact 66)) F__law_same (ok__law_same T (by decide) h__law_same_10 F__law_same) (all_cons (bind0 F__law_same 2 rfl (fun _ _ _ _ _ _ us h => match us, h with | [_, _], _ => rfl)) all_nil)
  have h__law_same_12 : Gf l.prog w K mg base "_law_same" 13 (c__law_same 12) b__law_same := gf_mk (ps := ["_law_found", "_law_due"]) (He.glo_ok KX G (c.fact 66)) F__law_same (ok__law_same T (by decide) h__law_same_11 F__law_same) (all_cons (bind0 F__law_same 2 rfl (fun _ _ _ _ _ _ us h => match us, h with | [_, _], _ => rfl)) all_nil)
  have h__law_same := h__law_same_12
  have c_Reader : Cf l.prog w K mg base "Reader" (He.ga K "Reader") 2 (c_Readerd_initd (He.ga K "Reader")) b_Readerd_initd := cf_mk (He.glo_ok KX G (c.fact 67)) (mkrF_ok (c.fact 68)) (ok_Readerd_initd T F_Readerd_initd) (all_cons (bind0 F_Readerd_initd 2 rfl (fun _ _ _ _ _ _ us h => match us, h with | [_, _], _ => rfl)) all_nil)
  have h_Reader_take : Mf l.prog w K mg base (He.ga K "Reader") "take" 2 (c_Reader_take (He.ga K "Reader")) b_Reader_take := mf_mk (methF_ok (c.fact 69)) (ok_Reader_take T F_Reader_take) (all_cons (bind0 F_Reader_take 2 rfl (fun _ _ _ _ _ _ us h => match us, h with | [_, _], _ => rfl)) all_nil)
  have h_Reader_need : Mf l.prog w K mg base (He.ga K "Reader") "need" 3 (c_Reader_need (He.ga K "Reader") (He.ga K "ParseError")) b_Reader_need := mf_mk (methF_ok (c.fact 70)) (ok_Reader_need T h_Reader_take x_ParseError F_Reader_need) (all_cons (bind0 F_Reader_need 2 rfl (fun _ _ _ _ _ _ us h => match us, h with | [_, _], _ => rfl)) all_nil)
  have h_number_in : Gf l.prog w K mg base "number_in" 2 (c_number_in) b_number_in := gf_mk (He.glo_ok KX G (c.fact 71)) F_number_in (ok_number_in T F_number_in) (all_cons (bind0 F_number_in 1 rfl (fun _ _ _ _ _ _ us h => match us, h with | [_], _ => rfl)) all_nil)
  have h_Reader_taken : Mf l.prog w K mg base (He.ga K "Reader") "taken" 2 (c_Reader_taken (He.ga K "Reader")) b_Reader_taken := mf_mk (methF_ok (c.fact 72)) (ok_Reader_taken T F_Reader_taken) (all_cons (bind0 F_Reader_taken 2 rfl (fun _ _ _ _ _ _ us h => match us, h with | [_, _], _ => rfl)) all_nil)
  have h_Reader_numeral : Mf l.prog w K mg base (He.ga K "Reader") "numeral" 3 (c_Reader_numeral (He.ga K "Reader") (He.ga K "ParseError")) b_Reader_numeral := mf_mk (methF_ok (c.fact 73)) (ok_Reader_numeral T h_number_in h_Reader_taken x_ParseError F_Reader_numeral) (all_cons (bind0 F_Reader_numeral 1 rfl (fun _ _ _ _ _ _ us h => match us, h with | [_], _ => rfl)) all_nil)
  have h_Reader_entries : Mf l.prog w K mg base (He.ga K "Reader") "entries" 4 (c_Reader_entries (He.ga K "Reader") (He.ga K "ParseError")) b_Reader_entries := mf_mk (methF_ok (c.fact 74)) (ok_Reader_entries T h_Reader_numeral h_Reader_need F_Reader_entries) (all_cons (bind0 F_Reader_entries 1 rfl (fun _ _ _ _ _ _ us h => match us, h with | [_], _ => rfl)) all_nil)
  have h_Reader_program_0 : Mf l.prog w K mg base (He.ga K "Reader") "program" 4 (c_Reader_program 0 (He.ga K "Reader") (He.ga K "ParseError")) b_Reader_program := mf_mk (ps := ["self", "left"]) (methF_ok (c.fact 75)) (fn_no no_Reader_program) (all_cons (bind0 F_Reader_program 2 rfl (fun _ _ _ _ _ _ us h => match us, h with | [_, _], _ => rfl)) all_nil)
  have h_Reader_row_of_parts_0 : Mf l.prog w K mg base (He.ga K "Reader") "row_of_parts" 5 (c_Reader_row_of_parts 0 (He.ga K "Reader") (He.ga K "ParseError")) b_Reader_row_of_parts := mf_mk (ps := ["self", "left"]) (methF_ok (c.fact 76)) (ok_Reader_row_of_parts T (by decide) h_Reader_program_0 h_Reader_take h_Reader_need F_Reader_row_of_parts) (all_cons (bind0 F_Reader_row_of_parts 2 rfl (fun _ _ _ _ _ _ us h => match us, h with | [_, _], _ => rfl)) all_nil)
  have h_Reader_program_1 : Mf l.prog w K mg base (He.ga K "Reader") "program" 6 (c_Reader_program 1 (He.ga K "Reader") (He.ga K "ParseError")) b_Reader_program := mf_mk (ps := ["self", "left"]) (methF_ok (c.fact 75)) (ok_Reader_program T (by decide) h_Reader_program_0 h_Reader_row_of_parts_0 h_Reader_take h_Reader_entries h_Reader_taken h_Reader_numeral h_Reader_need x_ParseError F_Reader_program) (all_cons (bind0 F_Reader_program 2 rfl (fun _ _ _ _ _ _ us h => match us, h with | [_, _], _ => rfl)) all_nil)
  have h_Reader_row_of_parts_1 : Mf l.prog w K mg base (He.ga K "Reader") "row_of_parts" 7 (c_Reader_row_of_parts 1 (He.ga K "Reader") (He.ga K "ParseError")) b_Reader_row_of_parts := mf_mk (ps := ["self", "left"]) (methF_ok (c.fact 76)) (ok_Reader_row_of_parts T (by decide) h_Reader_program_1 h_Reader_take h_Reader_need F_Reader_row_of_parts) (all_cons (bind0 F_Reader_row_of_parts 2 rfl (fun _ _ _ _ _ _ us h => match us, h with | [_, _], _ => rfl)) all_nil)
  have h_Reader_program_2 : Mf l.prog w K mg base (He.ga K "Reader") "program" 8 (c_Reader_program 2 (He.ga K "Reader") (He.ga K "ParseError")) b_Reader_program := mf_mk (ps := ["self", "left"]) (methF_ok (c.fact 75)) (ok_Reader_program T (by decide) h_Reader_program_1 h_Reader_row_of_parts_1 h_Reader_take h_Reader_entries h_Reader_taken h_Reader_numeral h_Reader_need x_ParseError F_Reader_program) (all_cons (bind0 F_Reader_program 2 rfl (fun _ _ _ _ _ _ us h => match us, h with | [_, _], _ => rfl)) all_nil)
  have h_Reader_row_of_parts_2 : Mf l.prog w K mg base (He.ga K "Reader") "row_of_parts" 9 (c_Reader_row_of_parts 2 (He.ga K "Reader") (He.ga K "ParseError")) b_Reader_row_of_parts := mf_mk (ps := ["self", "left"]) (methF_ok (c.fact 76)) (ok_Reader_row_of_parts T (by decide) h_Reader_program_2 h_Reader_take h_Reader_need F_Reader_row_of_parts) (all_cons (bind0 F_Reader_row_of_parts 2 rfl (fun _ _ _ _ _ _ us h => match us, h with | [_, _], _ => rfl)) all_nil)
  have h_Reader_program_3 : Mf l.prog w K mg base (He.ga K "Reader") "program" 10 (c_Reader_program 3 (He.ga K "Reader") (He.ga K "ParseError")) b_Reader_program := mf_mk (ps := ["self", "left"]) (methF_ok (c.fact 75)) (ok_Reader_program T (by decide) h_Reader_program_2 h_Reader_row_of_parts_2 h_Reader_take h_Reader_entries h_Reader_taken h_Reader_numeral h_Reader_need x_ParseError F_Reader_program) (all_cons (bind0 F_Reader_program 2 rfl (fun _ _ _ _ _ _ us h => match us, h with | [_, _], _ => rfl)) all_nil)
  have h_Reader_row_of_parts_3 : Mf l.prog w K mg base (He.ga K "Reader") "row_of_parts" 11 (c_Reader_row_of_parts 3 (He.ga K "Reader") (He.ga K "ParseError")) b_Reader_row_of_parts := mf_mk (ps := ["self", "left"]) (methF_ok (c.fact 76)) (ok_Reader_row_of_parts T (by decide) h_Reader_program_3 h_Reader_take h_Reader_need F_Reader_row_of_parts) (all_cons (bind0 F_Reader_row_of_parts 2 rfl (fun _ _ _ _ _ _ us h => match us, h with | [_, _], _ => rfl)) all_nil)
  have h_Reader_program_4 : Mf l.prog w K mg base (He.ga K "Reader") "program" 12 (c_Reader_program 4 (He.ga K "Reader") (He.ga K "ParseError")) b_Reader_program := mf_mk (ps := ["self", "left"]) (methF_ok (c.fact 75)) (ok_Reader_program T (by decide) h_Reader_program_3 h_Reader_row_of_parts_3 h_Reader_take h_Reader_entries h_Reader_taken h_Reader_numeral h_Reader_need x_ParseError F_Reader_program) (all_cons (bind0 F_Reader_program 2 rfl (fun _ _ _ _ _ _ us h => match us, h with | [_, _], _ => rfl)) all_nil)
  have h_Reader_row_of_parts_4 : Mf l.prog w K mg base (He.ga K "Reader") "row_of_parts" 13 (c_Reader_row_of_parts 4 (He.ga K "Reader") (He.ga K "ParseError")) b_Reader_row_of_parts := mf_mk (ps := ["self", "left"]) (methF_ok (c.fact 76)) (ok_Reader_row_of_parts T (by decide) h_Reader_program_4 h_Reader_take h_Reader_need F_Reader_row_of_parts) (all_cons (bind0 F_Reader_row_of_parts 2 rfl (fun _ _ _ _ _ _ us h => match us, h with | [_, _], _ => rfl)) all_nil)
  have h_Reader_program_5 : Mf l.prog w K mg base (He.ga K "Reader") "program" 14 (c_Reader_program 5 (He.ga K "Reader") (He.ga K "ParseError")) b_Reader_program := mf_mk (ps := ["self", "left"]) (methF_ok (c.fact 75)) (ok_Reader_program T (by decide) h_Reader_program_4 h_Reader_row_of_parts_4 h_Reader_take h_Reader_entries h_Reader_taken h_Reader_numeral h_Reader_need x_ParseError F_Reader_program) (all_cons (bind0 F_Reader_program 2 rfl (fun _ _ _ _ _ _ us h => match us, h with | [_, _], _ => rfl)) all_nil)
  have h_Reader_row_of_parts_5 : Mf l.prog w K mg base (He.ga K "Reader") "row_of_parts" 15 (c_Reader_row_of_parts 5 (He.ga K "Reader") (He.ga K "ParseError")) b_Reader_row_of_parts := mf_mk (ps := ["self", "left"]) (methF_ok (c.fact 76)) (ok_Reader_row_of_parts T (by decide) h_Reader_program_5 h_Reader_take h_Reader_need F_Reader_row_of_parts) (all_cons (bind0 F_Reader_row_of_parts 2 rfl (fun _ _ _ _ _ _ us h => match us, h with | [_, _], _ => rfl)) all_nil)
  have h_Reader_program_6 : Mf l.prog w K mg base (He.ga K "Reader") "program" 16 (c_Reader_program 6 (He.ga K "Reader") (He.ga K "ParseError")) b_Reader_program := mf_mk (ps := ["self", "left"]) (methF_ok (c.fact 75)) (ok_Reader_program T (by decide) h_Reader_program_5 h_Reader_row_of_parts_5 h_Reader_take h_Reader_entries h_Reader_taken h_Reader_numeral h_Reader_need x_ParseError F_Reader_program) (all_cons (bind0 F_Reader_program 2 rfl (fun _ _ _ _ _ _ us h => match us, h with | [_, _], _ => rfl)) all_nil)
  have h_Reader_row_of_parts_6 : Mf l.prog w K mg base (He.ga K "Reader") "row_of_parts" 17 (c_Reader_row_of_parts 6 (He.ga K "Reader") (He.ga K "ParseError")) b_Reader_row_of_parts := mf_mk (ps := ["self", "left"]) (methF_ok (c.fact 76)) (ok_Reader_row_of_parts T (by decide) h_Reader_program_6 h_Reader_take h_Reader_need F_Reader_row_of_parts) (all_cons (bind0 F_Reader_row_of_parts 2 rfl (fun _ _ _ _ _ _ us h => match us, h with | [_, _], _ => rfl)) all_nil)
  have h_Reader_program_7 : Mf l.prog w K mg base (He.ga K "Reader") "program" 18 (c_Reader_program 7 (He.ga K "Reader") (He.ga K "ParseError")) b_Reader_program := mf_mk (ps := ["self", "left"]) (methF_ok (c.fact 75)) (ok_Reader_program T (by decide) h_Reader_program_6 h_Reader_row_of_parts_6 h_Reader_take h_Reader_entries h_Reader_taken h_Reader_numeral h_Reader_need x_ParseError F_Reader_program) (all_cons (bind0 F_Reader_program 2 rfl (fun _ _ _ _ _ _ us h => match us, h with | [_, _], _ => rfl)) all_nil)
  have h_Reader_row_of_parts_7 : Mf l.prog w K mg base (He.ga K "Reader") "row_of_parts" 19 (c_Reader_row_of_parts 7 (He.ga K "Reader") (He.ga K "ParseError")) b_Reader_row_of_parts := mf_mk (ps := ["self", "left"]) (methF_ok (c.fact 76)) (ok_Reader_row_of_parts T (by decide) h_Reader_program_7 h_Reader_take h_Reader_need F_Reader_row_of_parts) (all_cons (bind0 F_Reader_row_of_parts 2 rfl (fun _ _ _ _ _ _ us h => match us, h with | [_, _], _ => rfl)) all_nil)
  have h_Reader_program_8 : Mf l.prog w K mg base (He.ga K "Reader") "program" 20 (c_Reader_program 8 (He.ga K "Reader") (He.ga K "ParseError")) b_Reader_program := mf_mk (ps := ["self", "left"]) (methF_ok (c.fact 75)) (ok_Reader_program T (by decide) h_Reader_program_7 h_Reader_row_of_parts_7 h_Reader_take h_Reader_entries h_Reader_taken h_Reader_numeral h_Reader_need x_ParseError F_Reader_program) (all_cons (bind0 F_Reader_program 2 rfl (fun _ _ _ _ _ _ us h => match us, h with | [_, _], _ => rfl)) all_nil)
  have h_Reader_row_of_parts_8 : Mf l.prog w K mg base (He.ga K "Reader") "row_of_parts" 21 (c_Reader_row_of_parts 8 (He.ga K "Reader") (He.ga K "ParseError")) b_Reader_row_of_parts := mf_mk (ps := ["self", "left"]) (methF_ok (c.fact 76)) (ok_Reader_row_of_parts T (by decide) h_Reader_program_8 h_Reader_take h_Reader_need F_Reader_row_of_parts) (all_cons (bind0 F_Reader_row_of_parts 2 rfl (fun _ _ _ _ _ _ us h => match us, h with | [_, _], _ => rfl)) all_nil)
  have h_Reader_program_9 : Mf l.prog w K mg base (He.ga K "Reader") "program" 22 (c_Reader_program 9 (He.ga K "Reader") (He.ga K "ParseError")) b_Reader_program := mf_mk (ps := ["self", "left"]) (methF_ok (c.fact 75)) (ok_Reader_program T (by decide) h_Reader_program_8 h_Reader_row_of_parts_8 h_Reader_take h_Reader_entries h_Reader_taken h_Reader_numeral h_Reader_need x_ParseError F_Reader_program) (all_cons (bind0 F_Reader_program 2 rfl (fun _ _ _ _ _ _ us h => match us, h with | [_, _], _ => rfl)) all_nil)
  have h_Reader_row_of_parts_9 : Mf l.prog w K mg base (He.ga K "Reader") "row_of_parts" 23 (c_Reader_row_of_parts 9 (He.ga K "Reader") (He.ga K "ParseError")) b_Reader_row_of_parts := mf_mk (ps := ["self", "left"]) (methF_ok (c.fact 76)) (ok_Reader_row_of_parts T (by decide) h_Reader_program_9 h_Reader_take h_Reader_need F_Reader_row_of_parts) (all_cons (bind0 F_Reader_row_of_parts 2 rfl (fun _ _ _ _ _ _ us h => match us, h with | [_, _], _ => rfl)) all_nil)
  have h_Reader_program_10 : Mf l.prog w K mg base (He.ga K "Reader") "program" 24 (c_Reader_program 10 (He.ga K "Reader") (He.ga K "ParseError")) b_Reader_program := mf_mk (ps := ["self", "left"]) (methF_ok (c.fact 75)) (ok_Reader_program T (by decide) h_Reader_program_9 h_Reader_row_of_parts_9 h_Reader_take h_Reader_entries h_Reader_taken h_Reader_numeral h_Reader_need x_ParseError F_Reader_program) (all_cons (bind0 F_Reader_program 2 rfl (fun _ _ _ _ _ _ us h => match us, h with | [_, _], _ => rfl)) all_nil)
  have h_Reader_program := h_Reader_program_10
  have h_is_name : Gf l.prog w K mg base "is_name" 2 (c_is_name) b_is_name := gf_mk (He.glo_ok KX G (c.fact 77)) F_is_name (ok_is_name T F_is_name) (all_cons (bind0 F_is_name 1 rfl (fun _ _ _ _ _ _ us h => match us, h with | [_], _ => rfl)) all_nil)
  have h_is_integer : Gf l.prog w K mg base "is_integer" 2 (c_is_integer) b_is_integer := gf_mk (He.glo_ok KX G (c.fact 78)) F_is_integer (ok_is_integer T F_is_integer) (all_cons (bind0 F_is_integer 1 rfl (fun _ _ _ _ _ _ us h => match us, h with | [_], _ => rfl)) all_nil)
  have h_is_within : Gf l.prog w K mg base "is_within" 3 (c_is_within) b_is_within := gf_mk (He.glo_ok KX G (c.fact 79)) F_is_within (ok_is_within T h_is_integer F_is_within) (all_cons (bind0 F_is_within 3 rfl (fun _ _ _ _ _ _ us h => match us, h with | [_, _, _], _ => rfl)) all_nil)
  have h_is_word : Gf l.prog w K mg base "is_word" 2 (c_is_word) b_is_word := gf_mk (He.glo_ok KX G (c.fact 80)) F_is_word (ok_is_word T F_is_word) (all_cons (bind0 F_is_word 1 rfl (fun _ _ _ _ _ _ us h => match us, h with | [_], _ => rfl)) all_nil)
  have h_are_entries : Gf l.prog w K mg base "are_entries" 4 (c_are_entries) b_are_entries := gf_mk (He.glo_ok KX G (c.fact 81)) F_are_entries (ok_are_entries T h_is_within F_are_entries) (all_cons (bind0 F_are_entries 1 rfl (fun _ _ _ _ _ _ us h => match us, h with | [_], _ => rfl)) all_nil)
  have h_is_part : Gf l.prog w K mg base "is_part" 5 (c_is_part) b_is_part := gf_mk (He.glo_ok KX G (c.fact 82)) F_is_part (ok_is_part T h_is_name h_is_within h_is_word h_are_entries F_is_part) (all_cons (bind0 F_is_part 1 rfl (fun _ _ _ _ _ _ us h => match us, h with | [_], _ => rfl)) all_nil)
  have h_inner_parts : Gf l.prog w K mg base "inner_parts" 2 (c_inner_parts) b_inner_parts := gf_mk (He.glo_ok KX G (c.fact 83)) F_inner_parts (ok_inner_parts T F_inner_parts) (all_cons (bind0 F_inner_parts 1 rfl (fun _ _ _ _ _ _ us h => match us, h with | [_], _ => rfl)) all_nil)
  have hN_check_program : GfN l.prog w K mg base "check_program" 6 (c_check_program (He.ga K "InvalidProgram")) b_check_program := ⟨_, fd_check_program, _, He.glo_ok KX G (c.fact 84), F_check_program.kp, (ok_check_program T h_is_part h_inner_parts x_InvalidProgram F_check_program), (all_cons (bind0 F_check_program 1 rfl (fun _ _ _ _ _ _ us h => match us, h with | [_], _ => rfl)) all_nil)⟩
  have h_check_program : Gf l.prog w K mg base "check_program" 6 (c_check_program (He.ga K "InvalidProgram")) b_check_program := gf_mk (He.glo_ok KX G (c.fact 84)) F_check_program (fn_ofN (ok_check_program T h_is_part h_inner_parts x_InvalidProgram F_check_program)) (all_cons (bind0 F_check_program 1 rfl (fun _ _ _ _ _ _ us h => match us, h with | [_], _ => rfl)) all_nil)
  have h_program_text_0 : Gf l.prog w K mg base "program_text" 1 (c_program_text 0) b_program_text := gf_mk (ps := ["program"]) (He.glo_ok KX G (c.fact 85)) F_program_text (fn_no no_program_text) (all_cons (bind0 F_program_text 1 rfl (fun _ _ _ _ _ _ us h => match us, h with | [_], _ => rfl)) all_nil)
  have h_program_text_1 : Gf l.prog w K mg base "program_text" 2 (c_program_text 1) b_program_text := gf_mk (ps := ["program"]) (He.glo_ok KX G (c.fact 85)) F_program_text (ok_program_text T (by decide) h_program_text_0 F_program_text) (all_cons (bind0 F_program_text 1 rfl (fun _ _ _ _ _ _ us h => match us, h with | [_], _ => rfl)) all_nil)
  have h_program_text_2 : Gf l.prog w K mg base "program_text" 3 (c_program_text 2) b_program_text := gf_mk (ps := ["program"]) (He.glo_ok KX G (c.fact 85)) F_program_text (ok_program_text T (by decide) h_program_text_1 F_program_text) (all_cons (bind0 F_program_text 1 rfl (fun _ _ _ _ _ _ us h => match us, h with | [_], _ => rfl)) all_nil)
  have h_program_text_3 : Gf l.prog w K mg base "program_text" 4 (c_program_text 3) b_program_text := gf_mk (ps := ["program"]) (He.glo_ok KX G (c.fact 85)) F_program_text (ok_program_text T (by decide) h_program_text_2 F_program_text) (all_cons (bind0 F_program_text 1 rfl (fun _ _ _ _ _ _ us h => match us, h with | [_], _ => rfl)) all_nil)
  have h_program_text_4 : Gf l.prog w K mg base "program_text" 5 (c_program_text 4) b_program_text := gf_mk (ps := ["program"]) (He.glo_ok KX G (c.fact 85)) F_program_text (ok_program_text T (by decide) h_program_text_3 F_program_text) (all_cons (bind0 F_program_text 1 rfl (fun _ _ _ _ _ _ us h => match us, h with | [_], _ => rfl)) all_nil)
  have h_program_text_5 : Gf l.prog w K mg base "program_text" 6 (c_program_text 5) b_program_text := gf_mk (ps := ["program"]) (He.glo_ok KX G (c.fact 85)) F_program_text (ok_program_text T (by decide) h_program_text_4 F_program_text) (all_cons (bind0 F_program_text 1 rfl (fun _ _ _ _ _ _ us h => match us, h with | [_], _ => rfl)) all_nil)
  have h_program_text_6 : Gf l.prog w K mg base "program_text" 7 (c_program_text 6) b_program_text := gf_mk (ps := ["program"]) (He.glo_ok KX G (c.fact 85)) F_program_text (ok_program_text T (by decide) h_program_text_5 F_program_text) (all_cons (bind0 F_program_text 1 rfl (fun _ _ _ _ _ _ us h => match us, h with | [_], _ => rfl)) all_nil)
  have h_program_text_7 : Gf l.prog w K mg base "program_text" 8 (c_program_text 7) b_program_text := gf_mk (ps := ["program"]) (He.glo_ok KX G (c.fact 85)) F_program_text (ok_program_text T (by decide) h_program_text_6 F_program_text) (all_cons (bind0 F_program_text 1 rfl (fun _ _ _ _ _ _ us h => match us, h with | [_], _ => rfl)) all_nil)
  have h_program_text_8 : Gf l.prog w K mg base "program_text" 9 (c_program_text 8) b_program_text := gf_mk (ps := ["program"]) (He.glo_ok KX G (c.fact 85)) F_program_text (ok_program_text T (by decide) h_program_text_7 F_program_text) (all_cons (bind0 F_program_text 1 rfl (fun _ _ _ _ _ _ us h => match us, h with | [_], _ => rfl)) all_nil)
  have h_program_text := h_program_text_8
  have h_read_program : Gf l.prog w K mg base "read_program" 25 (c_read_program (He.ga K "ParseError")) b_read_program := gf_mk (He.glo_ok KX G (c.fact 86)) F_read_program (ok_read_program T c_Reader h_Reader_program h_check_program h_program_text x_ParseError hN_check_program xH_ParseError F_read_program) (all_cons (bind0 F_read_program 1 rfl (fun _ _ _ _ _ _ us h => match us, h with | [_], _ => rfl)) all_nil)
  have h__law_field : Hf l.prog w K mg base "_law_field" (c__law_field K) := ⟨_, fd__law_field, _, He.glo_ok KX G (c.fact 87), F__law_field.kp, ok__law_field T F__law_field, bind0 F__law_field 1 rfl (fun _ _ _ _ _ _ us h => match us, h with | [_], _ => rfl)⟩
  have W__law_why : WhyOk l.prog w K mg base "_law_why" 25 := wk__law_why T h__law_field (He.glo_ok KX G (c.fact 88)) F__law_why (bind0 F__law_why 1 rfl (fun _ _ _ _ _ _ us h => match us, h with | [_], _ => rfl)) (by decide)
  exact ok_law T h__law_hand h__law_text h__law_shape h__law_pick h__law_bent h__law_reading h__law_same h_read_program W__law_why (TBs (.g "law", "law.<locals>.<lambda>") (by simp [ts])) F_law
def nms : List Str := (["__name__", "MillError", "Missing", "InvalidProgram", "ParseError", "NothingLeft", "TURNS", "is_integer", "is_within", "is_word", "SMALL", "DIGITS", "RESERVED", "MOST_SIGNS", "MOST_PARTS", "MOST_REPEATS"] : List Str) ++ (["MOST_DEPTH", "MOST_ENTRY", "MOST_WORD", "is_name", "are_entries", "is_part", "inner_parts", "check_program", "program_text", "Reader", "number_in", "read_program", "_law_hand", "_law_pick", "_law_of", "_law_same"] : List Str) ++ (["_law_field", "_law_why", "_law_word", "_law_some", "_law_prod", "_law_grid", "_law_det", "_law_core", "_law_mill", "_law_is_name", "_law_is_whole", "_law_inner", "_law_is_part", "_law_wrong", "_law_leaf", "_law_shape"] : List Str) ++ (["_law_text", "_law_figure", "_law_taken_signs", "_law_mark", "_law_parsed", "_law_row_parsed", "_law_reading", "_law_bent"] : List Str)
abbrev R : PySem.W.OpenRow := PySem.W.OpenLaw.row PySem.Challenge.rw_turnmill_k60_texts_that_are_no_programs
def adrs : List PySem.Addr := [3, 24, 37, 57, 76, 105, 112, 117, 118, 123, 128, 133, 138, 143, 148, 214, 223, 230, 235, 242, 249, 254, 261, 268, 273, 280, 287, 294, 301, 306, 311, 316, 323, 330, 335, 340, 347, 352, 357, 362, 369, 376, 383, 390, 397, 404, 411, 23, 56, 75, 104, 111, 116, 122, 127, 132, 137, 142, 147, 213, 222, 229, 234, 241, 248, 253, 260, 267, 272, 279, 286, 293, 300, 305, 310, 315, 322, 329, 334, 339, 346, 351, 356, 361, 368, 375, 382, 389, 396, 403, 410, 54, 73, 162, 169, 176, 183, 190, 197, 204, 211, 53, 72, 161, 168, 175, 182, 189, 196, 203, 210]
abbrev hk : PySem.W.Hook := hookF ts adrs fa fn
def ob (s : PySem.W.SharedT) : He.AlD := obsF ts adrs fa fn (HandSHeadRun.getT s)
theorem ob_eq (s : PySem.W.SharedT) : ob s = hk.obs s.abs := obsF_eq (HandSHeadRun.getT_eq s)
noncomputable section
open Z
open PySem PySem.W PySem.Calls PyProof.Rows HandSHeadRun
def o1_2 (P : Params) : Obj := (Obj.mk Value.none none (Data.dict (List.toArray [(DictEntry.mk (PyData.keyHash P (Str.ofString "type.__subclasses__.IndexError.0")) (Value.str (Str.ofString "type.__subclasses__.IndexError.0") 301) (Value.int 95 0)), (DictEntry.mk (PyData.keyHash P (Str.ofString "type.__subclasses__.IndexError.n")) (Value.str (Str.ofString "type.__subclasses__.IndexError.n") 302) (Value.int 1 0))]) 2) (List.toArray []))
def o1_3 (P : Params) : Obj := (Obj.mk (Value.type "dict") none (Data.dict (List.toArray [(DictEntry.mk (PyData.keyHash P (Str.ofString "__name__")) (Value.str (Str.ofString "__name__") 165) (Value.str (Str.ofString "law_turnmill_k60_texts_that_are_no_programs") 496)), (DictEntry.mk (PyData.keyHash P (Str.ofString "__doc__")) (Value.str (Str.ofString "__doc__") 166) Value.none), (DictEntry.mk (PyData.keyHash P (Str.ofString "__package__")) (Value.str (Str.ofString "__package__") 167) Value.none), (DictEntry.mk (PyData.keyHash P (Str.ofString "__loader__")) (Value.str (Str.ofString "__loader__") 168) (Value.builtin "__main__.__loader__#opaque")), (DictEntry.mk (PyData.keyHash P (Str.ofString "__spec__")) (Value.str (Str.ofString "__spec__") 169) Value.none), (DictEntry.mk (PyData.keyHash P (Str.ofString "__annotations__")) (Value.str (Str.ofString "__annotations__") 170) (Value.ref 6)), (DictEntry.mk (PyData.keyHash P (Str.ofString "__builtins__")) (Value.str (Str.ofString "__builtins__") 171) (Value.ref 4)), (DictEntry.mk (PyData.keyHash P (Str.ofString "__file__")) (Value.str (Str.ofString "__file__") 173) (Value.str (Str.ofString "/claim/cut.py") 172)), (DictEntry.mk (PyData.keyHash P (Str.ofString "__cached__")) (Value.str (Str.ofString "__cached__") 174) Value.none), (DictEntry.mk (PyData.keyHash P (Str.ofString "MillError")) (Value.str (Str.ofString "MillError") 206) (Value.ref 24)), (DictEntry.mk (PyData.keyHash P (Str.ofString "Missing")) (Value.str (Str.ofString "Missing") 224) (Value.ref 37)), (DictEntry.mk (PyData.keyHash P (Str.ofString "InvalidProgram")) (Value.str (Str.ofString "InvalidProgram") 250) (Value.ref 57)), (DictEntry.mk (PyData.keyHash P (Str.ofString "ParseError")) (Value.str (Str.ofString "ParseError") 276) (Value.ref 76)), (DictEntry.mk (PyData.keyHash P (Str.ofString "NothingLeft")) (Value.str (Str.ofString "NothingLeft") 304) (Value.ref 95)), (DictEntry.mk (PyData.keyHash P (Str.ofString "TURNS")) (Value.str (Str.ofString "TURNS") 308) (Value.str (Str.ofString "LR") 307)), (DictEntry.mk (PyData.keyHash P (Str.ofString "is_integer")) (Value.str (Str.ofString "is_integer") 315) (Value.ref 105)), (DictEntry.mk (PyData.keyHash P (Str.ofString "is_within")) (Value.str (Str.ofString "is_within") 324) (Value.ref 112)), (DictEntry.mk (PyData.keyHash P (Str.ofString "is_word")) (Value.str (Str.ofString "is_word") 330) (Value.ref 117)), (DictEntry.mk (PyData.keyHash P (Str.ofString "SMALL")) (Value.str (Str.ofString "SMALL") 334) (Value.str (Str.ofString "abcdefghijklmnopqrstuvwxyz") 333)), (DictEntry.mk (PyData.keyHash P (Str.ofString "DIGITS")) (Value.str (Str.ofString "DIGITS") 336) (Value.str (Str.ofString "0123456789") 335)), (DictEntry.mk (PyData.keyHash P (Str.ofString "RESERVED")) (Value.str (Str.ofString "RESERVED") 339) (Value.ref 118)), (DictEntry.mk (PyData.keyHash P (Str.ofString "MOST_SIGNS")) (Value.str (Str.ofString "MOST_SIGNS") 341) (Value.int 8 340)), (DictEntry.mk (PyData.keyHash P (Str.ofString "MOST_PARTS")) (Value.str (Str.ofString "MOST_PARTS") 343) (Value.int 6 342)), (DictEntry.mk (PyData.keyHash P (Str.ofString "MOST_REPEATS")) (Value.str (Str.ofString "MOST_REPEATS") 345) (Value.int 12 344)), (DictEntry.mk (PyData.keyHash P (Str.ofString "MOST_DEPTH")) (Value.str (Str.ofString "MOST_DEPTH") 347) (Value.int 8 346)), (DictEntry.mk (PyData.keyHash P (Str.ofString "MOST_ENTRY")) (Value.str (Str.ofString "MOST_ENTRY") 349) (Value.int 60 348)), (DictEntry.mk (PyData.keyHash P (Str.ofString "MOST_WORD")) (Value.str (Str.ofString "MOST_WORD") 351) (Value.int 60 350)), (DictEntry.mk (PyData.keyHash P (Str.ofString "is_name")) (Value.str (Str.ofString "is_name") 357) (Value.ref 123)), (DictEntry.mk (PyData.keyHash P (Str.ofString "are_entries")) (Value.str (Str.ofString "are_entries") 363) (Value.ref 128)), (DictEntry.mk (PyData.keyHash P (Str.ofString "is_part")) (Value.str (Str.ofString "is_part") 369) (Value.ref 133)), (DictEntry.mk (PyData.keyHash P (Str.ofString "inner_parts")) (Value.str (Str.ofString "inner_parts") 375) (Value.ref 138)), (DictEntry.mk (PyData.keyHash P (Str.ofString "check_program")) (Value.str (Str.ofString "check_program") 381) (Value.ref 143)), (DictEntry.mk (PyData.keyHash P (Str.ofString "program_text")) (Value.str (Str.ofString "program_text") 387) (Value.ref 148)), (DictEntry.mk (PyData.keyHash P (Str.ofString "Reader")) (Value.str (Str.ofString "Reader") 480) (Value.ref 214)), (DictEntry.mk (PyData.keyHash P (Str.ofString "number_in")) (Value.str (Str.ofString "number_in") 486) (Value.ref 223)), (DictEntry.mk (PyData.keyHash P (Str.ofString "read_program")) (Value.str (Str.ofString "read_program") 495) (Value.ref 230)), (DictEntry.mk (PyData.keyHash P (Str.ofString "_law_hand")) (Value.str (Str.ofString "_law_hand") 503) (Value.ref 235)), (DictEntry.mk (PyData.keyHash P (Str.ofString "_law_pick")) (Value.str (Str.ofString "_law_pick") 515) (Value.ref 242)), (DictEntry.mk (PyData.keyHash P (Str.ofString "_law_of")) (Value.str (Str.ofString "_law_of") 523) (Value.ref 249)), (DictEntry.mk (PyData.keyHash P (Str.ofString "_law_same")) (Value.str (Str.ofString "_law_same") 529) (Value.ref 254)), (DictEntry.mk (PyData.keyHash P (Str.ofString "_law_field")) (Value.str (Str.ofString "_law_field") 536) (Value.ref 261)), (DictEntry.mk (PyData.keyHash P (Str.ofString "_law_why")) (Value.str (Str.ofString "_law_why") 545) (Value.ref 268)), (DictEntry.mk (PyData.keyHash P (Str.ofString "_law_word")) (Value.str (Str.ofString "_law_word") 551) (Value.ref 273)), (DictEntry.mk (PyData.keyHash P (Str.ofString "_law_some")) (Value.str (Str.ofString "_law_some") 559) (Value.ref 280)), (DictEntry.mk (PyData.keyHash P (Str.ofString "_law_prod")) (Value.str (Str.ofString "_law_prod") 567) (Value.ref 287)), (DictEntry.mk (PyData.keyHash P (Str.ofString "_law_grid")) (Value.str (Str.ofString "_law_grid") 576) (Value.ref 294)), (DictEntry.mk (PyData.keyHash P (Str.ofString "_law_det")) (Value.str (Str.ofString "_law_det") 583) (Value.ref 301)), (DictEntry.mk (PyData.keyHash P (Str.ofString "_law_core")) (Value.str (Str.ofString "_law_core") 589) (Value.ref 306)), (DictEntry.mk (PyData.keyHash P (Str.ofString "_law_mill")) (Value.str (Str.ofString "_law_mill") 595) (Value.ref 311)), (DictEntry.mk (PyData.keyHash P (Str.ofString "_law_is_name")) (Value.str (Str.ofString "_law_is_name") 601) (Value.ref 316)), (DictEntry.mk (PyData.keyHash P (Str.ofString "_law_is_whole")) (Value.str (Str.ofString "_law_is_whole") 610) (Value.ref 323)), (DictEntry.mk (PyData.keyHash P (Str.ofString "_law_inner")) (Value.str (Str.ofString "_law_inner") 617) (Value.ref 330)), (DictEntry.mk (PyData.keyHash P (Str.ofString "_law_is_part")) (Value.str (Str.ofString "_law_is_part") 623) (Value.ref 335)), (DictEntry.mk (PyData.keyHash P (Str.ofString "_law_wrong")) (Value.str (Str.ofString "_law_wrong") 629) (Value.ref 340)), (DictEntry.mk (PyData.keyHash P (Str.ofString "_law_leaf")) (Value.str (Str.ofString "_law_leaf") 638) (Value.ref 347)), (DictEntry.mk (PyData.keyHash P (Str.ofString "_law_shape")) (Value.str (Str.ofString "_law_shape") 644) (Value.ref 352)), (DictEntry.mk (PyData.keyHash P (Str.ofString "_law_text")) (Value.str (Str.ofString "_law_text") 650) (Value.ref 357)), (DictEntry.mk (PyData.keyHash P (Str.ofString "_law_figure")) (Value.str (Str.ofString "_law_figure") 656) (Value.ref 362)), (DictEntry.mk (PyData.keyHash P (Str.ofString "_law_taken_signs")) (Value.str (Str.ofString "_law_taken_signs") 666) (Value.ref 369)), (DictEntry.mk (PyData.keyHash P (Str.ofString "_law_mark")) (Value.str (Str.ofString "_law_mark") 676) (Value.ref 376)), (DictEntry.mk (PyData.keyHash P (Str.ofString "_law_parsed")) (Value.str (Str.ofString "_law_parsed") 690) (Value.ref 383)), (DictEntry.mk (PyData.keyHash P (Str.ofString "_law_row_parsed")) (Value.str (Str.ofString "_law_row_parsed") 702) (Value.ref 390)), (DictEntry.mk (PyData.keyHash P (Str.ofString "_law_reading")) (Value.str (Str.ofString "_law_reading") 711) (Value.ref 397)), (DictEntry.mk (PyData.keyHash P (Str.ofString "_law_bent")) (Value.str (Str.ofString "_law_bent") 722) (Value.ref 404)), (DictEntry.mk (PyData.keyHash P (Str.ofString "law")) (Value.str (Str.ofString "law") 737) (Value.ref 411))]) 65) (List.toArray []))
def o1_11 (P : Params) : Obj := (Obj.mk (Value.type "tuple") none (Data.seq (List.toArray []) 0) (List.toArray []))
def o1_12 (P : Params) : Obj := (Obj.mk Value.none none (Data.fields (List.toArray [(Value.int 2 0), (Value.int 0 0), (Value.ref 20), (Value.int 4 0), (Value.int 0 0), (Value.ref 33), (Value.int 6 0), (Value.int 0 0), (Value.ref 46), (Value.int 11 0), (Value.int 0 0), (Value.ref 65), (Value.int 16 0), (Value.int 0 0), (Value.ref 84), (Value.int 22 0), (Value.int 0 0), (Value.ref 104), (Value.int 24 0), (Value.int 0 0), (Value.ref 111), (Value.int 26 0), (Value.int 0 0), (Value.ref 116), (Value.int 38 0), (Value.int 0 0), (Value.ref 122), (Value.int 42 0), (Value.int 0 0), (Value.ref 127), (Value.int 47 0), (Value.int 0 0), (Value.ref 132), (Value.int 62 0), (Value.int 0 0), (Value.ref 137), (Value.int 69 0), (Value.int 0 0), (Value.ref 142), (Value.int 76 0), (Value.int 0 0), (Value.ref 147), (Value.int 87 0), (Value.int 0 0), (Value.ref 154), (Value.int 144 0), (Value.int 0 0), (Value.ref 222), (Value.int 148 0), (Value.int 0 0), (Value.ref 229), (Value.int 161 0), (Value.int 0 0), (Value.ref 234), (Value.int 167 0), (Value.int 0 0), (Value.ref 241), (Value.int 181 0), (Value.int 0 0), (Value.ref 248), (Value.int 183 0), (Value.int 0 0), (Value.ref 253), (Value.int 193 0), (Value.int 0 0), (Value.ref 260), (Value.int 205 0), (Value.int 0 0), (Value.ref 267), (Value.int 214 0), (Value.int 0 0), (Value.ref 272), (Value.int 216 0), (Value.int 0 0), (Value.ref 279), (Value.int 218 0), (Value.int 0 0), (Value.ref 286), (Value.int 220 0), (Value.int 0 0), (Value.ref 293), (Value.int 225 0), (Value.int 0 0), (Value.ref 300), (Value.int 227 0), (Value.int 0 0), (Value.ref 305), (Value.int 231 0), (Value.int 0 0), (Value.ref 310), (Value.int 236 0), (Value.int 0 0), (Value.ref 315), (Value.int 240 0), (Value.int 0 0), (Value.ref 322), (Value.int 242 0), (Value.int 0 0), (Value.ref 329), (Value.int 246 0), (Value.int 0 0), (Value.ref 334), (Value.int 259 0), (Value.int 0 0), (Value.ref 339), (Value.int 268 0), (Value.int 0 0), (Value.ref 346), (Value.int 274 0), (Value.int 0 0), (Value.ref 351), (Value.int 281 0), (Value.int 0 0), (Value.ref 356), (Value.int 290 0), (Value.int 0 0), (Value.ref 361), (Value.int 294 0), (Value.int 0 0), (Value.ref 368), (Value.int 299 0), (Value.int 0 0), (Value.ref 375), (Value.int 303 0), (Value.int 0 0), (Value.ref 382), (Value.int 326 0), (Value.int 0 0), (Value.ref 389), (Value.int 338 0), (Value.int 0 0), (Value.ref 396), (Value.int 346 0), (Value.int 0 0), (Value.ref 403), (Value.int 349 0), (Value.int 0 0), (Value.ref 410)])) (List.toArray []))
def o1_13 (P : Params) : Obj := (Obj.mk (Value.type "code") none (Data.fields (List.toArray [(Value.str (Str.ofString "<module>") 182), (Value.str (Str.ofString "<module>") 183), (Value.str (Str.ofString "/claim/cut.py") 184), (Value.int 1 0), (Value.int 0 0), (Value.int 0 0), (Value.int 0 0), (Value.int 0 0), (Value.ref 11), (Value.bool Bool.false), (Value.int 181 0), (Value.ref 12), Value.none, Value.none, Value.none, Value.none, (Value.int 185 0), (Value.int 1 0), (Value.str (Str.ofString "/claim/cut.py") 186)])) (List.toArray []))
def o1_14 (P : Params) : Obj := (Obj.mk (Value.type "frame") none Data.plain (List.toArray [(some (Value.ref 13)), (some (Value.ref 3)), (some (Value.ref 3)), none, (some (Value.str (Str.ofString "__main__") 164)), none, (some (Value.ref 0))]))
def o1_15 (P : Params) : Obj := (Obj.mk (Value.type "tuple") none (Data.seq (List.toArray [(Value.type "ValueError")]) 0) (List.toArray []))
def o1_16 (P : Params) : Obj := (Obj.mk (Value.type "builtin_function_or_method") none (Data.fields (List.toArray [(Value.builtin "type.__prepare__"), (Value.type "type")])) (List.toArray []))
def o1_17 (P : Params) : Obj := (Obj.mk (Value.type "dict") none (Data.dict (List.toArray [(DictEntry.mk (PyData.keyHash P (Str.ofString "__module__")) (Value.str (Str.ofString "__module__") 196) (Value.str (Str.ofString "turnmill.errors") 187)), (DictEntry.mk (PyData.keyHash P (Str.ofString "__qualname__")) (Value.str (Str.ofString "__qualname__") 198) (Value.str (Str.ofString "MillError") 197)), (DictEntry.mk (PyData.keyHash P (Str.ofString "__firstlineno__")) (Value.str (Str.ofString "__firstlineno__") 200) (Value.int 2 199)), (DictEntry.mk (PyData.keyHash P (Str.ofString "__static_attributes__")) (Value.str (Str.ofString "__static_attributes__") 201) (Value.ref 22))]) 4) (List.toArray []))
def o1_18 (P : Params) : Obj := (Obj.mk (Value.type "tuple") none (Data.seq (List.toArray []) 0) (List.toArray []))
def o1_19 (P : Params) : Obj := (Obj.mk Value.none none (Data.fields (List.toArray [])) (List.toArray []))
def o1_20 (P : Params) : Obj := (Obj.mk (Value.type "code") none (Data.fields (List.toArray [(Value.str (Str.ofString "MillError") 191), (Value.str (Str.ofString "MillError") 192), (Value.str (Str.ofString "/claim/cut.py") 193), (Value.int 2 0), (Value.int 0 0), (Value.int 0 0), (Value.int 0 0), (Value.int 0 0), (Value.ref 18), (Value.bool Bool.false), (Value.int 181 0), (Value.ref 19), Value.none, Value.none, Value.none, Value.none, (Value.int 194 0), (Value.int 2 0), (Value.str (Str.ofString "/claim/cut.py") 195)])) (List.toArray []))
def o1_21 (P : Params) : Obj := (Obj.mk (Value.type "frame") none Data.plain (List.toArray [(some (Value.ref 20)), (some (Value.ref 3)), (some (Value.ref 17)), none, (some (Value.str (Str.ofString "turnmill.errors") 187)), none, (some (Value.ref 0))]))
def o1_22 (P : Params) : Obj := (Obj.mk (Value.type "tuple") none (Data.seq (List.toArray []) 0) (List.toArray []))
def o1_23 (P : Params) : Obj := (Obj.mk (Value.type "dict") none (Data.dict (List.toArray [(DictEntry.mk (PyData.keyHash P (Str.ofString "__module__")) (Value.str (Str.ofString "__module__") 196) (Value.str (Str.ofString "turnmill.errors") 187)), (DictEntry.mk (PyData.keyHash P (Str.ofString "__firstlineno__")) (Value.str (Str.ofString "__firstlineno__") 200) (Value.int 2 199)), (DictEntry.mk (PyData.keyHash P (Str.ofString "__static_attributes__")) (Value.str (Str.ofString "__static_attributes__") 201) (Value.ref 22)), (DictEntry.mk (PyData.keyHash P (Str.ofString "__weakref__")) (Value.str (Str.ofString "__weakref__") 203) (Value.ref 25)), (DictEntry.mk (PyData.keyHash P (Str.ofString "__doc__")) (Value.str (Str.ofString "__doc__") 204) Value.none)]) 3) (List.toArray []))
def o1_24 (P : Params) : Obj := (Obj.mk (Value.type "type") none (Data.cls (ClassData.mk (Str.ofString "MillError") [(Value.type "ValueError")] [(Value.ref 24), (Value.type "ValueError"), (Value.type "Exception"), (Value.type "BaseException"), (Value.type "object")] 23 (Str.ofString "MillError") Bool.true [] [(Value.ref 57), (Value.ref 76)] Bool.false none Bool.false)) (List.toArray [(some (Value.ref 15)), none, (some (Value.str (Str.ofString "MillError") 189)), (some (Value.str (Str.ofString "MillError") 197)), (some (Value.builtin "ValueError.__new__")), (some (Value.bool Bool.true))]))
def o1_25 (P : Params) : Obj := (Obj.mk (Value.type "getset_descriptor") none (Data.fields (List.toArray [(Value.str (Str.ofString "__weakref__") 202), (Value.ref 24), (Value.builtin "ExceptionGroup.__weakref__"), Value.none])) (List.toArray []))
def o1_26 (P : Params) : Obj := (Obj.mk (Value.type "super") none (Data.fields (List.toArray [(Value.ref 24), (Value.ref 24), (Value.ref 24)])) (List.toArray []))
def o1_27 (P : Params) : Obj := (Obj.mk (Value.type "builtin_function_or_method") none (Data.fields (List.toArray [(Value.builtin "object.__init_subclass__"), (Value.ref 24)])) (List.toArray []))
def o1_28 (P : Params) : Obj := (Obj.mk (Value.type "tuple") none (Data.seq (List.toArray [(Value.type "LookupError")]) 0) (List.toArray []))
def o1_29 (P : Params) : Obj := (Obj.mk (Value.type "builtin_function_or_method") none (Data.fields (List.toArray [(Value.builtin "type.__prepare__"), (Value.type "type")])) (List.toArray []))
def o1_30 (P : Params) : Obj := (Obj.mk (Value.type "dict") none (Data.dict (List.toArray [(DictEntry.mk (PyData.keyHash P (Str.ofString "__module__")) (Value.str (Str.ofString "__module__") 214) (Value.str (Str.ofString "turnmill.errors") 187)), (DictEntry.mk (PyData.keyHash P (Str.ofString "__qualname__")) (Value.str (Str.ofString "__qualname__") 216) (Value.str (Str.ofString "Missing") 215)), (DictEntry.mk (PyData.keyHash P (Str.ofString "__firstlineno__")) (Value.str (Str.ofString "__firstlineno__") 218) (Value.int 4 217)), (DictEntry.mk (PyData.keyHash P (Str.ofString "__static_attributes__")) (Value.str (Str.ofString "__static_attributes__") 219) (Value.ref 35))]) 4) (List.toArray []))
def o1_31 (P : Params) : Obj := (Obj.mk (Value.type "tuple") none (Data.seq (List.toArray []) 0) (List.toArray []))
def o1_32 (P : Params) : Obj := (Obj.mk Value.none none (Data.fields (List.toArray [])) (List.toArray []))
def o1_33 (P : Params) : Obj := (Obj.mk (Value.type "code") none (Data.fields (List.toArray [(Value.str (Str.ofString "Missing") 209), (Value.str (Str.ofString "Missing") 210), (Value.str (Str.ofString "/claim/cut.py") 211), (Value.int 4 0), (Value.int 0 0), (Value.int 0 0), (Value.int 0 0), (Value.int 0 0), (Value.ref 31), (Value.bool Bool.false), (Value.int 181 0), (Value.ref 32), Value.none, Value.none, Value.none, Value.none, (Value.int 212 0), (Value.int 4 0), (Value.str (Str.ofString "/claim/cut.py") 213)])) (List.toArray []))
def o1_34 (P : Params) : Obj := (Obj.mk (Value.type "frame") none Data.plain (List.toArray [(some (Value.ref 33)), (some (Value.ref 3)), (some (Value.ref 30)), none, (some (Value.str (Str.ofString "turnmill.errors") 187)), none, (some (Value.ref 0))]))
def o1_35 (P : Params) : Obj := (Obj.mk (Value.type "tuple") none (Data.seq (List.toArray []) 0) (List.toArray []))
def o1_36 (P : Params) : Obj := (Obj.mk (Value.type "dict") none (Data.dict (List.toArray [(DictEntry.mk (PyData.keyHash P (Str.ofString "__module__")) (Value.str (Str.ofString "__module__") 214) (Value.str (Str.ofString "turnmill.errors") 187)), (DictEntry.mk (PyData.keyHash P (Str.ofString "__firstlineno__")) (Value.str (Str.ofString "__firstlineno__") 218) (Value.int 4 217)), (DictEntry.mk (PyData.keyHash P (Str.ofString "__static_attributes__")) (Value.str (Str.ofString "__static_attributes__") 219) (Value.ref 35)), (DictEntry.mk (PyData.keyHash P (Str.ofString "__weakref__")) (Value.str (Str.ofString "__weakref__") 221) (Value.ref 38)), (DictEntry.mk (PyData.keyHash P (Str.ofString "__doc__")) (Value.str (Str.ofString "__doc__") 222) Value.none)]) 3) (List.toArray []))
def o1_37 (P : Params) : Obj := (Obj.mk (Value.type "type") none (Data.cls (ClassData.mk (Str.ofString "Missing") [(Value.type "LookupError")] [(Value.ref 37), (Value.type "LookupError"), (Value.type "Exception"), (Value.type "BaseException"), (Value.type "object")] 36 (Str.ofString "Missing") Bool.true [] [] Bool.false none Bool.false)) (List.toArray [(some (Value.ref 28)), none, (some (Value.str (Str.ofString "Missing") 207)), (some (Value.str (Str.ofString "Missing") 215)), (some (Value.builtin "LookupError.__new__")), (some (Value.bool Bool.true))]))
def o1_38 (P : Params) : Obj := (Obj.mk (Value.type "getset_descriptor") none (Data.fields (List.toArray [(Value.str (Str.ofString "__weakref__") 220), (Value.ref 37), (Value.builtin "ExceptionGroup.__weakref__"), Value.none])) (List.toArray []))
def o1_39 (P : Params) : Obj := (Obj.mk (Value.type "super") none (Data.fields (List.toArray [(Value.ref 37), (Value.ref 37), (Value.ref 37)])) (List.toArray []))
def o1_40 (P : Params) : Obj := (Obj.mk (Value.type "builtin_function_or_method") none (Data.fields (List.toArray [(Value.builtin "object.__init_subclass__"), (Value.ref 37)])) (List.toArray []))
def o1_41 (P : Params) : Obj := (Obj.mk (Value.type "tuple") none (Data.seq (List.toArray [(Value.ref 24)]) 0) (List.toArray []))
def o1_42 (P : Params) : Obj := (Obj.mk (Value.type "builtin_function_or_method") none (Data.fields (List.toArray [(Value.builtin "type.__prepare__"), (Value.type "type")])) (List.toArray []))
def o1_43 (P : Params) : Obj := (Obj.mk (Value.type "dict") none (Data.dict (List.toArray [(DictEntry.mk (PyData.keyHash P (Str.ofString "__module__")) (Value.str (Str.ofString "__module__") 232) (Value.str (Str.ofString "turnmill.errors") 187)), (DictEntry.mk (PyData.keyHash P (Str.ofString "__qualname__")) (Value.str (Str.ofString "__qualname__") 234) (Value.str (Str.ofString "InvalidProgram") 233)), (DictEntry.mk (PyData.keyHash P (Str.ofString "__firstlineno__")) (Value.str (Str.ofString "__firstlineno__") 236) (Value.int 6 235)), (DictEntry.mk (PyData.keyHash P (Str.ofString "__init__")) (Value.str (Str.ofString "__init__") 244) (Value.ref 54)), (DictEntry.mk (PyData.keyHash P (Str.ofString "__static_attributes__")) (Value.str (Str.ofString "__static_attributes__") 247) (Value.ref 55))]) 5) (List.toArray []))
def o1_44 (P : Params) : Obj := (Obj.mk (Value.type "tuple") none (Data.seq (List.toArray []) 0) (List.toArray []))
def o1_45 (P : Params) : Obj := (Obj.mk Value.none none (Data.fields (List.toArray [(Value.int 8 0), (Value.int 4 0), (Value.ref 53)])) (List.toArray []))
def o1_46 (P : Params) : Obj := (Obj.mk (Value.type "code") none (Data.fields (List.toArray [(Value.str (Str.ofString "InvalidProgram") 227), (Value.str (Str.ofString "InvalidProgram") 228), (Value.str (Str.ofString "/claim/cut.py") 229), (Value.int 6 0), (Value.int 0 0), (Value.int 0 0), (Value.int 0 0), (Value.int 0 0), (Value.ref 44), (Value.bool Bool.false), (Value.int 181 0), (Value.ref 45), Value.none, Value.none, Value.none, Value.none, (Value.int 230 0), (Value.int 6 0), (Value.str (Str.ofString "/claim/cut.py") 231)])) (List.toArray []))
def o1_47 (P : Params) : Obj := (Obj.mk (Value.type "frame") none Data.plain (List.toArray [(some (Value.ref 46)), (some (Value.ref 3)), (some (Value.ref 43)), none, (some (Value.str (Str.ofString "turnmill.errors") 187)), none, (some (Value.ref 0))]))
def o1_48 (P : Params) : Obj := (Obj.mk (Value.type "tuple") none (Data.seq (List.toArray []) 0) (List.toArray []))
def o1_49 (P : Params) : Obj := (Obj.mk Value.none none (Data.fields (List.toArray [])) (List.toArray []))
def o1_50 (P : Params) : Obj := (Obj.mk (Value.type "tuple") none (Data.seq (List.toArray [(Value.str (Str.ofString "self") 240), (Value.str (Str.ofString "path") 241)]) 0) (List.toArray []))
def o1_51 (P : Params) : Obj := (Obj.mk (Value.type "tuple") none (Data.seq (List.toArray []) 0) (List.toArray []))
def o1_52 (P : Params) : Obj := ⟨Value.none, none, .func ⟨(Str.ofString "__init__"), (Str.ofString "InvalidProgram.__init__"), L2.defArgs (L2.inClass (top 3) 0), .stmts (L2.defBody (L2.inClass (top 3) 0)), L2.defScope (L2.inClass (top 3) 0), 0, [], Value.none, Value.none, Value.none, Value.none, none, Value.none, Value.none, 0⟩, (List.toArray [])⟩
def o1_53 (P : Params) : Obj := (Obj.mk (Value.type "code") none (Data.fields (List.toArray [(Value.str (Str.ofString "__init__") 237), (Value.str (Str.ofString "InvalidProgram.__init__") 238), (Value.str (Str.ofString "/claim/cut.py") 239), (Value.int 8 0), (Value.int 2 0), (Value.int 0 0), (Value.int 0 0), (Value.int 3 0), (Value.ref 48), (Value.bool Bool.true), (Value.int 181 0), (Value.ref 49), Value.none, (Value.ref 50), (Value.ref 51), (Value.ref 52), (Value.int 242 0), (Value.int 8 0), (Value.str (Str.ofString "/claim/cut.py") 243)])) (List.toArray []))
def o1_54 (P : Params) : Obj := ⟨(Value.type "function"), none, .func ⟨(Str.ofString "__init__"), (Str.ofString "InvalidProgram.__init__"), L2.defArgs (L2.inClass (top 3) 0), .stmts (L2.defBody (L2.inClass (top 3) 0)), L2.defScope (L2.inClass (top 3) 0), 3, [], Value.none, Value.none, Value.none, (Value.str (Str.ofString "turnmill.errors") 187), none, (Value.ref 53), Value.none, 0⟩, (List.toArray [])⟩
def o1_55 (P : Params) : Obj := (Obj.mk (Value.type "tuple") none (Data.seq (List.toArray [(Value.str (Str.ofString "path") 245), (Value.str (Str.ofString "tag") 246)]) 0) (List.toArray []))
def o1_56 (P : Params) : Obj := (Obj.mk (Value.type "dict") none (Data.dict (List.toArray [(DictEntry.mk (PyData.keyHash P (Str.ofString "__module__")) (Value.str (Str.ofString "__module__") 232) (Value.str (Str.ofString "turnmill.errors") 187)), (DictEntry.mk (PyData.keyHash P (Str.ofString "__firstlineno__")) (Value.str (Str.ofString "__firstlineno__") 236) (Value.int 6 235)), (DictEntry.mk (PyData.keyHash P (Str.ofString "__init__")) (Value.str (Str.ofString "__init__") 244) (Value.ref 54)), (DictEntry.mk (PyData.keyHash P (Str.ofString "__static_attributes__")) (Value.str (Str.ofString "__static_attributes__") 247) (Value.ref 55)), (DictEntry.mk (PyData.keyHash P (Str.ofString "__doc__")) (Value.str (Str.ofString "__doc__") 248) Value.none)]) 2) (List.toArray []))
def o1_57 (P : Params) : Obj := (Obj.mk (Value.type "type") none (Data.cls (ClassData.mk (Str.ofString "InvalidProgram") [(Value.ref 24)] [(Value.ref 57), (Value.ref 24), (Value.type "ValueError"), (Value.type "Exception"), (Value.type "BaseException"), (Value.type "object")] 56 (Str.ofString "InvalidProgram") Bool.true [] [] Bool.false none Bool.false)) (List.toArray [(some (Value.ref 41)), none, (some (Value.str (Str.ofString "InvalidProgram") 225)), (some (Value.str (Str.ofString "InvalidProgram") 233)), (some (Value.builtin "ValueError.__new__")), (some (Value.bool Bool.true))]))
def o1_58 (P : Params) : Obj := (Obj.mk (Value.type "super") none (Data.fields (List.toArray [(Value.ref 57), (Value.ref 57), (Value.ref 57)])) (List.toArray []))
def o1_59 (P : Params) : Obj := (Obj.mk (Value.type "builtin_function_or_method") none (Data.fields (List.toArray [(Value.builtin "object.__init_subclass__"), (Value.ref 57)])) (List.toArray []))
def o1_60 (P : Params) : Obj := (Obj.mk (Value.type "tuple") none (Data.seq (List.toArray [(Value.ref 24)]) 0) (List.toArray []))
def o1_61 (P : Params) : Obj := (Obj.mk (Value.type "builtin_function_or_method") none (Data.fields (List.toArray [(Value.builtin "type.__prepare__"), (Value.type "type")])) (List.toArray []))
def o1_62 (P : Params) : Obj := (Obj.mk (Value.type "dict") none (Data.dict (List.toArray [(DictEntry.mk (PyData.keyHash P (Str.ofString "__module__")) (Value.str (Str.ofString "__module__") 258) (Value.str (Str.ofString "turnmill.errors") 187)), (DictEntry.mk (PyData.keyHash P (Str.ofString "__qualname__")) (Value.str (Str.ofString "__qualname__") 260) (Value.str (Str.ofString "ParseError") 259)), (DictEntry.mk (PyData.keyHash P (Str.ofString "__firstlineno__")) (Value.str (Str.ofString "__firstlineno__") 262) (Value.int 11 261)), (DictEntry.mk (PyData.keyHash P (Str.ofString "__init__")) (Value.str (Str.ofString "__init__") 270) (Value.ref 73)), (DictEntry.mk (PyData.keyHash P (Str.ofString "__static_attributes__")) (Value.str (Str.ofString "__static_attributes__") 273) (Value.ref 74))]) 5) (List.toArray []))
def o1_63 (P : Params) : Obj := (Obj.mk (Value.type "tuple") none (Data.seq (List.toArray []) 0) (List.toArray []))
def o1_64 (P : Params) : Obj := (Obj.mk Value.none none (Data.fields (List.toArray [(Value.int 13 0), (Value.int 4 0), (Value.ref 72)])) (List.toArray []))
def o1_65 (P : Params) : Obj := (Obj.mk (Value.type "code") none (Data.fields (List.toArray [(Value.str (Str.ofString "ParseError") 253), (Value.str (Str.ofString "ParseError") 254), (Value.str (Str.ofString "/claim/cut.py") 255), (Value.int 11 0), (Value.int 0 0), (Value.int 0 0), (Value.int 0 0), (Value.int 0 0), (Value.ref 63), (Value.bool Bool.false), (Value.int 181 0), (Value.ref 64), Value.none, Value.none, Value.none, Value.none, (Value.int 256 0), (Value.int 11 0), (Value.str (Str.ofString "/claim/cut.py") 257)])) (List.toArray []))
def o1_66 (P : Params) : Obj := (Obj.mk (Value.type "frame") none Data.plain (List.toArray [(some (Value.ref 65)), (some (Value.ref 3)), (some (Value.ref 62)), none, (some (Value.str (Str.ofString "turnmill.errors") 187)), none, (some (Value.ref 0))]))
def o1_67 (P : Params) : Obj := (Obj.mk (Value.type "tuple") none (Data.seq (List.toArray []) 0) (List.toArray []))
def o1_68 (P : Params) : Obj := (Obj.mk Value.none none (Data.fields (List.toArray [])) (List.toArray []))
def o1_69 (P : Params) : Obj := (Obj.mk (Value.type "tuple") none (Data.seq (List.toArray [(Value.str (Str.ofString "self") 266), (Value.str (Str.ofString "line") 267)]) 0) (List.toArray []))
def o1_70 (P : Params) : Obj := (Obj.mk (Value.type "tuple") none (Data.seq (List.toArray []) 0) (List.toArray []))
def o1_71 (P : Params) : Obj := ⟨Value.none, none, .func ⟨(Str.ofString "__init__"), (Str.ofString "ParseError.__init__"), L2.defArgs (L2.inClass (top 4) 0), .stmts (L2.defBody (L2.inClass (top 4) 0)), L2.defScope (L2.inClass (top 4) 0), 0, [], Value.none, Value.none, Value.none, Value.none, none, Value.none, Value.none, 0⟩, (List.toArray [])⟩
def o1_72 (P : Params) : Obj := (Obj.mk (Value.type "code") none (Data.fields (List.toArray [(Value.str (Str.ofString "__init__") 263), (Value.str (Str.ofString "ParseError.__init__") 264), (Value.str (Str.ofString "/claim/cut.py") 265), (Value.int 13 0), (Value.int 2 0), (Value.int 0 0), (Value.int 0 0), (Value.int 3 0), (Value.ref 67), (Value.bool Bool.true), (Value.int 181 0), (Value.ref 68), Value.none, (Value.ref 69), (Value.ref 70), (Value.ref 71), (Value.int 268 0), (Value.int 13 0), (Value.str (Str.ofString "/claim/cut.py") 269)])) (List.toArray []))
def o1_73 (P : Params) : Obj := ⟨(Value.type "function"), none, .func ⟨(Str.ofString "__init__"), (Str.ofString "ParseError.__init__"), L2.defArgs (L2.inClass (top 4) 0), .stmts (L2.defBody (L2.inClass (top 4) 0)), L2.defScope (L2.inClass (top 4) 0), 3, [], Value.none, Value.none, Value.none, (Value.str (Str.ofString "turnmill.errors") 187), none, (Value.ref 72), Value.none, 0⟩, (List.toArray [])⟩
def o1_74 (P : Params) : Obj := (Obj.mk (Value.type "tuple") none (Data.seq (List.toArray [(Value.str (Str.ofString "line") 271), (Value.str (Str.ofString "tag") 272)]) 0) (List.toArray []))
def o1_75 (P : Params) : Obj := (Obj.mk (Value.type "dict") none (Data.dict (List.toArray [(DictEntry.mk (PyData.keyHash P (Str.ofString "__module__")) (Value.str (Str.ofString "__module__") 258) (Value.str (Str.ofString "turnmill.errors") 187)), (DictEntry.mk (PyData.keyHash P (Str.ofString "__firstlineno__")) (Value.str (Str.ofString "__firstlineno__") 262) (Value.int 11 261)), (DictEntry.mk (PyData.keyHash P (Str.ofString "__init__")) (Value.str (Str.ofString "__init__") 270) (Value.ref 73)), (DictEntry.mk (PyData.keyHash P (Str.ofString "__static_attributes__")) (Value.str (Str.ofString "__static_attributes__") 273) (Value.ref 74)), (DictEntry.mk (PyData.keyHash P (Str.ofString "__doc__")) (Value.str (Str.ofString "__doc__") 274) Value.none)]) 2) (List.toArray []))
def o1_76 (P : Params) : Obj := (Obj.mk (Value.type "type") none (Data.cls (ClassData.mk (Str.ofString "ParseError") [(Value.ref 24)] [(Value.ref 76), (Value.ref 24), (Value.type "ValueError"), (Value.type "Exception"), (Value.type "BaseException"), (Value.type "object")] 75 (Str.ofString "ParseError") Bool.true [] [] Bool.false none Bool.false)) (List.toArray [(some (Value.ref 60)), none, (some (Value.str (Str.ofString "ParseError") 251)), (some (Value.str (Str.ofString "ParseError") 259)), (some (Value.builtin "ValueError.__new__")), (some (Value.bool Bool.true))]))
def o1_77 (P : Params) : Obj := (Obj.mk (Value.type "super") none (Data.fields (List.toArray [(Value.ref 76), (Value.ref 76), (Value.ref 76)])) (List.toArray []))
def o1_78 (P : Params) : Obj := (Obj.mk (Value.type "builtin_function_or_method") none (Data.fields (List.toArray [(Value.builtin "object.__init_subclass__"), (Value.ref 76)])) (List.toArray []))
def o1_79 (P : Params) : Obj := (Obj.mk (Value.type "tuple") none (Data.seq (List.toArray [(Value.type "IndexError")]) 0) (List.toArray []))
def o1_80 (P : Params) : Obj := (Obj.mk (Value.type "builtin_function_or_method") none (Data.fields (List.toArray [(Value.builtin "type.__prepare__"), (Value.type "type")])) (List.toArray []))
def o1_81 (P : Params) : Obj := (Obj.mk (Value.type "dict") none (Data.dict (List.toArray [(DictEntry.mk (PyData.keyHash P (Str.ofString "__module__")) (Value.str (Str.ofString "__module__") 284) (Value.str (Str.ofString "turnmill.errors") 187)), (DictEntry.mk (PyData.keyHash P (Str.ofString "__qualname__")) (Value.str (Str.ofString "__qualname__") 286) (Value.str (Str.ofString "NothingLeft") 285)), (DictEntry.mk (PyData.keyHash P (Str.ofString "__firstlineno__")) (Value.str (Str.ofString "__firstlineno__") 288) (Value.int 16 287)), (DictEntry.mk (PyData.keyHash P (Str.ofString "__init__")) (Value.str (Str.ofString "__init__") 295) (Value.ref 92)), (DictEntry.mk (PyData.keyHash P (Str.ofString "__static_attributes__")) (Value.str (Str.ofString "__static_attributes__") 297) (Value.ref 93))]) 5) (List.toArray []))
def o1_82 (P : Params) : Obj := (Obj.mk (Value.type "tuple") none (Data.seq (List.toArray []) 0) (List.toArray []))
def o1_83 (P : Params) : Obj := (Obj.mk Value.none none (Data.fields (List.toArray [(Value.int 18 0), (Value.int 4 0), (Value.ref 91)])) (List.toArray []))
def o1_84 (P : Params) : Obj := (Obj.mk (Value.type "code") none (Data.fields (List.toArray [(Value.str (Str.ofString "NothingLeft") 279), (Value.str (Str.ofString "NothingLeft") 280), (Value.str (Str.ofString "/claim/cut.py") 281), (Value.int 16 0), (Value.int 0 0), (Value.int 0 0), (Value.int 0 0), (Value.int 0 0), (Value.ref 82), (Value.bool Bool.false), (Value.int 181 0), (Value.ref 83), Value.none, Value.none, Value.none, Value.none, (Value.int 282 0), (Value.int 16 0), (Value.str (Str.ofString "/claim/cut.py") 283)])) (List.toArray []))
def o1_85 (P : Params) : Obj := (Obj.mk (Value.type "frame") none Data.plain (List.toArray [(some (Value.ref 84)), (some (Value.ref 3)), (some (Value.ref 81)), none, (some (Value.str (Str.ofString "turnmill.errors") 187)), none, (some (Value.ref 0))]))
def o1_86 (P : Params) : Obj := (Obj.mk (Value.type "tuple") none (Data.seq (List.toArray []) 0) (List.toArray []))
def o1_87 (P : Params) : Obj := (Obj.mk Value.none none (Data.fields (List.toArray [])) (List.toArray []))
def o1_88 (P : Params) : Obj := (Obj.mk (Value.type "tuple") none (Data.seq (List.toArray [(Value.str (Str.ofString "self") 292)]) 0) (List.toArray []))
def o1_89 (P : Params) : Obj := (Obj.mk (Value.type "tuple") none (Data.seq (List.toArray []) 0) (List.toArray []))
def o1_90 (P : Params) : Obj := ⟨Value.none, none, .func ⟨(Str.ofString "__init__"), (Str.ofString "NothingLeft.__init__"), L2.defArgs (L2.inClass (top 5) 0), .stmts (L2.defBody (L2.inClass (top 5) 0)), L2.defScope (L2.inClass (top 5) 0), 0, [], Value.none, Value.none, Value.none, Value.none, none, Value.none, Value.none, 0⟩, (List.toArray [])⟩
def o1_91 (P : Params) : Obj := (Obj.mk (Value.type "code") none (Data.fields (List.toArray [(Value.str (Str.ofString "__init__") 289), (Value.str (Str.ofString "NothingLeft.__init__") 290), (Value.str (Str.ofString "/claim/cut.py") 291), (Value.int 18 0), (Value.int 1 0), (Value.int 0 0), (Value.int 0 0), (Value.int 3 0), (Value.ref 86), (Value.bool Bool.true), (Value.int 181 0), (Value.ref 87), Value.none, (Value.ref 88), (Value.ref 89), (Value.ref 90), (Value.int 293 0), (Value.int 18 0), (Value.str (Str.ofString "/claim/cut.py") 294)])) (List.toArray []))
def o1_92 (P : Params) : Obj := ⟨(Value.type "function"), none, .func ⟨(Str.ofString "__init__"), (Str.ofString "NothingLeft.__init__"), L2.defArgs (L2.inClass (top 5) 0), .stmts (L2.defBody (L2.inClass (top 5) 0)), L2.defScope (L2.inClass (top 5) 0), 3, [], Value.none, Value.none, Value.none, (Value.str (Str.ofString "turnmill.errors") 187), none, (Value.ref 91), Value.none, 0⟩, (List.toArray [])⟩
def o1_93 (P : Params) : Obj := (Obj.mk (Value.type "tuple") none (Data.seq (List.toArray [(Value.str (Str.ofString "tag") 296)]) 0) (List.toArray []))
def o1_94 (P : Params) : Obj := (Obj.mk (Value.type "dict") none (Data.dict (List.toArray [(DictEntry.mk (PyData.keyHash P (Str.ofString "__module__")) (Value.str (Str.ofString "__module__") 284) (Value.str (Str.ofString "turnmill.errors") 187)), (DictEntry.mk (PyData.keyHash P (Str.ofString "__firstlineno__")) (Value.str (Str.ofString "__firstlineno__") 288) (Value.int 16 287)), (DictEntry.mk (PyData.keyHash P (Str.ofString "__init__")) (Value.str (Str.ofString "__init__") 295) (Value.ref 92)), (DictEntry.mk (PyData.keyHash P (Str.ofString "__static_attributes__")) (Value.str (Str.ofString "__static_attributes__") 297) (Value.ref 93)), (DictEntry.mk (PyData.keyHash P (Str.ofString "__weakref__")) (Value.str (Str.ofString "__weakref__") 299) (Value.ref 96)), (DictEntry.mk (PyData.keyHash P (Str.ofString "__doc__")) (Value.str (Str.ofString "__doc__") 300) Value.none)]) 3) (List.toArray []))
def o1_95 (P : Params) : Obj := (Obj.mk (Value.type "type") none (Data.cls (ClassData.mk (Str.ofString "NothingLeft") [(Value.type "IndexError")] [(Value.ref 95), (Value.type "IndexError"), (Value.type "LookupError"), (Value.type "Exception"), (Value.type "BaseException"), (Value.type "object")] 94 (Str.ofString "NothingLeft") Bool.true [] [] Bool.false none Bool.false)) (List.toArray [(some (Value.ref 79)), none, (some (Value.str (Str.ofString "NothingLeft") 277)), (some (Value.str (Str.ofString "NothingLeft") 285)), (some (Value.builtin "IndexError.__new__")), (some (Value.bool Bool.true))]))
def o1_96 (P : Params) : Obj := (Obj.mk (Value.type "getset_descriptor") none (Data.fields (List.toArray [(Value.str (Str.ofString "__weakref__") 298), (Value.ref 95), (Value.builtin "ExceptionGroup.__weakref__"), Value.none])) (List.toArray []))
def o1_97 (P : Params) : Obj := (Obj.mk (Value.type "super") none (Data.fields (List.toArray [(Value.ref 95), (Value.ref 95), (Value.ref 95)])) (List.toArray []))
def o1_98 (P : Params) : Obj := (Obj.mk (Value.type "builtin_function_or_method") none (Data.fields (List.toArray [(Value.builtin "object.__init_subclass__"), (Value.ref 95)])) (List.toArray []))
def o1_99 (P : Params) : Obj := (Obj.mk (Value.type "tuple") none (Data.seq (List.toArray []) 0) (List.toArray []))
def o1_100 (P : Params) : Obj := (Obj.mk Value.none none (Data.fields (List.toArray [])) (List.toArray []))
def o1_101 (P : Params) : Obj := (Obj.mk (Value.type "tuple") none (Data.seq (List.toArray [(Value.str (Str.ofString "value") 312)]) 0) (List.toArray []))
def o1_102 (P : Params) : Obj := (Obj.mk (Value.type "tuple") none (Data.seq (List.toArray []) 0) (List.toArray []))
def o1_103 (P : Params) : Obj := ⟨Value.none, none, .func ⟨(Str.ofString "is_integer"), (Str.ofString "is_integer"), L2.defArgs (top 8), .stmts (L2.defBody (top 8)), L2.defScope (top 8), 0, [], Value.none, Value.none, Value.none, Value.none, none, Value.none, Value.none, 0⟩, (List.toArray [])⟩
def o1_104 (P : Params) : Obj := (Obj.mk (Value.type "code") none (Data.fields (List.toArray [(Value.str (Str.ofString "is_integer") 309), (Value.str (Str.ofString "is_integer") 310), (Value.str (Str.ofString "/claim/cut.py") 311), (Value.int 22 0), (Value.int 1 0), (Value.int 0 0), (Value.int 0 0), (Value.int 3 0), (Value.ref 99), (Value.bool Bool.true), (Value.int 181 0), (Value.ref 100), Value.none, (Value.ref 101), (Value.ref 102), (Value.ref 103), (Value.int 313 0), (Value.int 22 0), (Value.str (Str.ofString "/claim/cut.py") 314)])) (List.toArray []))
def o1_105 (P : Params) : Obj := ⟨(Value.type "function"), none, .func ⟨(Str.ofString "is_integer"), (Str.ofString "is_integer"), L2.defArgs (top 8), .stmts (L2.defBody (top 8)), L2.defScope (top 8), 3, [], Value.none, Value.none, Value.none, (Value.str (Str.ofString "turnmill.tables") 305), none, (Value.ref 104), Value.none, 0⟩, (List.toArray [])⟩
def o1_106 (P : Params) : Obj := (Obj.mk (Value.type "tuple") none (Data.seq (List.toArray []) 0) (List.toArray []))
def o1_107 (P : Params) : Obj := (Obj.mk Value.none none (Data.fields (List.toArray [])) (List.toArray []))
def o1_108 (P : Params) : Obj := (Obj.mk (Value.type "tuple") none (Data.seq (List.toArray [(Value.str (Str.ofString "value") 319), (Value.str (Str.ofString "least") 320), (Value.str (Str.ofString "most") 321)]) 0) (List.toArray []))
def o1_109 (P : Params) : Obj := (Obj.mk (Value.type "tuple") none (Data.seq (List.toArray []) 0) (List.toArray []))
def o1_110 (P : Params) : Obj := ⟨Value.none, none, .func ⟨(Str.ofString "is_within"), (Str.ofString "is_within"), L2.defArgs (top 9), .stmts (L2.defBody (top 9)), L2.defScope (top 9), 0, [], Value.none, Value.none, Value.none, Value.none, none, Value.none, Value.none, 0⟩, (List.toArray [])⟩
def o1_111 (P : Params) : Obj := (Obj.mk (Value.type "code") none (Data.fields (List.toArray [(Value.str (Str.ofString "is_within") 316), (Value.str (Str.ofString "is_within") 317), (Value.str (Str.ofString "/claim/cut.py") 318), (Value.int 24 0), (Value.int 3 0), (Value.int 0 0), (Value.int 0 0), (Value.int 3 0), (Value.ref 106), (Value.bool Bool.true), (Value.int 181 0), (Value.ref 107), Value.none, (Value.ref 108), (Value.ref 109), (Value.ref 110), (Value.int 322 0), (Value.int 24 0), (Value.str (Str.ofString "/claim/cut.py") 323)])) (List.toArray []))
def o1_112 (P : Params) : Obj := ⟨(Value.type "function"), none, .func ⟨(Str.ofString "is_within"), (Str.ofString "is_within"), L2.defArgs (top 9), .stmts (L2.defBody (top 9)), L2.defScope (top 9), 3, [], Value.none, Value.none, Value.none, (Value.str (Str.ofString "turnmill.tables") 305), none, (Value.ref 111), Value.none, 0⟩, (List.toArray [])⟩
def o1_113 (P : Params) : Obj := (Obj.mk (Value.type "tuple") none (Data.seq (List.toArray []) 0) (List.toArray []))
def o1_114 (P : Params) : Obj := (Obj.mk Value.none none (Data.fields (List.toArray [])) (List.toArray []))
def o1_115 (P : Params) : Obj := ⟨Value.none, none, .func ⟨(Str.ofString "is_word"), (Str.ofString "is_word"), L2.defArgs (top 10), .stmts (L2.defBody (top 10)), L2.defScope (top 10), 0, [], Value.none, Value.none, Value.none, Value.none, none, Value.none, Value.none, 0⟩, (List.toArray [])⟩
def o1_116 (P : Params) : Obj := (Obj.mk (Value.type "code") none (Data.fields (List.toArray [(Value.str (Str.ofString "is_word") 325), (Value.str (Str.ofString "is_word") 326), (Value.str (Str.ofString "/claim/cut.py") 327), (Value.int 26 0), (Value.int 1 0), (Value.int 0 0), (Value.int 0 0), (Value.int 3 0), (Value.ref 113), (Value.bool Bool.true), (Value.int 181 0), (Value.ref 114), Value.none, Value.none, Value.none, (Value.ref 115), (Value.int 328 0), (Value.int 26 0), (Value.str (Str.ofString "/claim/cut.py") 329)])) (List.toArray []))
def o1_117 (P : Params) : Obj := ⟨(Value.type "function"), none, .func ⟨(Str.ofString "is_word"), (Str.ofString "is_word"), L2.defArgs (top 10), .stmts (L2.defBody (top 10)), L2.defScope (top 10), 3, [], Value.none, Value.none, Value.none, (Value.str (Str.ofString "turnmill.tables") 305), none, (Value.ref 116), Value.none, 0⟩, (List.toArray [])⟩
def o1_118 (P : Params) : Obj := (Obj.mk (Value.type "tuple") none (Data.seq (List.toArray [(Value.str (Str.ofString "swap") 337), (Value.str (Str.ofString "then") 338)]) 0) (List.toArray []))
def o1_119 (P : Params) : Obj := (Obj.mk (Value.type "tuple") none (Data.seq (List.toArray []) 0) (List.toArray []))
def o1_120 (P : Params) : Obj := (Obj.mk Value.none none (Data.fields (List.toArray [])) (List.toArray []))
def o1_121 (P : Params) : Obj := ⟨Value.none, none, .func ⟨(Str.ofString "is_name"), (Str.ofString "is_name"), L2.defArgs (top 21), .stmts (L2.defBody (top 21)), L2.defScope (top 21), 0, [], Value.none, Value.none, Value.none, Value.none, none, Value.none, Value.none, 0⟩, (List.toArray [])⟩
def o1_122 (P : Params) : Obj := (Obj.mk (Value.type "code") none (Data.fields (List.toArray [(Value.str (Str.ofString "is_name") 352), (Value.str (Str.ofString "is_name") 353), (Value.str (Str.ofString "/claim/cut.py") 354), (Value.int 38 0), (Value.int 1 0), (Value.int 0 0), (Value.int 0 0), (Value.int 3 0), (Value.ref 119), (Value.bool Bool.true), (Value.int 181 0), (Value.ref 120), Value.none, Value.none, Value.none, (Value.ref 121), (Value.int 355 0), (Value.int 38 0), (Value.str (Str.ofString "/claim/cut.py") 356)])) (List.toArray []))
def o1_123 (P : Params) : Obj := ⟨(Value.type "function"), none, .func ⟨(Str.ofString "is_name"), (Str.ofString "is_name"), L2.defArgs (top 21), .stmts (L2.defBody (top 21)), L2.defScope (top 21), 3, [], Value.none, Value.none, Value.none, (Value.str (Str.ofString "turnmill.programs") 331), none, (Value.ref 122), Value.none, 0⟩, (List.toArray [])⟩
def o1_124 (P : Params) : Obj := (Obj.mk (Value.type "tuple") none (Data.seq (List.toArray []) 0) (List.toArray []))
def o1_125 (P : Params) : Obj := (Obj.mk Value.none none (Data.fields (List.toArray [])) (List.toArray []))
def o1_126 (P : Params) : Obj := ⟨Value.none, none, .func ⟨(Str.ofString "are_entries"), (Str.ofString "are_entries"), L2.defArgs (top 22), .stmts (L2.defBody (top 22)), L2.defScope (top 22), 0, [], Value.none, Value.none, Value.none, Value.none, none, Value.none, Value.none, 0⟩, (List.toArray [])⟩
def o1_127 (P : Params) : Obj := (Obj.mk (Value.type "code") none (Data.fields (List.toArray [(Value.str (Str.ofString "are_entries") 358), (Value.str (Str.ofString "are_entries") 359), (Value.str (Str.ofString "/claim/cut.py") 360), (Value.int 42 0), (Value.int 1 0), (Value.int 0 0), (Value.int 0 0), (Value.int 3 0), (Value.ref 124), (Value.bool Bool.true), (Value.int 181 0), (Value.ref 125), Value.none, Value.none, Value.none, (Value.ref 126), (Value.int 361 0), (Value.int 42 0), (Value.str (Str.ofString "/claim/cut.py") 362)])) (List.toArray []))
def o1_128 (P : Params) : Obj := ⟨(Value.type "function"), none, .func ⟨(Str.ofString "are_entries"), (Str.ofString "are_entries"), L2.defArgs (top 22), .stmts (L2.defBody (top 22)), L2.defScope (top 22), 3, [], Value.none, Value.none, Value.none, (Value.str (Str.ofString "turnmill.programs") 331), none, (Value.ref 127), Value.none, 0⟩, (List.toArray [])⟩
def o1_129 (P : Params) : Obj := (Obj.mk (Value.type "tuple") none (Data.seq (List.toArray []) 0) (List.toArray []))
def o1_130 (P : Params) : Obj := (Obj.mk Value.none none (Data.fields (List.toArray [])) (List.toArray []))
def o1_131 (P : Params) : Obj := ⟨Value.none, none, .func ⟨(Str.ofString "is_part"), (Str.ofString "is_part"), L2.defArgs (top 23), .stmts (L2.defBody (top 23)), L2.defScope (top 23), 0, [], Value.none, Value.none, Value.none, Value.none, none, Value.none, Value.none, 0⟩, (List.toArray [])⟩
def o1_132 (P : Params) : Obj := (Obj.mk (Value.type "code") none (Data.fields (List.toArray [(Value.str (Str.ofString "is_part") 364), (Value.str (Str.ofString "is_part") 365), (Value.str (Str.ofString "/claim/cut.py") 366), (Value.int 47 0), (Value.int 1 0), (Value.int 0 0), (Value.int 0 0), (Value.int 3 0), (Value.ref 129), (Value.bool Bool.true), (Value.int 181 0), (Value.ref 130), Value.none, Value.none, Value.none, (Value.ref 131), (Value.int 367 0), (Value.int 47 0), (Value.str (Str.ofString "/claim/cut.py") 368)])) (List.toArray []))
def o1_133 (P : Params) : Obj := ⟨(Value.type "function"), none, .func ⟨(Str.ofString "is_part"), (Str.ofString "is_part"), L2.defArgs (top 23), .stmts (L2.defBody (top 23)), L2.defScope (top 23), 3, [], Value.none, Value.none, Value.none, (Value.str (Str.ofString "turnmill.programs") 331), none, (Value.ref 132), Value.none, 0⟩, (List.toArray [])⟩
def o1_134 (P : Params) : Obj := (Obj.mk (Value.type "tuple") none (Data.seq (List.toArray []) 0) (List.toArray []))
def o1_135 (P : Params) : Obj := (Obj.mk Value.none none (Data.fields (List.toArray [])) (List.toArray []))
def o1_136 (P : Params) : Obj := ⟨Value.none, none, .func ⟨(Str.ofString "inner_parts"), (Str.ofString "inner_parts"), L2.defArgs (top 24), .stmts (L2.defBody (top 24)), L2.defScope (top 24), 0, [], Value.none, Value.none, Value.none, Value.none, none, Value.none, Value.none, 0⟩, (List.toArray [])⟩
def o1_137 (P : Params) : Obj := (Obj.mk (Value.type "code") none (Data.fields (List.toArray [(Value.str (Str.ofString "inner_parts") 370), (Value.str (Str.ofString "inner_parts") 371), (Value.str (Str.ofString "/claim/cut.py") 372), (Value.int 62 0), (Value.int 1 0), (Value.int 0 0), (Value.int 0 0), (Value.int 3 0), (Value.ref 134), (Value.bool Bool.true), (Value.int 181 0), (Value.ref 135), Value.none, Value.none, Value.none, (Value.ref 136), (Value.int 373 0), (Value.int 62 0), (Value.str (Str.ofString "/claim/cut.py") 374)])) (List.toArray []))
def o1_138 (P : Params) : Obj := ⟨(Value.type "function"), none, .func ⟨(Str.ofString "inner_parts"), (Str.ofString "inner_parts"), L2.defArgs (top 24), .stmts (L2.defBody (top 24)), L2.defScope (top 24), 3, [], Value.none, Value.none, Value.none, (Value.str (Str.ofString "turnmill.programs") 331), none, (Value.ref 137), Value.none, 0⟩, (List.toArray [])⟩
def o1_139 (P : Params) : Obj := (Obj.mk (Value.type "tuple") none (Data.seq (List.toArray []) 0) (List.toArray []))
def o1_140 (P : Params) : Obj := (Obj.mk Value.none none (Data.fields (List.toArray [])) (List.toArray []))
def o1_141 (P : Params) : Obj := ⟨Value.none, none, .func ⟨(Str.ofString "check_program"), (Str.ofString "check_program"), L2.defArgs (top 25), .stmts (L2.defBody (top 25)), L2.defScope (top 25), 0, [], Value.none, Value.none, Value.none, Value.none, none, Value.none, Value.none, 0⟩, (List.toArray [])⟩
def o1_142 (P : Params) : Obj := (Obj.mk (Value.type "code") none (Data.fields (List.toArray [(Value.str (Str.ofString "check_program") 376), (Value.str (Str.ofString "check_program") 377), (Value.str (Str.ofString "/claim/cut.py") 378), (Value.int 69 0), (Value.int 1 0), (Value.int 0 0), (Value.int 0 0), (Value.int 3 0), (Value.ref 139), (Value.bool Bool.true), (Value.int 181 0), (Value.ref 140), Value.none, Value.none, Value.none, (Value.ref 141), (Value.int 379 0), (Value.int 69 0), (Value.str (Str.ofString "/claim/cut.py") 380)])) (List.toArray []))
def o1_143 (P : Params) : Obj := ⟨(Value.type "function"), none, .func ⟨(Str.ofString "check_program"), (Str.ofString "check_program"), L2.defArgs (top 25), .stmts (L2.defBody (top 25)), L2.defScope (top 25), 3, [], Value.none, Value.none, Value.none, (Value.str (Str.ofString "turnmill.programs") 331), none, (Value.ref 142), Value.none, 0⟩, (List.toArray [])⟩
def o1_144 (P : Params) : Obj := (Obj.mk (Value.type "tuple") none (Data.seq (List.toArray []) 0) (List.toArray []))
def o1_145 (P : Params) : Obj := (Obj.mk Value.none none (Data.fields (List.toArray [])) (List.toArray []))
def o1_146 (P : Params) : Obj := ⟨Value.none, none, .func ⟨(Str.ofString "program_text"), (Str.ofString "program_text"), L2.defArgs (top 26), .stmts (L2.defBody (top 26)), L2.defScope (top 26), 0, [], Value.none, Value.none, Value.none, Value.none, none, Value.none, Value.none, 0⟩, (List.toArray [])⟩
def o1_147 (P : Params) : Obj := (Obj.mk (Value.type "code") none (Data.fields (List.toArray [(Value.str (Str.ofString "program_text") 382), (Value.str (Str.ofString "program_text") 383), (Value.str (Str.ofString "/claim/cut.py") 384), (Value.int 76 0), (Value.int 1 0), (Value.int 0 0), (Value.int 0 0), (Value.int 3 0), (Value.ref 144), (Value.bool Bool.true), (Value.int 181 0), (Value.ref 145), Value.none, Value.none, Value.none, (Value.ref 146), (Value.int 385 0), (Value.int 76 0), (Value.str (Str.ofString "/claim/cut.py") 386)])) (List.toArray []))
def o1_148 (P : Params) : Obj := ⟨(Value.type "function"), none, .func ⟨(Str.ofString "program_text"), (Str.ofString "program_text"), L2.defArgs (top 26), .stmts (L2.defBody (top 26)), L2.defScope (top 26), 3, [], Value.none, Value.none, Value.none, (Value.str (Str.ofString "turnmill.programs") 331), none, (Value.ref 147), Value.none, 0⟩, (List.toArray [])⟩
def o1_149 (P : Params) : Obj := (Obj.mk (Value.type "tuple") none (Data.seq (List.toArray []) 0) (List.toArray []))
def o1_150 (P : Params) : Obj := (Obj.mk (Value.type "builtin_function_or_method") none (Data.fields (List.toArray [(Value.builtin "type.__prepare__"), (Value.type "type")])) (List.toArray []))
def o1_151 (P : Params) : Obj := (Obj.mk (Value.type "dict") none (Data.dict (List.toArray [(DictEntry.mk (PyData.keyHash P (Str.ofString "__module__")) (Value.str (Str.ofString "__module__") 395) (Value.str (Str.ofString "turnmill.programs") 331)), (DictEntry.mk (PyData.keyHash P (Str.ofString "__qualname__")) (Value.str (Str.ofString "__qualname__") 397) (Value.str (Str.ofString "Reader") 396)), (DictEntry.mk (PyData.keyHash P (Str.ofString "__firstlineno__")) (Value.str (Str.ofString "__firstlineno__") 399) (Value.int 87 398)), (DictEntry.mk (PyData.keyHash P (Str.ofString "__init__")) (Value.str (Str.ofString "__init__") 407) (Value.ref 162)), (DictEntry.mk (PyData.keyHash P (Str.ofString "take")) (Value.str (Str.ofString "take") 416) (Value.ref 169)), (DictEntry.mk (PyData.keyHash P (Str.ofString "need")) (Value.str (Str.ofString "need") 424) (Value.ref 176)), (DictEntry.mk (PyData.keyHash P (Str.ofString "taken")) (Value.str (Str.ofString "taken") 433) (Value.ref 183)), (DictEntry.mk (PyData.keyHash P (Str.ofString "numeral")) (Value.str (Str.ofString "numeral") 441) (Value.ref 190)), (DictEntry.mk (PyData.keyHash P (Str.ofString "program")) (Value.str (Str.ofString "program") 452) (Value.ref 197)), (DictEntry.mk (PyData.keyHash P (Str.ofString "row_of_parts")) (Value.str (Str.ofString "row_of_parts") 461) (Value.ref 204)), (DictEntry.mk (PyData.keyHash P (Str.ofString "entries")) (Value.str (Str.ofString "entries") 470) (Value.ref 211)), (DictEntry.mk (PyData.keyHash P (Str.ofString "__static_attributes__")) (Value.str (Str.ofString "__static_attributes__") 473) (Value.ref 212))]) 12) (List.toArray []))
def o1_152 (P : Params) : Obj := (Obj.mk (Value.type "tuple") none (Data.seq (List.toArray []) 0) (List.toArray []))
def o1_153 (P : Params) : Obj := (Obj.mk Value.none none (Data.fields (List.toArray [(Value.int 89 0), (Value.int 4 0), (Value.ref 161), (Value.int 93 0), (Value.int 4 0), (Value.ref 168), (Value.int 98 0), (Value.int 4 0), (Value.ref 175), (Value.int 102 0), (Value.int 4 0), (Value.ref 182), (Value.int 108 0), (Value.int 4 0), (Value.ref 189), (Value.int 114 0), (Value.int 4 0), (Value.ref 196), (Value.int 131 0), (Value.int 4 0), (Value.ref 203), (Value.int 138 0), (Value.int 4 0), (Value.ref 210)])) (List.toArray []))
def o1_154 (P : Params) : Obj := (Obj.mk (Value.type "code") none (Data.fields (List.toArray [(Value.str (Str.ofString "Reader") 390), (Value.str (Str.ofString "Reader") 391), (Value.str (Str.ofString "/claim/cut.py") 392), (Value.int 87 0), (Value.int 0 0), (Value.int 0 0), (Value.int 0 0), (Value.int 0 0), (Value.ref 152), (Value.bool Bool.false), (Value.int 181 0), (Value.ref 153), Value.none, Value.none, Value.none, Value.none, (Value.int 393 0), (Value.int 87 0), (Value.str (Str.ofString "/claim/cut.py") 394)])) (List.toArray []))
def o1_155 (P : Params) : Obj := (Obj.mk (Value.type "frame") none Data.plain (List.toArray [(some (Value.ref 154)), (some (Value.ref 3)), (some (Value.ref 151)), none, (some (Value.str (Str.ofString "turnmill.programs") 331)), none, (some (Value.ref 0))]))
def o1_156 (P : Params) : Obj := (Obj.mk (Value.type "tuple") none (Data.seq (List.toArray []) 0) (List.toArray []))
def o1_157 (P : Params) : Obj := (Obj.mk Value.none none (Data.fields (List.toArray [])) (List.toArray []))
def o1_158 (P : Params) : Obj := (Obj.mk (Value.type "tuple") none (Data.seq (List.toArray [(Value.str (Str.ofString "self") 403), (Value.str (Str.ofString "text") 404)]) 0) (List.toArray []))
def o1_159 (P : Params) : Obj := (Obj.mk (Value.type "tuple") none (Data.seq (List.toArray []) 0) (List.toArray []))
def o1_160 (P : Params) : Obj := ⟨Value.none, none, .func ⟨(Str.ofString "__init__"), (Str.ofString "Reader.__init__"), L2.defArgs (L2.inClass (top 27) 0), .stmts (L2.defBody (L2.inClass (top 27) 0)), L2.defScope (L2.inClass (top 27) 0), 0, [], Value.none, Value.none, Value.none, Value.none, none, Value.none, Value.none, 0⟩, (List.toArray [])⟩
def o1_161 (P : Params) : Obj := (Obj.mk (Value.type "code") none (Data.fields (List.toArray [(Value.str (Str.ofString "__init__") 400), (Value.str (Str.ofString "Reader.__init__") 401), (Value.str (Str.ofString "/claim/cut.py") 402), (Value.int 89 0), (Value.int 2 0), (Value.int 0 0), (Value.int 0 0), (Value.int 3 0), (Value.ref 156), (Value.bool Bool.true), (Value.int 181 0), (Value.ref 157), Value.none, (Value.ref 158), (Value.ref 159), (Value.ref 160), (Value.int 405 0), (Value.int 89 0), (Value.str (Str.ofString "/claim/cut.py") 406)])) (List.toArray []))
def o1_162 (P : Params) : Obj := ⟨(Value.type "function"), none, .func ⟨(Str.ofString "__init__"), (Str.ofString "Reader.__init__"), L2.defArgs (L2.inClass (top 27) 0), .stmts (L2.defBody (L2.inClass (top 27) 0)), L2.defScope (L2.inClass (top 27) 0), 3, [], Value.none, Value.none, Value.none, (Value.str (Str.ofString "turnmill.programs") 331), none, (Value.ref 161), Value.none, 0⟩, (List.toArray [])⟩
def o1_163 (P : Params) : Obj := (Obj.mk (Value.type "tuple") none (Data.seq (List.toArray []) 0) (List.toArray []))
def o1_164 (P : Params) : Obj := (Obj.mk Value.none none (Data.fields (List.toArray [])) (List.toArray []))
def o1_165 (P : Params) : Obj := (Obj.mk (Value.type "tuple") none (Data.seq (List.toArray [(Value.str (Str.ofString "self") 411), (Value.str (Str.ofString "mark") 412), (Value.str (Str.ofString "is_here") 413)]) 0) (List.toArray []))
def o1_166 (P : Params) : Obj := (Obj.mk (Value.type "tuple") none (Data.seq (List.toArray []) 0) (List.toArray []))
def o1_167 (P : Params) : Obj := ⟨Value.none, none, .func ⟨(Str.ofString "take"), (Str.ofString "Reader.take"), L2.defArgs (L2.inClass (top 27) 1), .stmts (L2.defBody (L2.inClass (top 27) 1)), L2.defScope (L2.inClass (top 27) 1), 0, [], Value.none, Value.none, Value.none, Value.none, none, Value.none, Value.none, 0⟩, (List.toArray [])⟩
def o1_168 (P : Params) : Obj := (Obj.mk (Value.type "code") none (Data.fields (List.toArray [(Value.str (Str.ofString "take") 408), (Value.str (Str.ofString "Reader.take") 409), (Value.str (Str.ofString "/claim/cut.py") 410), (Value.int 93 0), (Value.int 2 0), (Value.int 0 0), (Value.int 0 0), (Value.int 3 0), (Value.ref 163), (Value.bool Bool.true), (Value.int 181 0), (Value.ref 164), Value.none, (Value.ref 165), (Value.ref 166), (Value.ref 167), (Value.int 414 0), (Value.int 93 0), (Value.str (Str.ofString "/claim/cut.py") 415)])) (List.toArray []))
def o1_169 (P : Params) : Obj := ⟨(Value.type "function"), none, .func ⟨(Str.ofString "take"), (Str.ofString "Reader.take"), L2.defArgs (L2.inClass (top 27) 1), .stmts (L2.defBody (L2.inClass (top 27) 1)), L2.defScope (L2.inClass (top 27) 1), 3, [], Value.none, Value.none, Value.none, (Value.str (Str.ofString "turnmill.programs") 331), none, (Value.ref 168), Value.none, 0⟩, (List.toArray [])⟩
def o1_170 (P : Params) : Obj := (Obj.mk (Value.type "tuple") none (Data.seq (List.toArray []) 0) (List.toArray []))
def o1_171 (P : Params) : Obj := (Obj.mk Value.none none (Data.fields (List.toArray [])) (List.toArray []))
def o1_172 (P : Params) : Obj := (Obj.mk (Value.type "tuple") none (Data.seq (List.toArray [(Value.str (Str.ofString "self") 420), (Value.str (Str.ofString "mark") 421)]) 0) (List.toArray []))
def o1_173 (P : Params) : Obj := (Obj.mk (Value.type "tuple") none (Data.seq (List.toArray []) 0) (List.toArray []))
def o1_174 (P : Params) : Obj := ⟨Value.none, none, .func ⟨(Str.ofString "need"), (Str.ofString "Reader.need"), L2.defArgs (L2.inClass (top 27) 2), .stmts (L2.defBody (L2.inClass (top 27) 2)), L2.defScope (L2.inClass (top 27) 2), 0, [], Value.none, Value.none, Value.none, Value.none, none, Value.none, Value.none, 0⟩, (List.toArray [])⟩
def o1_175 (P : Params) : Obj := (Obj.mk (Value.type "code") none (Data.fields (List.toArray [(Value.str (Str.ofString "need") 417), (Value.str (Str.ofString "Reader.need") 418), (Value.str (Str.ofString "/claim/cut.py") 419), (Value.int 98 0), (Value.int 2 0), (Value.int 0 0), (Value.int 0 0), (Value.int 3 0), (Value.ref 170), (Value.bool Bool.true), (Value.int 181 0), (Value.ref 171), Value.none, (Value.ref 172), (Value.ref 173), (Value.ref 174), (Value.int 422 0), (Value.int 98 0), (Value.str (Str.ofString "/claim/cut.py") 423)])) (List.toArray []))
def o1_176 (P : Params) : Obj := ⟨(Value.type "function"), none, .func ⟨(Str.ofString "need"), (Str.ofString "Reader.need"), L2.defArgs (L2.inClass (top 27) 2), .stmts (L2.defBody (L2.inClass (top 27) 2)), L2.defScope (L2.inClass (top 27) 2), 3, [], Value.none, Value.none, Value.none, (Value.str (Str.ofString "turnmill.programs") 331), none, (Value.ref 175), Value.none, 0⟩, (List.toArray [])⟩
def o1_177 (P : Params) : Obj := (Obj.mk (Value.type "tuple") none (Data.seq (List.toArray []) 0) (List.toArray []))
def o1_178 (P : Params) : Obj := (Obj.mk Value.none none (Data.fields (List.toArray [])) (List.toArray []))
def o1_179 (P : Params) : Obj := (Obj.mk (Value.type "tuple") none (Data.seq (List.toArray [(Value.str (Str.ofString "self") 428), (Value.str (Str.ofString "signs") 429), (Value.str (Str.ofString "begin") 430)]) 0) (List.toArray []))
def o1_180 (P : Params) : Obj := (Obj.mk (Value.type "tuple") none (Data.seq (List.toArray []) 0) (List.toArray []))
def o1_181 (P : Params) : Obj := ⟨Value.none, none, .func ⟨(Str.ofString "taken"), (Str.ofString "Reader.taken"), L2.defArgs (L2.inClass (top 27) 3), .stmts (L2.defBody (L2.inClass (top 27) 3)), L2.defScope (L2.inClass (top 27) 3), 0, [], Value.none, Value.none, Value.none, Value.none, none, Value.none, Value.none, 0⟩, (List.toArray [])⟩
def o1_182 (P : Params) : Obj := (Obj.mk (Value.type "code") none (Data.fields (List.toArray [(Value.str (Str.ofString "taken") 425), (Value.str (Str.ofString "Reader.taken") 426), (Value.str (Str.ofString "/claim/cut.py") 427), (Value.int 102 0), (Value.int 2 0), (Value.int 0 0), (Value.int 0 0), (Value.int 3 0), (Value.ref 177), (Value.bool Bool.true), (Value.int 181 0), (Value.ref 178), Value.none, (Value.ref 179), (Value.ref 180), (Value.ref 181), (Value.int 431 0), (Value.int 102 0), (Value.str (Str.ofString "/claim/cut.py") 432)])) (List.toArray []))
def o1_183 (P : Params) : Obj := ⟨(Value.type "function"), none, .func ⟨(Str.ofString "taken"), (Str.ofString "Reader.taken"), L2.defArgs (L2.inClass (top 27) 3), .stmts (L2.defBody (L2.inClass (top 27) 3)), L2.defScope (L2.inClass (top 27) 3), 3, [], Value.none, Value.none, Value.none, (Value.str (Str.ofString "turnmill.programs") 331), none, (Value.ref 182), Value.none, 0⟩, (List.toArray [])⟩
def o1_184 (P : Params) : Obj := (Obj.mk (Value.type "tuple") none (Data.seq (List.toArray []) 0) (List.toArray []))
def o1_185 (P : Params) : Obj := (Obj.mk Value.none none (Data.fields (List.toArray [])) (List.toArray []))
def o1_186 (P : Params) : Obj := (Obj.mk (Value.type "tuple") none (Data.seq (List.toArray [(Value.str (Str.ofString "self") 437), (Value.str (Str.ofString "found") 438)]) 0) (List.toArray []))
def o1_187 (P : Params) : Obj := (Obj.mk (Value.type "tuple") none (Data.seq (List.toArray []) 0) (List.toArray []))
def o1_188 (P : Params) : Obj := ⟨Value.none, none, .func ⟨(Str.ofString "numeral"), (Str.ofString "Reader.numeral"), L2.defArgs (L2.inClass (top 27) 4), .stmts (L2.defBody (L2.inClass (top 27) 4)), L2.defScope (L2.inClass (top 27) 4), 0, [], Value.none, Value.none, Value.none, Value.none, none, Value.none, Value.none, 0⟩, (List.toArray [])⟩
def o1_189 (P : Params) : Obj := (Obj.mk (Value.type "code") none (Data.fields (List.toArray [(Value.str (Str.ofString "numeral") 434), (Value.str (Str.ofString "Reader.numeral") 435), (Value.str (Str.ofString "/claim/cut.py") 436), (Value.int 108 0), (Value.int 1 0), (Value.int 0 0), (Value.int 0 0), (Value.int 3 0), (Value.ref 184), (Value.bool Bool.true), (Value.int 181 0), (Value.ref 185), Value.none, (Value.ref 186), (Value.ref 187), (Value.ref 188), (Value.int 439 0), (Value.int 108 0), (Value.str (Str.ofString "/claim/cut.py") 440)])) (List.toArray []))
def o1_190 (P : Params) : Obj := ⟨(Value.type "function"), none, .func ⟨(Str.ofString "numeral"), (Str.ofString "Reader.numeral"), L2.defArgs (L2.inClass (top 27) 4), .stmts (L2.defBody (L2.inClass (top 27) 4)), L2.defScope (L2.inClass (top 27) 4), 3, [], Value.none, Value.none, Value.none, (Value.str (Str.ofString "turnmill.programs") 331), none, (Value.ref 189), Value.none, 0⟩, (List.toArray [])⟩
def o1_191 (P : Params) : Obj := (Obj.mk (Value.type "tuple") none (Data.seq (List.toArray []) 0) (List.toArray []))
def o1_192 (P : Params) : Obj := (Obj.mk Value.none none (Data.fields (List.toArray [])) (List.toArray []))
def o1_193 (P : Params) : Obj := (Obj.mk (Value.type "tuple") none (Data.seq (List.toArray [(Value.str (Str.ofString "self") 445), (Value.str (Str.ofString "left") 446), (Value.str (Str.ofString "word") 447), (Value.str (Str.ofString "name") 448), (Value.str (Str.ofString "count") 449)]) 0) (List.toArray []))
def o1_194 (P : Params) : Obj := (Obj.mk (Value.type "tuple") none (Data.seq (List.toArray []) 0) (List.toArray []))
def o1_195 (P : Params) : Obj := ⟨Value.none, none, .func ⟨(Str.ofString "program"), (Str.ofString "Reader.program"), L2.defArgs (L2.inClass (top 27) 5), .stmts (L2.defBody (L2.inClass (top 27) 5)), L2.defScope (L2.inClass (top 27) 5), 0, [], Value.none, Value.none, Value.none, Value.none, none, Value.none, Value.none, 0⟩, (List.toArray [])⟩
def o1_196 (P : Params) : Obj := (Obj.mk (Value.type "code") none (Data.fields (List.toArray [(Value.str (Str.ofString "program") 442), (Value.str (Str.ofString "Reader.program") 443), (Value.str (Str.ofString "/claim/cut.py") 444), (Value.int 114 0), (Value.int 2 0), (Value.int 0 0), (Value.int 0 0), (Value.int 3 0), (Value.ref 191), (Value.bool Bool.true), (Value.int 181 0), (Value.ref 192), Value.none, (Value.ref 193), (Value.ref 194), (Value.ref 195), (Value.int 450 0), (Value.int 114 0), (Value.str (Str.ofString "/claim/cut.py") 451)])) (List.toArray []))
def o1_197 (P : Params) : Obj := ⟨(Value.type "function"), none, .func ⟨(Str.ofString "program"), (Str.ofString "Reader.program"), L2.defArgs (L2.inClass (top 27) 5), .stmts (L2.defBody (L2.inClass (top 27) 5)), L2.defScope (L2.inClass (top 27) 5), 3, [], Value.none, Value.none, Value.none, (Value.str (Str.ofString "turnmill.programs") 331), none, (Value.ref 196), Value.none, 0⟩, (List.toArray [])⟩
def o1_198 (P : Params) : Obj := (Obj.mk (Value.type "tuple") none (Data.seq (List.toArray []) 0) (List.toArray []))
def o1_199 (P : Params) : Obj := (Obj.mk Value.none none (Data.fields (List.toArray [])) (List.toArray []))
def o1_200 (P : Params) : Obj := (Obj.mk (Value.type "tuple") none (Data.seq (List.toArray [(Value.str (Str.ofString "self") 456), (Value.str (Str.ofString "left") 457), (Value.str (Str.ofString "found") 458)]) 0) (List.toArray []))
def o1_201 (P : Params) : Obj := (Obj.mk (Value.type "tuple") none (Data.seq (List.toArray []) 0) (List.toArray []))
def o1_202 (P : Params) : Obj := ⟨Value.none, none, .func ⟨(Str.ofString "row_of_parts"), (Str.ofString "Reader.row_of_parts"), L2.defArgs (L2.inClass (top 27) 6), .stmts (L2.defBody (L2.inClass (top 27) 6)), L2.defScope (L2.inClass (top 27) 6), 0, [], Value.none, Value.none, Value.none, Value.none, none, Value.none, Value.none, 0⟩, (List.toArray [])⟩
def o1_203 (P : Params) : Obj := (Obj.mk (Value.type "code") none (Data.fields (List.toArray [(Value.str (Str.ofString "row_of_parts") 453), (Value.str (Str.ofString "Reader.row_of_parts") 454), (Value.str (Str.ofString "/claim/cut.py") 455), (Value.int 131 0), (Value.int 2 0), (Value.int 0 0), (Value.int 0 0), (Value.int 3 0), (Value.ref 198), (Value.bool Bool.true), (Value.int 181 0), (Value.ref 199), Value.none, (Value.ref 200), (Value.ref 201), (Value.ref 202), (Value.int 459 0), (Value.int 131 0), (Value.str (Str.ofString "/claim/cut.py") 460)])) (List.toArray []))
def o1_204 (P : Params) : Obj := ⟨(Value.type "function"), none, .func ⟨(Str.ofString "row_of_parts"), (Str.ofString "Reader.row_of_parts"), L2.defArgs (L2.inClass (top 27) 6), .stmts (L2.defBody (L2.inClass (top 27) 6)), L2.defScope (L2.inClass (top 27) 6), 3, [], Value.none, Value.none, Value.none, (Value.str (Str.ofString "turnmill.programs") 331), none, (Value.ref 203), Value.none, 0⟩, (List.toArray [])⟩
def o1_205 (P : Params) : Obj := (Obj.mk (Value.type "tuple") none (Data.seq (List.toArray []) 0) (List.toArray []))
def o1_206 (P : Params) : Obj := (Obj.mk Value.none none (Data.fields (List.toArray [])) (List.toArray []))
def o1_207 (P : Params) : Obj := (Obj.mk (Value.type "tuple") none (Data.seq (List.toArray [(Value.str (Str.ofString "self") 465), (Value.str (Str.ofString "found") 466), (Value.str (Str.ofString "mark") 467)]) 0) (List.toArray []))
def o1_208 (P : Params) : Obj := (Obj.mk (Value.type "tuple") none (Data.seq (List.toArray []) 0) (List.toArray []))
def o1_209 (P : Params) : Obj := ⟨Value.none, none, .func ⟨(Str.ofString "entries"), (Str.ofString "Reader.entries"), L2.defArgs (L2.inClass (top 27) 7), .stmts (L2.defBody (L2.inClass (top 27) 7)), L2.defScope (L2.inClass (top 27) 7), 0, [], Value.none, Value.none, Value.none, Value.none, none, Value.none, Value.none, 0⟩, (List.toArray [])⟩
def o1_210 (P : Params) : Obj := (Obj.mk (Value.type "code") none (Data.fields (List.toArray [(Value.str (Str.ofString "entries") 462), (Value.str (Str.ofString "Reader.entries") 463), (Value.str (Str.ofString "/claim/cut.py") 464), (Value.int 138 0), (Value.int 1 0), (Value.int 0 0), (Value.int 0 0), (Value.int 3 0), (Value.ref 205), (Value.bool Bool.true), (Value.int 181 0), (Value.ref 206), Value.none, (Value.ref 207), (Value.ref 208), (Value.ref 209), (Value.int 468 0), (Value.int 138 0), (Value.str (Str.ofString "/claim/cut.py") 469)])) (List.toArray []))
def o1_211 (P : Params) : Obj := ⟨(Value.type "function"), none, .func ⟨(Str.ofString "entries"), (Str.ofString "Reader.entries"), L2.defArgs (L2.inClass (top 27) 7), .stmts (L2.defBody (L2.inClass (top 27) 7)), L2.defScope (L2.inClass (top 27) 7), 3, [], Value.none, Value.none, Value.none, (Value.str (Str.ofString "turnmill.programs") 331), none, (Value.ref 210), Value.none, 0⟩, (List.toArray [])⟩
def o1_212 (P : Params) : Obj := (Obj.mk (Value.type "tuple") none (Data.seq (List.toArray [(Value.str (Str.ofString "at") 471), (Value.str (Str.ofString "signs") 472)]) 0) (List.toArray []))
def o1_213 (P : Params) : Obj := (Obj.mk (Value.type "dict") none (Data.dict (List.toArray [(DictEntry.mk (PyData.keyHash P (Str.ofString "__module__")) (Value.str (Str.ofString "__module__") 395) (Value.str (Str.ofString "turnmill.programs") 331)), (DictEntry.mk (PyData.keyHash P (Str.ofString "__firstlineno__")) (Value.str (Str.ofString "__firstlineno__") 399) (Value.int 87 398)), (DictEntry.mk (PyData.keyHash P (Str.ofString "__init__")) (Value.str (Str.ofString "__init__") 407) (Value.ref 162)), (DictEntry.mk (PyData.keyHash P (Str.ofString "take")) (Value.str (Str.ofString "take") 416) (Value.ref 169)), (DictEntry.mk (PyData.keyHash P (Str.ofString "need")) (Value.str (Str.ofString "need") 424) (Value.ref 176)), (DictEntry.mk (PyData.keyHash P (Str.ofString "taken")) (Value.str (Str.ofString "taken") 433) (Value.ref 183)), (DictEntry.mk (PyData.keyHash P (Str.ofString "numeral")) (Value.str (Str.ofString "numeral") 441) (Value.ref 190)), (DictEntry.mk (PyData.keyHash P (Str.ofString "program")) (Value.str (Str.ofString "program") 452) (Value.ref 197)), (DictEntry.mk (PyData.keyHash P (Str.ofString "row_of_parts")) (Value.str (Str.ofString "row_of_parts") 461) (Value.ref 204)), (DictEntry.mk (PyData.keyHash P (Str.ofString "entries")) (Value.str (Str.ofString "entries") 470) (Value.ref 211)), (DictEntry.mk (PyData.keyHash P (Str.ofString "__static_attributes__")) (Value.str (Str.ofString "__static_attributes__") 473) (Value.ref 212)), (DictEntry.mk (PyData.keyHash P (Str.ofString "__dict__")) (Value.str (Str.ofString "__dict__") 475) (Value.ref 215)), (DictEntry.mk (PyData.keyHash P (Str.ofString "__weakref__")) (Value.str (Str.ofString "__weakref__") 477) (Value.ref 216)), (DictEntry.mk (PyData.keyHash P (Str.ofString "__doc__")) (Value.str (Str.ofString "__doc__") 478) Value.none)]) 4) (List.toArray []))
def o1_214 (P : Params) : Obj := (Obj.mk (Value.type "type") none (Data.cls (ClassData.mk (Str.ofString "Reader") [(Value.type "object")] [(Value.ref 214), (Value.type "object")] 213 (Str.ofString "Reader") Bool.true [] [] Bool.false none Bool.false)) (List.toArray [none, none, (some (Value.str (Str.ofString "Reader") 388)), (some (Value.str (Str.ofString "Reader") 396)), (some (Value.builtin "object.__new__")), (some (Value.bool Bool.true))]))
def o1_215 (P : Params) : Obj := (Obj.mk (Value.type "getset_descriptor") none (Data.fields (List.toArray [(Value.str (Str.ofString "__dict__") 474), (Value.ref 214), (Value.builtin "function.__dict__"), (Value.builtin "function.__dict__#set")])) (List.toArray []))
def o1_216 (P : Params) : Obj := (Obj.mk (Value.type "getset_descriptor") none (Data.fields (List.toArray [(Value.str (Str.ofString "__weakref__") 476), (Value.ref 214), (Value.builtin "ExceptionGroup.__weakref__"), Value.none])) (List.toArray []))
def o1_217 (P : Params) : Obj := (Obj.mk (Value.type "super") none (Data.fields (List.toArray [(Value.ref 214), (Value.ref 214), (Value.ref 214)])) (List.toArray []))
def o1_218 (P : Params) : Obj := (Obj.mk (Value.type "builtin_function_or_method") none (Data.fields (List.toArray [(Value.builtin "object.__init_subclass__"), (Value.ref 214)])) (List.toArray []))
def o1_219 (P : Params) : Obj := (Obj.mk (Value.type "tuple") none (Data.seq (List.toArray []) 0) (List.toArray []))
def o1_220 (P : Params) : Obj := (Obj.mk Value.none none (Data.fields (List.toArray [])) (List.toArray []))
def o1_221 (P : Params) : Obj := ⟨Value.none, none, .func ⟨(Str.ofString "number_in"), (Str.ofString "number_in"), L2.defArgs (top 28), .stmts (L2.defBody (top 28)), L2.defScope (top 28), 0, [], Value.none, Value.none, Value.none, Value.none, none, Value.none, Value.none, 0⟩, (List.toArray [])⟩
def o1_222 (P : Params) : Obj := (Obj.mk (Value.type "code") none (Data.fields (List.toArray [(Value.str (Str.ofString "number_in") 481), (Value.str (Str.ofString "number_in") 482), (Value.str (Str.ofString "/claim/cut.py") 483), (Value.int 144 0), (Value.int 1 0), (Value.int 0 0), (Value.int 0 0), (Value.int 3 0), (Value.ref 219), (Value.bool Bool.true), (Value.int 181 0), (Value.ref 220), Value.none, Value.none, Value.none, (Value.ref 221), (Value.int 484 0), (Value.int 144 0), (Value.str (Str.ofString "/claim/cut.py") 485)])) (List.toArray []))
def o1_223 (P : Params) : Obj := ⟨(Value.type "function"), none, .func ⟨(Str.ofString "number_in"), (Str.ofString "number_in"), L2.defArgs (top 28), .stmts (L2.defBody (top 28)), L2.defScope (top 28), 3, [], Value.none, Value.none, Value.none, (Value.str (Str.ofString "turnmill.programs") 331), none, (Value.ref 222), Value.none, 0⟩, (List.toArray [])⟩
def o1_224 (P : Params) : Obj := (Obj.mk (Value.type "tuple") none (Data.seq (List.toArray []) 0) (List.toArray []))
def o1_225 (P : Params) : Obj := (Obj.mk Value.none none (Data.fields (List.toArray [])) (List.toArray []))
def o1_226 (P : Params) : Obj := (Obj.mk (Value.type "tuple") none (Data.seq (List.toArray [(Value.str (Str.ofString "text") 490), (Value.str (Str.ofString "reader") 491), (Value.str (Str.ofString "found") 492)]) 0) (List.toArray []))
def o1_227 (P : Params) : Obj := (Obj.mk (Value.type "tuple") none (Data.seq (List.toArray []) 0) (List.toArray []))
def o1_228 (P : Params) : Obj := ⟨Value.none, none, .func ⟨(Str.ofString "read_program"), (Str.ofString "read_program"), L2.defArgs (top 29), .stmts (L2.defBody (top 29)), L2.defScope (top 29), 0, [], Value.none, Value.none, Value.none, Value.none, none, Value.none, Value.none, 0⟩, (List.toArray [])⟩
def o1_229 (P : Params) : Obj := (Obj.mk (Value.type "code") none (Data.fields (List.toArray [(Value.str (Str.ofString "read_program") 487), (Value.str (Str.ofString "read_program") 488), (Value.str (Str.ofString "/claim/cut.py") 489), (Value.int 148 0), (Value.int 1 0), (Value.int 0 0), (Value.int 0 0), (Value.int 3 0), (Value.ref 224), (Value.bool Bool.true), (Value.int 181 0), (Value.ref 225), Value.none, (Value.ref 226), (Value.ref 227), (Value.ref 228), (Value.int 493 0), (Value.int 148 0), (Value.str (Str.ofString "/claim/cut.py") 494)])) (List.toArray []))
def o1_230 (P : Params) : Obj := ⟨(Value.type "function"), none, .func ⟨(Str.ofString "read_program"), (Str.ofString "read_program"), L2.defArgs (top 29), .stmts (L2.defBody (top 29)), L2.defScope (top 29), 3, [], Value.none, Value.none, Value.none, (Value.str (Str.ofString "turnmill.programs") 331), none, (Value.ref 229), Value.none, 0⟩, (List.toArray [])⟩
def o1_231 (P : Params) : Obj := (Obj.mk (Value.type "tuple") none (Data.seq (List.toArray []) 0) (List.toArray []))
def o1_232 (P : Params) : Obj := (Obj.mk Value.none none (Data.fields (List.toArray [])) (List.toArray []))
def o1_233 (P : Params) : Obj := ⟨Value.none, none, .func ⟨(Str.ofString "_law_hand"), (Str.ofString "_law_hand"), L2.defArgs (top 31), .stmts (L2.defBody (top 31)), L2.defScope (top 31), 0, [], Value.none, Value.none, Value.none, Value.none, none, Value.none, Value.none, 0⟩, (List.toArray [])⟩
def o1_234 (P : Params) : Obj := (Obj.mk (Value.type "code") none (Data.fields (List.toArray [(Value.str (Str.ofString "_law_hand") 498), (Value.str (Str.ofString "_law_hand") 499), (Value.str (Str.ofString "/claim/cut.py") 500), (Value.int 161 0), (Value.int 1 0), (Value.int 0 0), (Value.int 0 0), (Value.int 3 0), (Value.ref 231), (Value.bool Bool.true), (Value.int 181 0), (Value.ref 232), Value.none, Value.none, Value.none, (Value.ref 233), (Value.int 501 0), (Value.int 161 0), (Value.str (Str.ofString "/claim/cut.py") 502)])) (List.toArray []))
def o1_235 (P : Params) : Obj := ⟨(Value.type "function"), none, .func ⟨(Str.ofString "_law_hand"), (Str.ofString "_law_hand"), L2.defArgs (top 31), .stmts (L2.defBody (top 31)), L2.defScope (top 31), 3, [], Value.none, Value.none, Value.none, (Value.str (Str.ofString "law_turnmill_k60_texts_that_are_no_programs") 496), none, (Value.ref 234), Value.none, 0⟩, (List.toArray [])⟩
def o1_236 (P : Params) : Obj := (Obj.mk (Value.type "tuple") none (Data.seq (List.toArray []) 0) (List.toArray []))
def o1_237 (P : Params) : Obj := (Obj.mk Value.none none (Data.fields (List.toArray [])) (List.toArray []))
def o1_238 (P : Params) : Obj := (Obj.mk (Value.type "tuple") none (Data.seq (List.toArray [(Value.str (Str.ofString "_law_hand_here") 507), (Value.str (Str.ofString "_law_many") 508), (Value.str (Str.ofString "_law_cell") 509), (Value.str (Str.ofString "_law_one") 510), (Value.str (Str.ofString "_law_two") 511), (Value.str (Str.ofString "_law_drawn") 512)]) 0) (List.toArray []))
def o1_239 (P : Params) : Obj := (Obj.mk (Value.type "tuple") none (Data.seq (List.toArray []) 0) (List.toArray []))
def o1_240 (P : Params) : Obj := ⟨Value.none, none, .func ⟨(Str.ofString "_law_pick"), (Str.ofString "_law_pick"), L2.defArgs (top 32), .stmts (L2.defBody (top 32)), L2.defScope (top 32), 0, [], Value.none, Value.none, Value.none, Value.none, none, Value.none, Value.none, 0⟩, (List.toArray [])⟩
def o1_241 (P : Params) : Obj := (Obj.mk (Value.type "code") none (Data.fields (List.toArray [(Value.str (Str.ofString "_law_pick") 504), (Value.str (Str.ofString "_law_pick") 505), (Value.str (Str.ofString "/claim/cut.py") 506), (Value.int 167 0), (Value.int 2 0), (Value.int 0 0), (Value.int 0 0), (Value.int 3 0), (Value.ref 236), (Value.bool Bool.true), (Value.int 181 0), (Value.ref 237), Value.none, (Value.ref 238), (Value.ref 239), (Value.ref 240), (Value.int 513 0), (Value.int 167 0), (Value.str (Str.ofString "/claim/cut.py") 514)])) (List.toArray []))
def o1_242 (P : Params) : Obj := ⟨(Value.type "function"), none, .func ⟨(Str.ofString "_law_pick"), (Str.ofString "_law_pick"), L2.defArgs (top 32), .stmts (L2.defBody (top 32)), L2.defScope (top 32), 3, [], Value.none, Value.none, Value.none, (Value.str (Str.ofString "law_turnmill_k60_texts_that_are_no_programs") 496), none, (Value.ref 241), Value.none, 0⟩, (List.toArray [])⟩
def o1_243 (P : Params) : Obj := (Obj.mk (Value.type "tuple") none (Data.seq (List.toArray []) 0) (List.toArray []))
def o1_244 (P : Params) : Obj := (Obj.mk Value.none none (Data.fields (List.toArray [])) (List.toArray []))
def o1_245 (P : Params) : Obj := (Obj.mk (Value.type "tuple") none (Data.seq (List.toArray [(Value.str (Str.ofString "_law_hand_here") 519), (Value.str (Str.ofString "_law_items") 520)]) 0) (List.toArray []))
def o1_246 (P : Params) : Obj := (Obj.mk (Value.type "tuple") none (Data.seq (List.toArray []) 0) (List.toArray []))
def o1_247 (P : Params) : Obj := ⟨Value.none, none, .func ⟨(Str.ofString "_law_of"), (Str.ofString "_law_of"), L2.defArgs (top 33), .stmts (L2.defBody (top 33)), L2.defScope (top 33), 0, [], Value.none, Value.none, Value.none, Value.none, none, Value.none, Value.none, 0⟩, (List.toArray [])⟩
def o1_248 (P : Params) : Obj := (Obj.mk (Value.type "code") none (Data.fields (List.toArray [(Value.str (Str.ofString "_law_of") 516), (Value.str (Str.ofString "_law_of") 517), (Value.str (Str.ofString "/claim/cut.py") 518), (Value.int 181 0), (Value.int 2 0), (Value.int 0 0), (Value.int 0 0), (Value.int 3 0), (Value.ref 243), (Value.bool Bool.true), (Value.int 181 0), (Value.ref 244), Value.none, (Value.ref 245), (Value.ref 246), (Value.ref 247), (Value.int 521 0), (Value.int 181 0), (Value.str (Str.ofString "/claim/cut.py") 522)])) (List.toArray []))
def o1_249 (P : Params) : Obj := ⟨(Value.type "function"), none, .func ⟨(Str.ofString "_law_of"), (Str.ofString "_law_of"), L2.defArgs (top 33), .stmts (L2.defBody (top 33)), L2.defScope (top 33), 3, [], Value.none, Value.none, Value.none, (Value.str (Str.ofString "law_turnmill_k60_texts_that_are_no_programs") 496), none, (Value.ref 248), Value.none, 0⟩, (List.toArray [])⟩
def o1_250 (P : Params) : Obj := (Obj.mk (Value.type "tuple") none (Data.seq (List.toArray []) 0) (List.toArray []))
def o1_251 (P : Params) : Obj := (Obj.mk Value.none none (Data.fields (List.toArray [])) (List.toArray []))
def o1_252 (P : Params) : Obj := ⟨Value.none, none, .func ⟨(Str.ofString "_law_same"), (Str.ofString "_law_same"), L2.defArgs (top 34), .stmts (L2.defBody (top 34)), L2.defScope (top 34), 0, [], Value.none, Value.none, Value.none, Value.none, none, Value.none, Value.none, 0⟩, (List.toArray [])⟩
def o1_253 (P : Params) : Obj := (Obj.mk (Value.type "code") none (Data.fields (List.toArray [(Value.str (Str.ofString "_law_same") 524), (Value.str (Str.ofString "_law_same") 525), (Value.str (Str.ofString "/claim/cut.py") 526), (Value.int 183 0), (Value.int 2 0), (Value.int 0 0), (Value.int 0 0), (Value.int 3 0), (Value.ref 250), (Value.bool Bool.true), (Value.int 181 0), (Value.ref 251), Value.none, Value.none, Value.none, (Value.ref 252), (Value.int 527 0), (Value.int 183 0), (Value.str (Str.ofString "/claim/cut.py") 528)])) (List.toArray []))
def o1_254 (P : Params) : Obj := ⟨(Value.type "function"), none, .func ⟨(Str.ofString "_law_same"), (Str.ofString "_law_same"), L2.defArgs (top 34), .stmts (L2.defBody (top 34)), L2.defScope (top 34), 3, [], Value.none, Value.none, Value.none, (Value.str (Str.ofString "law_turnmill_k60_texts_that_are_no_programs") 496), none, (Value.ref 253), Value.none, 0⟩, (List.toArray [])⟩
def o1_255 (P : Params) : Obj := (Obj.mk (Value.type "tuple") none (Data.seq (List.toArray []) 0) (List.toArray []))
def o1_256 (P : Params) : Obj := (Obj.mk Value.none none (Data.fields (List.toArray [])) (List.toArray []))
def o1_257 (P : Params) : Obj := (Obj.mk (Value.type "tuple") none (Data.seq (List.toArray [(Value.str (Str.ofString "_law_e") 533)]) 0) (List.toArray []))
def o1_258 (P : Params) : Obj := (Obj.mk (Value.type "tuple") none (Data.seq (List.toArray []) 0) (List.toArray []))
def o1_259 (P : Params) : Obj := ⟨Value.none, none, .func ⟨(Str.ofString "_law_field"), (Str.ofString "_law_field"), L2.defArgs (top 35), .stmts (L2.defBody (top 35)), L2.defScope (top 35), 0, [], Value.none, Value.none, Value.none, Value.none, none, Value.none, Value.none, 0⟩, (List.toArray [])⟩
def o1_260 (P : Params) : Obj := (Obj.mk (Value.type "code") none (Data.fields (List.toArray [(Value.str (Str.ofString "_law_field") 530), (Value.str (Str.ofString "_law_field") 531), (Value.str (Str.ofString "/claim/cut.py") 532), (Value.int 193 0), (Value.int 1 0), (Value.int 0 0), (Value.int 0 0), (Value.int 3 0), (Value.ref 255), (Value.bool Bool.true), (Value.int 181 0), (Value.ref 256), Value.none, (Value.ref 257), (Value.ref 258), (Value.ref 259), (Value.int 534 0), (Value.int 193 0), (Value.str (Str.ofString "/claim/cut.py") 535)])) (List.toArray []))
def o1_261 (P : Params) : Obj := ⟨(Value.type "function"), none, .func ⟨(Str.ofString "_law_field"), (Str.ofString "_law_field"), L2.defArgs (top 35), .stmts (L2.defBody (top 35)), L2.defScope (top 35), 3, [], Value.none, Value.none, Value.none, (Value.str (Str.ofString "law_turnmill_k60_texts_that_are_no_programs") 496), none, (Value.ref 260), Value.none, 0⟩, (List.toArray [])⟩
def o1_262 (P : Params) : Obj := (Obj.mk (Value.type "tuple") none (Data.seq (List.toArray []) 0) (List.toArray []))
def o1_263 (P : Params) : Obj := (Obj.mk Value.none none (Data.fields (List.toArray [])) (List.toArray []))
def o1_264 (P : Params) : Obj := (Obj.mk (Value.type "tuple") none (Data.seq (List.toArray [(Value.str (Str.ofString "_law_ask") 540), (Value.str (Str.ofString "_law_told") 541), (Value.str (Str.ofString "_law_e") 542)]) 0) (List.toArray []))
def o1_265 (P : Params) : Obj := (Obj.mk (Value.type "tuple") none (Data.seq (List.toArray []) 0) (List.toArray []))
def o1_266 (P : Params) : Obj := ⟨Value.none, none, .func ⟨(Str.ofString "_law_why"), (Str.ofString "_law_why"), L2.defArgs (top 36), .stmts (L2.defBody (top 36)), L2.defScope (top 36), 0, [], Value.none, Value.none, Value.none, Value.none, none, Value.none, Value.none, 0⟩, (List.toArray [])⟩
def o1_267 (P : Params) : Obj := (Obj.mk (Value.type "code") none (Data.fields (List.toArray [(Value.str (Str.ofString "_law_why") 537), (Value.str (Str.ofString "_law_why") 538), (Value.str (Str.ofString "/claim/cut.py") 539), (Value.int 205 0), (Value.int 1 0), (Value.int 0 0), (Value.int 0 0), (Value.int 3 0), (Value.ref 262), (Value.bool Bool.true), (Value.int 181 0), (Value.ref 263), Value.none, (Value.ref 264), (Value.ref 265), (Value.ref 266), (Value.int 543 0), (Value.int 205 0), (Value.str (Str.ofString "/claim/cut.py") 544)])) (List.toArray []))
def o1_268 (P : Params) : Obj := ⟨(Value.type "function"), none, .func ⟨(Str.ofString "_law_why"), (Str.ofString "_law_why"), L2.defArgs (top 36), .stmts (L2.defBody (top 36)), L2.defScope (top 36), 3, [], Value.none, Value.none, Value.none, (Value.str (Str.ofString "law_turnmill_k60_texts_that_are_no_programs") 496), none, (Value.ref 267), Value.none, 0⟩, (List.toArray [])⟩
def o1_269 (P : Params) : Obj := (Obj.mk (Value.type "tuple") none (Data.seq (List.toArray []) 0) (List.toArray []))
def o1_270 (P : Params) : Obj := (Obj.mk Value.none none (Data.fields (List.toArray [])) (List.toArray []))
def o1_271 (P : Params) : Obj := ⟨Value.none, none, .func ⟨(Str.ofString "_law_word"), (Str.ofString "_law_word"), L2.defArgs (top 37), .stmts (L2.defBody (top 37)), L2.defScope (top 37), 0, [], Value.none, Value.none, Value.none, Value.none, none, Value.none, Value.none, 0⟩, (List.toArray [])⟩
def o1_272 (P : Params) : Obj := (Obj.mk (Value.type "code") none (Data.fields (List.toArray [(Value.str (Str.ofString "_law_word") 546), (Value.str (Str.ofString "_law_word") 547), (Value.str (Str.ofString "/claim/cut.py") 548), (Value.int 214 0), (Value.int 2 0), (Value.int 0 0), (Value.int 0 0), (Value.int 3 0), (Value.ref 269), (Value.bool Bool.true), (Value.int 181 0), (Value.ref 270), Value.none, Value.none, Value.none, (Value.ref 271), (Value.int 549 0), (Value.int 214 0), (Value.str (Str.ofString "/claim/cut.py") 550)])) (List.toArray []))
def o1_273 (P : Params) : Obj := ⟨(Value.type "function"), none, .func ⟨(Str.ofString "_law_word"), (Str.ofString "_law_word"), L2.defArgs (top 37), .stmts (L2.defBody (top 37)), L2.defScope (top 37), 3, [], Value.none, Value.none, Value.none, (Value.str (Str.ofString "law_turnmill_k60_texts_that_are_no_programs") 496), none, (Value.ref 272), Value.none, 0⟩, (List.toArray [])⟩
def o1_274 (P : Params) : Obj := (Obj.mk (Value.type "tuple") none (Data.seq (List.toArray []) 0) (List.toArray []))
def o1_275 (P : Params) : Obj := (Obj.mk Value.none none (Data.fields (List.toArray [])) (List.toArray []))
def o1_276 (P : Params) : Obj := (Obj.mk (Value.type "tuple") none (Data.seq (List.toArray [(Value.str (Str.ofString "_law_hand_here") 555), (Value.str (Str.ofString "_law_peak") 556)]) 0) (List.toArray []))
def o1_277 (P : Params) : Obj := (Obj.mk (Value.type "tuple") none (Data.seq (List.toArray []) 0) (List.toArray []))
def o1_278 (P : Params) : Obj := ⟨Value.none, none, .func ⟨(Str.ofString "_law_some"), (Str.ofString "_law_some"), L2.defArgs (top 38), .stmts (L2.defBody (top 38)), L2.defScope (top 38), 0, [], Value.none, Value.none, Value.none, Value.none, none, Value.none, Value.none, 0⟩, (List.toArray [])⟩
def o1_279 (P : Params) : Obj := (Obj.mk (Value.type "code") none (Data.fields (List.toArray [(Value.str (Str.ofString "_law_some") 552), (Value.str (Str.ofString "_law_some") 553), (Value.str (Str.ofString "/claim/cut.py") 554), (Value.int 216 0), (Value.int 2 0), (Value.int 0 0), (Value.int 0 0), (Value.int 3 0), (Value.ref 274), (Value.bool Bool.true), (Value.int 181 0), (Value.ref 275), Value.none, (Value.ref 276), (Value.ref 277), (Value.ref 278), (Value.int 557 0), (Value.int 216 0), (Value.str (Str.ofString "/claim/cut.py") 558)])) (List.toArray []))
def o1_280 (P : Params) : Obj := ⟨(Value.type "function"), none, .func ⟨(Str.ofString "_law_some"), (Str.ofString "_law_some"), L2.defArgs (top 38), .stmts (L2.defBody (top 38)), L2.defScope (top 38), 3, [], Value.none, Value.none, Value.none, (Value.str (Str.ofString "law_turnmill_k60_texts_that_are_no_programs") 496), none, (Value.ref 279), Value.none, 0⟩, (List.toArray [])⟩
def o1_281 (P : Params) : Obj := (Obj.mk (Value.type "tuple") none (Data.seq (List.toArray []) 0) (List.toArray []))
def o1_282 (P : Params) : Obj := (Obj.mk Value.none none (Data.fields (List.toArray [])) (List.toArray []))
def o1_283 (P : Params) : Obj := (Obj.mk (Value.type "tuple") none (Data.seq (List.toArray [(Value.str (Str.ofString "_law_one") 563), (Value.str (Str.ofString "_law_rival") 564)]) 0) (List.toArray []))
def o1_284 (P : Params) : Obj := (Obj.mk (Value.type "tuple") none (Data.seq (List.toArray []) 0) (List.toArray []))
def o1_285 (P : Params) : Obj := ⟨Value.none, none, .func ⟨(Str.ofString "_law_prod"), (Str.ofString "_law_prod"), L2.defArgs (top 39), .stmts (L2.defBody (top 39)), L2.defScope (top 39), 0, [], Value.none, Value.none, Value.none, Value.none, none, Value.none, Value.none, 0⟩, (List.toArray [])⟩
def o1_286 (P : Params) : Obj := (Obj.mk (Value.type "code") none (Data.fields (List.toArray [(Value.str (Str.ofString "_law_prod") 560), (Value.str (Str.ofString "_law_prod") 561), (Value.str (Str.ofString "/claim/cut.py") 562), (Value.int 218 0), (Value.int 2 0), (Value.int 0 0), (Value.int 0 0), (Value.int 3 0), (Value.ref 281), (Value.bool Bool.true), (Value.int 181 0), (Value.ref 282), Value.none, (Value.ref 283), (Value.ref 284), (Value.ref 285), (Value.int 565 0), (Value.int 218 0), (Value.str (Str.ofString "/claim/cut.py") 566)])) (List.toArray []))
def o1_287 (P : Params) : Obj := ⟨(Value.type "function"), none, .func ⟨(Str.ofString "_law_prod"), (Str.ofString "_law_prod"), L2.defArgs (top 39), .stmts (L2.defBody (top 39)), L2.defScope (top 39), 3, [], Value.none, Value.none, Value.none, (Value.str (Str.ofString "law_turnmill_k60_texts_that_are_no_programs") 496), none, (Value.ref 286), Value.none, 0⟩, (List.toArray [])⟩
def o1_288 (P : Params) : Obj := (Obj.mk (Value.type "tuple") none (Data.seq (List.toArray []) 0) (List.toArray []))
def o1_289 (P : Params) : Obj := (Obj.mk Value.none none (Data.fields (List.toArray [])) (List.toArray []))
def o1_290 (P : Params) : Obj := (Obj.mk (Value.type "tuple") none (Data.seq (List.toArray [(Value.str (Str.ofString "_law_token") 571), (Value.str (Str.ofString "_law_found") 572), (Value.str (Str.ofString "_law_side") 573)]) 0) (List.toArray []))
def o1_291 (P : Params) : Obj := (Obj.mk (Value.type "tuple") none (Data.seq (List.toArray []) 0) (List.toArray []))
def o1_292 (P : Params) : Obj := ⟨Value.none, none, .func ⟨(Str.ofString "_law_grid"), (Str.ofString "_law_grid"), L2.defArgs (top 40), .stmts (L2.defBody (top 40)), L2.defScope (top 40), 0, [], Value.none, Value.none, Value.none, Value.none, none, Value.none, Value.none, 0⟩, (List.toArray [])⟩
def o1_293 (P : Params) : Obj := (Obj.mk (Value.type "code") none (Data.fields (List.toArray [(Value.str (Str.ofString "_law_grid") 568), (Value.str (Str.ofString "_law_grid") 569), (Value.str (Str.ofString "/claim/cut.py") 570), (Value.int 220 0), (Value.int 1 0), (Value.int 0 0), (Value.int 0 0), (Value.int 3 0), (Value.ref 288), (Value.bool Bool.true), (Value.int 181 0), (Value.ref 289), Value.none, (Value.ref 290), (Value.ref 291), (Value.ref 292), (Value.int 574 0), (Value.int 220 0), (Value.str (Str.ofString "/claim/cut.py") 575)])) (List.toArray []))
def o1_294 (P : Params) : Obj := ⟨(Value.type "function"), none, .func ⟨(Str.ofString "_law_grid"), (Str.ofString "_law_grid"), L2.defArgs (top 40), .stmts (L2.defBody (top 40)), L2.defScope (top 40), 3, [], Value.none, Value.none, Value.none, (Value.str (Str.ofString "law_turnmill_k60_texts_that_are_no_programs") 496), none, (Value.ref 293), Value.none, 0⟩, (List.toArray [])⟩
def o1_295 (P : Params) : Obj := (Obj.mk (Value.type "tuple") none (Data.seq (List.toArray []) 0) (List.toArray []))
def o1_296 (P : Params) : Obj := (Obj.mk Value.none none (Data.fields (List.toArray [])) (List.toArray []))
def o1_297 (P : Params) : Obj := (Obj.mk (Value.type "tuple") none (Data.seq (List.toArray [(Value.str (Str.ofString "_law_entries") 580)]) 0) (List.toArray []))
def o1_298 (P : Params) : Obj := (Obj.mk (Value.type "tuple") none (Data.seq (List.toArray []) 0) (List.toArray []))
def o1_299 (P : Params) : Obj := ⟨Value.none, none, .func ⟨(Str.ofString "_law_det"), (Str.ofString "_law_det"), L2.defArgs (top 41), .stmts (L2.defBody (top 41)), L2.defScope (top 41), 0, [], Value.none, Value.none, Value.none, Value.none, none, Value.none, Value.none, 0⟩, (List.toArray [])⟩
def o1_300 (P : Params) : Obj := (Obj.mk (Value.type "code") none (Data.fields (List.toArray [(Value.str (Str.ofString "_law_det") 577), (Value.str (Str.ofString "_law_det") 578), (Value.str (Str.ofString "/claim/cut.py") 579), (Value.int 225 0), (Value.int 1 0), (Value.int 0 0), (Value.int 0 0), (Value.int 3 0), (Value.ref 295), (Value.bool Bool.true), (Value.int 181 0), (Value.ref 296), Value.none, (Value.ref 297), (Value.ref 298), (Value.ref 299), (Value.int 581 0), (Value.int 225 0), (Value.str (Str.ofString "/claim/cut.py") 582)])) (List.toArray []))
def o1_301 (P : Params) : Obj := ⟨(Value.type "function"), none, .func ⟨(Str.ofString "_law_det"), (Str.ofString "_law_det"), L2.defArgs (top 41), .stmts (L2.defBody (top 41)), L2.defScope (top 41), 3, [], Value.none, Value.none, Value.none, (Value.str (Str.ofString "law_turnmill_k60_texts_that_are_no_programs") 496), none, (Value.ref 300), Value.none, 0⟩, (List.toArray [])⟩
def o1_302 (P : Params) : Obj := (Obj.mk (Value.type "tuple") none (Data.seq (List.toArray []) 0) (List.toArray []))
def o1_303 (P : Params) : Obj := (Obj.mk Value.none none (Data.fields (List.toArray [])) (List.toArray []))
def o1_304 (P : Params) : Obj := ⟨Value.none, none, .func ⟨(Str.ofString "_law_core"), (Str.ofString "_law_core"), L2.defArgs (top 42), .stmts (L2.defBody (top 42)), L2.defScope (top 42), 0, [], Value.none, Value.none, Value.none, Value.none, none, Value.none, Value.none, 0⟩, (List.toArray [])⟩
def o1_305 (P : Params) : Obj := (Obj.mk (Value.type "code") none (Data.fields (List.toArray [(Value.str (Str.ofString "_law_core") 584), (Value.str (Str.ofString "_law_core") 585), (Value.str (Str.ofString "/claim/cut.py") 586), (Value.int 227 0), (Value.int 2 0), (Value.int 0 0), (Value.int 0 0), (Value.int 3 0), (Value.ref 302), (Value.bool Bool.true), (Value.int 181 0), (Value.ref 303), Value.none, Value.none, Value.none, (Value.ref 304), (Value.int 587 0), (Value.int 227 0), (Value.str (Str.ofString "/claim/cut.py") 588)])) (List.toArray []))
def o1_306 (P : Params) : Obj := ⟨(Value.type "function"), none, .func ⟨(Str.ofString "_law_core"), (Str.ofString "_law_core"), L2.defArgs (top 42), .stmts (L2.defBody (top 42)), L2.defScope (top 42), 3, [], Value.none, Value.none, Value.none, (Value.str (Str.ofString "law_turnmill_k60_texts_that_are_no_programs") 496), none, (Value.ref 305), Value.none, 0⟩, (List.toArray [])⟩
def o1_307 (P : Params) : Obj := (Obj.mk (Value.type "tuple") none (Data.seq (List.toArray []) 0) (List.toArray []))
def o1_308 (P : Params) : Obj := (Obj.mk Value.none none (Data.fields (List.toArray [])) (List.toArray []))
def o1_309 (P : Params) : Obj := ⟨Value.none, none, .func ⟨(Str.ofString "_law_mill"), (Str.ofString "_law_mill"), L2.defArgs (top 43), .stmts (L2.defBody (top 43)), L2.defScope (top 43), 0, [], Value.none, Value.none, Value.none, Value.none, none, Value.none, Value.none, 0⟩, (List.toArray [])⟩
def o1_310 (P : Params) : Obj := (Obj.mk (Value.type "code") none (Data.fields (List.toArray [(Value.str (Str.ofString "_law_mill") 590), (Value.str (Str.ofString "_law_mill") 591), (Value.str (Str.ofString "/claim/cut.py") 592), (Value.int 231 0), (Value.int 2 0), (Value.int 0 0), (Value.int 0 0), (Value.int 3 0), (Value.ref 307), (Value.bool Bool.true), (Value.int 181 0), (Value.ref 308), Value.none, Value.none, Value.none, (Value.ref 309), (Value.int 593 0), (Value.int 231 0), (Value.str (Str.ofString "/claim/cut.py") 594)])) (List.toArray []))
def o1_311 (P : Params) : Obj := ⟨(Value.type "function"), none, .func ⟨(Str.ofString "_law_mill"), (Str.ofString "_law_mill"), L2.defArgs (top 43), .stmts (L2.defBody (top 43)), L2.defScope (top 43), 3, [], Value.none, Value.none, Value.none, (Value.str (Str.ofString "law_turnmill_k60_texts_that_are_no_programs") 496), none, (Value.ref 310), Value.none, 0⟩, (List.toArray [])⟩
def o1_312 (P : Params) : Obj := (Obj.mk (Value.type "tuple") none (Data.seq (List.toArray []) 0) (List.toArray []))
def o1_313 (P : Params) : Obj := (Obj.mk Value.none none (Data.fields (List.toArray [])) (List.toArray []))
def o1_314 (P : Params) : Obj := ⟨Value.none, none, .func ⟨(Str.ofString "_law_is_name"), (Str.ofString "_law_is_name"), L2.defArgs (top 44), .stmts (L2.defBody (top 44)), L2.defScope (top 44), 0, [], Value.none, Value.none, Value.none, Value.none, none, Value.none, Value.none, 0⟩, (List.toArray [])⟩
def o1_315 (P : Params) : Obj := (Obj.mk (Value.type "code") none (Data.fields (List.toArray [(Value.str (Str.ofString "_law_is_name") 596), (Value.str (Str.ofString "_law_is_name") 597), (Value.str (Str.ofString "/claim/cut.py") 598), (Value.int 236 0), (Value.int 1 0), (Value.int 0 0), (Value.int 0 0), (Value.int 3 0), (Value.ref 312), (Value.bool Bool.true), (Value.int 181 0), (Value.ref 313), Value.none, Value.none, Value.none, (Value.ref 314), (Value.int 599 0), (Value.int 236 0), (Value.str (Str.ofString "/claim/cut.py") 600)])) (List.toArray []))
def o1_316 (P : Params) : Obj := ⟨(Value.type "function"), none, .func ⟨(Str.ofString "_law_is_name"), (Str.ofString "_law_is_name"), L2.defArgs (top 44), .stmts (L2.defBody (top 44)), L2.defScope (top 44), 3, [], Value.none, Value.none, Value.none, (Value.str (Str.ofString "law_turnmill_k60_texts_that_are_no_programs") 496), none, (Value.ref 315), Value.none, 0⟩, (List.toArray [])⟩
def o1_317 (P : Params) : Obj := (Obj.mk (Value.type "tuple") none (Data.seq (List.toArray []) 0) (List.toArray []))
def o1_318 (P : Params) : Obj := (Obj.mk Value.none none (Data.fields (List.toArray [])) (List.toArray []))
def o1_319 (P : Params) : Obj := (Obj.mk (Value.type "tuple") none (Data.seq (List.toArray [(Value.str (Str.ofString "_law_item") 605), (Value.str (Str.ofString "_law_low") 606), (Value.str (Str.ofString "_law_high") 607)]) 0) (List.toArray []))
def o1_320 (P : Params) : Obj := (Obj.mk (Value.type "tuple") none (Data.seq (List.toArray []) 0) (List.toArray []))
def o1_321 (P : Params) : Obj := ⟨Value.none, none, .func ⟨(Str.ofString "_law_is_whole"), (Str.ofString "_law_is_whole"), L2.defArgs (top 45), .stmts (L2.defBody (top 45)), L2.defScope (top 45), 0, [], Value.none, Value.none, Value.none, Value.none, none, Value.none, Value.none, 0⟩, (List.toArray [])⟩
def o1_322 (P : Params) : Obj := (Obj.mk (Value.type "code") none (Data.fields (List.toArray [(Value.str (Str.ofString "_law_is_whole") 602), (Value.str (Str.ofString "_law_is_whole") 603), (Value.str (Str.ofString "/claim/cut.py") 604), (Value.int 240 0), (Value.int 3 0), (Value.int 0 0), (Value.int 0 0), (Value.int 3 0), (Value.ref 317), (Value.bool Bool.true), (Value.int 181 0), (Value.ref 318), Value.none, (Value.ref 319), (Value.ref 320), (Value.ref 321), (Value.int 608 0), (Value.int 240 0), (Value.str (Str.ofString "/claim/cut.py") 609)])) (List.toArray []))
def o1_323 (P : Params) : Obj := ⟨(Value.type "function"), none, .func ⟨(Str.ofString "_law_is_whole"), (Str.ofString "_law_is_whole"), L2.defArgs (top 45), .stmts (L2.defBody (top 45)), L2.defScope (top 45), 3, [], Value.none, Value.none, Value.none, (Value.str (Str.ofString "law_turnmill_k60_texts_that_are_no_programs") 496), none, (Value.ref 322), Value.none, 0⟩, (List.toArray [])⟩
def o1_324 (P : Params) : Obj := (Obj.mk (Value.type "tuple") none (Data.seq (List.toArray []) 0) (List.toArray []))
def o1_325 (P : Params) : Obj := (Obj.mk Value.none none (Data.fields (List.toArray [])) (List.toArray []))
def o1_326 (P : Params) : Obj := (Obj.mk (Value.type "tuple") none (Data.seq (List.toArray [(Value.str (Str.ofString "_law_plan") 614)]) 0) (List.toArray []))
def o1_327 (P : Params) : Obj := (Obj.mk (Value.type "tuple") none (Data.seq (List.toArray []) 0) (List.toArray []))
def o1_328 (P : Params) : Obj := ⟨Value.none, none, .func ⟨(Str.ofString "_law_inner"), (Str.ofString "_law_inner"), L2.defArgs (top 46), .stmts (L2.defBody (top 46)), L2.defScope (top 46), 0, [], Value.none, Value.none, Value.none, Value.none, none, Value.none, Value.none, 0⟩, (List.toArray [])⟩
def o1_329 (P : Params) : Obj := (Obj.mk (Value.type "code") none (Data.fields (List.toArray [(Value.str (Str.ofString "_law_inner") 611), (Value.str (Str.ofString "_law_inner") 612), (Value.str (Str.ofString "/claim/cut.py") 613), (Value.int 242 0), (Value.int 1 0), (Value.int 0 0), (Value.int 0 0), (Value.int 3 0), (Value.ref 324), (Value.bool Bool.true), (Value.int 181 0), (Value.ref 325), Value.none, (Value.ref 326), (Value.ref 327), (Value.ref 328), (Value.int 615 0), (Value.int 242 0), (Value.str (Str.ofString "/claim/cut.py") 616)])) (List.toArray []))
def o1_330 (P : Params) : Obj := ⟨(Value.type "function"), none, .func ⟨(Str.ofString "_law_inner"), (Str.ofString "_law_inner"), L2.defArgs (top 46), .stmts (L2.defBody (top 46)), L2.defScope (top 46), 3, [], Value.none, Value.none, Value.none, (Value.str (Str.ofString "law_turnmill_k60_texts_that_are_no_programs") 496), none, (Value.ref 329), Value.none, 0⟩, (List.toArray [])⟩
def o1_331 (P : Params) : Obj := (Obj.mk (Value.type "tuple") none (Data.seq (List.toArray []) 0) (List.toArray []))
def o1_332 (P : Params) : Obj := (Obj.mk Value.none none (Data.fields (List.toArray [])) (List.toArray []))
def o1_333 (P : Params) : Obj := ⟨Value.none, none, .func ⟨(Str.ofString "_law_is_part"), (Str.ofString "_law_is_part"), L2.defArgs (top 47), .stmts (L2.defBody (top 47)), L2.defScope (top 47), 0, [], Value.none, Value.none, Value.none, Value.none, none, Value.none, Value.none, 0⟩, (List.toArray [])⟩
def o1_334 (P : Params) : Obj := (Obj.mk (Value.type "code") none (Data.fields (List.toArray [(Value.str (Str.ofString "_law_is_part") 618), (Value.str (Str.ofString "_law_is_part") 619), (Value.str (Str.ofString "/claim/cut.py") 620), (Value.int 246 0), (Value.int 1 0), (Value.int 0 0), (Value.int 0 0), (Value.int 3 0), (Value.ref 331), (Value.bool Bool.true), (Value.int 181 0), (Value.ref 332), Value.none, Value.none, Value.none, (Value.ref 333), (Value.int 621 0), (Value.int 246 0), (Value.str (Str.ofString "/claim/cut.py") 622)])) (List.toArray []))
def o1_335 (P : Params) : Obj := ⟨(Value.type "function"), none, .func ⟨(Str.ofString "_law_is_part"), (Str.ofString "_law_is_part"), L2.defArgs (top 47), .stmts (L2.defBody (top 47)), L2.defScope (top 47), 3, [], Value.none, Value.none, Value.none, (Value.str (Str.ofString "law_turnmill_k60_texts_that_are_no_programs") 496), none, (Value.ref 334), Value.none, 0⟩, (List.toArray [])⟩
def o1_336 (P : Params) : Obj := (Obj.mk (Value.type "tuple") none (Data.seq (List.toArray []) 0) (List.toArray []))
def o1_337 (P : Params) : Obj := (Obj.mk Value.none none (Data.fields (List.toArray [])) (List.toArray []))
def o1_338 (P : Params) : Obj := ⟨Value.none, none, .func ⟨(Str.ofString "_law_wrong"), (Str.ofString "_law_wrong"), L2.defArgs (top 48), .stmts (L2.defBody (top 48)), L2.defScope (top 48), 0, [], Value.none, Value.none, Value.none, Value.none, none, Value.none, Value.none, 0⟩, (List.toArray [])⟩
def o1_339 (P : Params) : Obj := (Obj.mk (Value.type "code") none (Data.fields (List.toArray [(Value.str (Str.ofString "_law_wrong") 624), (Value.str (Str.ofString "_law_wrong") 625), (Value.str (Str.ofString "/claim/cut.py") 626), (Value.int 259 0), (Value.int 1 0), (Value.int 0 0), (Value.int 0 0), (Value.int 3 0), (Value.ref 336), (Value.bool Bool.true), (Value.int 181 0), (Value.ref 337), Value.none, Value.none, Value.none, (Value.ref 338), (Value.int 627 0), (Value.int 259 0), (Value.str (Str.ofString "/claim/cut.py") 628)])) (List.toArray []))
def o1_340 (P : Params) : Obj := ⟨(Value.type "function"), none, .func ⟨(Str.ofString "_law_wrong"), (Str.ofString "_law_wrong"), L2.defArgs (top 48), .stmts (L2.defBody (top 48)), L2.defScope (top 48), 3, [], Value.none, Value.none, Value.none, (Value.str (Str.ofString "law_turnmill_k60_texts_that_are_no_programs") 496), none, (Value.ref 339), Value.none, 0⟩, (List.toArray [])⟩
def o1_341 (P : Params) : Obj := (Obj.mk (Value.type "tuple") none (Data.seq (List.toArray []) 0) (List.toArray []))
def o1_342 (P : Params) : Obj := (Obj.mk Value.none none (Data.fields (List.toArray [])) (List.toArray []))
def o1_343 (P : Params) : Obj := (Obj.mk (Value.type "tuple") none (Data.seq (List.toArray [(Value.str (Str.ofString "_law_hand_here") 633), (Value.str (Str.ofString "_law_known") 634), (Value.str (Str.ofString "_law_entries") 635)]) 0) (List.toArray []))
def o1_344 (P : Params) : Obj := (Obj.mk (Value.type "tuple") none (Data.seq (List.toArray []) 0) (List.toArray []))
def o1_345 (P : Params) : Obj := ⟨Value.none, none, .func ⟨(Str.ofString "_law_leaf"), (Str.ofString "_law_leaf"), L2.defArgs (top 49), .stmts (L2.defBody (top 49)), L2.defScope (top 49), 0, [], Value.none, Value.none, Value.none, Value.none, none, Value.none, Value.none, 0⟩, (List.toArray [])⟩
def o1_346 (P : Params) : Obj := (Obj.mk (Value.type "code") none (Data.fields (List.toArray [(Value.str (Str.ofString "_law_leaf") 630), (Value.str (Str.ofString "_law_leaf") 631), (Value.str (Str.ofString "/claim/cut.py") 632), (Value.int 268 0), (Value.int 2 0), (Value.int 0 0), (Value.int 0 0), (Value.int 3 0), (Value.ref 341), (Value.bool Bool.true), (Value.int 181 0), (Value.ref 342), Value.none, (Value.ref 343), (Value.ref 344), (Value.ref 345), (Value.int 636 0), (Value.int 268 0), (Value.str (Str.ofString "/claim/cut.py") 637)])) (List.toArray []))
def o1_347 (P : Params) : Obj := ⟨(Value.type "function"), none, .func ⟨(Str.ofString "_law_leaf"), (Str.ofString "_law_leaf"), L2.defArgs (top 49), .stmts (L2.defBody (top 49)), L2.defScope (top 49), 3, [], Value.none, Value.none, Value.none, (Value.str (Str.ofString "law_turnmill_k60_texts_that_are_no_programs") 496), none, (Value.ref 346), Value.none, 0⟩, (List.toArray [])⟩
def o1_348 (P : Params) : Obj := (Obj.mk (Value.type "tuple") none (Data.seq (List.toArray []) 0) (List.toArray []))
def o1_349 (P : Params) : Obj := (Obj.mk Value.none none (Data.fields (List.toArray [])) (List.toArray []))
def o1_350 (P : Params) : Obj := ⟨Value.none, none, .func ⟨(Str.ofString "_law_shape"), (Str.ofString "_law_shape"), L2.defArgs (top 50), .stmts (L2.defBody (top 50)), L2.defScope (top 50), 0, [], Value.none, Value.none, Value.none, Value.none, none, Value.none, Value.none, 0⟩, (List.toArray [])⟩
def o1_351 (P : Params) : Obj := (Obj.mk (Value.type "code") none (Data.fields (List.toArray [(Value.str (Str.ofString "_law_shape") 639), (Value.str (Str.ofString "_law_shape") 640), (Value.str (Str.ofString "/claim/cut.py") 641), (Value.int 274 0), (Value.int 3 0), (Value.int 0 0), (Value.int 0 0), (Value.int 3 0), (Value.ref 348), (Value.bool Bool.true), (Value.int 181 0), (Value.ref 349), Value.none, Value.none, Value.none, (Value.ref 350), (Value.int 642 0), (Value.int 274 0), (Value.str (Str.ofString "/claim/cut.py") 643)])) (List.toArray []))
def o1_352 (P : Params) : Obj := ⟨(Value.type "function"), none, .func ⟨(Str.ofString "_law_shape"), (Str.ofString "_law_shape"), L2.defArgs (top 50), .stmts (L2.defBody (top 50)), L2.defScope (top 50), 3, [], Value.none, Value.none, Value.none, (Value.str (Str.ofString "law_turnmill_k60_texts_that_are_no_programs") 496), none, (Value.ref 351), Value.none, 0⟩, (List.toArray [])⟩
def o1_353 (P : Params) : Obj := (Obj.mk (Value.type "tuple") none (Data.seq (List.toArray []) 0) (List.toArray []))
def o1_354 (P : Params) : Obj := (Obj.mk Value.none none (Data.fields (List.toArray [])) (List.toArray []))
def o1_355 (P : Params) : Obj := ⟨Value.none, none, .func ⟨(Str.ofString "_law_text"), (Str.ofString "_law_text"), L2.defArgs (top 51), .stmts (L2.defBody (top 51)), L2.defScope (top 51), 0, [], Value.none, Value.none, Value.none, Value.none, none, Value.none, Value.none, 0⟩, (List.toArray [])⟩
def o1_356 (P : Params) : Obj := (Obj.mk (Value.type "code") none (Data.fields (List.toArray [(Value.str (Str.ofString "_law_text") 645), (Value.str (Str.ofString "_law_text") 646), (Value.str (Str.ofString "/claim/cut.py") 647), (Value.int 281 0), (Value.int 1 0), (Value.int 0 0), (Value.int 0 0), (Value.int 3 0), (Value.ref 353), (Value.bool Bool.true), (Value.int 181 0), (Value.ref 354), Value.none, Value.none, Value.none, (Value.ref 355), (Value.int 648 0), (Value.int 281 0), (Value.str (Str.ofString "/claim/cut.py") 649)])) (List.toArray []))
def o1_357 (P : Params) : Obj := ⟨(Value.type "function"), none, .func ⟨(Str.ofString "_law_text"), (Str.ofString "_law_text"), L2.defArgs (top 51), .stmts (L2.defBody (top 51)), L2.defScope (top 51), 3, [], Value.none, Value.none, Value.none, (Value.str (Str.ofString "law_turnmill_k60_texts_that_are_no_programs") 496), none, (Value.ref 356), Value.none, 0⟩, (List.toArray [])⟩
def o1_358 (P : Params) : Obj := (Obj.mk (Value.type "tuple") none (Data.seq (List.toArray []) 0) (List.toArray []))
def o1_359 (P : Params) : Obj := (Obj.mk Value.none none (Data.fields (List.toArray [])) (List.toArray []))
def o1_360 (P : Params) : Obj := ⟨Value.none, none, .func ⟨(Str.ofString "_law_figure"), (Str.ofString "_law_figure"), L2.defArgs (top 52), .stmts (L2.defBody (top 52)), L2.defScope (top 52), 0, [], Value.none, Value.none, Value.none, Value.none, none, Value.none, Value.none, 0⟩, (List.toArray [])⟩
def o1_361 (P : Params) : Obj := (Obj.mk (Value.type "code") none (Data.fields (List.toArray [(Value.str (Str.ofString "_law_figure") 651), (Value.str (Str.ofString "_law_figure") 652), (Value.str (Str.ofString "/claim/cut.py") 653), (Value.int 290 0), (Value.int 1 0), (Value.int 0 0), (Value.int 0 0), (Value.int 3 0), (Value.ref 358), (Value.bool Bool.true), (Value.int 181 0), (Value.ref 359), Value.none, Value.none, Value.none, (Value.ref 360), (Value.int 654 0), (Value.int 290 0), (Value.str (Str.ofString "/claim/cut.py") 655)])) (List.toArray []))
def o1_362 (P : Params) : Obj := ⟨(Value.type "function"), none, .func ⟨(Str.ofString "_law_figure"), (Str.ofString "_law_figure"), L2.defArgs (top 52), .stmts (L2.defBody (top 52)), L2.defScope (top 52), 3, [], Value.none, Value.none, Value.none, (Value.str (Str.ofString "law_turnmill_k60_texts_that_are_no_programs") 496), none, (Value.ref 361), Value.none, 0⟩, (List.toArray [])⟩
def o1_363 (P : Params) : Obj := (Obj.mk (Value.type "tuple") none (Data.seq (List.toArray []) 0) (List.toArray []))
def o1_364 (P : Params) : Obj := (Obj.mk Value.none none (Data.fields (List.toArray [])) (List.toArray []))
def o1_365 (P : Params) : Obj := (Obj.mk (Value.type "tuple") none (Data.seq (List.toArray [(Value.str (Str.ofString "_law_wording") 660), (Value.str (Str.ofString "_law_spot") 661), (Value.str (Str.ofString "_law_marks") 662), (Value.str (Str.ofString "_law_begin") 663)]) 0) (List.toArray []))
def o1_366 (P : Params) : Obj := (Obj.mk (Value.type "tuple") none (Data.seq (List.toArray []) 0) (List.toArray []))
def o1_367 (P : Params) : Obj := ⟨Value.none, none, .func ⟨(Str.ofString "_law_taken_signs"), (Str.ofString "_law_taken_signs"), L2.defArgs (top 53), .stmts (L2.defBody (top 53)), L2.defScope (top 53), 0, [], Value.none, Value.none, Value.none, Value.none, none, Value.none, Value.none, 0⟩, (List.toArray [])⟩
def o1_368 (P : Params) : Obj := (Obj.mk (Value.type "code") none (Data.fields (List.toArray [(Value.str (Str.ofString "_law_taken_signs") 657), (Value.str (Str.ofString "_law_taken_signs") 658), (Value.str (Str.ofString "/claim/cut.py") 659), (Value.int 294 0), (Value.int 3 0), (Value.int 0 0), (Value.int 0 0), (Value.int 3 0), (Value.ref 363), (Value.bool Bool.true), (Value.int 181 0), (Value.ref 364), Value.none, (Value.ref 365), (Value.ref 366), (Value.ref 367), (Value.int 664 0), (Value.int 294 0), (Value.str (Str.ofString "/claim/cut.py") 665)])) (List.toArray []))
def o1_369 (P : Params) : Obj := ⟨(Value.type "function"), none, .func ⟨(Str.ofString "_law_taken_signs"), (Str.ofString "_law_taken_signs"), L2.defArgs (top 53), .stmts (L2.defBody (top 53)), L2.defScope (top 53), 3, [], Value.none, Value.none, Value.none, (Value.str (Str.ofString "law_turnmill_k60_texts_that_are_no_programs") 496), none, (Value.ref 368), Value.none, 0⟩, (List.toArray [])⟩
def o1_370 (P : Params) : Obj := (Obj.mk (Value.type "tuple") none (Data.seq (List.toArray []) 0) (List.toArray []))
def o1_371 (P : Params) : Obj := (Obj.mk Value.none none (Data.fields (List.toArray [])) (List.toArray []))
def o1_372 (P : Params) : Obj := (Obj.mk (Value.type "tuple") none (Data.seq (List.toArray [(Value.str (Str.ofString "_law_wording") 670), (Value.str (Str.ofString "_law_spot") 671), (Value.str (Str.ofString "_law_mark_here") 672), (Value.str (Str.ofString "_law_here") 673)]) 0) (List.toArray []))
def o1_373 (P : Params) : Obj := (Obj.mk (Value.type "tuple") none (Data.seq (List.toArray []) 0) (List.toArray []))
def o1_374 (P : Params) : Obj := ⟨Value.none, none, .func ⟨(Str.ofString "_law_mark"), (Str.ofString "_law_mark"), L2.defArgs (top 54), .stmts (L2.defBody (top 54)), L2.defScope (top 54), 0, [], Value.none, Value.none, Value.none, Value.none, none, Value.none, Value.none, 0⟩, (List.toArray [])⟩
def o1_375 (P : Params) : Obj := (Obj.mk (Value.type "code") none (Data.fields (List.toArray [(Value.str (Str.ofString "_law_mark") 667), (Value.str (Str.ofString "_law_mark") 668), (Value.str (Str.ofString "/claim/cut.py") 669), (Value.int 299 0), (Value.int 3 0), (Value.int 0 0), (Value.int 0 0), (Value.int 3 0), (Value.ref 370), (Value.bool Bool.true), (Value.int 181 0), (Value.ref 371), Value.none, (Value.ref 372), (Value.ref 373), (Value.ref 374), (Value.int 674 0), (Value.int 299 0), (Value.str (Str.ofString "/claim/cut.py") 675)])) (List.toArray []))
def o1_376 (P : Params) : Obj := ⟨(Value.type "function"), none, .func ⟨(Str.ofString "_law_mark"), (Str.ofString "_law_mark"), L2.defArgs (top 54), .stmts (L2.defBody (top 54)), L2.defScope (top 54), 3, [], Value.none, Value.none, Value.none, (Value.str (Str.ofString "law_turnmill_k60_texts_that_are_no_programs") 496), none, (Value.ref 375), Value.none, 0⟩, (List.toArray [])⟩
def o1_377 (P : Params) : Obj := (Obj.mk (Value.type "tuple") none (Data.seq (List.toArray []) 0) (List.toArray []))
def o1_378 (P : Params) : Obj := (Obj.mk Value.none none (Data.fields (List.toArray [])) (List.toArray []))
def o1_379 (P : Params) : Obj := (Obj.mk (Value.type "tuple") none (Data.seq (List.toArray [(Value.str (Str.ofString "_law_wording") 680), (Value.str (Str.ofString "_law_spot") 681), (Value.str (Str.ofString "_law_left") 682), (Value.str (Str.ofString "_law_figures") 683), (Value.str (Str.ofString "_law_mark_here") 684), (Value.str (Str.ofString "_law_token") 685), (Value.str (Str.ofString "_law_times") 686), (Value.str (Str.ofString "_law_inner_here") 687)]) 0) (List.toArray []))
def o1_380 (P : Params) : Obj := (Obj.mk (Value.type "tuple") none (Data.seq (List.toArray []) 0) (List.toArray []))
def o1_381 (P : Params) : Obj := ⟨Value.none, none, .func ⟨(Str.ofString "_law_parsed"), (Str.ofString "_law_parsed"), L2.defArgs (top 55), .stmts (L2.defBody (top 55)), L2.defScope (top 55), 0, [], Value.none, Value.none, Value.none, Value.none, none, Value.none, Value.none, 0⟩, (List.toArray [])⟩
def o1_382 (P : Params) : Obj := (Obj.mk (Value.type "code") none (Data.fields (List.toArray [(Value.str (Str.ofString "_law_parsed") 677), (Value.str (Str.ofString "_law_parsed") 678), (Value.str (Str.ofString "/claim/cut.py") 679), (Value.int 303 0), (Value.int 3 0), (Value.int 0 0), (Value.int 0 0), (Value.int 3 0), (Value.ref 377), (Value.bool Bool.true), (Value.int 181 0), (Value.ref 378), Value.none, (Value.ref 379), (Value.ref 380), (Value.ref 381), (Value.int 688 0), (Value.int 303 0), (Value.str (Str.ofString "/claim/cut.py") 689)])) (List.toArray []))
def o1_383 (P : Params) : Obj := ⟨(Value.type "function"), none, .func ⟨(Str.ofString "_law_parsed"), (Str.ofString "_law_parsed"), L2.defArgs (top 55), .stmts (L2.defBody (top 55)), L2.defScope (top 55), 3, [], Value.none, Value.none, Value.none, (Value.str (Str.ofString "law_turnmill_k60_texts_that_are_no_programs") 496), none, (Value.ref 382), Value.none, 0⟩, (List.toArray [])⟩
def o1_384 (P : Params) : Obj := (Obj.mk (Value.type "tuple") none (Data.seq (List.toArray []) 0) (List.toArray []))
def o1_385 (P : Params) : Obj := (Obj.mk Value.none none (Data.fields (List.toArray [])) (List.toArray []))
def o1_386 (P : Params) : Obj := (Obj.mk (Value.type "tuple") none (Data.seq (List.toArray [(Value.str (Str.ofString "_law_wording") 694), (Value.str (Str.ofString "_law_spot") 695), (Value.str (Str.ofString "_law_left") 696), (Value.str (Str.ofString "_law_found") 697), (Value.str (Str.ofString "_law_k") 698), (Value.str (Str.ofString "_law_part") 699)]) 0) (List.toArray []))
def o1_387 (P : Params) : Obj := (Obj.mk (Value.type "tuple") none (Data.seq (List.toArray []) 0) (List.toArray []))
def o1_388 (P : Params) : Obj := ⟨Value.none, none, .func ⟨(Str.ofString "_law_row_parsed"), (Str.ofString "_law_row_parsed"), L2.defArgs (top 56), .stmts (L2.defBody (top 56)), L2.defScope (top 56), 0, [], Value.none, Value.none, Value.none, Value.none, none, Value.none, Value.none, 0⟩, (List.toArray [])⟩
def o1_389 (P : Params) : Obj := (Obj.mk (Value.type "code") none (Data.fields (List.toArray [(Value.str (Str.ofString "_law_row_parsed") 691), (Value.str (Str.ofString "_law_row_parsed") 692), (Value.str (Str.ofString "/claim/cut.py") 693), (Value.int 326 0), (Value.int 3 0), (Value.int 0 0), (Value.int 0 0), (Value.int 3 0), (Value.ref 384), (Value.bool Bool.true), (Value.int 181 0), (Value.ref 385), Value.none, (Value.ref 386), (Value.ref 387), (Value.ref 388), (Value.int 700 0), (Value.int 326 0), (Value.str (Str.ofString "/claim/cut.py") 701)])) (List.toArray []))
def o1_390 (P : Params) : Obj := ⟨(Value.type "function"), none, .func ⟨(Str.ofString "_law_row_parsed"), (Str.ofString "_law_row_parsed"), L2.defArgs (top 56), .stmts (L2.defBody (top 56)), L2.defScope (top 56), 3, [], Value.none, Value.none, Value.none, (Value.str (Str.ofString "law_turnmill_k60_texts_that_are_no_programs") 496), none, (Value.ref 389), Value.none, 0⟩, (List.toArray [])⟩
def o1_391 (P : Params) : Obj := (Obj.mk (Value.type "tuple") none (Data.seq (List.toArray []) 0) (List.toArray []))
def o1_392 (P : Params) : Obj := (Obj.mk Value.none none (Data.fields (List.toArray [])) (List.toArray []))
def o1_393 (P : Params) : Obj := (Obj.mk (Value.type "tuple") none (Data.seq (List.toArray [(Value.str (Str.ofString "_law_wording") 706), (Value.str (Str.ofString "_law_spot") 707), (Value.str (Str.ofString "_law_found") 708)]) 0) (List.toArray []))
def o1_394 (P : Params) : Obj := (Obj.mk (Value.type "tuple") none (Data.seq (List.toArray []) 0) (List.toArray []))
def o1_395 (P : Params) : Obj := ⟨Value.none, none, .func ⟨(Str.ofString "_law_reading"), (Str.ofString "_law_reading"), L2.defArgs (top 57), .stmts (L2.defBody (top 57)), L2.defScope (top 57), 0, [], Value.none, Value.none, Value.none, Value.none, none, Value.none, Value.none, 0⟩, (List.toArray [])⟩
def o1_396 (P : Params) : Obj := (Obj.mk (Value.type "code") none (Data.fields (List.toArray [(Value.str (Str.ofString "_law_reading") 703), (Value.str (Str.ofString "_law_reading") 704), (Value.str (Str.ofString "/claim/cut.py") 705), (Value.int 338 0), (Value.int 1 0), (Value.int 0 0), (Value.int 0 0), (Value.int 3 0), (Value.ref 391), (Value.bool Bool.true), (Value.int 181 0), (Value.ref 392), Value.none, (Value.ref 393), (Value.ref 394), (Value.ref 395), (Value.int 709 0), (Value.int 338 0), (Value.str (Str.ofString "/claim/cut.py") 710)])) (List.toArray []))
def o1_397 (P : Params) : Obj := ⟨(Value.type "function"), none, .func ⟨(Str.ofString "_law_reading"), (Str.ofString "_law_reading"), L2.defArgs (top 57), .stmts (L2.defBody (top 57)), L2.defScope (top 57), 3, [], Value.none, Value.none, Value.none, (Value.str (Str.ofString "law_turnmill_k60_texts_that_are_no_programs") 496), none, (Value.ref 396), Value.none, 0⟩, (List.toArray [])⟩
def o1_398 (P : Params) : Obj := (Obj.mk (Value.type "tuple") none (Data.seq (List.toArray []) 0) (List.toArray []))
def o1_399 (P : Params) : Obj := (Obj.mk Value.none none (Data.fields (List.toArray [])) (List.toArray []))
def o1_400 (P : Params) : Obj := (Obj.mk (Value.type "tuple") none (Data.seq (List.toArray [(Value.str (Str.ofString "_law_hand_here") 715), (Value.str (Str.ofString "_law_wording") 716), (Value.str (Str.ofString "_law_marks") 717), (Value.str (Str.ofString "_law_at") 718), (Value.str (Str.ofString "_law_sign") 719)]) 0) (List.toArray []))
def o1_401 (P : Params) : Obj := (Obj.mk (Value.type "tuple") none (Data.seq (List.toArray []) 0) (List.toArray []))
def o1_402 (P : Params) : Obj := ⟨Value.none, none, .func ⟨(Str.ofString "_law_bent"), (Str.ofString "_law_bent"), L2.defArgs (top 58), .stmts (L2.defBody (top 58)), L2.defScope (top 58), 0, [], Value.none, Value.none, Value.none, Value.none, none, Value.none, Value.none, 0⟩, (List.toArray [])⟩
def o1_403 (P : Params) : Obj := (Obj.mk (Value.type "code") none (Data.fields (List.toArray [(Value.str (Str.ofString "_law_bent") 712), (Value.str (Str.ofString "_law_bent") 713), (Value.str (Str.ofString "/claim/cut.py") 714), (Value.int 346 0), (Value.int 3 0), (Value.int 0 0), (Value.int 0 0), (Value.int 3 0), (Value.ref 398), (Value.bool Bool.true), (Value.int 181 0), (Value.ref 399), Value.none, (Value.ref 400), (Value.ref 401), (Value.ref 402), (Value.int 720 0), (Value.int 346 0), (Value.str (Str.ofString "/claim/cut.py") 721)])) (List.toArray []))
def o1_404 (P : Params) : Obj := ⟨(Value.type "function"), none, .func ⟨(Str.ofString "_law_bent"), (Str.ofString "_law_bent"), L2.defArgs (top 58), .stmts (L2.defBody (top 58)), L2.defScope (top 58), 3, [], Value.none, Value.none, Value.none, (Value.str (Str.ofString "law_turnmill_k60_texts_that_are_no_programs") 496), none, (Value.ref 403), Value.none, 0⟩, (List.toArray [])⟩
def o1_405 (P : Params) : Obj := (Obj.mk (Value.type "tuple") none (Data.seq (List.toArray []) 0) (List.toArray []))
def o1_406 (P : Params) : Obj := (Obj.mk Value.none none (Data.fields (List.toArray [])) (List.toArray []))
def o1_407 (P : Params) : Obj := (Obj.mk (Value.type "tuple") none (Data.seq (List.toArray [(Value.str (Str.ofString "_law_script") 726), (Value.str (Str.ofString "_law_hand_here") 727), (Value.str (Str.ofString "_law_texts") 728), (Value.str (Str.ofString "_law_step") 729), (Value.str (Str.ofString "_law_change") 730), (Value.str (Str.ofString "_law_many") 731), (Value.str (Str.ofString "_law_due") 732), (Value.str (Str.ofString "_law_told") 733)]) 0) (List.toArray []))
def o1_408 (P : Params) : Obj := (Obj.mk (Value.type "tuple") none (Data.seq (List.toArray [(Value.str (Str.ofString "_law_wording") 734)]) 0) (List.toArray []))
def o1_409 (P : Params) : Obj := ⟨Value.none, none, .func ⟨(Str.ofString "law"), (Str.ofString "law"), L2.defArgs (top 59), .stmts (L2.defBody (top 59)), L2.defScope (top 59), 0, [], Value.none, Value.none, Value.none, Value.none, none, Value.none, Value.none, 0⟩, (List.toArray [])⟩
def o1_410 (P : Params) : Obj := (Obj.mk (Value.type "code") none (Data.fields (List.toArray [(Value.str (Str.ofString "law") 723), (Value.str (Str.ofString "law") 724), (Value.str (Str.ofString "/claim/cut.py") 725), (Value.int 349 0), (Value.int 1 0), (Value.int 0 0), (Value.int 0 0), (Value.int 3 0), (Value.ref 405), (Value.bool Bool.true), (Value.int 181 0), (Value.ref 406), Value.none, (Value.ref 407), (Value.ref 408), (Value.ref 409), (Value.int 735 0), (Value.int 349 0), (Value.str (Str.ofString "/claim/cut.py") 736)])) (List.toArray []))
def o1_411 (P : Params) : Obj := ⟨(Value.type "function"), none, .func ⟨(Str.ofString "law"), (Str.ofString "law"), L2.defArgs (top 59), .stmts (L2.defBody (top 59)), L2.defScope (top 59), 3, [], Value.none, Value.none, Value.none, (Value.str (Str.ofString "law_turnmill_k60_texts_that_are_no_programs") 496), none, (Value.ref 410), Value.none, 0⟩, (List.toArray [])⟩
def T1 (P : Params) : BT := (.node (boot_o_0 P) (.node (boot_o_1 P) (.node (o1_3 P) (.node (boot_o_7 P) (.node (o1_15 P) (.node (o1_31 P) (.node (o1_63 P) (.node (o1_127 P) (.node (o1_255 P) .nil .nil) (.node (o1_383 P) .nil .nil)) (.node (o1_191 P) (.node (o1_319 P) .nil .nil) .nil)) (.node (o1_95 P) (.node (o1_159 P) (.node (o1_287 P) .nil .nil) .nil) (.node (o1_223 P) (.node (o1_351 P) .nil .nil) .nil))) (.node (o1_47 P) (.node (o1_79 P) (.node (o1_143 P) (.node (o1_271 P) .nil .nil) (.node (o1_399 P) .nil .nil)) (.node (o1_207 P) (.node (o1_335 P) .nil .nil) .nil)) (.node (o1_111 P) (.node (o1_175 P) (.node (o1_303 P) .nil .nil) .nil) (.node (o1_239 P) (.node (o1_367 P) .nil .nil) .nil)))) (.node (o1_23 P) (.node (o1_39 P) (.node (o1_71 P) (.node (o1_135 P) (.node (o1_263 P) .nil .nil) (.node (o1_391 P) .nil .nil)) (.node (o1_199 P) (.node (o1_327 P) .nil .nil) .nil)) (.node (o1_103 P) (.node (o1_167 P) (.node (o1_295 P) .nil .nil) .nil) (.node (o1_231 P) (.node (o1_359 P) .nil .nil) .nil))) (.node (o1_55 P) (.node (o1_87 P) (.node (o1_151 P) (.node (o1_279 P) .nil .nil) (.node (o1_407 P) .nil .nil)) (.node (o1_215 P) (.node (o1_343 P) .nil .nil) .nil)) (.node (o1_119 P) (.node (o1_183 P) (.node (o1_311 P) .nil .nil) .nil) (.node (o1_247 P) (.node (o1_375 P) .nil .nil) .nil))))) (.node (o1_11 P) (.node (o1_19 P) (.node (o1_35 P) (.node (o1_67 P) (.node (o1_131 P) (.node (o1_259 P) .nil .nil) (.node (o1_387 P) .nil .nil)) (.node (o1_195 P) (.node (o1_323 P) .nil .nil) .nil)) (.node (o1_99 P) (.node (o1_163 P) (.node (o1_291 P) .nil .nil) .nil) (.node (o1_227 P) (.node (o1_355 P) .nil .nil) .nil))) (.node (o1_51 P) (.node (o1_83 P) (.node (o1_147 P) (.node (o1_275 P) .nil .nil) (.node (o1_403 P) .nil .nil)) (.node (o1_211 P) (.node (o1_339 P) .nil .nil) .nil)) (.node (o1_115 P) (.node (o1_179 P) (.node (o1_307 P) .nil .nil) .nil) (.node (o1_243 P) (.node (o1_371 P) .nil .nil) .nil)))) (.node (o1_27 P) (.node (o1_43 P) (.node (o1_75 P) (.node (o1_139 P) (.node (o1_267 P) .nil .nil) (.node (o1_395 P) .nil .nil)) (.node (o1_203 P) (.node (o1_331 P) .nil .nil) .nil)) (.node (o1_107 P) (.node (o1_171 P) (.node (o1_299 P) .nil .nil) .nil) (.node (o1_235 P) (.node (o1_363 P) .nil .nil) .nil))) (.node (o1_59 P) (.node (o1_91 P) (.node (o1_155 P) (.node (o1_283 P) .nil .nil) (.node (o1_411 P) .nil .nil)) (.node (o1_219 P) (.node (o1_347 P) .nil .nil) .nil)) (.node (o1_123 P) (.node (o1_187 P) (.node (o1_315 P) .nil .nil) .nil) (.node (o1_251 P) (.node (o1_379 P) .nil .nil) .nil)))))) (.node (boot_o_5 P) (.node (boot_o_9 P) (.node (o1_17 P) (.node (o1_33 P) (.node (o1_65 P) (.node (o1_129 P) (.node (o1_257 P) .nil .nil) (.node (o1_385 P) .nil .nil)) (.node (o1_193 P) (.node (o1_321 P) .nil .nil) .nil)) (.node (o1_97 P) (.node (o1_161 P) (.node (o1_289 P) .nil .nil) .nil) (.node (o1_225 P) (.node (o1_353 P) .nil .nil) .nil))) (.node (o1_49 P) (.node (o1_81 P) (.node (o1_145 P) (.node (o1_273 P) .nil .nil) (.node (o1_401 P) .nil .nil)) (.node (o1_209 P) (.node (o1_337 P) .nil .nil) .nil)) (.node (o1_113 P) (.node (o1_177 P) (.node (o1_305 P) .nil .nil) .nil) (.node (o1_241 P) (.node (o1_369 P) .nil .nil) .nil)))) (.node (o1_25 P) (.node (o1_41 P) (.node (o1_73 P) (.node (o1_137 P) (.node (o1_265 P) .nil .nil) (.node (o1_393 P) .nil .nil)) (.node (o1_201 P) (.node (o1_329 P) .nil .nil) .nil)) (.node (o1_105 P) (.node (o1_169 P) (.node (o1_297 P) .nil .nil) .nil) (.node (o1_233 P) (.node (o1_361 P) .nil .nil) .nil))) (.node (o1_57 P) (.node (o1_89 P) (.node (o1_153 P) (.node (o1_281 P) .nil .nil) (.node (o1_409 P) .nil .nil)) (.node (o1_217 P) (.node (o1_345 P) .nil .nil) .nil)) (.node (o1_121 P) (.node (o1_185 P) (.node (o1_313 P) .nil .nil) .nil) (.node (o1_249 P) (.node (o1_377 P) .nil .nil) .nil))))) (.node (o1_13 P) (.node (o1_21 P) (.node (o1_37 P) (.node (o1_69 P) (.node (o1_133 P) (.node (o1_261 P) .nil .nil) (.node (o1_389 P) .nil .nil)) (.node (o1_197 P) (.node (o1_325 P) .nil .nil) .nil)) (.node (o1_101 P) (.node (o1_165 P) (.node (o1_293 P) .nil .nil) .nil) (.node (o1_229 P) (.node (o1_357 P) .nil .nil) .nil))) (.node (o1_53 P) (.node (o1_85 P) (.node (o1_149 P) (.node (o1_277 P) .nil .nil) (.node (o1_405 P) .nil .nil)) (.node (o1_213 P) (.node (o1_341 P) .nil .nil) .nil)) (.node (o1_117 P) (.node (o1_181 P) (.node (o1_309 P) .nil .nil) .nil) (.node (o1_245 P) (.node (o1_373 P) .nil .nil) .nil)))) (.node (o1_29 P) (.node (o1_45 P) (.node (o1_77 P) (.node (o1_141 P) (.node (o1_269 P) .nil .nil) (.node (o1_397 P) .nil .nil)) (.node (o1_205 P) (.node (o1_333 P) .nil .nil) .nil)) (.node (o1_109 P) (.node (o1_173 P) (.node (o1_301 P) .nil .nil) .nil) (.node (o1_237 P) (.node (o1_365 P) .nil .nil) .nil))) (.node (o1_61 P) (.node (o1_93 P) (.node (o1_157 P) (.node (o1_285 P) .nil .nil) .nil) (.node (o1_221 P) (.node (o1_349 P) .nil .nil) .nil)) (.node (o1_125 P) (.node (o1_189 P) (.node (o1_317 P) .nil .nil) .nil) (.node (o1_253 P) (.node (o1_381 P) .nil .nil) .nil))))))) (.node (o1_2 P) (.node (boot_o_4 P) (.node (boot_o_8 P) (.node (o1_16 P) (.node (o1_32 P) (.node (o1_64 P) (.node (o1_128 P) (.node (o1_256 P) .nil .nil) (.node (o1_384 P) .nil .nil)) (.node (o1_192 P) (.node (o1_320 P) .nil .nil) .nil)) (.node (o1_96 P) (.node (o1_160 P) (.node (o1_288 P) .nil .nil) .nil) (.node (o1_224 P) (.node (o1_352 P) .nil .nil) .nil))) (.node (o1_48 P) (.node (o1_80 P) (.node (o1_144 P) (.node (o1_272 P) .nil .nil) (.node (o1_400 P) .nil .nil)) (.node (o1_208 P) (.node (o1_336 P) .nil .nil) .nil)) (.node (o1_112 P) (.node (o1_176 P) (.node (o1_304 P) .nil .nil) .nil) (.node (o1_240 P) (.node (o1_368 P) .nil .nil) .nil)))) (.node (o1_24 P) (.node (o1_40 P) (.node (o1_72 P) (.node (o1_136 P) (.node (o1_264 P) .nil .nil) (.node (o1_392 P) .nil .nil)) (.node (o1_200 P) (.node (o1_328 P) .nil .nil) .nil)) (.node (o1_104 P) (.node (o1_168 P) (.node (o1_296 P) .nil .nil) .nil) (.node (o1_232 P) (.node (o1_360 P) .nil .nil) .nil))) (.node (o1_56 P) (.node (o1_88 P) (.node (o1_152 P) (.node (o1_280 P) .nil .nil) (.node (o1_408 P) .nil .nil)) (.node (o1_216 P) (.node (o1_344 P) .nil .nil) .nil)) (.node (o1_120 P) (.node (o1_184 P) (.node (o1_312 P) .nil .nil) .nil) (.node (o1_248 P) (.node (o1_376 P) .nil .nil) .nil))))) (.node (o1_12 P) (.node (o1_20 P) (.node (o1_36 P) (.node (o1_68 P) (.node (o1_132 P) (.node (o1_260 P) .nil .nil) (.node (o1_388 P) .nil .nil)) (.node (o1_196 P) (.node (o1_324 P) .nil .nil) .nil)) (.node (o1_100 P) (.node (o1_164 P) (.node (o1_292 P) .nil .nil) .nil) (.node (o1_228 P) (.node (o1_356 P) .nil .nil) .nil))) (.node (o1_52 P) (.node (o1_84 P) (.node (o1_148 P) (.node (o1_276 P) .nil .nil) (.node (o1_404 P) .nil .nil)) (.node (o1_212 P) (.node (o1_340 P) .nil .nil) .nil)) (.node (o1_116 P) (.node (o1_180 P) (.node (o1_308 P) .nil .nil) .nil) (.node (o1_244 P) (.node (o1_372 P) .nil .nil) .nil)))) (.node (o1_28 P) (.node (o1_44 P) (.node (o1_76 P) (.node (o1_140 P) (.node (o1_268 P) .nil .nil) (.node (o1_396 P) .nil .nil)) (.node (o1_204 P) (.node (o1_332 P) .nil .nil) .nil)) (.node (o1_108 P) (.node (o1_172 P) (.node (o1_300 P) .nil .nil) .nil) (.node (o1_236 P) (.node (o1_364 P) .nil .nil) .nil))) (.node (o1_60 P) (.node (o1_92 P) (.node (o1_156 P) (.node (o1_284 P) .nil .nil) .nil) (.node (o1_220 P) (.node (o1_348 P) .nil .nil) .nil)) (.node (o1_124 P) (.node (o1_188 P) (.node (o1_316 P) .nil .nil) .nil) (.node (o1_252 P) (.node (o1_380 P) .nil .nil) .nil)))))) (.node (boot_o_6 P) (.node (boot_o_10 P) (.node (o1_18 P) (.node (o1_34 P) (.node (o1_66 P) (.node (o1_130 P) (.node (o1_258 P) .nil .nil) (.node (o1_386 P) .nil .nil)) (.node (o1_194 P) (.node (o1_322 P) .nil .nil) .nil)) (.node (o1_98 P) (.node (o1_162 P) (.node (o1_290 P) .nil .nil) .nil) (.node (o1_226 P) (.node (o1_354 P) .nil .nil) .nil))) (.node (o1_50 P) (.node (o1_82 P) (.node (o1_146 P) (.node (o1_274 P) .nil .nil) (.node (o1_402 P) .nil .nil)) (.node (o1_210 P) (.node (o1_338 P) .nil .nil) .nil)) (.node (o1_114 P) (.node (o1_178 P) (.node (o1_306 P) .nil .nil) .nil) (.node (o1_242 P) (.node (o1_370 P) .nil .nil) .nil)))) (.node (o1_26 P) (.node (o1_42 P) (.node (o1_74 P) (.node (o1_138 P) (.node (o1_266 P) .nil .nil) (.node (o1_394 P) .nil .nil)) (.node (o1_202 P) (.node (o1_330 P) .nil .nil) .nil)) (.node (o1_106 P) (.node (o1_170 P) (.node (o1_298 P) .nil .nil) .nil) (.node (o1_234 P) (.node (o1_362 P) .nil .nil) .nil))) (.node (o1_58 P) (.node (o1_90 P) (.node (o1_154 P) (.node (o1_282 P) .nil .nil) (.node (o1_410 P) .nil .nil)) (.node (o1_218 P) (.node (o1_346 P) .nil .nil) .nil)) (.node (o1_122 P) (.node (o1_186 P) (.node (o1_314 P) .nil .nil) .nil) (.node (o1_250 P) (.node (o1_378 P) .nil .nil) .nil))))) (.node (o1_14 P) (.node (o1_22 P) (.node (o1_38 P) (.node (o1_70 P) (.node (o1_134 P) (.node (o1_262 P) .nil .nil) (.node (o1_390 P) .nil .nil)) (.node (o1_198 P) (.node (o1_326 P) .nil .nil) .nil)) (.node (o1_102 P) (.node (o1_166 P) (.node (o1_294 P) .nil .nil) .nil) (.node (o1_230 P) (.node (o1_358 P) .nil .nil) .nil))) (.node (o1_54 P) (.node (o1_86 P) (.node (o1_150 P) (.node (o1_278 P) .nil .nil) (.node (o1_406 P) .nil .nil)) (.node (o1_214 P) (.node (o1_342 P) .nil .nil) .nil)) (.node (o1_118 P) (.node (o1_182 P) (.node (o1_310 P) .nil .nil) .nil) (.node (o1_246 P) (.node (o1_374 P) .nil .nil) .nil)))) (.node (o1_30 P) (.node (o1_46 P) (.node (o1_78 P) (.node (o1_142 P) (.node (o1_270 P) .nil .nil) (.node (o1_398 P) .nil .nil)) (.node (o1_206 P) (.node (o1_334 P) .nil .nil) .nil)) (.node (o1_110 P) (.node (o1_174 P) (.node (o1_302 P) .nil .nil) .nil) (.node (o1_238 P) (.node (o1_366 P) .nil .nil) .nil))) (.node (o1_62 P) (.node (o1_94 P) (.node (o1_158 P) (.node (o1_286 P) .nil .nil) .nil) (.node (o1_222 P) (.node (o1_350 P) .nil .nil) .nil)) (.node (o1_126 P) (.node (o1_190 P) (.node (o1_318 P) .nil .nil) .nil) (.node (o1_254 P) (.node (o1_382 P) .nil .nil) .nil))))))))
def S1 (w : World) (os : OsState) : SharedT := ⟨T1 w.params, 412, (Life.mk [] [] [] 0 [] [] Bool.false (List.toArray []) [] 0 Bool.false Bool.false Bool.false 0 [2000, 10, 10] Bool.false 0 Bool.true [] [] 0 Bool.false), #[], (Drawn.mk 0 0 0 0), 738, os⟩
def l1 : List Stmt := [top 0, top 1, top 2, top 3, top 4, top 5, top 6, top 7, top 8, top 9, top 10, top 11, top 12, top 13, top 14, top 15, top 16, top 17, top 18, top 19, top 20, top 21, top 22, top 23, top 24, top 25, top 26, top 27, top 28, top 29, top 30, top 31, top 32, top 33, top 34, top 35, top 36, top 37, top 38, top 39, top 40, top 41, top 42, top 43, top 44, top 45, top 46, top 47, top 48, top 49, top 50, top 51, top 52, top 53, top 54, top 55, top 56, top 57, top 58, top 59]
set_option maxHeartbeats 0 in
theorem run1 (w : World) (os : OsState) : firstF (stQ R.prog w) R.prog w (PySem.Value.ref 13) 14 (PySem.Pos.mk 0 0 0 0) 12 100 20000 l1 os = some (11, ⟨denQ tabQ (codT R.prog (PySem.Value.ref 13) 14), codT R.prog (PySem.Value.ref 13) 14, (PySem.Pos.mk 0 0 0 0), [topFrame (PySem.Pos.mk 0 0 0 0)]⟩, .next, codT R.prog (PySem.Value.ref 13) 14, .next, S1 w os, codT R.prog (PySem.Value.ref 13) 14, (PySem.Pos.mk 349 0 367 15)) := by
  kernel_rfl
set_option maxHeartbeats 0 in
theorem fin1 (w : World) (os : OsState) : (lastF (stQ R.prog w) R.prog w (PySem.Value.ref 13) 14 (PySem.Pos.mk 0 0 0 0) 11 10 100 [] (S1 w os) (PySem.Pos.mk 349 0 367 15)).map (fun x => (x.1, x.2.1, looksF R.prog (boot_heap w.params) x.2.2.abs)) = some (.next, codT R.prog (PySem.Value.ref 13) 14, true) := by
  kernel_rfl
set_option maxHeartbeats 0 in
theorem fin2 (w : World) (os : OsState) : (lastF (stQ R.prog w) R.prog w (PySem.Value.ref 13) 14 (PySem.Pos.mk 0 0 0 0) 11 10 100 [] (S1 w os) (PySem.Pos.mk 349 0 367 15)).map (fun x => seenQ (view R.prog [59]) nms (importedModules R.prog.main.body) (fun s => xlAt (view R.prog [59]) [] s && recOk R.toRowW.records s) x.2.2.abs) = some (openGood (view R.prog [59]) nms) := by
  kernel_rfl
set_option maxHeartbeats 0 in
theorem fin3 (w : World) (os : OsState) : (lastF (stQ R.prog w) R.prog w (PySem.Value.ref 13) 14 (PySem.Pos.mk 0 0 0 0) 11 10 100 [] (S1 w os) (PySem.Pos.mk 349 0 367 15)).map (fun x => ob x.2.2) = some (hk.val w) := by
  kernel_rfl
theorem bd : behindTheImports R.prog = l1 ++ [] := by kernel_rfl
end
end K60
open PySem PySem.W PySem.Calls PyProof.Rows in
set_option maxHeartbeats 0 in
theorem PySem.Challenge.cw_turnmill_k60_texts_that_are_no_programs_holds : PySem.Challenge.rw_turnmill_k60_texts_that_are_no_programs.Holds := by
  w_on; o_law
  refine Z.head_cut (r := OpenLaw.row PySem.Challenge.rw_turnmill_k60_texts_that_are_no_programs) (q := view (OpenLaw.row PySem.Challenge.rw_turnmill_k60_texts_that_are_no_programs).prog [59]) (H := K60.hk) (ob := K60.ob) (loose := K60.nms) (d := HandSHeadRun.topDef (OpenLaw.row PySem.Challenge.rw_turnmill_k60_texts_that_are_no_programs).prog 59) (kwd := []) K60.ob_eq
    (by kernel_rfl) (fun s => by kernel_rfl) K60.bd K60.run1 (Z.rest_last3 K60.fin1 K60.fin2 K60.fin3) (by kernel_rfl) (by kernel_rfl) (by kernel_rfl) (by rfl) (by first | assumption | decide +kernel) (by decide +kernel) ⟨rfl, rfl, rfl, rfl, rfl, by decide +kernel⟩ ?hw ?hc
  case hw => w_witness2
  case hc =>
    refine LamX.walk_ofTsE (l := PySem.Challenge.rw_turnmill_k60_texts_that_are_no_programs) (n := 63) (k := 28) (x := "_law_script") (CX := fun w => L2.CX (OpenLaw.prog PySem.Challenge.rw_turnmill_k60_texts_that_are_no_programs) w) rfl (by decide) (by kernel_rfl) ⟨rfl, by decide, by decide⟩ ?F (fun _ _ _ _ _ ⟨_, _, _, _, _, _, _, _, _, _, _, _, z⟩ => z)
    intro w mg fa h Y G hmg0
    obtain ⟨K, KX, c, TZ⟩ := Y
    have hmg : mg ("law" : PySem.Str) = some (.ref fa) := by
      have e : (HandSHeadRun.topDef (OpenLaw.row PySem.Challenge.rw_turnmill_k60_texts_that_are_no_programs).prog 59).name = ("law" : PySem.Str) := by kernel_rfl
      rw [← e]
      exact hmg0
    exact ⟨K, KX, K60.all KX G hmg c TZ⟩
